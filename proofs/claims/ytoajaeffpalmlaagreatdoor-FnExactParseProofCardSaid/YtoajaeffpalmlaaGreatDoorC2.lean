/-
  PROVED: contracts of functions of the program over pure values. No condition beyond those that each theorem names.
-/
import Derived.Test.YtoajaeffpalmlaaGreatDoorProg
import Derived.Test.YtoajaeffpalmlaaGreatDoorD2
import Derived.Test.YtoajaeffpalmlaaGreatDoorS
import Derived.Test.YtoajaeffpalmlaaGreatDoorC1
namespace Go.Px.YtoajaeffpalmlaaGreatDoor
set_option linter.unusedSimpArgs false
set_option linter.unusedVariables false
open Go.Px Go.Proofs
theorem i_isAmount_pc (b0:Int)(r:Bool)(h:i_isAmount b0=some r):PC Tryz.prog 175 [int b0] (bool r):=by
 unfold i_isAmount at h
 refine PC.start Tryz.func175 Tryz.ntmps175 rfl ok175 rfl ?_
 refine Run.sr (X.an ?_)
 refine Run.sr (X.mv ?_)
 obtain ⟨v1,hv1,h⟩:=bindE h
 refine X.cp (i_within_pc _ _ _ _ hv1) ?_
 refine X.an ?_
 cases h
 refine R.f1 Tryz.results175 ?_
 rfl
theorem i_areAmounts_pc (b0:List Int)(b1:Int)(r:Bool)(h:i_areAmounts b0 b1=some r):PC Tryz.prog 174 [.slice (b0.map int),int b1] (bool r):=by
 unfold i_areAmounts at h
 refine PC.start Tryz.func174 Tryz.ntmps174 rfl ok174 rfl ?_
 refine Run.sr (X.an ?_)
 refine Run.seq (Run.sr (X.mv ?_))
 refine X.ls elt25 ?_
 refine X.mn ?_
 obtain ⟨o1,ho1,h⟩:=bindE h
 refine R.join2 (β:=Unit) [(0,.slice (b0.map int)),(1,int b1)] [] (fun p14 S=>S) (fun p14 M=>M) (fun p14=>(Sum.inl p14)=o1) ?_ ?_
 ·intro JJ4 hmeet3
  have hup2:=h;clear h;have h:=ho1;clear ho1
  refine Run.block ?_
  refine R.bndS (t:=0) (by rfl) (fun hbd7=>?_)
  replace hbd7:b0.length≤9223372036854775807:=by first | (rw [List.length_map] at hbd7;exact hbd7) | simp
  refine R.lp (β:=Int) [(0,.slice (b0.map int)),(1,int b1),(7,.slice (b0.map int)),(8,int (b0.length:Int))] [] (fun bb S=>(9,int bb)::S) (fun bb M=>M) (fun n bb=>0≤bb∧bb+n=(b0.length:Int)∧i_areAmounts_L1 (b0.drop bb.toNat) bb=some o1) b0.length (0:Int) ⟨Int.le_refl _,by simp,h⟩ ?_
  clear h
  rintro JJ7 n7 z8 hag7 ⟨hza7,hzb7,h⟩
  refine Run.sr (X.bi ?_)
  refine X.nil (Run.seq ?_)
  refine R.cd (fun hc11=>?_) (fun hc11=>?_)
  ·obtain ⟨x9,xs10,hd7,hx7,hds7,hlt7⟩:=drop_atI hza7 hc11
   rw [hd7] at h
   rw [i_areAmounts_L1] at h
   refine Run.skip (Run.seq (Run.block (Run.sr (X.ix elt25 (idxL_spec hx7).1 (idxL_map int hx7) ?_))))
   refine X.lc shp3 ?_
   refine X.an ?_
   refine Run.sr (X.mv ?_)
   obtain ⟨v12,hv12,h⟩:=bindE h
   refine X.cp (i_isAmount_pc _ _ hv12) ?_
   refine X.un (h:=?_)
   refine X.nil ?_
   refine R.cd (fun hc13=>?_) (fun hc13=>?_)
   ·replace h:=condT hc13 h
    refine Run.sr (X.an ?_)
    cases h
    have h:=hup2
    replace h:=elimR h
    cases h
    refine R.f1 Tryz.results174 ?_
    rfl
   replace h:=condF hc13 h
   refine Run.skip (Run.blk (Run.reg (X.ad ?_)))
   refine X.mn ?_
   exact R.ag hag7 (n7 - 1) (z8+1) (R.n3 (by first | (rw [hds7];exact h) | (dsimp only;rw [hds7];exact h)))
  rw [drop_endI hza7 hc11] at h
  rw [i_areAmounts_L1] at h
  refine Run.exit (by rfl) ?_
  exact R.mt hmeet3 () (Option.some.inj h)
 rintro p14 rfl
 replace h:=elimL h
 refine Run.sr (X.mv ?_)
 refine X.ls elt25 ?_
 refine X.mv ?_
 refine X.bi ?_
 refine X.an ?_
 cases h
 refine R.f1 Tryz.results174 ?_
 rfl
theorem i_ModeOk_pc (b0:TMode)(b1:Int)(b2:Int)(r:Bool)(h:i_ModeOk b0 b1 b2=some r):PC Tryz.prog 157 [eTMode b0,int b1,int b2] (bool r):=by
 unfold i_ModeOk at h
 refine PC.start Tryz.func157 Tryz.ntmps157 rfl ok157 rfl ?_
 refine Run.sr (X.bx ?_)
 refine X.an ?_
 refine Run.seq ?_
 obtain ⟨v1,hv1,h⟩:=bindE h
 obtain ⟨e2,he2,h2⟩:=bindE h
 refine R.regG [(6,bool e2)] [] ?_ ?_
 ·clear h;have h:=he2;clear he2 h2
  refine X.fl fld139_0 ?_
  refine X.ld shp3 ?_
  refine X.cp (i_within_pc _ _ _ _ hv1) ?_
  refine X.mv ?_
  refine X.iG (fun hb3=>?_) (fun hb3=>?_)
  ·replace h:=condT hb3 h
   refine X.fl fld139_1 ?_
   refine X.gy (X.ld shp25 ?_)
   refine X.gy (X.mv ?_)
   refine X.gy ?_
   obtain ⟨v4,hv4,h⟩:=bindE h
   refine X.cp (i_areAmounts_pc _ _ _ hv4) ?_
   refine X.pT ?_
   refine X.mv ?_
   refine X.iG (fun hb5=>?_) (fun hb5=>?_)
   ·replace h:=condT hb5 h
    refine X.fl fld139_2 ?_
    refine X.gy (X.ld shp25 ?_)
    refine X.gy (X.mv ?_)
    refine X.gy ?_
    obtain ⟨v6,hv6,h⟩:=bindE h
    refine X.cp (i_areAmounts_pc _ _ _ hv6) ?_
    refine X.pT ?_
    refine X.as ?_
    cases h
    exact X.eG
   replace h:=condF hb5 h
   refine X.gn (X.gn (X.gn (X.pF ?_)))
   refine X.as ?_
   cases h
   exact X.eG
  replace h:=condF hb3 h
  refine X.gn (X.gn (X.gn (X.pF ?_)))
  refine X.mv ?_
  refine X.gn (X.gn (X.gn (X.gn (X.pF ?_))))
  refine X.as ?_
  cases h
  exact X.eG
 replace h:=h2;clear h2
 cases h
 refine R.f1 Tryz.results157 ?_
 rfl
theorem i_IsName_pc (b0:ByteArray)(r:Bool)(h:i_IsName b0=some r):PC Tryz.prog 158 [str b0] (bool r):=by
 unfold i_IsName at h
 refine PC.start Tryz.func158 Tryz.ntmps158 rfl ok158 rfl ?_
 refine Run.sr (X.an ?_)
 refine Run.seq (Run.sr (X.mv ?_))
 refine X.lenStr Tryz.underlying9 (by rfl) (by rfl) ?_
 refine X.mn ?_
 obtain ⟨o1,ho1,h⟩:=bindE h
 refine R.join2 (β:=Unit) [(0,str b0)] [] (fun p19 S=>S) (fun p19 M=>M) (fun p19=>(Sum.inl p19)=o1) ?_ ?_
 ·intro JJ4 hmeet3
  have hup2:=h;clear h;have h:=ho1;clear ho1
  refine Run.block ?_
  refine R.lp (β:=Int) [(0,str b0),(6,int (b0.size:Int))] [] (fun bb S=>(7,int bb)::S) (fun bb M=>M) (fun n bb=>i_IsName_L1 b0 n bb=some o1) F0 0 h ?_
  clear h
  rintro JJ5 n5 a7 hag5 h
  obtain _ | n5:=n5
  ·exact absurd h (by simp [i_IsName_L1])
  rw [i_IsName_L1] at h
  refine Run.sr (X.bi ?_)
  refine X.nil (Run.seq ?_)
  refine R.cd (fun hc10=>?_) (fun hc10=>?_)
  ·replace h:=condT hc10 h
   refine Run.skip (Run.seq (Run.block (Run.sr (X.mv ?_))))
   refine X.an ?_
   refine Run.seq ?_
   obtain ⟨v11,hv11,h⟩:=bindE h
   obtain ⟨e12,he12,h2⟩:=bindE h
   refine R.regG [(0,str b0),(3,int a7),(4,bool e12),(6,int (b0.size:Int)),(7,int a7)] [] ?_ ?_
   ·clear h;have h:=he12;clear he12 h2
    refine X.mv ?_
    refine X.mv ?_
    refine X.indexStr2 hv11 Tryz.underlying9 (by rfl) (by rfl) (by rfl) ?_
    refine X.bi ?_
    refine X.mv ?_
    refine X.iG (fun hb13=>?_) (fun hb13=>?_)
    ·replace h:=condT hb13 h
     refine X.mv ?_
     refine X.gy (X.mv ?_)
     refine X.gy (X.indexStr2 hv11 Tryz.underlying9 (by rfl) (by rfl) (by rfl) ?_)
     refine X.gy (X.bi ?_)
     refine X.pT ?_
     refine X.as ?_
     cases h
     exact X.eG
    replace h:=condF hb13 h
    refine X.gn (X.gn (X.gn (X.pF ?_)))
    refine X.as ?_
    cases h
    exact X.eG
   replace h:=h2;clear h2
   refine Run.seq ?_
   obtain ⟨e14,he14,h2⟩:=bindE h
   refine R.regG [(0,str b0),(6,int (b0.size:Int)),(7,int a7),(37,bool e14)] [] ?_ ?_
   ·clear h;have h:=he14;clear he14 h2
    refine X.mv ?_
    refine X.un (h:=?_)
    refine X.mv ?_
    refine X.iG (fun hb15=>?_) (fun hb15=>?_)
    ·replace h:=condT hb15 h
     refine X.mv ?_
     refine X.gy (X.bi ?_)
     refine X.gy (X.mv ?_)
     refine X.iG (fun hb16=>?_) (fun hb16=>?_)
     ·replace h:=condF hb16 h
      refine X.mv ?_
      refine X.gy (X.mv ?_)
      refine X.gy (X.indexStr2 hv11 Tryz.underlying9 (by rfl) (by rfl) (by rfl) ?_)
      refine X.gy (X.bi ?_)
      refine X.gy (X.pF ?_)
      refine X.gy (X.mv ?_)
      refine X.iG (fun hb17=>?_) (fun hb17=>?_)
      ·replace h:=condF hb17 h
       refine X.mv ?_
       refine X.gy (X.mv ?_)
       refine X.gy (X.indexStr2 hv11 Tryz.underlying9 (by rfl) (by rfl) (by rfl) ?_)
       refine X.gy (X.bi ?_)
       refine X.gy (X.pF ?_)
       refine X.pT ?_
       cases h
       exact X.eG
      replace h:=condT hb17 h
      refine X.gn (X.gn (X.gn (X.gy (X.pT ?_))))
      refine X.pT ?_
      cases h
      exact X.eG
     replace h:=condT hb16 h
     refine X.gn (X.gn (X.gn (X.gy (X.pT ?_))))
     refine X.gy (X.mv ?_)
     refine X.gn (X.gn (X.gn (X.gn (X.gy (X.pT ?_)))))
     refine X.pT ?_
     cases h
     exact X.eG
    replace h:=condF hb15 h
    refine X.gn (X.gn (X.gU (h:=?_)))
    refine X.gU (h:=?_)
    refine X.gU (h:=?_)
    refine X.gU (h:=?_)
    refine X.gn (X.gn (X.gU (h:=?_)))
    refine X.gU (h:=?_)
    refine X.gU (h:=?_)
    refine X.gU (h:=?_)
    refine X.gn (X.pF ?_)
    cases h
    exact X.eG
   replace h:=h2;clear h2
   refine R.cd (fun hc18=>?_) (fun hc18=>?_)
   ·replace h:=condT hc18 h
    refine Run.sr (X.an ?_)
    cases h
    have h:=hup2
    replace h:=elimR h
    cases h
    refine R.f1 Tryz.results158 ?_
    rfl
   replace h:=condF hc18 h
   refine Run.skip (Run.blk (Run.reg (X.addW (h:=?_))))
   refine X.mn ?_
   exact hag5 n5 (W (a7+1)) _ _ (by omega) h (by trivial) (by trivial) (by rfl) (by rfl)
  replace h:=condF hc10 h
  refine Run.exit (by rfl) ?_
  exact R.mt hmeet3 () (Option.some.inj h)
 rintro p19 rfl
 replace h:=elimL h
 refine Run.sr (X.mv ?_)
 refine X.lenStr Tryz.underlying9 (by rfl) (by rfl) ?_
 obtain ⟨v21,hv21,h⟩:=bindE h
 refine X.cp (i_within_pc _ _ _ _ hv21) ?_
 refine X.an ?_
 cases h
 refine R.f1 Tryz.results158 ?_
 rfl
theorem i_ActivityOk_pc (b0:TActivity)(b1:Int)(b2:Int)(r:Bool)(h:i_ActivityOk b0 b1 b2=some r):PC Tryz.prog 124 [eTActivity b0,int b1,int b2] (bool r):=by
 unfold i_ActivityOk at h
 refine PC.start Tryz.func124 Tryz.ntmps124 rfl ok124 rfl ?_
 refine Run.sr (X.bx ?_)
 refine X.an ?_
 refine Run.seq (Run.sr (X.fl fld89_2 ?_))
 refine X.ld shp87 ?_
 refine X.ls elt87 ?_
 refine X.mn ?_
 obtain ⟨o1,ho1,h⟩:=bindE h
 refine R.join2 (β:=Unit) [(3,.lptr 192 0)] [(192,.blk true [str b0.Name,int b0.Family,.slice (b0.Modes.map eTMode)])] (fun p14 S=>S) (fun p14 M=>M) (fun p14=>(Sum.inl p14)=o1) ?_ ?_
 ·intro JJ4 hmeet3
  have hup2:=h;clear h;have h:=ho1;clear ho1
  refine Run.block ?_
  refine R.bndS (t:=10) (by rfl) (fun hbd7=>?_)
  replace hbd7:b0.Modes.length≤9223372036854775807:=by first | (rw [List.length_map] at hbd7;exact hbd7) | simp
  refine R.lp (β:=Int) [(1,int b1),(2,int b2),(3,.lptr 192 0),(10,.slice (b0.Modes.map eTMode)),(11,int (b0.Modes.length:Int))] [(192,.blk true [str b0.Name,int b0.Family,.slice (b0.Modes.map eTMode)])] (fun bb S=>(12,int bb)::S) (fun bb M=>M) (fun n bb=>0≤bb∧bb+n=(b0.Modes.length:Int)∧i_ActivityOk_L1 b1 b2 (b0.Modes.drop bb.toNat) bb=some o1) b0.Modes.length (0:Int) ⟨Int.le_refl _,by simp,h⟩ ?_
  clear h
  rintro JJ7 n7 z8 hag7 ⟨hza7,hzb7,h⟩
  refine Run.sr (X.bi ?_)
  refine X.nil (Run.seq ?_)
  refine R.cd (fun hc11=>?_) (fun hc11=>?_)
  ·obtain ⟨x9,xs10,hd7,hx7,hds7,hlt7⟩:=drop_atI hza7 hc11
   rw [hd7] at h
   rw [i_ActivityOk_L1] at h
   refine Run.skip (Run.seq (Run.block (Run.sr (X.ix elt87 (idxL_spec hx7).1 (idxL_map eTMode hx7) ?_))))
   refine X.lc shp139 ?_
   refine X.alloc zer139 (h:=?_)
   refine X.sl shp139 ?_
   refine X.nil (Run.sr (X.ld shp139 ?_))
   refine X.mv ?_
   refine X.mv ?_
   obtain ⟨v12,hv12,h⟩:=bindE h
   refine X.cp (i_ModeOk_pc _ _ _ _ hv12) ?_
   refine X.un (h:=?_)
   refine X.nil ?_
   refine R.cd (fun hc13=>?_) (fun hc13=>?_)
   ·replace h:=condT hc13 h
    refine Run.sr (X.an ?_)
    cases h
    have h:=hup2
    replace h:=elimR h
    cases h
    refine R.f1 Tryz.results124 ?_
    rfl
   replace h:=condF hc13 h
   refine Run.skip (Run.blk (Run.reg (X.ad ?_)))
   refine X.mn ?_
   exact R.ag hag7 (n7 - 1) (z8+1) (R.n3 (by first | (rw [hds7];exact h) | (dsimp only;rw [hds7];exact h)))
  rw [drop_endI hza7 hc11] at h
  rw [i_ActivityOk_L1] at h
  refine Run.exit (by rfl) ?_
  exact R.mt hmeet3 () (Option.some.inj h)
 rintro p14 rfl
 replace h:=elimL h
 refine Run.seq ?_
 obtain ⟨v16,hv16,h⟩:=bindE h
 obtain ⟨e17,he17,h2⟩:=bindE h
 refine R.regG [(6,bool e17)] [] ?_ ?_
 ·clear h;have h:=he17;clear he17 h2
  refine X.fl fld89_0 ?_
  refine X.ld shp9 ?_
  refine X.cp (i_IsName_pc _ _ hv16) ?_
  refine X.mv ?_
  refine X.iG (fun hb18=>?_) (fun hb18=>?_)
  ·replace h:=condT hb18 h
   refine X.fl fld89_1 ?_
   refine X.gy (X.ld shp3 ?_)
   refine X.gy ?_
   obtain ⟨v19,hv19,h⟩:=bindE h
   refine X.cp (i_within_pc _ _ _ _ hv19) ?_
   refine X.pT ?_
   refine X.mv ?_
   refine X.iG (fun hb20=>?_) (fun hb20=>?_)
   ·replace h:=condT hb20 h
    refine X.fl fld89_2 ?_
    refine X.gy (X.ld shp87 ?_)
    refine X.gy (X.ls elt87 ?_)
    refine X.gy ?_
    obtain ⟨v21,hv21,h⟩:=bindE h
    refine X.cp (i_within_pc _ _ _ _ hv21) ?_
    refine X.pT ?_
    refine X.as ?_
    cases h
    exact X.eG
   replace h:=condF hb20 h
   refine X.gn (X.gn (X.gn (X.pF ?_)))
   refine X.as ?_
   cases h
   exact X.eG
  replace h:=condF hb18 h
  refine X.gn (X.gn (X.pF ?_))
  refine X.mv ?_
  refine X.gn (X.gn (X.gn (X.gn (X.pF ?_))))
  refine X.as ?_
  cases h
  exact X.eG
 replace h:=h2;clear h2
 cases h
 refine R.f1 Tryz.results124 ?_
 rfl
theorem i_isTime_pc (b0:Int)(r:Bool)(h:i_isTime b0=some r):PC Tryz.prog 131 [int b0] (bool r):=by
 unfold i_isTime at h
 refine PC.start Tryz.func131 Tryz.ntmps131 rfl ok131 rfl ?_
 refine Run.sr (X.an ?_)
 refine Run.sr (X.mv ?_)
 obtain ⟨v1,hv1,h⟩:=bindE h
 refine X.cp (i_within_pc _ _ _ _ hv1) ?_
 refine X.an ?_
 cases h
 refine R.f1 Tryz.results131 ?_
 rfl
theorem i_StepsOk_pc (b0:List TStep)(r:Bool)(h:i_StepsOk b0=some r):PC Tryz.prog 159 [.slice (b0.map eTStep)] (bool r):=by
 unfold i_StepsOk at h
 refine PC.start Tryz.func159 Tryz.ntmps159 rfl ok159 rfl ?_
 refine Run.sr (X.an ?_)
 refine Run.seq (Run.sr (X.mv ?_))
 refine X.ls elt95 ?_
 refine X.mn ?_
 obtain ⟨o1,ho1,h⟩:=bindE h
 refine R.join2 (β:=Unit) [(0,.slice (b0.map eTStep))] [] (fun p24 S=>S) (fun p24 M=>M) (fun p24=>(Sum.inl p24)=o1) ?_ ?_
 ·intro JJ4 hmeet3
  have hup2:=h;clear h;have h:=ho1;clear ho1
  refine Run.block ?_
  refine R.bndS (t:=0) (by rfl) (fun hbd7=>?_)
  replace hbd7:b0.length≤9223372036854775807:=by first | (rw [List.length_map] at hbd7;exact hbd7) | simp
  refine R.lp (β:=Int) [(0,.slice (b0.map eTStep)),(5,.slice (b0.map eTStep)),(6,int (b0.length:Int))] [] (fun bb S=>(7,int bb)::S) (fun bb M=>M) (fun n bb=>0≤bb∧bb+n=(b0.length:Int)∧i_StepsOk_L1 b0 (b0.drop bb.toNat) bb=some o1) b0.length (0:Int) ⟨Int.le_refl _,by simp,h⟩ ?_
  clear h
  rintro JJ7 n7 z8 hag7 ⟨hza7,hzb7,h⟩
  refine Run.sr (X.bi ?_)
  refine X.nil (Run.seq ?_)
  refine R.cd (fun hc11=>?_) (fun hc11=>?_)
  ·obtain ⟨x9,xs10,hd7,hx7,hds7,hlt7⟩:=drop_atI hza7 hc11
   rw [hd7] at h
   rw [i_StepsOk_L1] at h
   refine Run.skip (Run.seq (Run.block (Run.sr (X.mv ?_))))
   refine X.ix elt95 (idxL_spec hx7).1 (idxL_map eTStep hx7) ?_
   refine X.lc shp141 ?_
   refine X.alloc zer141 (h:=?_)
   refine X.as ?_
   refine X.sl shp141 ?_
   refine X.nil (Run.seq ?_)
   obtain ⟨v12,hv12,h⟩:=bindE h
   obtain ⟨e13,he13,h2⟩:=bindE h
   refine R.drawG [(0,.slice (b0.map eTStep)),(5,.slice (b0.map eTStep)),(6,int (b0.length:Int)),(7,int z8),(45,bool e13)] [] (footOf [(1,([256],[],[],[])),(6,([256],[],[],[])),(15,([256],[],[],[])),(24,([256],[],[],[]))]) mixed (by kernel_rfl) (by kernel_rfl) ?_ ?_
   ·clear h;have h:=he13;clear he13 h2
    refine X.fl fld141_0 ?_
    refine X.ld shp3 ?_
    refine X.cp (i_isTime_pc _ _ hv12) ?_
    refine X.un (h:=?_)
    refine X.mv ?_
    refine X.iG (fun hb14=>?_) (fun hb14=>?_)
    ·replace h:=condF hb14 h
     refine X.fl fld141_1 ?_
     refine X.gy (X.ld shp3 ?_)
     refine X.gy ?_
     obtain ⟨v15,hv15,h⟩:=bindE h
     refine X.cp (i_isAmount_pc _ _ hv15) ?_
     refine X.gy (X.un (h:=?_))
     refine X.pF ?_
     refine X.mv ?_
     refine X.iG (fun hb16=>?_) (fun hb16=>?_)
     ·replace h:=condF hb16 h
      refine X.mv ?_
      refine X.gy (X.bi ?_)
      refine X.gy (X.mv ?_)
      refine X.iG (fun hb17=>?_) (fun hb17=>?_)
      ·replace h:=condT hb17 h
       refine X.fl fld141_0 ?_
       refine X.gy (X.ld shp3 ?_)
       refine X.gy (X.bi ?_)
       refine X.gy (X.pT ?_)
       refine X.pF ?_
       refine X.mv ?_
       refine X.iG (fun hb18=>?_) (fun hb18=>?_)
       ·replace h:=condF hb18 h
        refine X.mv ?_
        refine X.gy (X.bi ?_)
        refine X.gy (X.mv ?_)
        refine X.iG (fun hb19=>?_) (fun hb19=>?_)
        ·replace h:=condT hb19 h
         refine X.fl fld141_0 ?_
         refine X.gy (X.ld shp3 ?_)
         refine X.gy (X.mv ?_)
         refine X.gy (X.mv ?_)
         refine X.gy (X.sub (by rfl) (by rfl) (by omega) (by rfl) ?_)
         refine X.gy ?_
         obtain ⟨v20,hv20,h⟩:=bindE h
         refine X.ix elt95 (idxL_spec hv20).1 (idxL_map eTStep hv20) ?_
         refine X.gy (X.fieldAddr_c fld141_0 (by rfl) (by rfl) ?_)
         refine X.gy (X.lc shp3 ?_)
         refine X.gy (X.bi ?_)
         refine X.gy (X.pT ?_)
         refine X.pF ?_
         cases h
         exact X.eG
        replace h:=condF hb19 h
        refine X.gn (X.gn (X.gn (X.gn (X.gn (X.gn (X.gn (X.gn ?_)))))))
        refine X.gy (X.pF ?_)
        refine X.pF ?_
        cases h
        exact X.eG
       replace h:=condT hb18 h
       refine X.gn (X.gn (X.gU (h:=?_)))
       refine X.gU (h:=?_)
       refine X.gU (h:=?_)
       refine X.gU (h:=?_)
       refine X.gU (h:=?_)
       refine X.gU (h:=?_)
       refine X.gU (h:=?_)
       refine X.gU (h:=?_)
       refine X.gU (h:=?_)
       refine X.gn (X.pT ?_)
       cases h
       exact X.eG
      replace h:=condF hb17 h
      refine X.gn (X.gn (X.gy (X.pF ?_)))
      refine X.pF ?_
      refine X.mv ?_
      refine X.gy (X.mv ?_)
      refine X.gy (X.bi ?_)
      refine X.gy (X.mv ?_)
      refine X.iG (fun hb21=>?_) (fun hb21=>?_)
      ·replace h:=condT hb21 h
       refine X.fl fld141_0 ?_
       refine X.gy (X.ld shp3 ?_)
       refine X.gy (X.mv ?_)
       refine X.gy (X.mv ?_)
       refine X.gy (X.sub (by rfl) (by rfl) (by omega) (by rfl) ?_)
       refine X.gy ?_
       obtain ⟨v22,hv22,h⟩:=bindE h
       refine X.ix elt95 (idxL_spec hv22).1 (idxL_map eTStep hv22) ?_
       refine X.gy (X.fieldAddr_c fld141_0 (by rfl) (by rfl) ?_)
       refine X.gy (X.lc shp3 ?_)
       refine X.gy (X.bi ?_)
       refine X.gy (X.pT ?_)
       refine X.pF ?_
       cases h
       exact X.eG
      replace h:=condF hb21 h
      refine X.gn (X.gn (X.gn (X.gn (X.gn (X.gn (X.gn (X.gn ?_)))))))
      refine X.gy (X.pF ?_)
      refine X.pF ?_
      cases h
      exact X.eG
     replace h:=condT hb16 h
     refine X.gn (X.gn (X.gU (h:=?_)))
     refine X.gU (h:=?_)
     refine X.gU (h:=?_)
     refine X.gn (X.pT ?_)
     refine X.mv ?_
     refine X.gn (X.gn (X.gn (X.gU (h:=?_))))
     refine X.gU (h:=?_)
     refine X.gU (h:=?_)
     refine X.gU (h:=?_)
     refine X.gU (h:=?_)
     refine X.gU (h:=?_)
     refine X.gU (h:=?_)
     refine X.gU (h:=?_)
     refine X.gU (h:=?_)
     refine X.gn (X.pT ?_)
     cases h
     exact X.eG
    replace h:=condT hb14 h
    refine X.gn (X.gn (X.gn (X.pT ?_)))
    refine X.mv ?_
    refine X.gn (X.gn (X.gn (X.gU (h:=?_))))
    refine X.gU (h:=?_)
    refine X.gU (h:=?_)
    refine X.gn (X.pT ?_)
    refine X.mv ?_
    refine X.gn (X.gn (X.gn (X.gU (h:=?_))))
    refine X.gU (h:=?_)
    refine X.gU (h:=?_)
    refine X.gU (h:=?_)
    refine X.gU (h:=?_)
    refine X.gU (h:=?_)
    refine X.gU (h:=?_)
    refine X.gU (h:=?_)
    refine X.gU (h:=?_)
    refine X.gn (X.pT ?_)
    cases h
    exact X.eG
   replace h:=h2;clear h2
   refine R.cd (fun hc23=>?_) (fun hc23=>?_)
   ·replace h:=condT hc23 h
    refine Run.sr (X.an ?_)
    cases h
    have h:=hup2
    replace h:=elimR h
    cases h
    refine R.f1 Tryz.results159 ?_
    rfl
   replace h:=condF hc23 h
   refine Run.skip (Run.blk (Run.reg (X.ad ?_)))
   refine X.mn ?_
   exact R.ag hag7 (n7 - 1) (z8+1) (R.n3 (by first | (rw [hds7];exact h) | (dsimp only;rw [hds7];exact h)))
  rw [drop_endI hza7 hc11] at h
  rw [i_StepsOk_L1] at h
  refine Run.exit (by rfl) ?_
  exact R.mt hmeet3 () (Option.some.inj h)
 rintro p24 rfl
 replace h:=elimL h
 refine Run.sr (X.mv ?_)
 refine X.ls elt95 ?_
 obtain ⟨v26,hv26,h⟩:=bindE h
 refine X.cp (i_within_pc _ _ _ _ hv26) ?_
 refine X.an ?_
 cases h
 refine R.f1 Tryz.results159 ?_
 rfl
theorem i_ResourceOk_pc (b0:TResource)(r:Bool)(h:i_ResourceOk b0=some r):PC Tryz.prog 125 [eTResource b0] (bool r):=by
 unfold i_ResourceOk at h
 refine PC.start Tryz.func125 Tryz.ntmps125 rfl ok125 rfl ?_
 refine Run.sr (X.bx ?_)
 refine X.an ?_
 refine Run.seq (Run.sr (X.fl fld97_1 ?_))
 refine X.ld shp76 ?_
 refine X.ls elt76 ?_
 refine X.mn ?_
 obtain ⟨o1,ho1,h⟩:=bindE h
 refine R.join2 (β:=Unit) [(1,.lptr 64 0)] [(64,.blk true [.slice (b0.Steps.map eTStep),.slice (b0.Setup.map l_int)])] (fun p28 S=>S) (fun p28 M=>M) (fun p28=>(Sum.inl p28)=o1) ?_ ?_
 ·intro JJ4 hmeet3
  have hup2:=h;clear h;have h:=ho1;clear ho1
  refine Run.block ?_
  refine R.bndS (t:=8) (by rfl) (fun hbd7=>?_)
  replace hbd7:b0.Setup.length≤9223372036854775807:=by first | (rw [List.length_map] at hbd7;exact hbd7) | simp
  refine R.lp (β:=Int) [(1,.lptr 64 0),(8,.slice (b0.Setup.map l_int)),(9,int (b0.Setup.length:Int))] [(64,.blk true [.slice (b0.Steps.map eTStep),.slice (b0.Setup.map l_int)])] (fun bb S=>(10,int bb)::S) (fun bb M=>M) (fun n bb=>0≤bb∧bb+n=(b0.Setup.length:Int)∧i_ResourceOk_L1 (b0.Setup.drop bb.toNat) bb=some o1) b0.Setup.length (0:Int) ⟨Int.le_refl _,by simp,h⟩ ?_
  clear h
  rintro JJ7 n7 z8 hag7 ⟨hza7,hzb7,h⟩
  refine Run.sr (X.bi ?_)
  refine X.nil (Run.seq ?_)
  refine R.cd (fun hc11=>?_) (fun hc11=>?_)
  ·obtain ⟨x9,xs10,hd7,hx7,hds7,hlt7⟩:=drop_atI hza7 hc11
   rw [hd7] at h
   rw [i_ResourceOk_L1] at h
   refine Run.skip (Run.seq (Run.block (Run.sr (X.ix elt76 (idxL_spec hx7).1 (idxL_map l_int hx7) ?_))))
   refine X.lc shp25 ?_
   refine X.an ?_
   refine Run.seq (Run.sr (X.mv ?_))
   refine X.ls elt25 ?_
   refine X.bi ?_
   refine X.nil ?_
   refine R.cd (fun hc12=>?_) (fun hc12=>?_)
   ·replace h:=condT hc12 h
    refine Run.sr (X.an ?_)
    cases h
    have h:=hup2
    replace h:=elimR h
    cases h
    refine R.f1 Tryz.results125 ?_
    rfl
   replace h:=condF hc12 h
   refine Run.skip (Run.sr (X.mv ?_))
   refine X.ls elt25 ?_
   refine X.mn ?_
   obtain ⟨o13,ho13,h⟩:=bindE h
   refine R.join2 (β:=Unit) [(1,.lptr 64 0),(8,.slice (b0.Setup.map l_int)),(9,int (b0.Setup.length:Int)),(10,int z8)] [(64,.blk true [.slice (b0.Steps.map eTStep),.slice (b0.Setup.map l_int)])] (fun p26 S=>S) (fun p26 M=>M) (fun p26=>(Sum.inl p26)=o13) ?_ ?_
   ·intro JJ16 hmeet15
    have hup14:=h;clear h;have h:=ho13;clear ho13
    refine Run.block ?_
    refine R.bndS (t:=4) (by rfl) (fun hbd19=>?_)
    replace hbd19:x9.length≤9223372036854775807:=by first | (rw [List.length_map] at hbd19;exact hbd19) | simp
    refine R.lp (β:=Int) [(1,.lptr 64 0),(8,.slice (b0.Setup.map l_int)),(9,int (b0.Setup.length:Int)),(10,int z8),(17,.slice (x9.map int)),(18,int (x9.length:Int))] [(64,.blk true [.slice (b0.Steps.map eTStep),.slice (b0.Setup.map l_int)])] (fun bb S=>(19,int bb)::S) (fun bb M=>M) (fun n bb=>0≤bb∧bb+n=(x9.length:Int)∧i_ResourceOk_L2 (x9.drop bb.toNat) bb=some o13) x9.length (0:Int) ⟨Int.le_refl _,by simp,h⟩ ?_
    clear h
    rintro JJ19 n19 z20 hag19 ⟨hza19,hzb19,h⟩
    refine Run.sr (X.bi ?_)
    refine X.nil (Run.seq ?_)
    refine R.cd (fun hc23=>?_) (fun hc23=>?_)
    ·obtain ⟨x21,xs22,hd19,hx19,hds19,hlt19⟩:=drop_atI hza19 hc23
     rw [hd19] at h
     rw [i_ResourceOk_L2] at h
     refine Run.skip (Run.seq (Run.block (Run.sr (X.ix elt25 (idxL_spec hx19).1 (idxL_map int hx19) ?_))))
     refine X.lc shp3 ?_
     refine X.an ?_
     refine Run.sr (X.mv ?_)
     obtain ⟨v24,hv24,h⟩:=bindE h
     refine X.cp (i_within_pc _ _ _ _ hv24) ?_
     refine X.un (h:=?_)
     refine X.nil ?_
     refine R.cd (fun hc25=>?_) (fun hc25=>?_)
     ·replace h:=condT hc25 h
      refine Run.sr (X.an ?_)
      cases h
      have h:=hup14
      replace h:=elimR h
      cases h
      have h:=hup2
      replace h:=elimR h
      cases h
      refine R.f1 Tryz.results125 ?_
      rfl
     replace h:=condF hc25 h
     refine Run.skip (Run.blk (Run.reg (X.ad ?_)))
     refine X.mn ?_
     exact R.ag hag19 (n19 - 1) (z20+1) (R.n3 (by first | (rw [hds19];exact h) | (dsimp only;rw [hds19];exact h)))
    rw [drop_endI hza19 hc23] at h
    rw [i_ResourceOk_L2] at h
    refine Run.exit (by rfl) ?_
    exact R.mt hmeet15 () (Option.some.inj h)
   rintro p26 rfl
   replace h:=elimL h
   refine Run.blk (Run.reg (X.ad ?_))
   refine X.mn ?_
   exact R.ag hag7 (n7 - 1) (z8+1) (R.n3 (by first | (rw [hds7];exact h) | (dsimp only;rw [hds7];exact h)))
  rw [drop_endI hza7 hc11] at h
  rw [i_ResourceOk_L1] at h
  refine Run.exit (by rfl) ?_
  exact R.mt hmeet3 () (Option.some.inj h)
 rintro p28 rfl
 replace h:=elimL h
 refine Run.seq ?_
 obtain ⟨v30,hv30,h⟩:=bindE h
 obtain ⟨e31,he31,h2⟩:=bindE h
 refine R.regG [(2,bool e31)] [] ?_ ?_
 ·clear h;have h:=he31;clear he31 h2
  refine X.fl fld97_0 ?_
  refine X.ld shp95 ?_
  refine X.cp (i_StepsOk_pc _ _ hv30) ?_
  refine X.mv ?_
  refine X.iG (fun hb32=>?_) (fun hb32=>?_)
  ·replace h:=condT hb32 h
   refine X.fl fld97_1 ?_
   refine X.gy (X.ld shp76 ?_)
   refine X.gy (X.ls elt76 ?_)
   refine X.gy (X.bi ?_)
   refine X.gy (X.mv ?_)
   refine X.iG (fun hb33=>?_) (fun hb33=>?_)
   ·replace h:=condF hb33 h
    refine X.fl fld97_1 ?_
    refine X.gy (X.ld shp76 ?_)
    refine X.gy (X.ls elt76 ?_)
    refine X.gy (X.bi ?_)
    refine X.gy (X.pF ?_)
    refine X.pT ?_
    refine X.as ?_
    cases h
    exact X.eG
   replace h:=condT hb33 h
   refine X.gn (X.gn (X.gn (X.gy (X.pT ?_))))
   refine X.pT ?_
   refine X.as ?_
   cases h
   exact X.eG
  replace h:=condF hb32 h
  refine X.gn (X.gn (X.gn (X.gn (X.gU (h:=?_)))))
  refine X.gU (h:=?_)
  refine X.gU (h:=?_)
  refine X.gU (h:=?_)
  refine X.gn (X.pF ?_)
  refine X.as ?_
  cases h
  exact X.eG
 replace h:=h2;clear h2
 cases h
 refine R.f1 Tryz.results125 ?_
 rfl
theorem i_Project_hasActivity_pc (b0:TProject)(b1:Int)(r:Bool)(h:i_Project_hasActivity b0 b1=some r):PC Tryz.prog 129 [eTProject b0,int b1] (bool r):=by
 unfold i_Project_hasActivity at h
 refine PC.start Tryz.func129 Tryz.ntmps129 rfl ok129 rfl ?_
 refine Run.sr (X.bx ?_)
 refine X.an ?_
 refine Run.sr (X.mv ?_)
 refine X.fl fld36_1 ?_
 refine X.ld shp32 ?_
 refine X.ls elt32 ?_
 refine X.subW (h:=?_)
 obtain ⟨v1,hv1,h⟩:=bindE h
 refine X.cp (i_within_pc _ _ _ _ hv1) ?_
 refine X.an ?_
 cases h
 refine R.f1 Tryz.results129 ?_
 rfl
theorem i_Project_linkOk_pc (b0:TProject)(b1:TLink)(r:Bool)(h:i_Project_linkOk b0 b1=some r):PC Tryz.prog 128 [eTProject b0,eTLink b1] (bool r):=by
 unfold i_Project_linkOk at h
 refine PC.start Tryz.func128 Tryz.ntmps128 rfl ok128 rfl ?_
 refine Run.sr (X.bx ?_)
 refine X.bx ?_
 refine X.an ?_
 refine Run.seq ?_
 obtain ⟨v1,hv1,h⟩:=bindE h
 obtain ⟨e2,he2,h2⟩:=bindE h
 refine R.regG [(4,bool e2)] [] ?_ ?_
 ·clear h;have h:=he2;clear he2 h2
  refine X.ld shp36 ?_
  refine X.fl fld92_0 ?_
  refine X.ld shp3 ?_
  refine X.cp (i_Project_hasActivity_pc _ _ _ hv1) ?_
  refine X.mv ?_
  refine X.iG (fun hb3=>?_) (fun hb3=>?_)
  ·replace h:=condT hb3 h
   refine X.ld shp36 ?_
   refine X.gy (X.fl fld92_1 ?_)
   refine X.gy (X.ld shp3 ?_)
   refine X.gy ?_
   obtain ⟨v4,hv4,h⟩:=bindE h
   refine X.cp (i_Project_hasActivity_pc _ _ _ hv4) ?_
   refine X.pT ?_
   refine X.mv ?_
   refine X.iG (fun hb5=>?_) (fun hb5=>?_)
   ·replace h:=condT hb5 h
    refine X.fl fld92_0 ?_
    refine X.gy (X.ld shp3 ?_)
    refine X.gy (X.fl fld92_1 ?_)
    refine X.gy (X.ld shp3 ?_)
    refine X.gy (X.bi ?_)
    refine X.pT ?_
    refine X.mv ?_
    refine X.iG (fun hb6=>?_) (fun hb6=>?_)
    ·replace h:=condT hb6 h
     refine X.fl fld92_3 ?_
     refine X.gy (X.ld shp3 ?_)
     refine X.gy ?_
     obtain ⟨v7,hv7,h⟩:=bindE h
     refine X.cp (i_within_pc _ _ _ _ hv7) ?_
     refine X.pT ?_
     refine X.as ?_
     cases h
     exact X.eG
    replace h:=condF hb6 h
    refine X.gn (X.gn (X.pF ?_))
    refine X.as ?_
    cases h
    exact X.eG
   replace h:=condF hb5 h
   refine X.gn (X.gn (X.gn (X.gn (X.pF ?_))))
   refine X.mv ?_
   refine X.gn (X.gn (X.gn (X.pF ?_)))
   refine X.as ?_
   cases h
   exact X.eG
  replace h:=condF hb3 h
  refine X.gn (X.gn (X.gn (X.pF ?_)))
  refine X.mv ?_
  refine X.gn (X.gn (X.gn (X.gn (X.gn (X.pF ?_)))))
  refine X.mv ?_
  refine X.gn (X.gn (X.gn (X.pF ?_)))
  refine X.as ?_
  cases h
  exact X.eG
 replace h:=h2;clear h2
 cases h
 refine R.f1 Tryz.results128 ?_
 rfl
theorem i_ProjectOk_c1_pc (b0:TLink)(c1:TProject)(r:Bool)(h:i_ProjectOk_c1 b0 c1=some r):PC Tryz.prog 127 [eTLink b0,.cptr (eTProject c1:PV).cells 0] (bool r):=by
 unfold i_ProjectOk_c1 at h
 refine PC.start Tryz.func127 Tryz.ntmps127 rfl ok127 rfl ?_
 refine Run.sr (X.bx ?_)
 refine X.an ?_
 refine Run.sr (X.lc shp36 ?_)
 refine X.ld shp92 ?_
 obtain ⟨v1,hv1,h⟩:=bindE h
 refine X.cp (i_Project_linkOk_pc _ _ _ hv1) ?_
 refine X.un (h:=?_)
 refine X.an ?_
 cases h
 refine R.f1 Tryz.results127 ?_
 rfl
theorem slices_IndexFunc_Link_pc (b0:List TLink)(g1:TLink→Option Bool)(g1id:Nat)(g1c:List PV)(hg1:∀(x0:TLink) v,g1 x0=some v→PC Tryz.prog g1id ([eTLink x0] ++ g1c) (bool v))(r:Int)(h:slices_IndexFunc_Link b0 g1=some r):PC Tryz.prog 160 [.slice (b0.map eTLink),.fn g1id g1c] (int r):=by
 unfold slices_IndexFunc_Link at h
 refine PC.start Tryz.func160 Tryz.ntmps160 rfl ok160 rfl ?_
 refine Run.sr (X.an ?_)
 refine Run.seq (Run.sr (X.mv ?_))
 refine X.ls elt33 ?_
 refine X.mn ?_
 obtain ⟨o1,ho1,h⟩:=bindE h
 refine R.join2 (β:=Unit) [] [] (fun p14 S=>S) (fun p14 M=>M) (fun p14=>(Sum.inl p14)=o1) ?_ ?_
 ·intro JJ4 hmeet3
  have hup2:=h;clear h;have h:=ho1;clear ho1
  refine Run.block ?_
  refine R.bndS (t:=0) (by rfl) (fun hbd7=>?_)
  replace hbd7:b0.length≤9223372036854775807:=by first | (rw [List.length_map] at hbd7;exact hbd7) | simp
  refine R.lp (β:=Int) [(0,.slice (b0.map eTLink)),(1,.fn g1id g1c),(7,int (b0.length:Int))] [] (fun bb S=>(8,int bb)::S) (fun bb M=>M) (fun n bb=>0≤bb∧bb+n=(b0.length:Int)∧slices_IndexFunc_Link_L1 g1 (b0.drop bb.toNat) bb=some o1) b0.length (0:Int) ⟨Int.le_refl _,by simp,h⟩ ?_
  clear h
  rintro JJ7 n7 z8 hag7 ⟨hza7,hzb7,h⟩
  refine Run.sr (X.bi ?_)
  refine X.nil (Run.seq ?_)
  refine R.cd (fun hc11=>?_) (fun hc11=>?_)
  ·obtain ⟨x9,xs10,hd7,hx7,hds7,hlt7⟩:=drop_atI hza7 hc11
   rw [hd7] at h
   rw [slices_IndexFunc_Link_L1] at h
   refine Run.skip (Run.seq (Run.block (Run.sr (X.mv ?_))))
   refine X.an ?_
   refine Run.sr (X.mv ?_)
   refine X.mv ?_
   refine X.mv ?_
   refine X.ix elt33 (idxL_spec hx7).1 (idxL_map eTLink hx7) ?_
   refine X.lc shp92 ?_
   obtain ⟨v12,hv12,h⟩:=bindE h
   refine X.cp (hg1 _ _ hv12) ?_
   refine X.nil ?_
   refine R.cd (fun hc13=>?_) (fun hc13=>?_)
   ·replace h:=condT hc13 h
    refine Run.sr (X.mv ?_)
    refine X.an ?_
    cases h
    have h:=hup2
    replace h:=elimR h
    cases h
    refine R.f1 Tryz.results160 ?_
    rfl
   replace h:=condF hc13 h
   refine Run.skip (Run.blk (Run.reg (X.ad ?_)))
   refine X.mn ?_
   exact R.ag hag7 (n7 - 1) (z8+1) (R.n3 (by first | (rw [hds7];exact h) | (dsimp only;rw [hds7];exact h)))
  rw [drop_endI hza7 hc11] at h
  rw [slices_IndexFunc_Link_L1] at h
  refine Run.exit (by rfl) ?_
  exact R.mt hmeet3 () (Option.some.inj h)
 rintro p14 rfl
 replace h:=elimL h
 refine Run.sr (X.an ?_)
 cases h
 refine R.f1 Tryz.results160 ?_
 rfl
theorem slices_ContainsFunc_Link_pc (b0:List TLink)(g1:TLink→Option Bool)(g1id:Nat)(g1c:List PV)(hg1:∀(x0:TLink) v,g1 x0=some v→PC Tryz.prog g1id ([eTLink x0] ++ g1c) (bool v))(r:Bool)(h:slices_ContainsFunc_Link b0 g1=some r):PC Tryz.prog 126 [.slice (b0.map eTLink),.fn g1id g1c] (bool r):=by
 unfold slices_ContainsFunc_Link at h
 refine PC.start Tryz.func126 Tryz.ntmps126 rfl ok126 rfl ?_
 refine Run.sr (X.an ?_)
 refine Run.sr (X.mv ?_)
 refine X.mv ?_
 obtain ⟨v1,hv1,h⟩:=bindE h
 refine X.cp (slices_IndexFunc_Link_pc _ g1 _ _ hg1 _ hv1) ?_
 refine X.bi ?_
 refine X.an ?_
 cases h
 refine R.f1 Tryz.results126 ?_
 rfl
theorem i_ProjectOk_pc (b0:TProject)(r:Bool)(h:i_ProjectOk b0=some r):PC Tryz.prog 89 [eTProject b0] (bool r):=by
 unfold i_ProjectOk at h
 refine PC.start Tryz.func89 Tryz.ntmps89 rfl ok89 rfl ?_
 refine Run.sr (X.bx ?_)
 refine X.an ?_
 refine Run.seq (Run.seq ?_)
 obtain ⟨v1,hv1,h⟩:=bindE h
 obtain ⟨e2,he2,h2⟩:=bindE h
 refine R.regG [(1,.lptr 64 0),(37,bool e2)] [(64,.blk true [int b0.Deadline,.slice (b0.Activities.map eTActivity),.slice (b0.Links.map eTLink),.slice (b0.Resources.map eTResource),.slice (b0.Stocks.map int)])] ?_ ?_
 ·clear h;have h:=he2;clear he2 h2
  refine X.fl fld36_0 ?_
  refine X.ld shp3 ?_
  refine X.cp (i_within_pc _ _ _ _ hv1) ?_
  refine X.un (h:=?_)
  refine X.mv ?_
  refine X.iG (fun hb3=>?_) (fun hb3=>?_)
  ·replace h:=condF hb3 h
   refine X.fl fld36_1 ?_
   refine X.gy (X.ld shp32 ?_)
   refine X.gy (X.ls elt32 ?_)
   refine X.gy ?_
   obtain ⟨v4,hv4,h⟩:=bindE h
   refine X.cp (i_within_pc _ _ _ _ hv4) ?_
   refine X.gy (X.un (h:=?_))
   refine X.pF ?_
   refine X.mv ?_
   refine X.iG (fun hb5=>?_) (fun hb5=>?_)
   ·replace h:=condF hb5 h
    refine X.fl fld36_3 ?_
    refine X.gy (X.ld shp34 ?_)
    refine X.gy (X.ls elt34 ?_)
    refine X.gy (X.bi ?_)
    refine X.pF ?_
    refine X.mv ?_
    refine X.iG (fun hb6=>?_) (fun hb6=>?_)
    ·replace h:=condF hb6 h
     refine X.fl fld36_4 ?_
     refine X.gy (X.ld shp25 ?_)
     refine X.gy (X.ls elt25 ?_)
     refine X.gy (X.bi ?_)
     refine X.pF ?_
     refine X.mv ?_
     refine X.iG (fun hb7=>?_) (fun hb7=>?_)
     ·replace h:=condF hb7 h
      refine X.fl fld36_2 ?_
      refine X.gy (X.ld shp33 ?_)
      refine X.gy (X.ls elt33 ?_)
      refine X.gy (X.bi ?_)
      refine X.pF ?_
      cases h
      exact X.eG
     replace h:=condT hb7 h
     refine X.gn (X.gn (X.gn (X.pT ?_)))
     cases h
     exact X.eG
    replace h:=condT hb6 h
    refine X.gn (X.gn (X.gn (X.pT ?_)))
    refine X.mv ?_
    refine X.gn (X.gn (X.gn (X.gn (X.pT ?_))))
    cases h
    exact X.eG
   replace h:=condT hb5 h
   refine X.gn (X.gn (X.gn (X.pT ?_)))
   refine X.mv ?_
   refine X.gn (X.gn (X.gn (X.gn (X.pT ?_))))
   refine X.mv ?_
   refine X.gn (X.gn (X.gn (X.gn (X.pT ?_))))
   cases h
   exact X.eG
  replace h:=condT hb3 h
  refine X.gn (X.gn (X.gn (X.gn (X.pT ?_))))
  refine X.mv ?_
  refine X.gn (X.gn (X.gn (X.gn (X.pT ?_))))
  refine X.mv ?_
  refine X.gn (X.gn (X.gn (X.gn (X.pT ?_))))
  refine X.mv ?_
  refine X.gn (X.gn (X.gn (X.gn (X.pT ?_))))
  cases h
  exact X.eG
 replace h:=h2;clear h2
 refine R.cd (fun hc8=>?_) (fun hc8=>?_)
 ·replace h:=condT hc8 h
  refine Run.sr (X.an ?_)
  cases h
  refine R.f1 Tryz.results89 ?_
  rfl
 replace h:=condF hc8 h
 refine Run.skip (Run.seq (Run.sr (X.fl fld36_1 ?_)))
 refine X.ld shp32 ?_
 refine X.ls elt32 ?_
 refine X.mn ?_
 obtain ⟨o9,ho9,h⟩:=bindE h
 refine R.join2 (β:=Unit) [(1,.lptr 64 0)] [(64,.blk true [int b0.Deadline,.slice (b0.Activities.map eTActivity),.slice (b0.Links.map eTLink),.slice (b0.Resources.map eTResource),.slice (b0.Stocks.map int)])] (fun p25 S=>S) (fun p25 M=>M) (fun p25=>(Sum.inl p25)=o9) ?_ ?_
 ·intro JJ12 hmeet11
  have hup10:=h;clear h;have h:=ho9;clear ho9
  refine Run.block ?_
  refine R.bndS (t:=39) (by rfl) (fun hbd15=>?_)
  replace hbd15:b0.Activities.length≤9223372036854775807:=by first | (rw [List.length_map] at hbd15;exact hbd15) | simp
  refine R.lp (β:=Int) [(1,.lptr 64 0),(39,.slice (b0.Activities.map eTActivity)),(40,int (b0.Activities.length:Int))] [(64,.blk true [int b0.Deadline,.slice (b0.Activities.map eTActivity),.slice (b0.Links.map eTLink),.slice (b0.Resources.map eTResource),.slice (b0.Stocks.map int)])] (fun bb S=>(41,int bb)::S) (fun bb M=>M) (fun n bb=>0≤bb∧bb+n=(b0.Activities.length:Int)∧i_ProjectOk_L1 b0 (b0.Activities.drop bb.toNat) bb=some o9) b0.Activities.length (0:Int) ⟨Int.le_refl _,by simp,h⟩ ?_
  clear h
  rintro JJ15 n15 z16 hag15 ⟨hza15,hzb15,h⟩
  refine Run.sr (X.bi ?_)
  refine X.nil (Run.seq ?_)
  refine R.cd (fun hc19=>?_) (fun hc19=>?_)
  ·obtain ⟨x17,xs18,hd15,hx15,hds15,hlt15⟩:=drop_atI hza15 hc19
   rw [hd15] at h
   rw [i_ProjectOk_L1] at h
   refine Run.skip (Run.seq (Run.block (Run.sr (X.mv ?_))))
   refine X.ix elt32 (idxL_spec hx15).1 (idxL_map eTActivity hx15) ?_
   refine X.lc shp89 ?_
   refine X.alloc zer89 (h:=?_)
   refine X.as ?_
   refine X.sl shp89 ?_
   refine X.nil (Run.seq ?_)
   obtain ⟨v20,hv20,h⟩:=bindE h
   obtain ⟨e21,he21,h2⟩:=bindE h
   refine R.regG [(1,.lptr 64 0),(39,.slice (b0.Activities.map eTActivity)),(40,int (b0.Activities.length:Int)),(41,int z16),(62,bool e21)] [(64,.blk true [int b0.Deadline,.slice (b0.Activities.map eTActivity),.slice (b0.Links.map eTLink),.slice (b0.Resources.map eTResource),.slice (b0.Stocks.map int)])] ?_ ?_
   ·clear h;have h:=he21;clear he21 h2
    refine X.ld shp89 ?_
    refine X.fl fld36_3 ?_
    refine X.ld shp34 ?_
    refine X.ls elt34 ?_
    refine X.fl fld36_4 ?_
    refine X.ld shp25 ?_
    refine X.ls elt25 ?_
    refine X.cp (i_ActivityOk_pc _ _ _ _ hv20) ?_
    refine X.un (h:=?_)
    refine X.mv ?_
    refine X.iG (fun hb22=>?_) (fun hb22=>?_)
    ·replace h:=condF hb22 h
     refine X.ld shp36 ?_
     refine X.gy (X.fl fld89_0 ?_)
     refine X.gy (X.ld shp9 ?_)
     refine X.gy ?_
     obtain ⟨v23,hv23,h⟩:=bindE h
     refine X.cp (i_ActivityIndex_pc _ _ _ hv23) ?_
     refine X.gy (X.mv ?_)
     refine X.gy (X.bi ?_)
     refine X.pF ?_
     cases h
     exact X.eG
    replace h:=condT hb22 h
    refine X.gn (X.gn (X.gn (X.gn (X.gn (X.pT ?_)))))
    cases h
    exact X.eG
   replace h:=h2;clear h2
   refine R.cd (fun hc24=>?_) (fun hc24=>?_)
   ·replace h:=condT hc24 h
    refine Run.sr (X.an ?_)
    cases h
    have h:=hup10
    replace h:=elimR h
    cases h
    refine R.f1 Tryz.results89 ?_
    rfl
   replace h:=condF hc24 h
   refine Run.skip (Run.blk (Run.reg (X.ad ?_)))
   refine X.mn ?_
   exact R.ag hag15 (n15 - 1) (z16+1) (R.n3 (by first | (rw [hds15];exact h) | (dsimp only;rw [hds15];exact h)))
  rw [drop_endI hza15 hc19] at h
  rw [i_ProjectOk_L1] at h
  refine Run.exit (by rfl) ?_
  exact R.mt hmeet11 () (Option.some.inj h)
 rintro p25 rfl
 replace h:=elimL h
 refine Run.seq (Run.sr (X.fl fld36_3 ?_))
 refine X.ld shp34 ?_
 refine X.ls elt34 ?_
 refine X.mn ?_
 obtain ⟨o27,ho27,h⟩:=bindE h
 refine R.join2 (β:=Unit) [(1,.lptr 64 0)] [(64,.blk true [int b0.Deadline,.slice (b0.Activities.map eTActivity),.slice (b0.Links.map eTLink),.slice (b0.Resources.map eTResource),.slice (b0.Stocks.map int)])] (fun p40 S=>S) (fun p40 M=>M) (fun p40=>(Sum.inl p40)=o27) ?_ ?_
 ·intro JJ30 hmeet29
  have hup28:=h;clear h;have h:=ho27;clear ho27
  refine Run.block ?_
  refine R.bndS (t:=65) (by rfl) (fun hbd33=>?_)
  replace hbd33:b0.Resources.length≤9223372036854775807:=by first | (rw [List.length_map] at hbd33;exact hbd33) | simp
  refine R.lp (β:=Int) [(1,.lptr 64 0),(65,.slice (b0.Resources.map eTResource)),(66,int (b0.Resources.length:Int))] [(64,.blk true [int b0.Deadline,.slice (b0.Activities.map eTActivity),.slice (b0.Links.map eTLink),.slice (b0.Resources.map eTResource),.slice (b0.Stocks.map int)])] (fun bb S=>(67,int bb)::S) (fun bb M=>M) (fun n bb=>0≤bb∧bb+n=(b0.Resources.length:Int)∧i_ProjectOk_L2 (b0.Resources.drop bb.toNat) bb=some o27) b0.Resources.length (0:Int) ⟨Int.le_refl _,by simp,h⟩ ?_
  clear h
  rintro JJ33 n33 z34 hag33 ⟨hza33,hzb33,h⟩
  refine Run.sr (X.bi ?_)
  refine X.nil (Run.seq ?_)
  refine R.cd (fun hc37=>?_) (fun hc37=>?_)
  ·obtain ⟨x35,xs36,hd33,hx33,hds33,hlt33⟩:=drop_atI hza33 hc37
   rw [hd33] at h
   rw [i_ProjectOk_L2] at h
   refine Run.skip (Run.seq (Run.block (Run.sr (X.ix elt34 (idxL_spec hx33).1 (idxL_map eTResource hx33) ?_))))
   refine X.lc shp97 ?_
   refine X.alloc zer97 (h:=?_)
   refine X.sl shp97 ?_
   refine X.nil (Run.sr (X.ld shp97 ?_))
   obtain ⟨v38,hv38,h⟩:=bindE h
   refine X.cp (i_ResourceOk_pc _ _ hv38) ?_
   refine X.un (h:=?_)
   refine X.nil ?_
   refine R.cd (fun hc39=>?_) (fun hc39=>?_)
   ·replace h:=condT hc39 h
    refine Run.sr (X.an ?_)
    cases h
    have h:=hup28
    replace h:=elimR h
    cases h
    refine R.f1 Tryz.results89 ?_
    rfl
   replace h:=condF hc39 h
   refine Run.skip (Run.blk (Run.reg (X.ad ?_)))
   refine X.mn ?_
   exact R.ag hag33 (n33 - 1) (z34+1) (R.n3 (by first | (rw [hds33];exact h) | (dsimp only;rw [hds33];exact h)))
  rw [drop_endI hza33 hc37] at h
  rw [i_ProjectOk_L2] at h
  refine Run.exit (by rfl) ?_
  exact R.mt hmeet29 () (Option.some.inj h)
 rintro p40 rfl
 replace h:=elimL h
 refine Run.seq (Run.sr (X.fl fld36_4 ?_))
 refine X.ld shp25 ?_
 refine X.ls elt25 ?_
 refine X.mn ?_
 obtain ⟨o42,ho42,h⟩:=bindE h
 refine R.join2 (β:=Unit) [(1,.lptr 64 0)] [(64,.blk true [int b0.Deadline,.slice (b0.Activities.map eTActivity),.slice (b0.Links.map eTLink),.slice (b0.Resources.map eTResource),.slice (b0.Stocks.map int)])] (fun p55 S=>S) (fun p55 M=>M) (fun p55=>(Sum.inl p55)=o42) ?_ ?_
 ·intro JJ45 hmeet44
  have hup43:=h;clear h;have h:=ho42;clear ho42
  refine Run.block ?_
  refine R.bndS (t:=76) (by rfl) (fun hbd48=>?_)
  replace hbd48:b0.Stocks.length≤9223372036854775807:=by first | (rw [List.length_map] at hbd48;exact hbd48) | simp
  refine R.lp (β:=Int) [(1,.lptr 64 0),(76,.slice (b0.Stocks.map int)),(77,int (b0.Stocks.length:Int))] [(64,.blk true [int b0.Deadline,.slice (b0.Activities.map eTActivity),.slice (b0.Links.map eTLink),.slice (b0.Resources.map eTResource),.slice (b0.Stocks.map int)])] (fun bb S=>(78,int bb)::S) (fun bb M=>M) (fun n bb=>0≤bb∧bb+n=(b0.Stocks.length:Int)∧i_ProjectOk_L3 (b0.Stocks.drop bb.toNat) bb=some o42) b0.Stocks.length (0:Int) ⟨Int.le_refl _,by simp,h⟩ ?_
  clear h
  rintro JJ48 n48 z49 hag48 ⟨hza48,hzb48,h⟩
  refine Run.sr (X.bi ?_)
  refine X.nil (Run.seq ?_)
  refine R.cd (fun hc52=>?_) (fun hc52=>?_)
  ·obtain ⟨x50,xs51,hd48,hx48,hds48,hlt48⟩:=drop_atI hza48 hc52
   rw [hd48] at h
   rw [i_ProjectOk_L3] at h
   refine Run.skip (Run.seq (Run.block (Run.sr (X.ix elt25 (idxL_spec hx48).1 (idxL_map int hx48) ?_))))
   refine X.lc shp3 ?_
   refine X.an ?_
   refine Run.sr (X.mv ?_)
   obtain ⟨v53,hv53,h⟩:=bindE h
   refine X.cp (i_within_pc _ _ _ _ hv53) ?_
   refine X.un (h:=?_)
   refine X.nil ?_
   refine R.cd (fun hc54=>?_) (fun hc54=>?_)
   ·replace h:=condT hc54 h
    refine Run.sr (X.an ?_)
    cases h
    have h:=hup43
    replace h:=elimR h
    cases h
    refine R.f1 Tryz.results89 ?_
    rfl
   replace h:=condF hc54 h
   refine Run.skip (Run.blk (Run.reg (X.ad ?_)))
   refine X.mn ?_
   exact R.ag hag48 (n48 - 1) (z49+1) (R.n3 (by first | (rw [hds48];exact h) | (dsimp only;rw [hds48];exact h)))
  rw [drop_endI hza48 hc52] at h
  rw [i_ProjectOk_L3] at h
  refine Run.exit (by rfl) ?_
  exact R.mt hmeet44 () (Option.some.inj h)
 rintro p55 rfl
 replace h:=elimL h
 refine Run.seq ?_
 refine R.pubBlk (n:=64) (by rfl) (by rfl) (by repeat (first | trivial | refine ⟨by first | rfl | simp [setL],?_⟩)) ?_
 refine Run.reg (X.fl fld36_2 ?_)
 refine X.ld shp33 ?_
 refine X.makeFunc (by rfl) (by rfl) (by repeat (first | trivial | refine ⟨by first | rfl | simp [setL],?_⟩)) (by rfl) (by rfl) ?_
 obtain ⟨v57,hv57,h⟩:=bindE h
 refine X.cp (slices_ContainsFunc_Link_pc _ (fun x0=>i_ProjectOk_c1 x0 b0) _ _ (fun x0 v hv=>i_ProjectOk_c1_pc _ _ _ hv) _ hv57) ?_
 refine X.un (h:=?_)
 refine X.an ?_
 cases h
 refine R.f1 Tryz.results89 ?_
 rfl
theorem i_LiteralOk_pc (b0:TProject)(b1:TLiteral)(r:Bool)(h:i_LiteralOk b0 b1=some r):PC Tryz.prog 147 [eTProject b0,eTLiteral b1] (bool r):=by
 unfold i_LiteralOk at h
 refine PC.start Tryz.func147 Tryz.ntmps147 rfl ok147 rfl ?_
 refine Run.sr (X.bx ?_)
 refine X.bx ?_
 refine X.an ?_
 refine Run.seq (Run.seq ?_)
 obtain ⟨v1,hv1,h⟩:=bindE h
 obtain ⟨e2,he2,h2⟩:=bindE h
 refine R.regG [(2,.lptr 128 0),(3,.lptr 192 0),(14,bool e2)] [(128,.blk true [int b0.Deadline,.slice (b0.Activities.map eTActivity),.slice (b0.Links.map eTLink),.slice (b0.Resources.map eTResource),.slice (b0.Stocks.map int)]),(192,.blk true [int b1.Kind,int b1.Activity,int b1.Value])] ?_ ?_
 ·clear h;have h:=he2;clear he2 h2
  refine X.ld shp36 ?_
  refine X.cp (i_ProjectOk_pc _ _ hv1) ?_
  refine X.un (h:=?_)
  refine X.mv ?_
  refine X.iG (fun hb3=>?_) (fun hb3=>?_)
  ·replace h:=condF hb3 h
   refine X.ld shp36 ?_
   refine X.gy (X.fl fld114_1 ?_)
   refine X.gy (X.ld shp3 ?_)
   refine X.gy ?_
   obtain ⟨v4,hv4,h⟩:=bindE h
   refine X.cp (i_Project_hasActivity_pc _ _ _ hv4) ?_
   refine X.gy (X.un (h:=?_))
   refine X.pF ?_
   cases h
   exact X.eG
  replace h:=condT hb3 h
  refine X.gn (X.gn (X.gn (X.gn (X.pT ?_))))
  cases h
  exact X.eG
 replace h:=h2;clear h2
 refine R.cd (fun hc5=>?_) (fun hc5=>?_)
 ·replace h:=condT hc5 h
  refine Run.sr (X.an ?_)
  cases h
  refine R.f1 Tryz.results147 ?_
  rfl
 replace h:=condF hc5 h
 refine Run.skip (Run.seq (Run.sr (X.fl fld114_0 ?_)))
 refine X.ld shp3 ?_
 refine X.nil (Run.block (Run.seq (Run.sr (X.bi ?_))))
 refine X.an ?_
 obtain ⟨o6,ho6,h⟩:=bindE h
 refine R.join2 (β:=Bool) [(2,.lptr 128 0),(3,.lptr 192 0),(16,int b1.Kind)] [(128,.blk true [int b0.Deadline,.slice (b0.Activities.map eTActivity),.slice (b0.Links.map eTLink),.slice (b0.Resources.map eTResource),.slice (b0.Stocks.map int)]),(192,.blk true [int b1.Kind,int b1.Activity,int b1.Value])] (fun p11 S=>(17,bool p11)::S) (fun p11 M=>M) (fun p11=>p11=o6) ?_ ?_
 ·intro JJ9 hmeet8
  have hup7:=h;clear h;have h:=ho6;clear ho6
  refine R.cd (fun hc10=>?_) (fun hc10=>?_)
  ·replace h:=condT hc10 h
   refine Run.skip ?_
   exact R.mt hmeet8 (b1.Kind == 1) (Option.some.inj h)
  replace h:=condF hc10 h
  refine Run.reg (X.bi ?_)
  refine X.an ?_
  exact R.mt hmeet8 (b1.Kind == 2) (Option.some.inj h)
 rintro p11 rfl
 refine R.cd (fun hc12=>?_) (fun hc12=>?_)
 ·replace h:=condT hc12 h
  refine Run.sr (X.fl fld114_2 ?_)
  refine X.ld shp3 ?_
  obtain ⟨v13,hv13,h⟩:=bindE h
  refine X.cp (i_within_pc _ _ _ _ hv13) ?_
  refine X.an ?_
  cases h
  refine R.f1 Tryz.results147 ?_
  rfl
 replace h:=condF hc12 h
 refine Run.seq (Run.sr (X.bi ?_))
 refine X.an ?_
 obtain ⟨o14,ho14,h⟩:=bindE h
 refine R.join2 (β:=Bool) [(2,.lptr 128 0),(3,.lptr 192 0)] [(128,.blk true [int b0.Deadline,.slice (b0.Activities.map eTActivity),.slice (b0.Links.map eTLink),.slice (b0.Resources.map eTResource),.slice (b0.Stocks.map int)]),(192,.blk true [int b1.Kind,int b1.Activity,int b1.Value])] (fun p19 S=>(23,bool p19)::S) (fun p19 M=>M) (fun p19=>p19=o14) ?_ ?_
 ·intro JJ17 hmeet16
  have hup15:=h;clear h;have h:=ho14;clear ho14
  refine R.cd (fun hc18=>?_) (fun hc18=>?_)
  ·replace h:=condT hc18 h
   refine Run.skip ?_
   exact R.mt hmeet16 (b1.Kind == 3) (Option.some.inj h)
  replace h:=condF hc18 h
  refine Run.reg (X.bi ?_)
  refine X.an ?_
  exact R.mt hmeet16 (b1.Kind == 4) (Option.some.inj h)
 rintro p19 rfl
 refine R.cd (fun hc20=>?_) (fun hc20=>?_)
 ·replace h:=condT hc20 h
  refine Run.seq (Run.draw (footOf [(1,([192],[],[],[])),(3,([128],[],[],[])),(5,([192],[],[],[]))]) mixed (by kernel_rfl) (by kernel_rfl) ?_)
  refine X.fl fld114_2 ?_
  refine X.ld shp3 ?_
  refine X.fl fld36_1 ?_
  refine X.ld shp32 ?_
  refine X.fl fld114_1 ?_
  refine X.ld shp3 ?_
  obtain ⟨v21,hv21,h⟩:=bindE h
  refine X.ix elt32 (idxL_spec hv21).1 (idxL_map eTActivity hv21) ?_
  refine X.fieldAddr_c fld89_2 (by rfl) (by rfl) ?_
  refine X.lc shp87 ?_
  refine X.ls elt87 ?_
  refine X.subW (h:=?_)
  obtain ⟨v22,hv22,h⟩:=bindE h
  refine X.cp (i_within_pc _ _ _ _ hv22) ?_
  refine X.an ?_
  cases h
  refine R.f1 Tryz.results147 ?_
  rfl
 replace h:=condF hc20 h
 refine Run.skip (Run.blk (Run.sr (X.an ?_)))
 cases h
 refine R.f1 Tryz.results147 ?_
 rfl
theorem i_FormatLiteral_pc (b0:TProject)(b1:TLiteral)(r:ByteArray)(h:i_FormatLiteral b0 b1=some r):PC Tryz.prog 109 [eTProject b0,eTLiteral b1] (str r):=by
 unfold i_FormatLiteral at h
 refine PC.start Tryz.func109 Tryz.ntmps109 rfl ok109 rfl ?_
 refine Run.sr (X.bx ?_)
 refine X.bx ?_
 refine X.an ?_
 refine Run.seq (Run.sr (X.ld shp36 ?_))
 refine X.ld shp114 ?_
 obtain ⟨v1,hv1,h⟩:=bindE h
 refine X.cp (i_LiteralOk_pc _ _ _ hv1) ?_
 refine X.un (h:=?_)
 refine X.nil ?_
 refine R.cd (fun hc2=>?_) (fun hc2=>?_)
 ·replace h:=condT hc2 h
  refine Run.sr (X.an ?_)
  cases h
  refine R.f1 Tryz.results109 ?_
  rfl
 replace h:=condF hc2 h
 refine Run.skip (Run.seq (Run.draw (footOf [(1,([128],[],[],[])),(3,([192],[],[],[])),(8,([192],[],[],[])),(12,([192],[],[],[]))]) mixed (by kernel_rfl) (by kernel_rfl) ?_))
 refine X.fl fld36_1 ?_
 refine X.ld shp32 ?_
 refine X.fl fld114_1 ?_
 refine X.ld shp3 ?_
 obtain ⟨v3,hv3,h⟩:=bindE h
 refine X.ix elt32 (idxL_spec hv3).1 (idxL_map eTActivity hv3) ?_
 refine X.fieldAddr_c fld89_0 (by rfl) (by rfl) ?_
 refine X.lc shp9 ?_
 refine X.fl fld114_0 ?_
 refine X.ld shp3 ?_
 obtain ⟨v4,hv4,h⟩:=bindE h
 refine X.cp (i_LiteralSign_pc _ _ hv4) ?_
 obtain ⟨v5,hv5,h⟩:=bindE h
 refine X.cat2 hv5 (by rfl) (by rfl) (by rfl) ?_
 refine X.fl fld114_2 ?_
 refine X.ld shp3 ?_
 obtain ⟨v6,hv6,h⟩:=bindE h
 refine X.cp (i_FormatInt_pc _ _ hv6) ?_
 obtain ⟨v7,hv7,h⟩:=bindE h
 refine X.cat2 hv7 (by rfl) (by rfl) (by rfl) ?_
 refine X.an ?_
 cases h
 refine R.f1 Tryz.results109 ?_
 rfl
theorem i_ParseLiteral_pc (b0:TProject)(b1:ByteArray)(r:TLiteral×Bool)(h:i_ParseLiteral b0 b1=some r):PC Tryz.prog 81 [eTProject b0,str b1] (.tuple [eTLiteral r.1,bool r.2]):=by
 unfold i_ParseLiteral at h
 refine PC.start Tryz.func81 Tryz.ntmps81 rfl ok81 rfl ?_
 refine Run.sr (X.bx ?_)
 refine X.alloc zer114 (h:=?_)
 refine X.an ?_
 refine Run.sr (X.an ?_)
 refine Run.seq ?_
 obtain ⟨o1,ho1,h⟩:=bindE h
 refine R.join2 (β:=Int) [(1,str b1),(2,.lptr 128 0),(4,.lptr 256 0)] [(128,.blk true [int b0.Deadline,.slice (b0.Activities.map eTActivity),.slice (b0.Links.map eTLink),.slice (b0.Resources.map eTResource),.slice (b0.Stocks.map int)]),(256,.blk true [int 0,int 0,int 0])] (fun p17 S=>(6,int p17)::S) (fun p17 M=>M) (fun p17=>p17=o1) ?_ ?_
 ·intro JJ4 hmeet3
  have hup2:=h;clear h;have h:=ho1;clear ho1
  refine Run.block ?_
  refine R.lp (β:=Int) [(1,str b1),(2,.lptr 128 0),(4,.lptr 256 0)] [(128,.blk true [int b0.Deadline,.slice (b0.Activities.map eTActivity),.slice (b0.Links.map eTLink),.slice (b0.Resources.map eTResource),.slice (b0.Stocks.map int)]),(256,.blk true [int 0,int 0,int 0])] (fun bb S=>(6,int bb)::S) (fun bb M=>M) (fun n bb=>i_ParseLiteral_L1 b1 n bb=some o1) F0 0 h ?_
  clear h
  rintro JJ4 n4 a6 hag4 h
  obtain _ | n4:=n4
  ·exact absurd h (by simp [i_ParseLiteral_L1])
  rw [i_ParseLiteral_L1] at h
  refine Run.seq (Run.seq ?_)
  obtain ⟨e9,he9,h2⟩:=bindE h
  refine R.regG [(1,str b1),(2,.lptr 128 0),(4,.lptr 256 0),(6,int a6),(39,bool e9)] [(128,.blk true [int b0.Deadline,.slice (b0.Activities.map eTActivity),.slice (b0.Links.map eTLink),.slice (b0.Resources.map eTResource),.slice (b0.Stocks.map int)]),(256,.blk true [int 0,int 0,int 0])] ?_ ?_
  ·clear h;have h:=he9;clear he9 h2
   refine X.mv ?_
   refine X.mv ?_
   refine X.lenStr Tryz.underlying9 (by rfl) (by rfl) ?_
   refine X.bi ?_
   refine X.mv ?_
   refine X.iG (fun hb10=>?_) (fun hb10=>?_)
   ·replace h:=condT hb10 h
    refine X.mv ?_
    refine X.gy (X.mv ?_)
    refine X.gy ?_
    obtain ⟨v11,hv11,h⟩:=bindE h
    refine X.indexStr2 hv11 Tryz.underlying9 (by rfl) (by rfl) (by rfl) ?_
    refine X.gy (X.bi ?_)
    refine X.gy (X.mv ?_)
    refine X.iG (fun hb12=>?_) (fun hb12=>?_)
    ·replace h:=condT hb12 h
     refine X.mv ?_
     refine X.gy (X.mv ?_)
     refine X.gy (X.indexStr2 hv11 Tryz.underlying9 (by rfl) (by rfl) (by rfl) ?_)
     refine X.gy (X.bi ?_)
     refine X.gy (X.pT ?_)
     refine X.gy (X.mv ?_)
     refine X.iG (fun hb13=>?_) (fun hb13=>?_)
     ·replace h:=condF hb13 h
      refine X.mv ?_
      refine X.gy (X.mv ?_)
      refine X.gy (X.indexStr2 hv11 Tryz.underlying9 (by rfl) (by rfl) (by rfl) ?_)
      refine X.gy (X.bi ?_)
      refine X.gy (X.mv ?_)
      refine X.iG (fun hb14=>?_) (fun hb14=>?_)
      ·replace h:=condT hb14 h
       refine X.mv ?_
       refine X.gy (X.mv ?_)
       refine X.gy (X.indexStr2 hv11 Tryz.underlying9 (by rfl) (by rfl) (by rfl) ?_)
       refine X.gy (X.bi ?_)
       refine X.gy (X.pT ?_)
       refine X.gy (X.pF ?_)
       refine X.pT ?_
       cases h
       exact X.eG
      replace h:=condF hb14 h
      refine X.gn (X.gn (X.gn (X.gy (X.pF ?_))))
      refine X.gy (X.pF ?_)
      refine X.pT ?_
      cases h
      exact X.eG
     replace h:=condT hb13 h
     refine X.gn (X.gn (X.gn (X.gn (X.gU (h:=?_)))))
     refine X.gU (h:=?_)
     refine X.gU (h:=?_)
     refine X.gU (h:=?_)
     refine X.gn (X.gy (X.pT ?_))
     refine X.pT ?_
     cases h
     exact X.eG
    replace h:=condF hb12 h
    refine X.gn (X.gn (X.gn (X.gy (X.pF ?_))))
    refine X.gy (X.mv ?_)
    refine X.gy (X.mv ?_)
    refine X.gy (X.mv ?_)
    refine X.gy (X.indexStr2 hv11 Tryz.underlying9 (by rfl) (by rfl) (by rfl) ?_)
    refine X.gy (X.bi ?_)
    refine X.gy (X.mv ?_)
    refine X.iG (fun hb15=>?_) (fun hb15=>?_)
    ·replace h:=condT hb15 h
     refine X.mv ?_
     refine X.gy (X.mv ?_)
     refine X.gy (X.indexStr2 hv11 Tryz.underlying9 (by rfl) (by rfl) (by rfl) ?_)
     refine X.gy (X.bi ?_)
     refine X.gy (X.pT ?_)
     refine X.gy (X.pF ?_)
     refine X.pT ?_
     cases h
     exact X.eG
    replace h:=condF hb15 h
    refine X.gn (X.gn (X.gn (X.gy (X.pF ?_))))
    refine X.gy (X.pF ?_)
    refine X.pT ?_
    cases h
    exact X.eG
   replace h:=condF hb10 h
   refine X.gn (X.gn (X.gn (X.gn (X.gU (h:=?_)))))
   refine X.gU (h:=?_)
   refine X.gU (h:=?_)
   refine X.gU (h:=?_)
   refine X.gn (X.gn (X.gU (h:=?_)))
   refine X.gU (h:=?_)
   refine X.gU (h:=?_)
   refine X.gU (h:=?_)
   refine X.gU (h:=?_)
   refine X.gU (h:=?_)
   refine X.gU (h:=?_)
   refine X.gU (h:=?_)
   refine X.gU (h:=?_)
   refine X.gU (h:=?_)
   refine X.gn (X.pF ?_)
   cases h
   exact X.eG
  replace h:=h2;clear h2
  refine R.cd (fun hc16=>?_) (fun hc16=>?_)
  ·replace h:=condT hc16 h
   refine Run.skip (Run.block (Run.reg (X.mv ?_)))
   refine X.addW (h:=?_)
   refine X.an ?_
   refine Run.blk ?_
   exact hag4 n4 (W (a6+1)) _ _ (by omega) h (by trivial) (by trivial) (by rfl) (by rfl)
  replace h:=condF hc16 h
  refine Run.exit (by rfl) ?_
  exact R.mt hmeet3 a6 (Option.some.inj h)
 rintro p17 rfl
 refine Run.seq (Run.sr (X.an ?_))
 obtain ⟨o18,ho18,h⟩:=bindE h
 refine R.join2 (β:=Unit) [(4,.lptr 256 0)] [(256,.blk true [int 0,int 0,int 0])] (fun p40 S=>S) (fun p40 M=>M) (fun p40=>(Sum.inl p40)=o18) ?_ ?_
 ·intro JJ21 hmeet20
  have hup19:=h;clear h;have h:=ho18;clear ho18
  refine Run.block ?_
  refine R.lp (β:=Int) [(1,str b1),(2,.lptr 128 0),(4,.lptr 256 0),(6,int p17)] [(128,.blk true [int b0.Deadline,.slice (b0.Activities.map eTActivity),.slice (b0.Links.map eTLink),.slice (b0.Resources.map eTResource),.slice (b0.Stocks.map int)]),(256,.blk true [int 0,int 0,int 0])] (fun bb S=>(7,int bb)::S) (fun bb M=>M) (fun n bb=>i_ParseLiteral_L2 b0 b1 p17 n bb=some o18) F0 1 h ?_
  clear h
  rintro JJ21 n21 a23 hag21 h
  obtain _ | n21:=n21
  ·exact absurd h (by simp [i_ParseLiteral_L2])
  rw [i_ParseLiteral_L2] at h
  refine Run.seq (Run.sr (X.mv ?_))
  refine X.bi ?_
  refine X.nil ?_
  refine R.cd (fun hc26=>?_) (fun hc26=>?_)
  ·replace h:=condT hc26 h
   refine Run.skip (Run.seq (Run.block (Run.sr (X.mv ?_))))
   obtain ⟨v27,hv27,h⟩:=bindE h
   refine X.cp (i_LiteralSign_pc _ _ hv27) ?_
   refine X.an ?_
   refine Run.seq (Run.seq ?_)
   obtain ⟨e28,he28,h2⟩:=bindE h
   refine R.regG [(1,str b1),(2,.lptr 128 0),(4,.lptr 256 0),(6,int p17),(7,int a23),(8,str v27),(65,bool e28)] [(128,.blk true [int b0.Deadline,.slice (b0.Activities.map eTActivity),.slice (b0.Links.map eTLink),.slice (b0.Resources.map eTResource),.slice (b0.Stocks.map int)]),(256,.blk true [int 0,int 0,int 0])] ?_ ?_
   ·clear h;have h:=he28;clear he28 h2
    refine X.mv ?_
    refine X.lenStr Tryz.underlying9 (by rfl) (by rfl) ?_
    refine X.mv ?_
    refine X.mv ?_
    refine X.lenStr Tryz.underlying9 (by rfl) (by rfl) ?_
    refine X.addW (h:=?_)
    refine X.bi ?_
    refine X.mv ?_
    refine X.iG (fun hb29=>?_) (fun hb29=>?_)
    ·replace h:=condF hb29 h
     refine X.mv ?_
     refine X.gy (X.mv ?_)
     refine X.gy (X.mv ?_)
     refine X.gy (X.mv ?_)
     refine X.gy (X.lenStr Tryz.underlying9 (by rfl) (by rfl) ?_)
     refine X.gy (X.addW (h:=?_))
     refine X.gy ?_
     obtain ⟨v30,hv30,h⟩:=bindE h
     refine X.sliceStr2 hv30 Tryz.underlying9 (by rfl) ⟨_,by rfl⟩ ⟨_,by rfl⟩ (by rfl) ?_
     refine X.gy (X.mv ?_)
     refine X.gy (X.bi ?_)
     refine X.pF ?_
     cases h
     exact X.eG
    replace h:=condT hb29 h
    refine X.gn (X.gn (X.gn (X.gn (X.gn (X.gn (X.gn (X.gn ?_)))))))
    refine X.pT ?_
    cases h
    exact X.eG
   replace h:=h2;clear h2
   refine R.cd (fun hc31=>?_) (fun hc31=>?_)
   ·replace h:=condT hc31 h
    refine Run.exit (by rfl) ?_
    refine Run.reg (X.mv ?_)
    refine X.addW (h:=?_)
    refine X.an ?_
    exact hag21 n21 (W (a23+1)) _ _ (by omega) h (by trivial) (by trivial) (by rfl) (by rfl)
   replace h:=condF hc31 h
   refine Run.skip (Run.sr (X.mv ?_))
   refine X.mv ?_
   refine X.mv ?_
   refine X.lenStr Tryz.underlying9 (by rfl) (by rfl) ?_
   refine X.addW (h:=?_)
   obtain ⟨v32,hv32,h⟩:=bindE h
   refine X.sliceStr2 hv32 Tryz.underlying9 (by rfl) ⟨_,by rfl⟩ (by rfl) (by rfl) ?_
   obtain ⟨v33,hv33,h⟩:=bindE h
   refine X.callT (i_ParseInt_pc _ _ hv33) (by rfl) (by rfl) (by rfl) (by trivial) (by rfl) (by rfl) (by rfl) (by rfl) (by rfl) (by rfl) ?_
   refine X.mv ?_
   refine X.extract (h:=?_)
   refine X.extract (h:=?_)
   refine X.as ?_
   refine X.an ?_
   refine Run.seq (Run.draw2 (footOf [(1,([128],[],[],[])),(8,([704],[704],[],[])),(9,([704],[704],[],[]))]) mixed (by kernel_rfl) (by kernel_rfl) ?_)
   refine X.mv ?_
   refine X.ld shp36 ?_
   refine X.mv ?_
   refine X.mv ?_
   obtain ⟨v34,hv34,h⟩:=bindE h
   refine X.sliceStr2 hv34 Tryz.underlying9 (by rfl) (by rfl) ⟨_,by rfl⟩ (by rfl) ?_
   obtain ⟨v35,hv35,h⟩:=bindE h
   refine X.cp (i_ActivityIndex_pc _ _ _ hv35) ?_
   refine X.mv ?_
   refine X.build zer114 pl114 (by rfl) (by rfl) (by repeat (first | trivial | refine ⟨by first | rfl | simp [setL],?_⟩)) (by rfl) (by rfl) (by rfl) ?_
   refine X.alloc zer114 (h:=?_)
   refine X.sl shp114 ?_
   refine X.nil (Run.seq ?_)
   obtain ⟨e36,he36,h2⟩:=bindE h
   refine R.regG [(1,str b1),(2,.lptr 128 0),(4,.lptr 256 0),(6,int p17),(7,int a23),(11,.lptr 704 0),(91,bool e36)] [(128,.blk true [int b0.Deadline,.slice (b0.Activities.map eTActivity),.slice (b0.Links.map eTLink),.slice (b0.Resources.map eTResource),.slice (b0.Stocks.map int)]),(256,.blk true [int 0,int 0,int 0]),(704,.blk true [int a23,int v35,int v33.1])] ?_ ?_
   ·clear h;have h:=he36;clear he36 h2
    refine X.mv ?_
    refine X.mv ?_
    refine X.iG (fun hb37=>?_) (fun hb37=>?_)
    ·replace h:=condT hb37 h
     refine X.ld shp36 ?_
     refine X.gy (X.ld shp114 ?_)
     refine X.gy ?_
     obtain ⟨v38,hv38,h⟩:=bindE h
     refine X.cp (i_FormatLiteral_pc _ _ _ hv38) ?_
     refine X.gy (X.mv ?_)
     refine X.gy (X.bi ?_)
     refine X.pT ?_
     cases h
     exact X.eG
    replace h:=condF hb37 h
    refine X.gn (X.gn (X.gn (X.gn (X.pF ?_))))
    cases h
    exact X.eG
   replace h:=h2;clear h2
   refine R.cd (fun hc39=>?_) (fun hc39=>?_)
   ·replace h:=condT hc39 h
    refine Run.sr (X.ld shp114 ?_)
    refine X.sl shp114 ?_
    refine X.an ?_
    cases h
    have h:=hup19
    replace h:=elimR h
    cases h
    refine R.finC2 Tryz.results81 shp114 (by rfl) (by rfl) (by rfl) (by rfl) (by rfl) (by rfl) (by repeat (first | trivial | refine ⟨by first | rfl | simp [setL],?_⟩)) ?_
    rfl
   replace h:=condF hc39 h
   refine Run.skip (Run.blk (Run.reg (X.mv ?_)))
   refine X.addW (h:=?_)
   refine X.an ?_
   exact hag21 n21 (W (a23+1)) _ _ (by omega) h (by trivial) (by trivial) (by rfl) (by rfl)
  replace h:=condF hc26 h
  refine Run.exit (by rfl) ?_
  exact R.mt hmeet20 () (Option.some.inj h)
 rintro p40 rfl
 replace h:=elimL h
 refine Run.sr ?_
 refine X.build zer114 pl114 (by rfl) (by rfl) (by repeat (first | trivial | refine ⟨by first | rfl | simp [setL],?_⟩)) (by rfl) (by rfl) (by rfl) ?_
 refine X.sl shp114 ?_
 refine X.an ?_
 cases h
 refine R.finC2 Tryz.results81 shp114 (by rfl) (by rfl) (by rfl) (by rfl) (by rfl) (by rfl) (by repeat (first | trivial | refine ⟨by first | rfl | simp [setL],?_⟩)) ?_
 rfl
theorem cmp_isNaN_int_pc (b0:Int)(r:Bool)(h:cmp_isNaN_int b0=some r):PC Tryz.prog 176 [int b0] (bool r):=by
 unfold cmp_isNaN_int at h
 refine PC.start Tryz.func176 Tryz.ntmps176 rfl ok176 rfl ?_
 refine Run.sr (X.an ?_)
 refine Run.sr (X.mv ?_)
 refine X.mv ?_
 refine X.bi ?_
 refine X.an ?_
 cases h
 refine R.f1 Tryz.results176 ?_
 rfl
theorem cmp_Compare_int_pc (b0:Int)(b1:Int)(r:Int)(h:cmp_Compare_int b0 b1=some r):PC Tryz.prog 165 [int b0,int b1] (int r):=by
 unfold cmp_Compare_int at h
 refine PC.start Tryz.func165 Tryz.ntmps165 rfl ok165 rfl ?_
 refine Run.sr (X.an ?_)
 refine Run.sr (X.mv ?_)
 obtain ⟨v1,hv1,h⟩:=bindE h
 refine X.cp (cmp_isNaN_int_pc _ _ hv1) ?_
 refine X.an ?_
 refine Run.sr (X.mv ?_)
 obtain ⟨v2,hv2,h⟩:=bindE h
 refine X.cp (cmp_isNaN_int_pc _ _ hv2) ?_
 refine X.an ?_
 refine Run.seq (Run.sr (X.mn ?_))
 refine R.cd (fun hc3=>?_) (fun hc3=>?_)
 ·replace h:=condT hc3 h
  refine Run.seq (Run.sr (X.mn ?_))
  refine R.cd (fun hc4=>?_) (fun hc4=>?_)
  ·replace h:=condT hc4 h
   refine Run.sr (X.an ?_)
   cases h
   refine R.f1 Tryz.results165 ?_
   rfl
  replace h:=condF hc4 h
  refine Run.skip (Run.sr (X.an ?_))
  cases h
  refine R.f1 Tryz.results165 ?_
  rfl
 replace h:=condF hc3 h
 refine Run.skip (Run.seq (Run.sr (X.mn ?_)))
 refine R.cd (fun hc5=>?_) (fun hc5=>?_)
 ·replace h:=condT hc5 h
  refine Run.sr (X.an ?_)
  cases h
  refine R.f1 Tryz.results165 ?_
  rfl
 replace h:=condF hc5 h
 refine Run.skip (Run.seq (Run.sr (X.mv ?_)))
 refine X.mv ?_
 refine X.bi ?_
 refine X.nil ?_
 refine R.cd (fun hc6=>?_) (fun hc6=>?_)
 ·replace h:=condT hc6 h
  refine Run.sr (X.an ?_)
  cases h
  refine R.f1 Tryz.results165 ?_
  rfl
 replace h:=condF hc6 h
 refine Run.skip (Run.seq (Run.sr (X.mv ?_)))
 refine X.mv ?_
 refine X.bi ?_
 refine X.nil ?_
 refine R.cd (fun hc7=>?_) (fun hc7=>?_)
 ·replace h:=condT hc7 h
  refine Run.sr (X.an ?_)
  cases h
  refine R.f1 Tryz.results165 ?_
  rfl
 replace h:=condF hc7 h
 refine Run.skip (Run.sr (X.an ?_))
 cases h
 refine R.f1 Tryz.results165 ?_
 rfl
theorem cmp_Or_int_pc (b0:List Int)(r:Int)(h:cmp_Or_int b0=some r):PC Tryz.prog 164 [.slice (b0.map int)] (int r):=by
 unfold cmp_Or_int at h
 refine PC.start Tryz.func164 Tryz.ntmps164 rfl ok164 rfl ?_
 refine Run.sr (X.an ?_)
 refine Run.sr (X.an ?_)
 refine Run.seq (Run.sr (X.mv ?_))
 refine X.ls elt25 ?_
 refine X.mn ?_
 obtain ⟨o1,ho1,h⟩:=bindE h
 refine R.join2 (β:=Unit) [(3,int 0)] [] (fun p13 S=>S) (fun p13 M=>M) (fun p13=>(Sum.inl p13)=o1) ?_ ?_
 ·intro JJ4 hmeet3
  have hup2:=h;clear h;have h:=ho1;clear ho1
  refine Run.block ?_
  refine R.bndS (t:=0) (by rfl) (fun hbd7=>?_)
  replace hbd7:b0.length≤9223372036854775807:=by first | (rw [List.length_map] at hbd7;exact hbd7) | simp
  refine R.lp (β:=Int) [(3,int 0),(6,.slice (b0.map int)),(7,int (b0.length:Int))] [] (fun bb S=>(8,int bb)::S) (fun bb M=>M) (fun n bb=>0≤bb∧bb+n=(b0.length:Int)∧cmp_Or_int_L1 (b0.drop bb.toNat) bb=some o1) b0.length (0:Int) ⟨Int.le_refl _,by simp,h⟩ ?_
  clear h
  rintro JJ7 n7 z8 hag7 ⟨hza7,hzb7,h⟩
  refine Run.sr (X.bi ?_)
  refine X.nil (Run.seq ?_)
  refine R.cd (fun hc11=>?_) (fun hc11=>?_)
  ·obtain ⟨x9,xs10,hd7,hx7,hds7,hlt7⟩:=drop_atI hza7 hc11
   rw [hd7] at h
   rw [cmp_Or_int_L1] at h
   refine Run.skip (Run.seq (Run.block (Run.sr (X.ix elt25 (idxL_spec hx7).1 (idxL_map int hx7) ?_))))
   refine X.lc shp3 ?_
   refine X.an ?_
   refine Run.sr (X.mv ?_)
   refine X.mv ?_
   refine X.bi ?_
   refine X.nil ?_
   refine R.cd (fun hc12=>?_) (fun hc12=>?_)
   ·replace h:=condT hc12 h
    refine Run.sr (X.mv ?_)
    refine X.an ?_
    cases h
    have h:=hup2
    replace h:=elimR h
    cases h
    refine R.f1 Tryz.results164 ?_
    rfl
   replace h:=condF hc12 h
   refine Run.skip (Run.blk (Run.reg (X.ad ?_)))
   refine X.mn ?_
   exact R.ag hag7 (n7 - 1) (z8+1) (R.n3 (by first | (rw [hds7];exact h) | (dsimp only;rw [hds7];exact h)))
  rw [drop_endI hza7 hc11] at h
  rw [cmp_Or_int_L1] at h
  refine Run.exit (by rfl) ?_
  exact R.mt hmeet3 () (Option.some.inj h)
 rintro p13 rfl
 replace h:=elimL h
 refine Run.sr (X.mv ?_)
 refine X.an ?_
 cases h
 refine R.f1 Tryz.results164 ?_
 rfl
theorem i_CompareLiterals_pc (b0:TLiteral)(b1:TLiteral)(r:Int)(h:i_CompareLiterals b0 b1=some r):PC Tryz.prog 148 [eTLiteral b0,eTLiteral b1] (int r):=by
 unfold i_CompareLiterals at h
 refine PC.start Tryz.func148 Tryz.ntmps148 rfl ok148 rfl ?_
 refine Run.sr (X.bx ?_)
 refine X.bx ?_
 refine X.an ?_
 refine Run.seq (Run.draw (footOf [(1,([128],[],[],[])),(3,([192],[],[],[])),(6,([128],[],[],[])),(8,([192],[],[],[])),(11,([128],[],[],[])),(13,([192],[],[],[])),(15,([1280],[1280],[],[])),(16,([1280],[],[],[]))]) mixed (by kernel_rfl) (by kernel_rfl) ?_)
 refine X.fl fld114_1 ?_
 refine X.ld shp3 ?_
 refine X.fl fld114_1 ?_
 refine X.ld shp3 ?_
 obtain ⟨v1,hv1,h⟩:=bindE h
 refine X.cp (cmp_Compare_int_pc _ _ _ hv1) ?_
 refine X.fl fld114_0 ?_
 refine X.ld shp3 ?_
 refine X.fl fld114_0 ?_
 refine X.ld shp3 ?_
 obtain ⟨v2,hv2,h⟩:=bindE h
 refine X.cp (cmp_Compare_int_pc _ _ _ hv2) ?_
 refine X.fl fld114_2 ?_
 refine X.ld shp3 ?_
 refine X.fl fld114_2 ?_
 refine X.ld shp3 ?_
 obtain ⟨v3,hv3,h⟩:=bindE h
 refine X.cp (cmp_Compare_int_pc _ _ _ hv3) ?_
 refine X.buildSlice false elt25 zer3 (by rfl) (by rfl) (by rfl) (by rfl) (by rfl) (by rfl) (by repeat (first | trivial | refine ⟨by first | rfl | simp [setL],?_⟩)) (allSz_spec (by rfl)) (by rfl) (by rfl) (by rfl) ?_
 obtain ⟨v4,hv4,h⟩:=bindE h
 refine X.cp (cmp_Or_int_pc _ _ hv4) ?_
 refine X.an ?_
 cases h
 refine R.f1 Tryz.results148 ?_
 rfl
theorem i_ClauseOk_pc (b0:TProject)(b1:List TLiteral)(r:Bool)(h:i_ClauseOk b0 b1=some r):PC Tryz.prog 110 [eTProject b0,.slice (b1.map eTLiteral)] (bool r):=by
 unfold i_ClauseOk at h
 refine PC.start Tryz.func110 Tryz.ntmps110 rfl ok110 rfl ?_
 refine Run.sr (X.bx ?_)
 refine X.an ?_
 refine Run.seq (Run.sr (X.mv ?_))
 refine X.ls elt51 ?_
 refine X.mn ?_
 obtain ⟨o1,ho1,h⟩:=bindE h
 refine R.join2 (β:=Unit) [(1,.slice (b1.map eTLiteral))] [] (fun p19 S=>S) (fun p19 M=>M) (fun p19=>(Sum.inl p19)=o1) ?_ ?_
 ·intro JJ4 hmeet3
  have hup2:=h;clear h;have h:=ho1;clear ho1
  refine Run.block ?_
  refine R.bndS (t:=1) (by rfl) (fun hbd7=>?_)
  replace hbd7:b1.length≤9223372036854775807:=by first | (rw [List.length_map] at hbd7;exact hbd7) | simp
  refine R.lp (β:=Int) [(1,.slice (b1.map eTLiteral)),(2,.lptr 128 0),(7,.slice (b1.map eTLiteral)),(8,int (b1.length:Int))] [(128,.blk true [int b0.Deadline,.slice (b0.Activities.map eTActivity),.slice (b0.Links.map eTLink),.slice (b0.Resources.map eTResource),.slice (b0.Stocks.map int)])] (fun bb S=>(9,int bb)::S) (fun bb M=>M) (fun n bb=>0≤bb∧bb+n=(b1.length:Int)∧i_ClauseOk_L1 b0 b1 (b1.drop bb.toNat) bb=some o1) b1.length (0:Int) ⟨Int.le_refl _,by simp,h⟩ ?_
  clear h
  rintro JJ7 n7 z8 hag7 ⟨hza7,hzb7,h⟩
  refine Run.sr (X.bi ?_)
  refine X.nil (Run.seq ?_)
  refine R.cd (fun hc11=>?_) (fun hc11=>?_)
  ·obtain ⟨x9,xs10,hd7,hx7,hds7,hlt7⟩:=drop_atI hza7 hc11
   rw [hd7] at h
   rw [i_ClauseOk_L1] at h
   refine Run.skip (Run.seq (Run.block (Run.sr (X.mv ?_))))
   refine X.ix elt51 (idxL_spec hx7).1 (idxL_map eTLiteral hx7) ?_
   refine X.lc shp114 ?_
   refine X.alloc zer114 (h:=?_)
   refine X.as ?_
   refine X.sl shp114 ?_
   refine X.nil (Run.seq ?_)
   obtain ⟨v12,hv12,h⟩:=bindE h
   obtain ⟨e13,he13,h2⟩:=bindE h
   refine R.drawG [(1,.slice (b1.map eTLiteral)),(2,.lptr 128 0),(7,.slice (b1.map eTLiteral)),(8,int (b1.length:Int)),(9,int z8),(31,bool e13)] [(128,.blk true [int b0.Deadline,.slice (b0.Activities.map eTActivity),.slice (b0.Links.map eTLink),.slice (b0.Resources.map eTResource),.slice (b0.Stocks.map int)])] (footOf [(0,([128],[],[],[])),(1,([384],[],[],[])),(13,([384],[],[],[]))]) mixed (by kernel_rfl) (by kernel_rfl) ?_ ?_
   ·clear h;have h:=he13;clear he13 h2
    refine X.ld shp36 ?_
    refine X.ld shp114 ?_
    refine X.cp (i_LiteralOk_pc _ _ _ hv12) ?_
    refine X.un (h:=?_)
    refine X.mv ?_
    refine X.iG (fun hb14=>?_) (fun hb14=>?_)
    ·replace h:=condF hb14 h
     refine X.mv ?_
     refine X.gy (X.bi ?_)
     refine X.gy (X.mv ?_)
     refine X.iG (fun hb15=>?_) (fun hb15=>?_)
     ·replace h:=condT hb15 h
      refine X.mv ?_
      refine X.gy (X.mv ?_)
      refine X.gy (X.sub (by rfl) (by rfl) (by omega) (by rfl) ?_)
      refine X.gy ?_
      obtain ⟨v16,hv16,h⟩:=bindE h
      refine X.ix elt51 (idxL_spec hv16).1 (idxL_map eTLiteral hv16) ?_
      refine X.gy (X.lc shp114 ?_)
      refine X.gy (X.ld shp114 ?_)
      refine X.gy ?_
      obtain ⟨v17,hv17,h⟩:=bindE h
      refine X.cp (i_CompareLiterals_pc _ _ _ hv17) ?_
      refine X.gy (X.bi ?_)
      refine X.gy (X.pT ?_)
      refine X.pF ?_
      cases h
      exact X.eG
     replace h:=condF hb15 h
     refine X.gn (X.gn (X.gn (X.gn (X.gn (X.gn (X.gn (X.gy ?_)))))))
     refine X.pF ?_
     refine X.pF ?_
     cases h
     exact X.eG
    replace h:=condT hb14 h
    refine X.gn (X.gn (X.gU (h:=?_)))
    refine X.gU (h:=?_)
    refine X.gU (h:=?_)
    refine X.gU (h:=?_)
    refine X.gU (h:=?_)
    refine X.gU (h:=?_)
    refine X.gU (h:=?_)
    refine X.gU (h:=?_)
    refine X.gn (X.pT ?_)
    cases h
    exact X.eG
   replace h:=h2;clear h2
   refine R.cd (fun hc18=>?_) (fun hc18=>?_)
   ·replace h:=condT hc18 h
    refine Run.sr (X.an ?_)
    cases h
    have h:=hup2
    replace h:=elimR h
    cases h
    refine R.f1 Tryz.results110 ?_
    rfl
   replace h:=condF hc18 h
   refine Run.skip (Run.blk (Run.reg (X.ad ?_)))
   refine X.mn ?_
   exact R.ag hag7 (n7 - 1) (z8+1) (R.n3 (by first | (rw [hds7];exact h) | (dsimp only;rw [hds7];exact h)))
  rw [drop_endI hza7 hc11] at h
  rw [i_ClauseOk_L1] at h
  refine Run.exit (by rfl) ?_
  exact R.mt hmeet3 () (Option.some.inj h)
 rintro p19 rfl
 replace h:=elimL h
 refine Run.sr (X.mv ?_)
 refine X.ls elt51 ?_
 refine X.bi ?_
 refine X.an ?_
 cases h
 refine R.f1 Tryz.results110 ?_
 rfl
theorem strings_Join_pc (b0:List ByteArray)(b1:ByteArray)(r:ByteArray)(h:strings_Join b0 b1=some r):PC Tryz.prog 111 [.slice (b0.map str),str b1] (str r):=PC.join ok111 (fun bk o c xs sep w h1 h2 h3 h4 h5=>Tryz.strings_Join bk o c xs sep w h1 h2 h3 h4 h5) (fun a c sep w=>Tryz.strings_Join_none a c sep w) b0 b1 r h
theorem i_FormatClause_pc (b0:TProject)(b1:List TLiteral)(r:ByteArray)(h:i_FormatClause b0 b1=some r):PC Tryz.prog 82 [eTProject b0,.slice (b1.map eTLiteral)] (str r):=by
 unfold i_FormatClause at h
 refine PC.start Tryz.func82 Tryz.ntmps82 rfl ok82 rfl ?_
 refine Run.sr (X.bx ?_)
 refine X.an ?_
 refine Run.seq (Run.sr (X.ld shp36 ?_))
 refine X.mv ?_
 obtain ⟨v1,hv1,h⟩:=bindE h
 refine X.cp (i_ClauseOk_pc _ _ _ hv1) ?_
 refine X.un (h:=?_)
 refine X.nil ?_
 refine R.cd (fun hc2=>?_) (fun hc2=>?_)
 ·replace h:=condT hc2 h
  refine Run.sr (X.an ?_)
  cases h
  refine R.f1 Tryz.results82 ?_
  rfl
 replace h:=condF hc2 h
 refine Run.skip (Run.seq (Run.sr (X.mv ?_)))
 refine X.ls elt51 ?_
 refine X.bi ?_
 refine X.nil ?_
 refine R.cd (fun hc3=>?_) (fun hc3=>?_)
 ·replace h:=condT hc3 h
  refine Run.sr (X.an ?_)
  cases h
  refine R.f1 Tryz.results82 ?_
  rfl
 replace h:=condF hc3 h
 refine Run.skip (Run.sr ?_)
 refine X.buildSlice false elt47 zer9 (by rfl) (by rfl) (by rfl) (by rfl) (by rfl) (by rfl) (by repeat (first | trivial | refine ⟨by first | rfl | simp [setL],?_⟩)) (allSz_spec (by rfl)) (by rfl) (by rfl) (by rfl) ?_
 refine X.an ?_
 refine Run.seq (Run.sr (X.mv ?_))
 refine X.ls elt51 ?_
 refine X.mn ?_
 obtain ⟨o4,ho4,h⟩:=bindE h
 refine R.join2 (β:=(List ByteArray)) [] [] (fun p18 S=>(5,.own 960 (p18.map str).length)::S) (fun p18 M=>(960,.obj false 9 1 (p18.map str))::M) (fun p18=>p18=o4) ?_ ?_
 ·intro JJ7 hmeet6
  have hup5:=h;clear h;have h:=ho4;clear ho4
  refine Run.block ?_
  refine R.bndS (t:=1) (by rfl) (fun hbd10=>?_)
  replace hbd10:b1.length≤9223372036854775807:=by first | (rw [List.length_map] at hbd10;exact hbd10) | simp
  refine R.lp (β:=Int×(List ByteArray)) [(2,.lptr 128 0),(16,.slice (b1.map eTLiteral)),(17,int (b1.length:Int))] [(128,.blk true [int b0.Deadline,.slice (b0.Activities.map eTActivity),.slice (b0.Links.map eTLink),.slice (b0.Resources.map eTResource),.slice (b0.Stocks.map int)])] (fun bb S=>(5,.own 960 (bb.2.map str).length)::(18,int bb.1)::S) (fun bb M=>(960,.obj false 9 1 (bb.2.map str))::M) (fun n bb=>0≤bb.1∧bb.1+n=(b1.length:Int)∧i_FormatClause_L1 b0 (b1.drop bb.1.toNat) bb.1 bb.2=some o4) b1.length (0,([]:List ByteArray)) ⟨Int.le_refl _,by simp,h⟩ ?_
  clear h
  rintro JJ10 n10 ⟨z11,a12⟩ hag10 ⟨hza10,hzb10,h⟩
  dsimp only at hza10 hzb10 h
  refine Run.sr (X.bi ?_)
  refine X.nil (Run.seq ?_)
  refine R.cd (fun hc15=>?_) (fun hc15=>?_)
  ·obtain ⟨x13,xs14,hd10,hx10,hds10,hlt10⟩:=drop_atI hza10 hc15
   rw [hd10] at h
   rw [i_FormatClause_L1] at h
   refine Run.skip (Run.seq (Run.block (Run.sr (X.ix elt51 (idxL_spec hx10).1 (idxL_map eTLiteral hx10) ?_))))
   refine X.lc shp114 ?_
   refine X.alloc zer114 (h:=?_)
   refine X.sl shp114 ?_
   refine X.nil (Run.reg (X.mv ?_))
   refine X.ld shp36 ?_
   refine X.ld shp114 ?_
   obtain ⟨v16,hv16,h⟩:=bindE h
   refine X.cp (i_FormatLiteral_pc _ _ _ hv16) ?_
   refine X.buildSlice false elt47 zer9 (by rfl) (by rfl) (by rfl) (by rfl) (by rfl) (by rfl) (by repeat (first | trivial | refine ⟨by first | rfl | simp [setL],?_⟩)) (allSz_spec (by rfl)) (by rfl) (by rfl) (by rfl) ?_
   obtain ⟨v17,hv17,h⟩:=bindE h
   refine X.append elt47 zer9 (by rfl) (by rfl) (by first | rfl | simp [setL] | omega) (by rfl) (.own _ _ _ _ _ _ (look_mem (by rfl)) (by first | rfl | simp [setL] | omega)) (allSz_spec (by rfl)) (appL_len str hv17) (appL_map str hv17) (by rfl) (by rfl) (by rfl) (by rfl) ?_
   refine X.an ?_
   refine Run.blk (Run.reg (X.ad ?_))
   refine X.mn ?_
   exact R.ag hag10 (n10 - 1) (z11+1,v17) (R.n3 (by first | (rw [hds10];exact h) | (dsimp only;rw [hds10];exact h)))
  rw [drop_endI hza10 hc15] at h
  rw [i_FormatClause_L1] at h
  refine Run.exit (by rfl) ?_
  exact R.mt hmeet6 a12 (Option.some.inj h)
 rintro p18 rfl
 refine Run.sr (X.mv ?_)
 obtain ⟨v19,hv19,h⟩:=bindE h
 refine X.cp (strings_Join_pc _ _ _ hv19) ?_
 refine X.an ?_
 cases h
 refine R.f1 Tryz.results82 ?_
 rfl
theorem i_ParseClause_pc (b0:TProject)(b1:ByteArray)(r:(List TLiteral)×Bool)(h:i_ParseClause b0 b1=some r):PC Tryz.prog 51 [eTProject b0,str b1] (.tuple [.fresh true 114 3 (r.1.map eTLiteral),bool r.2]):=by
 unfold i_ParseClause at h
 refine PC.start Tryz.func51 Tryz.ntmps51 rfl ok51 rfl ?_
 refine Run.sr (X.bx ?_)
 refine X.as ?_
 refine X.an ?_
 refine Run.sr ?_
 refine X.buildSlice true elt51 zer114 (by rfl) (by rfl) (by rfl) (by rfl) (by rfl) (by rfl) (by repeat (first | trivial | refine ⟨by first | rfl | simp [setL],?_⟩)) (allSz_spec (by rfl)) (by rfl) (by rfl) (by rfl) ?_
 refine X.an ?_
 refine Run.seq (Run.sr (X.mv ?_))
 refine X.bi ?_
 refine X.nil ?_
 obtain ⟨o1,ho1,h⟩:=bindE h
 refine R.join2 (β:=(List TLiteral)) [(1,str b1),(2,.lptr 128 0)] [(128,.blk true [int b0.Deadline,.slice (b0.Activities.map eTActivity),.slice (b0.Links.map eTLink),.slice (b0.Resources.map eTResource),.slice (b0.Stocks.map int)])] (fun p24 S=>(6,.own 704 (p24.map eTLiteral).length)::S) (fun p24 M=>(704,.obj true 114 3 (p24.map eTLiteral))::M) (fun p24=>(Sum.inl p24)=o1) ?_ ?_
 ·intro JJ4 hmeet3
  have hup2:=h;clear h;have h:=ho1;clear ho1
  refine R.cd (fun hc5=>?_) (fun hc5=>?_)
  ·replace h:=condT hc5 h
   refine Run.sr (X.mv ?_)
   obtain ⟨v6,hv6,h⟩:=bindE h
   refine X.callF (i_SplitAny_pc _ _ _ hv6) (by rfl) (by rfl) (by rfl) (by trivial) (by rfl) (by rfl) (by rfl) (by rfl) ?_
   refine X.len_o elt47 (by rfl) (by rfl) (by first | rfl | simp [setL] | omega) (by first | exact List.length_map .. | rfl) (by rfl) (by rfl) ?_
   refine X.mn ?_
   obtain ⟨o7,ho7,h⟩:=bindE h
   refine R.join2 (β:=(List TLiteral)) [(1,str b1),(2,.lptr 128 0)] [(128,.blk true [int b0.Deadline,.slice (b0.Activities.map eTActivity),.slice (b0.Links.map eTLink),.slice (b0.Resources.map eTResource),.slice (b0.Stocks.map int)])] (fun p22 S=>(6,.own 704 (p22.map eTLiteral).length)::S) (fun p22 M=>(704,.obj true 114 3 (p22.map eTLiteral))::M) (fun p22=>(Sum.inl p22)=o7) ?_ ?_
   ·intro JJ10 hmeet9
    have hup8:=h;clear h;have h:=ho7;clear ho7
    refine Run.block ?_
    refine R.bndO (n:=960) (by rfl) (fun hbd13=>?_)
    replace hbd13:v6.length≤9223372036854775807:=by first | (rw [List.length_map] at hbd13;exact hbd13) | simp
    refine R.lp (β:=Int×(List TLiteral)) [(1,str b1),(2,.lptr 128 0),(16,int (v6.length:Int))] [(128,.blk true [int b0.Deadline,.slice (b0.Activities.map eTActivity),.slice (b0.Links.map eTLink),.slice (b0.Resources.map eTResource),.slice (b0.Stocks.map int)]),(960,.obj false 9 1 (v6.map str))] (fun bb S=>(6,.own 704 (bb.2.map eTLiteral).length)::(15,.own 960 (v6.map str).length)::(17,int bb.1)::S) (fun bb M=>(704,.obj true 114 3 (bb.2.map eTLiteral))::M) (fun n bb=>0≤bb.1∧bb.1+n=(v6.length:Int)∧i_ParseClause_L1 b0 (v6.drop bb.1.toNat) bb.1 bb.2=some o7) v6.length (0,([]:List TLiteral)) ⟨Int.le_refl _,by simp,h⟩ ?_
    clear h
    rintro JJ13 n13 ⟨z14,a15⟩ hag13 ⟨hza13,hzb13,h⟩
    dsimp only at hza13 hzb13 h
    refine Run.sr (X.bi ?_)
    refine X.nil (Run.seq ?_)
    refine R.cd (fun hc18=>?_) (fun hc18=>?_)
    ·obtain ⟨x16,xs17,hd13,hx13,hds13,hlt13⟩:=drop_atI hza13 hc18
     rw [hd13] at h
     rw [i_ParseClause_L1] at h
     refine Run.skip (Run.seq (Run.block (Run.sr (X.index_o elt47 (by rfl) (by rfl) (by first | rfl | simp [setL] | omega) (by rfl) (idxL_spec hx13).1 (idxL_map str hx13) (by rfl) (by rfl) (by rfl) ?_))))
     refine X.lc shp9 ?_
     refine X.an ?_
     refine Run.sr (X.ld shp36 ?_)
     refine X.mv ?_
     obtain ⟨v19,hv19,h⟩:=bindE h
     refine X.callT2 (i_ParseLiteral_pc _ _ _ hv19) (by rfl) (by rfl) (by rfl) (by trivial) (by rfl) (by rfl) (by rfl) (by rfl) (by rfl) (by rfl) ?_
     refine X.mv ?_
     refine X.extract (h:=?_)
     refine X.extract (h:=?_)
     refine X.alloc zer114 (h:=?_)
     refine X.sl shp114 ?_
     refine X.an ?_
     refine Run.seq (Run.sr (X.mv ?_))
     refine X.un (h:=?_)
     refine X.nil ?_
     refine R.cd (fun hc20=>?_) (fun hc20=>?_)
     ·replace h:=condT hc20 h
      refine Run.sr (X.as ?_)
      refine X.an ?_
      cases h
      have h:=hup8
      replace h:=elimR h
      cases h
      have h:=hup2
      replace h:=elimR h
      cases h
      refine R.nilOwnS (t:=4) 296 true 114 3 (by rfl) (by rfl) (by rfl) ?_
      refine R.fin2 Tryz.results51 (by rfl) (by rfl) (by rfl) (by repeat (first | trivial | refine ⟨by first | rfl | simp [setL],?_⟩)) ?_
      rfl
     replace h:=condF hc20 h
     refine Run.skip (Run.reg (X.mv ?_))
     refine X.ld shp114 ?_
     refine X.buildSlice true elt51 zer114 (by rfl) (by rfl) (by rfl) (by rfl) (by rfl) (by rfl) (by repeat (first | trivial | refine ⟨by first | rfl | simp [setL],?_⟩)) (allSz_spec (by rfl)) (by rfl) (by rfl) (by rfl) ?_
     obtain ⟨v21,hv21,h⟩:=bindE h
     refine X.append elt51 zer114 (by rfl) (by rfl) (by first | rfl | simp [setL] | omega) (by rfl) (.own _ _ _ _ _ _ (look_mem (by rfl)) (by first | rfl | simp [setL] | omega)) (allSz_spec (by rfl)) (appL_len eTLiteral hv21) (appL_map eTLiteral hv21) (by rfl) (by rfl) (by rfl) (by rfl) ?_
     refine X.an ?_
     refine Run.blk (Run.reg (X.ad ?_))
     refine X.mn ?_
     exact R.ag hag13 (n13 - 1) (z14+1,v21) (R.n3 (by first | (rw [hds13];exact h) | (dsimp only;rw [hds13];exact h)))
    rw [drop_endI hza13 hc18] at h
    rw [i_ParseClause_L1] at h
    refine Run.exit (by rfl) ?_
    exact R.mt hmeet9 a15 (Option.some.inj h)
   rintro p22 rfl
   replace h:=elimL h
   exact R.mt hmeet3 p22 (Option.some.inj h)
  replace h:=condF hc5 h
  refine Run.skip ?_
  exact R.mt hmeet3 ([]:List TLiteral) (Option.some.inj h)
 rintro p24 rfl
 replace h:=elimL h
 refine Run.seq (Run.sr (X.ld shp36 ?_))
 refine X.mv ?_
 obtain ⟨v26,hv26,h⟩:=bindE h
 refine X.callM [(127,704)] (PC.lend (M0:=[(127,.obj true 114 3 (p24.map eTLiteral))]) (i_FormatClause_pc _ _ _ hv26) (.lit _) (by rfl) (.agg _ _ _ _ (.same _ _ _ (by rfl) (.same _ _ _ (by rfl) (.same _ _ _ (by rfl) (.same _ _ _ (by rfl) (.same _ _ _ (by rfl) .nil))))) (.own 127 _ _ _ _ _ _ _ (by rfl) (by first | rfl | simp [setL] | omega) .nil))) (by rfl) (by rfl) (.pureB (by rfl) (by repeat (first | trivial | refine ⟨by first | rfl | simp [setL],?_⟩)) (.ownB 127 (by rfl) (by first | rfl | simp [setL] | omega) (by rfl) .nil)) (by rfl) ⟨rfl,rfl,⟨_,by rfl,by constructor⟩,by constructor,trivial⟩ (by rfl) (by rfl) (by rfl) (by rfl) (by rfl) (by rfl) (by rfl) (by rfl) (by rfl) ?_
 refine X.mv ?_
 refine X.bi ?_
 refine X.nil ?_
 refine R.cd (fun hc27=>?_) (fun hc27=>?_)
 ·replace h:=condT hc27 h
  refine Run.sr (X.as ?_)
  refine X.an ?_
  cases h
  refine R.nilOwnS (t:=4) 296 true 114 3 (by rfl) (by rfl) (by rfl) ?_
  refine R.fin2 Tryz.results51 (by rfl) (by rfl) (by rfl) (by repeat (first | trivial | refine ⟨by first | rfl | simp [setL],?_⟩)) ?_
  rfl
 replace h:=condF hc27 h
 refine Run.skip (Run.sr (X.mv ?_))
 refine X.as ?_
 refine X.an ?_
 cases h
 refine R.fin2 Tryz.results51 (by rfl) (by rfl) (by rfl) (by repeat (first | trivial | refine ⟨by first | rfl | simp [setL],?_⟩)) ?_
 rfl
theorem strings_CutPrefix_pc (b0:ByteArray)(b1:ByteArray)(r:ByteArray×Bool)(h:strings_CutPrefix b0 b1=some r):PC Tryz.prog 52 [str b0,str b1] (.tuple [str r.1,bool r.2]):=PC.cutPrefix ok52 (fun s p w=>Tryz.strings_CutPrefix s p w) b0 b1 r h
theorem strings_ReplaceAll_pc (b0:ByteArray)(b1:ByteArray)(b2:ByteArray)(r:ByteArray)(h:strings_ReplaceAll b0 b1 b2=some r):PC Tryz.prog 54 [str b0,str b1,str b2] (str r):=PC.replaceAll ok54 (by kernel_rfl) (fun s old new m w h1 h2 h3 h4=>Tryz.strings_ReplaceAll s old new m w h1 h2 h3 h4) b0 b1 b2 r h
theorem i_RuleName_pc (b0:Int)(r:ByteArray)(h:i_RuleName b0=some r):PC Tryz.prog 84 [int b0] (str r):=by
 unfold i_RuleName at h
 refine PC.start Tryz.func84 Tryz.ntmps84 rfl ok84 rfl ?_
 refine Run.sr (X.an ?_)
 refine Run.sr ?_
 refine X.buildArr zer154 arr154 (by rfl) (by rfl) (by repeat (first | trivial | refine ⟨by first | rfl | simp [setL],?_⟩)) (by rfl) (by rfl) (by rfl) ?_
 refine X.alloc zer154 (h:=?_)
 refine X.sl shp154 ?_
 refine X.nil (Run.seq (Run.sr (X.mv ?_)))
 obtain ⟨v1,hv1,h⟩:=bindE h
 refine X.cp (i_within_pc _ _ _ _ hv1) ?_
 refine X.un (h:=?_)
 refine X.nil ?_
 refine R.cd (fun hc2=>?_) (fun hc2=>?_)
 ·replace h:=condT hc2 h
  refine Run.sr (X.an ?_)
  cases h
  refine R.f1 Tryz.results84 ?_
  rfl
 replace h:=condF hc2 h
 refine Run.skip (Run.sr (X.mv ?_))
 obtain ⟨v3,hv3,h⟩:=bindE h
 refine X.index_a (m:=(b0).toNat) arr154 (by rfl) (by rfl) (Int.toNat_of_nonneg (idxL_spec hv3).1).symm (idxL_lt hv3) (by rfl) ?_
 refine X.load_l shp9 (by rfl) (by rfl) (by rfl) (loadK_dyn str hv3 (by rfl)) (by rfl) (by rfl) ?_
 refine X.an ?_
 cases h
 refine R.f1 Tryz.results84 ?_
 rfl
theorem i_Project_hasResource_pc (b0:TProject)(b1:Int)(r:Bool)(h:i_Project_hasResource b0 b1=some r):PC Tryz.prog 130 [eTProject b0,int b1] (bool r):=by
 unfold i_Project_hasResource at h
 refine PC.start Tryz.func130 Tryz.ntmps130 rfl ok130 rfl ?_
 refine Run.sr (X.bx ?_)
 refine X.an ?_
 refine Run.sr (X.mv ?_)
 refine X.fl fld36_3 ?_
 refine X.ld shp34 ?_
 refine X.ls elt34 ?_
 refine X.subW (h:=?_)
 obtain ⟨v1,hv1,h⟩:=bindE h
 refine X.cp (i_within_pc _ _ _ _ hv1) ?_
 refine X.an ?_
 cases h
 refine R.f1 Tryz.results130 ?_
 rfl
theorem i_IsMachine_pc (b0:TProject)(b1:Int)(r:Bool)(h:i_IsMachine b0 b1=some r):PC Tryz.prog 132 [eTProject b0,int b1] (bool r):=by
 unfold i_IsMachine at h
 refine PC.start Tryz.func132 Tryz.ntmps132 rfl ok132 rfl ?_
 refine Run.sr (X.bx ?_)
 refine X.an ?_
 refine Run.seq ?_
 obtain ⟨v1,hv1,h⟩:=bindE h
 obtain ⟨e2,he2,h2⟩:=bindE h
 refine R.regG [(4,bool e2)] [] ?_ ?_
 ·clear h;have h:=he2;clear he2 h2
  refine X.ld shp36 ?_
  refine X.mv ?_
  refine X.cp (i_Project_hasResource_pc _ _ _ hv1) ?_
  refine X.mv ?_
  refine X.iG (fun hb3=>?_) (fun hb3=>?_)
  ·replace h:=condT hb3 h
   refine X.fl fld36_3 ?_
   refine X.gy (X.ld shp34 ?_)
   refine X.gy (X.mv ?_)
   refine X.gy ?_
   obtain ⟨v4,hv4,h⟩:=bindE h
   refine X.ix elt34 (idxL_spec hv4).1 (idxL_map eTResource hv4) ?_
   refine X.gy (X.fieldAddr_c fld97_1 (by rfl) (by rfl) ?_)
   refine X.gy (X.lc shp76 ?_)
   refine X.gy (X.ls elt76 ?_)
   refine X.gy (X.bi ?_)
   refine X.pT ?_
   refine X.as ?_
   cases h
   exact X.eG
  replace h:=condF hb3 h
  refine X.gn (X.gn (X.gn (X.gn (X.gn (X.gn (X.gn (X.pF ?_)))))))
  refine X.as ?_
  cases h
  exact X.eG
 replace h:=h2;clear h2
 cases h
 refine R.f1 Tryz.results132 ?_
 rfl
theorem i_Project_hasStock_pc (b0:TProject)(b1:Int)(r:Bool)(h:i_Project_hasStock b0 b1=some r):PC Tryz.prog 133 [eTProject b0,int b1] (bool r):=by
 unfold i_Project_hasStock at h
 refine PC.start Tryz.func133 Tryz.ntmps133 rfl ok133 rfl ?_
 refine Run.sr (X.bx ?_)
 refine X.an ?_
 refine Run.sr (X.mv ?_)
 refine X.fl fld36_4 ?_
 refine X.ld shp25 ?_
 refine X.ls elt25 ?_
 refine X.subW (h:=?_)
 obtain ⟨v1,hv1,h⟩:=bindE h
 refine X.cp (i_within_pc _ _ _ _ hv1) ?_
 refine X.an ?_
 cases h
 refine R.f1 Tryz.results133 ?_
 rfl
theorem i_RuleOk_pc (b0:TProject)(b1:TRule)(r:Bool)(h:i_RuleOk b0 b1=some r):PC Tryz.prog 91 [eTProject b0,eTRule b1] (bool r):=by
 unfold i_RuleOk at h
 refine PC.start Tryz.func91 Tryz.ntmps91 rfl ok91 rfl ?_
 refine Run.sr (X.bx ?_)
 refine X.bx ?_
 refine X.an ?_
 refine Run.seq (Run.sr (X.ld shp36 ?_))
 obtain ⟨v1,hv1,h⟩:=bindE h
 refine X.cp (i_ProjectOk_pc _ _ hv1) ?_
 refine X.un (h:=?_)
 refine X.nil ?_
 refine R.cd (fun hc2=>?_) (fun hc2=>?_)
 ·replace h:=condT hc2 h
  refine Run.sr (X.an ?_)
  cases h
  refine R.f1 Tryz.results91 ?_
  rfl
 replace h:=condF hc2 h
 refine Run.skip (Run.seq (Run.sr (X.fl fld50_0 ?_)))
 refine X.ld shp3 ?_
 refine X.nil (Run.block (Run.sr (X.bi ?_)))
 refine X.an ?_
 refine R.cd (fun hc3=>?_) (fun hc3=>?_)
 ·replace h:=condT hc3 h
  refine Run.seq ?_
  obtain ⟨v4,hv4,h⟩:=bindE h
  obtain ⟨e5,he5,h2⟩:=bindE h
  refine R.regG [(4,bool e5)] [] ?_ ?_
  ·clear h;have h:=he5;clear he5 h2
   refine X.fl fld50_1 ?_
   refine X.ld shp3 ?_
   refine X.fl fld36_2 ?_
   refine X.ld shp33 ?_
   refine X.ls elt33 ?_
   refine X.subW (h:=?_)
   refine X.cp (i_within_pc _ _ _ _ hv4) ?_
   refine X.mv ?_
   refine X.iG (fun hb6=>?_) (fun hb6=>?_)
   ·replace h:=condT hb6 h
    refine X.fl fld50_2 ?_
    refine X.gy (X.ld shp3 ?_)
    refine X.gy (X.bi ?_)
    refine X.pT ?_
    refine X.mv ?_
    refine X.iG (fun hb7=>?_) (fun hb7=>?_)
    ·replace h:=condT hb7 h
     refine X.fl fld50_3 ?_
     refine X.gy (X.ld shp3 ?_)
     refine X.gy (X.bi ?_)
     refine X.pT ?_
     refine X.as ?_
     cases h
     exact X.eG
    replace h:=condF hb7 h
    refine X.gn (X.gn (X.pF ?_))
    refine X.as ?_
    cases h
    exact X.eG
   replace h:=condF hb6 h
   refine X.gn (X.gn (X.pF ?_))
   refine X.mv ?_
   refine X.gn (X.gn (X.gn (X.pF ?_)))
   refine X.as ?_
   cases h
   exact X.eG
  replace h:=h2;clear h2
  cases h
  refine R.f1 Tryz.results91 ?_
  rfl
 replace h:=condF hc3 h
 refine Run.sr (X.bi ?_)
 refine X.an ?_
 refine R.cd (fun hc8=>?_) (fun hc8=>?_)
 ·replace h:=condT hc8 h
  refine Run.seq ?_
  obtain ⟨v9,hv9,h⟩:=bindE h
  obtain ⟨e10,he10,h2⟩:=bindE h
  refine R.regG [(4,bool e10)] [] ?_ ?_
  ·clear h;have h:=he10;clear he10 h2
   refine X.ld shp36 ?_
   refine X.fl fld50_1 ?_
   refine X.ld shp3 ?_
   refine X.cp (i_Project_hasActivity_pc _ _ _ hv9) ?_
   refine X.mv ?_
   refine X.iG (fun hb11=>?_) (fun hb11=>?_)
   ·replace h:=condT hb11 h
    refine X.fl fld50_2 ?_
    refine X.gy (X.ld shp3 ?_)
    refine X.gy (X.bi ?_)
    refine X.pT ?_
    refine X.mv ?_
    refine X.iG (fun hb12=>?_) (fun hb12=>?_)
    ·replace h:=condT hb12 h
     refine X.fl fld50_3 ?_
     refine X.gy (X.ld shp3 ?_)
     refine X.gy (X.bi ?_)
     refine X.pT ?_
     refine X.as ?_
     cases h
     exact X.eG
    replace h:=condF hb12 h
    refine X.gn (X.gn (X.pF ?_))
    refine X.as ?_
    cases h
    exact X.eG
   replace h:=condF hb11 h
   refine X.gn (X.gn (X.pF ?_))
   refine X.mv ?_
   refine X.gn (X.gn (X.gn (X.pF ?_)))
   refine X.as ?_
   cases h
   exact X.eG
  replace h:=h2;clear h2
  cases h
  refine R.f1 Tryz.results91 ?_
  rfl
 replace h:=condF hc8 h
 refine Run.sr (X.bi ?_)
 refine X.an ?_
 refine R.cd (fun hc13=>?_) (fun hc13=>?_)
 ·replace h:=condT hc13 h
  refine Run.seq ?_
  obtain ⟨v14,hv14,h⟩:=bindE h
  obtain ⟨e15,he15,h2⟩:=bindE h
  refine R.regG [(4,bool e15)] [] ?_ ?_
  ·clear h;have h:=he15;clear he15 h2
   refine X.ld shp36 ?_
   refine X.fl fld50_1 ?_
   refine X.ld shp3 ?_
   refine X.cp (i_Project_hasResource_pc _ _ _ hv14) ?_
   refine X.mv ?_
   refine X.iG (fun hb16=>?_) (fun hb16=>?_)
   ·replace h:=condT hb16 h
    refine X.fl fld50_2 ?_
    refine X.gy (X.ld shp3 ?_)
    refine X.gy ?_
    obtain ⟨v17,hv17,h⟩:=bindE h
    refine X.cp (i_isTime_pc _ _ hv17) ?_
    refine X.pT ?_
    refine X.mv ?_
    refine X.iG (fun hb18=>?_) (fun hb18=>?_)
    ·replace h:=condT hb18 h
     refine X.fl fld50_3 ?_
     refine X.gy (X.ld shp3 ?_)
     refine X.gy (X.bi ?_)
     refine X.pT ?_
     refine X.as ?_
     cases h
     exact X.eG
    replace h:=condF hb18 h
    refine X.gn (X.gn (X.pF ?_))
    refine X.as ?_
    cases h
    exact X.eG
   replace h:=condF hb16 h
   refine X.gn (X.gn (X.pF ?_))
   refine X.mv ?_
   refine X.gn (X.gn (X.gn (X.pF ?_)))
   refine X.as ?_
   cases h
   exact X.eG
  replace h:=h2;clear h2
  cases h
  refine R.f1 Tryz.results91 ?_
  rfl
 replace h:=condF hc13 h
 refine Run.sr (X.bi ?_)
 refine X.an ?_
 refine R.cd (fun hc19=>?_) (fun hc19=>?_)
 ·replace h:=condT hc19 h
  refine Run.seq ?_
  obtain ⟨v20,hv20,h⟩:=bindE h
  obtain ⟨e21,he21,h2⟩:=bindE h
  refine R.regG [(4,bool e21)] [] ?_ ?_
  ·clear h;have h:=he21;clear he21 h2
   refine X.ld shp36 ?_
   refine X.fl fld50_1 ?_
   refine X.ld shp3 ?_
   refine X.cp (i_Project_hasResource_pc _ _ _ hv20) ?_
   refine X.mv ?_
   refine X.iG (fun hb22=>?_) (fun hb22=>?_)
   ·replace h:=condT hb22 h
    refine X.fl fld50_2 ?_
    refine X.gy (X.ld shp3 ?_)
    refine X.gy ?_
    obtain ⟨v23,hv23,h⟩:=bindE h
    refine X.cp (i_isTime_pc _ _ hv23) ?_
    refine X.pT ?_
    refine X.mv ?_
    refine X.iG (fun hb24=>?_) (fun hb24=>?_)
    ·replace h:=condT hb24 h
     refine X.fl fld50_3 ?_
     refine X.gy (X.ld shp3 ?_)
     refine X.gy ?_
     obtain ⟨v25,hv25,h⟩:=bindE h
     refine X.cp (i_isTime_pc _ _ hv25) ?_
     refine X.pT ?_
     refine X.mv ?_
     refine X.iG (fun hb26=>?_) (fun hb26=>?_)
     ·replace h:=condT hb26 h
      refine X.fl fld50_2 ?_
      refine X.gy (X.ld shp3 ?_)
      refine X.gy (X.fl fld50_3 ?_)
      refine X.gy (X.ld shp3 ?_)
      refine X.gy (X.bi ?_)
      refine X.pT ?_
      refine X.as ?_
      cases h
      exact X.eG
     replace h:=condF hb26 h
     refine X.gn (X.gn (X.gn (X.gn (X.pF ?_))))
     refine X.as ?_
     cases h
     exact X.eG
    replace h:=condF hb24 h
    refine X.gn (X.gn (X.pF ?_))
    refine X.mv ?_
    refine X.gn (X.gn (X.gn (X.gn (X.gn (X.pF ?_)))))
    refine X.as ?_
    cases h
    exact X.eG
   replace h:=condF hb22 h
   refine X.gn (X.gn (X.pF ?_))
   refine X.mv ?_
   refine X.gn (X.gn (X.gn (X.pF ?_)))
   refine X.mv ?_
   refine X.gn (X.gn (X.gn (X.gn (X.gn (X.pF ?_)))))
   refine X.as ?_
   cases h
   exact X.eG
  replace h:=h2;clear h2
  cases h
  refine R.f1 Tryz.results91 ?_
  rfl
 replace h:=condF hc19 h
 refine Run.sr (X.bi ?_)
 refine X.an ?_
 refine R.cd (fun hc27=>?_) (fun hc27=>?_)
 ·replace h:=condT hc27 h
  refine Run.seq ?_
  obtain ⟨v28,hv28,h⟩:=bindE h
  obtain ⟨e29,he29,h2⟩:=bindE h
  refine R.regG [(4,bool e29)] [] ?_ ?_
  ·clear h;have h:=he29;clear he29 h2
   refine X.ld shp36 ?_
   refine X.fl fld50_1 ?_
   refine X.ld shp3 ?_
   refine X.cp (i_IsMachine_pc _ _ _ hv28) ?_
   refine X.mv ?_
   refine X.iG (fun hb30=>?_) (fun hb30=>?_)
   ·replace h:=condT hb30 h
    refine X.ld shp36 ?_
    refine X.gy (X.fl fld50_2 ?_)
    refine X.gy (X.ld shp3 ?_)
    refine X.gy ?_
    obtain ⟨v31,hv31,h⟩:=bindE h
    refine X.cp (i_Project_hasActivity_pc _ _ _ hv31) ?_
    refine X.pT ?_
    refine X.mv ?_
    refine X.iG (fun hb32=>?_) (fun hb32=>?_)
    ·replace h:=condT hb32 h
     refine X.ld shp36 ?_
     refine X.gy (X.fl fld50_3 ?_)
     refine X.gy (X.ld shp3 ?_)
     refine X.gy ?_
     obtain ⟨v33,hv33,h⟩:=bindE h
     refine X.cp (i_Project_hasActivity_pc _ _ _ hv33) ?_
     refine X.pT ?_
     refine X.mv ?_
     refine X.iG (fun hb34=>?_) (fun hb34=>?_)
     ·replace h:=condT hb34 h
      refine X.fl fld50_2 ?_
      refine X.gy (X.ld shp3 ?_)
      refine X.gy (X.fl fld50_3 ?_)
      refine X.gy (X.ld shp3 ?_)
      refine X.gy (X.bi ?_)
      refine X.pT ?_
      refine X.as ?_
      cases h
      exact X.eG
     replace h:=condF hb34 h
     refine X.gn (X.gn (X.gn (X.gn (X.pF ?_))))
     refine X.as ?_
     cases h
     exact X.eG
    replace h:=condF hb32 h
    refine X.gn (X.gn (X.gn (X.pF ?_)))
    refine X.mv ?_
    refine X.gn (X.gn (X.gn (X.gn (X.gn (X.pF ?_)))))
    refine X.as ?_
    cases h
    exact X.eG
   replace h:=condF hb30 h
   refine X.gn (X.gn (X.gn (X.pF ?_)))
   refine X.mv ?_
   refine X.gn (X.gn (X.gn (X.gn (X.pF ?_))))
   refine X.mv ?_
   refine X.gn (X.gn (X.gn (X.gn (X.gn (X.pF ?_)))))
   refine X.as ?_
   cases h
   exact X.eG
  replace h:=h2;clear h2
  cases h
  refine R.f1 Tryz.results91 ?_
  rfl
 replace h:=condF hc27 h
 refine Run.sr (X.bi ?_)
 refine X.an ?_
 refine R.cd (fun hc35=>?_) (fun hc35=>?_)
 ·replace h:=condT hc35 h
  refine Run.seq ?_
  obtain ⟨v36,hv36,h⟩:=bindE h
  obtain ⟨e37,he37,h2⟩:=bindE h
  refine R.regG [(4,bool e37)] [] ?_ ?_
  ·clear h;have h:=he37;clear he37 h2
   refine X.ld shp36 ?_
   refine X.fl fld50_1 ?_
   refine X.ld shp3 ?_
   refine X.cp (i_Project_hasStock_pc _ _ _ hv36) ?_
   refine X.mv ?_
   refine X.iG (fun hb38=>?_) (fun hb38=>?_)
   ·replace h:=condT hb38 h
    refine X.fl fld50_2 ?_
    refine X.gy (X.ld shp3 ?_)
    refine X.gy (X.bi ?_)
    refine X.pT ?_
    refine X.mv ?_
    refine X.iG (fun hb39=>?_) (fun hb39=>?_)
    ·replace h:=condT hb39 h
     refine X.fl fld50_3 ?_
     refine X.gy (X.ld shp3 ?_)
     refine X.gy (X.bi ?_)
     refine X.pT ?_
     refine X.as ?_
     cases h
     exact X.eG
    replace h:=condF hb39 h
    refine X.gn (X.gn (X.pF ?_))
    refine X.as ?_
    cases h
    exact X.eG
   replace h:=condF hb38 h
   refine X.gn (X.gn (X.pF ?_))
   refine X.mv ?_
   refine X.gn (X.gn (X.gn (X.pF ?_)))
   refine X.as ?_
   cases h
   exact X.eG
  replace h:=h2;clear h2
  cases h
  refine R.f1 Tryz.results91 ?_
  rfl
 replace h:=condF hc35 h
 refine Run.skip (Run.blk (Run.sr (X.an ?_)))
 cases h
 refine R.f1 Tryz.results91 ?_
 rfl
theorem i_FormatRule_pc (b0:TProject)(b1:TRule)(r:ByteArray)(h:i_FormatRule b0 b1=some r):PC Tryz.prog 87 [eTProject b0,eTRule b1] (str r):=by
 unfold i_FormatRule at h
 refine PC.start Tryz.func87 Tryz.ntmps87 rfl ok87 rfl ?_
 refine Run.sr (X.bx ?_)
 refine X.bx ?_
 refine X.an ?_
 refine Run.seq (Run.sr (X.ld shp36 ?_))
 refine X.ld shp50 ?_
 obtain ⟨v1,hv1,h⟩:=bindE h
 refine X.cp (i_RuleOk_pc _ _ _ hv1) ?_
 refine X.un (h:=?_)
 refine X.nil ?_
 refine R.cd (fun hc2=>?_) (fun hc2=>?_)
 ·replace h:=condT hc2 h
  refine Run.sr (X.an ?_)
  cases h
  refine R.f1 Tryz.results87 ?_
  rfl
 replace h:=condF hc2 h
 refine Run.skip (Run.seq (Run.draw (footOf [(1,([192],[],[],[])),(4,([192],[],[],[])),(6,([1024],[1024],[],[]))]) mixed (by kernel_rfl) (by kernel_rfl) ?_))
 refine X.fl fld50_0 ?_
 refine X.ld shp3 ?_
 obtain ⟨v3,hv3,h⟩:=bindE h
 refine X.cp (i_RuleName_pc _ _ hv3) ?_
 refine X.fl fld50_1 ?_
 refine X.ld shp3 ?_
 obtain ⟨v4,hv4,h⟩:=bindE h
 refine X.cp (i_FormatInt_pc _ _ hv4) ?_
 refine X.buildSlice true elt47 zer9 (by rfl) (by rfl) (by rfl) (by rfl) (by rfl) (by rfl) (by repeat (first | trivial | refine ⟨by first | rfl | simp [setL],?_⟩)) (allSz_spec (by rfl)) (by rfl) (by rfl) (by rfl) ?_
 refine X.an ?_
 refine Run.seq (Run.sr (X.fl fld50_0 ?_))
 refine X.ld shp3 ?_
 refine X.nil (Run.block (Run.sr (X.bi ?_)))
 refine X.an ?_
 obtain ⟨o5,ho5,h⟩:=bindE h
 refine R.join2 (β:=(List ByteArray)) [] [] (fun p23 S=>(5,.own 1024 (p23.map str).length)::S) (fun p23 M=>(1024,.obj true 9 1 (p23.map str))::M) (fun p23=>p23=o5) ?_ ?_
 ·intro JJ8 hmeet7
  have hup6:=h;clear h;have h:=ho5;clear ho5
  refine R.cd (fun hc9=>?_) (fun hc9=>?_)
  ·replace h:=condT hc9 h
   refine Run.reg (X.mv ?_)
   refine X.fl fld36_1 ?_
   refine X.ld shp32 ?_
   refine X.fl fld50_1 ?_
   refine X.ld shp3 ?_
   obtain ⟨v10,hv10,h⟩:=bindE h
   refine X.ix elt32 (idxL_spec hv10).1 (idxL_map eTActivity hv10) ?_
   refine X.fieldAddr_c fld89_0 (by rfl) (by rfl) ?_
   refine X.lc shp9 ?_
   obtain ⟨v11,hv11,h⟩:=bindE h
   refine X.index_xs elt47 (by rfl) (by rfl) (by first | rfl | simp [setL] | omega) (by rfl) (by exact (Int.toNat_of_nonneg (idxL_spec hv11).1).symm) (by have:=idxL_lt hv11;first | exact this | (rw [List.length_map];exact this)) (by rfl) (by rfl) ?_
   refine X.store_es shp9 (by rfl) (by rfl) (by first | rfl | simp [setL] | omega) (idxL_map _ hv11) (by rfl) (by rfl) (by repeat (first | trivial | refine ⟨by first | rfl | simp [setL],?_⟩)) (by rfl) (by rfl) (by rfl) (by rfl) (by exact setL_map _ _ _ v10.Name) ?_
   refine X.nil (R.castS (t:=5) (.own 1024 ((setL ([v3,v4]:List ByteArray) 1 v10.Name).map str).length) (by rfl) (.inl (by first | rfl | simp [setL])) ?_)
   exact R.mt hmeet7 (setL ([v3,v4]:List ByteArray) 1 v10.Name) (Option.some.inj h)
  replace h:=condF hc9 h
  refine Run.sr (X.bi ?_)
  refine X.an ?_
  refine R.cd (fun hc12=>?_) (fun hc12=>?_)
  ·replace h:=condT hc12 h
   refine Run.reg (X.mv ?_)
   refine X.fl fld50_2 ?_
   refine X.ld shp3 ?_
   obtain ⟨v13,hv13,h⟩:=bindE h
   refine X.cp (i_FormatInt_pc _ _ hv13) ?_
   refine X.buildSlice false elt47 zer9 (by rfl) (by rfl) (by rfl) (by rfl) (by rfl) (by rfl) (by repeat (first | trivial | refine ⟨by first | rfl | simp [setL],?_⟩)) (allSz_spec (by rfl)) (by rfl) (by rfl) (by rfl) ?_
   obtain ⟨v14,hv14,h⟩:=bindE h
   refine X.append elt47 zer9 (by rfl) (by rfl) (by first | rfl | simp [setL] | omega) (by rfl) (.own _ _ _ _ _ _ (look_mem (by rfl)) (by first | rfl | simp [setL] | omega)) (allSz_spec (by rfl)) (appL_len str hv14) (appL_map str hv14) (by rfl) (by rfl) (by rfl) (by rfl) ?_
   refine X.an ?_
   exact R.mt hmeet7 v14 (Option.some.inj h)
  replace h:=condF hc12 h
  refine Run.sr (X.bi ?_)
  refine X.an ?_
  refine R.cd (fun hc15=>?_) (fun hc15=>?_)
  ·replace h:=condT hc15 h
   refine Run.draw (footOf [(2,([192],[],[],[])),(5,([192],[],[],[])),(7,([3008],[3008],[],[])),(8,([1024,3008],[1024],[],[]))]) mixed (by kernel_rfl) (by kernel_rfl) ?_
   refine X.mv ?_
   refine X.fl fld50_2 ?_
   refine X.ld shp3 ?_
   obtain ⟨v16,hv16,h⟩:=bindE h
   refine X.cp (i_FormatInt_pc _ _ hv16) ?_
   refine X.fl fld50_3 ?_
   refine X.ld shp3 ?_
   obtain ⟨v17,hv17,h⟩:=bindE h
   refine X.cp (i_FormatInt_pc _ _ hv17) ?_
   refine X.buildSlice false elt47 zer9 (by rfl) (by rfl) (by rfl) (by rfl) (by rfl) (by rfl) (by repeat (first | trivial | refine ⟨by first | rfl | simp [setL],?_⟩)) (allSz_spec (by rfl)) (by rfl) (by rfl) (by rfl) ?_
   obtain ⟨v18,hv18,h⟩:=bindE h
   refine X.append elt47 zer9 (by rfl) (by rfl) (by first | rfl | simp [setL] | omega) (by rfl) (.own _ _ _ _ _ _ (look_mem (by rfl)) (by first | rfl | simp [setL] | omega)) (allSz_spec (by rfl)) (appL_len str hv18) (appL_map str hv18) (by rfl) (by rfl) (by rfl) (by rfl) ?_
   refine X.an ?_
   exact R.mt hmeet7 v18 (Option.some.inj h)
  replace h:=condF hc15 h
  refine Run.sr (X.bi ?_)
  refine X.an ?_
  refine R.cd (fun hc19=>?_) (fun hc19=>?_)
  ·replace h:=condT hc19 h
   refine Run.draw (footOf [(2,([128],[],[],[])),(4,([192],[],[],[])),(9,([128],[],[],[])),(11,([192],[],[],[])),(15,([4224],[4224],[],[])),(16,([1024,4224],[1024],[],[]))]) mixed (by kernel_rfl) (by kernel_rfl) ?_
   refine X.mv ?_
   refine X.fl fld36_1 ?_
   refine X.ld shp32 ?_
   refine X.fl fld50_2 ?_
   refine X.ld shp3 ?_
   obtain ⟨v20,hv20,h⟩:=bindE h
   refine X.ix elt32 (idxL_spec hv20).1 (idxL_map eTActivity hv20) ?_
   refine X.fieldAddr_c fld89_0 (by rfl) (by rfl) ?_
   refine X.lc shp9 ?_
   refine X.fl fld36_1 ?_
   refine X.ld shp32 ?_
   refine X.fl fld50_3 ?_
   refine X.ld shp3 ?_
   obtain ⟨v21,hv21,h⟩:=bindE h
   refine X.ix elt32 (idxL_spec hv21).1 (idxL_map eTActivity hv21) ?_
   refine X.fieldAddr_c fld89_0 (by rfl) (by rfl) ?_
   refine X.lc shp9 ?_
   refine X.buildSlice false elt47 zer9 (by rfl) (by rfl) (by rfl) (by rfl) (by rfl) (by rfl) (by repeat (first | trivial | refine ⟨by first | rfl | simp [setL],?_⟩)) (allSz_spec (by rfl)) (by rfl) (by rfl) (by rfl) ?_
   obtain ⟨v22,hv22,h⟩:=bindE h
   refine X.append elt47 zer9 (by rfl) (by rfl) (by first | rfl | simp [setL] | omega) (by rfl) (.own _ _ _ _ _ _ (look_mem (by rfl)) (by first | rfl | simp [setL] | omega)) (allSz_spec (by rfl)) (appL_len str hv22) (appL_map str hv22) (by rfl) (by rfl) (by rfl) (by rfl) ?_
   refine X.an ?_
   exact R.mt hmeet7 v22 (Option.some.inj h)
  replace h:=condF hc19 h
  refine Run.skip ?_
  exact R.mt hmeet7 ([v3,v4]:List ByteArray) (Option.some.inj h)
 rintro p23 rfl
 refine Run.blk (Run.sr (X.mv ?_))
 obtain ⟨v24,hv24,h⟩:=bindE h
 refine X.callM [(63,1024)] (PC.lend (M0:=[(63,.obj true 9 1 (p23.map str))]) (strings_Join_pc _ _ _ hv24) (.lit _) (by rfl) (.own 63 _ _ _ _ _ _ _ (by rfl) (by first | rfl | simp [setL] | omega) (.same _ _ _ (by rfl) .nil))) (by rfl) (by rfl) (.ownB 63 (by rfl) (by first | rfl | simp [setL] | omega) (by rfl) (.pureB (by rfl) (by repeat (first | trivial | refine ⟨by first | rfl | simp [setL],?_⟩)) .nil)) (by rfl) ⟨rfl,rfl,⟨_,by rfl,by constructor⟩,by constructor,trivial⟩ (by rfl) (by rfl) (by rfl) (by rfl) (by rfl) (by rfl) (by rfl) (by rfl) (by rfl) ?_
 refine X.an ?_
 cases h
 refine R.f1 Tryz.results87 ?_
 rfl
theorem i_ParseRule_pc (b0:TProject)(b1:ByteArray)(r:TRule×Bool)(h:i_ParseRule b0 b1=some r):PC Tryz.prog 53 [eTProject b0,str b1] (.tuple [eTRule r.1,bool r.2]):=by
 unfold i_ParseRule at h
 refine PC.start Tryz.func53 Tryz.ntmps53 rfl ok53 rfl ?_
 refine Run.sr (X.bx ?_)
 refine X.alloc zer50 (h:=?_)
 refine X.an ?_
 refine Run.sr (X.mv ?_)
 obtain ⟨v1,hv1,h⟩:=bindE h
 refine X.callF (i_SplitAny_pc _ _ _ hv1) (by rfl) (by rfl) (by rfl) (by trivial) (by rfl) (by rfl) (by rfl) (by rfl) ?_
 refine X.an ?_
 refine Run.sr ?_
 refine X.build zer50 pl50 (by rfl) (by rfl) (by repeat (first | trivial | refine ⟨by first | rfl | simp [setL],?_⟩)) (by rfl) (by rfl) (by rfl) ?_
 refine X.buildArr zer131 arr131 (by rfl) (by rfl) (by repeat (first | trivial | refine ⟨by first | rfl | simp [setL],?_⟩)) (by rfl) (by rfl) (by rfl) ?_
 refine X.alloc zer50 (h:=?_)
 refine X.alloc zer131 (h:=?_)
 refine X.sl shp50 ?_
 refine X.sl shp131 ?_
 refine X.nil (Run.seq (Run.sr (X.an ?_)))
 obtain ⟨o2,ho2,h⟩:=bindE h
 refine R.join2 (β:=Int) [(1,str b1),(2,.lptr 128 0),(4,.lptr 256 0),(7,.lptr 448 0),(8,.lptr 512 0)] [(128,.blk true [int b0.Deadline,.slice (b0.Activities.map eTActivity),.slice (b0.Links.map eTLink),.slice (b0.Resources.map eTResource),.slice (b0.Stocks.map int)]),(256,.blk true [int 0,int 0,int 0,int 0]),(960,.obj false 9 1 (v1.map str)),(512,.blk true [int 0,int 0,int 0])] (fun p15 S=>(6,.own 960 (v1.map str).length)::S) (fun p15 M=>(448,.blk true [int p15,int 0,int 0,int 0])::M) (fun p15=>p15=o2) ?_ ?_
 ·intro JJ5 hmeet4
  have hup3:=h;clear h;have h:=ho2;clear ho2
  refine Run.block ?_
  refine R.lp (β:=Int×Int) [(1,str b1),(2,.lptr 128 0),(4,.lptr 256 0),(7,.lptr 448 0),(8,.lptr 512 0)] [(128,.blk true [int b0.Deadline,.slice (b0.Activities.map eTActivity),.slice (b0.Links.map eTLink),.slice (b0.Resources.map eTResource),.slice (b0.Stocks.map int)]),(256,.blk true [int 0,int 0,int 0,int 0]),(960,.obj false 9 1 (v1.map str)),(512,.blk true [int 0,int 0,int 0])] (fun bb S=>(6,.own 960 (v1.map str).length)::(9,int bb.1)::S) (fun bb M=>(448,.blk true [int bb.2,int 0,int 0,int 0])::M) (fun n bb=>i_ParseRule_L1 v1 n bb.1 bb.2=some o2) F0 (1,0) h ?_
  clear h
  rintro JJ5 n5 ⟨a7,a8⟩ hag5 h
  dsimp only at h
  obtain _ | n5:=n5
  ·exact absurd h (by simp [i_ParseRule_L1])
  rw [i_ParseRule_L1] at h
  refine Run.seq (Run.sr (X.mv ?_))
  refine X.bi ?_
  refine X.nil ?_
  refine R.cd (fun hc11=>?_) (fun hc11=>?_)
  ·replace h:=condT hc11 h
   refine Run.skip (Run.seq (Run.block (Run.seq (Run.draw (footOf [(3,([960],[],[],[]))]) mixed (by kernel_rfl) (by kernel_rfl) ?_))))
   refine X.mv ?_
   obtain ⟨v12,hv12,h⟩:=bindE h
   refine X.cp (i_RuleName_pc _ _ hv12) ?_
   refine X.mv ?_
   obtain ⟨v13,hv13,h⟩:=bindE h
   refine X.index_o elt47 (by rfl) (by rfl) (by first | rfl | simp [setL] | omega) (by rfl) (idxL_spec hv13).1 (idxL_map str hv13) (by rfl) (by rfl) (by rfl) ?_
   refine X.lc shp9 ?_
   refine X.bi ?_
   refine X.nil ?_
   refine R.cd (fun hc14=>?_) (fun hc14=>?_)
   ·replace h:=condT hc14 h
    refine Run.reg (X.mv ?_)
    refine X.fl fld50_0 ?_
    refine X.sl shp3 ?_
    refine X.nil (Run.blk (Run.reg (X.mv ?_)))
    refine X.addW (h:=?_)
    refine X.an ?_
    exact hag5 n5 ((W (a7+1)),a7) _ _ (by omega) h (by repeat (first | trivial | refine ⟨by first | rfl | simp [setL],?_⟩)) (by repeat (first | trivial | refine ⟨by first | rfl | simp [setL],?_⟩)) (by rfl) (by rfl)
   replace h:=condF hc14 h
   refine Run.skip (Run.blk (Run.reg (X.mv ?_)))
   refine X.addW (h:=?_)
   refine X.an ?_
   exact hag5 n5 ((W (a7+1)),a8) _ _ (by omega) h (by repeat (first | trivial | refine ⟨by first | rfl | simp [setL],?_⟩)) (by repeat (first | trivial | refine ⟨by first | rfl | simp [setL],?_⟩)) (by rfl) (by rfl)
  replace h:=condF hc11 h
  refine Run.exit (by rfl) ?_
  exact R.mt hmeet4 a8 (Option.some.inj h)
 rintro p15 rfl
 refine Run.seq (Run.sr (X.mv ?_))
 obtain ⟨v16,hv16,h⟩:=bindE h
 refine X.sliceO2 elt47 (by rfl) (by rfl) (by first | rfl | simp [setL] | omega) ⟨_,by rfl⟩ (by first | rfl | simp [Bound]) (subL_le _ hv16) (subL_map _ hv16) (by rfl) (by rfl) ?_
 refine X.ls elt47 ?_
 refine X.mn ?_
 obtain ⟨o17,ho17,h⟩:=bindE h
 refine R.join2 (β:=Int×Int×Int) [(1,str b1),(2,.lptr 128 0),(4,.lptr 256 0),(7,.lptr 448 0),(8,.lptr 512 0)] [(128,.blk true [int b0.Deadline,.slice (b0.Activities.map eTActivity),.slice (b0.Links.map eTLink),.slice (b0.Resources.map eTResource),.slice (b0.Stocks.map int)]),(256,.blk true [int 0,int 0,int 0,int 0]),(448,.blk true [int p15,int 0,int 0,int 0])] (fun p37 S=>S) (fun p37 M=>(512,.blk true [int p37.1,int p37.2.1,int p37.2.2])::M) (fun p37=>(Sum.inl p37)=o17) ?_ ?_
 ·intro JJ20 hmeet19
  have hup18:=h;clear h;have h:=ho17;clear ho17
  refine Run.block ?_
  refine R.bndS (t:=31) (by rfl) (fun hbd23=>?_)
  replace hbd23:v16.length≤9223372036854775807:=by first | (rw [List.length_map] at hbd23;exact hbd23) | simp
  refine R.lp (β:=Int×Int×Int×Int) [(1,str b1),(2,.lptr 128 0),(4,.lptr 256 0),(7,.lptr 448 0),(8,.lptr 512 0),(31,.slice (v16.map str)),(32,int (v16.length:Int))] [(128,.blk true [int b0.Deadline,.slice (b0.Activities.map eTActivity),.slice (b0.Links.map eTLink),.slice (b0.Resources.map eTResource),.slice (b0.Stocks.map int)]),(256,.blk true [int 0,int 0,int 0,int 0]),(448,.blk true [int p15,int 0,int 0,int 0])] (fun bb S=>(33,int bb.1)::S) (fun bb M=>(512,.blk true [int bb.2.1,int bb.2.2.1,int bb.2.2.2])::M) (fun n bb=>0≤bb.1∧bb.1+n=(v16.length:Int)∧i_ParseRule_L2 b0 (v16.drop bb.1.toNat) bb.1 bb.2.1 bb.2.2.1 bb.2.2.2=some o17) v16.length (0,0,0,0) ⟨Int.le_refl _,by simp,h⟩ ?_
  clear h
  rintro JJ23 n23 ⟨z24,a25,a26,a27⟩ hag23 ⟨hza23,hzb23,h⟩
  dsimp only at hza23 hzb23 h
  refine Run.sr (X.bi ?_)
  refine X.nil (Run.seq ?_)
  refine R.cd (fun hc30=>?_) (fun hc30=>?_)
  ·obtain ⟨x28,xs29,hd23,hx23,hds23,hlt23⟩:=drop_atI hza23 hc30
   rw [hd23] at h
   rw [i_ParseRule_L2] at h
   refine Run.skip (Run.seq (Run.block (Run.sr (X.mv ?_))))
   refine X.ix elt47 (idxL_spec hx23).1 (idxL_map str hx23) ?_
   refine X.lc shp9 ?_
   refine X.as ?_
   refine X.an ?_
   refine Run.seq (Run.sr (X.mv ?_))
   refine X.bi ?_
   refine X.nil ?_
   refine R.cd (fun hc31=>?_) (fun hc31=>?_)
   ·replace h:=condT hc31 h
    refine Run.sr ?_
    refine X.build zer50 pl50 (by rfl) (by rfl) (by repeat (first | trivial | refine ⟨by first | rfl | simp [setL],?_⟩)) (by rfl) (by rfl) (by rfl) ?_
    refine X.sl shp50 ?_
    refine X.an ?_
    cases h
    have h:=hup18
    replace h:=elimR h
    cases h
    refine R.finC2 Tryz.results53 shp50 (by rfl) (by rfl) (by rfl) (by rfl) (by rfl) (by rfl) (by repeat (first | trivial | refine ⟨by first | rfl | simp [setL],?_⟩)) ?_
    rfl
   replace h:=condF hc31 h
   refine Run.skip (Run.sr (X.mv ?_))
   obtain ⟨v32,hv32,h⟩:=bindE h
   refine X.callT (i_ParseInt_pc _ _ hv32) (by rfl) (by rfl) (by rfl) (by trivial) (by rfl) (by rfl) (by rfl) (by rfl) (by rfl) (by rfl) ?_
   refine X.mv ?_
   refine X.extract (h:=?_)
   refine X.extract (h:=?_)
   refine X.as ?_
   refine X.an ?_
   refine Run.seq (Run.sr (X.mv ?_))
   refine X.un (h:=?_)
   refine X.nil ?_
   refine R.cd (fun hc33=>?_) (fun hc33=>?_)
   ·replace h:=condT hc33 h
    refine Run.reg (X.ld shp36 ?_)
    refine X.mv ?_
    obtain ⟨v34,hv34,h⟩:=bindE h
    refine X.cp (i_ActivityIndex_pc _ _ _ hv34) ?_
    refine X.an ?_
    refine Run.reg (X.mv ?_)
    refine X.mv ?_
    obtain ⟨v35,hv35,h⟩:=bindE h
    refine X.index_a (m:=(z24).toNat) arr131 (by rfl) (by rfl) (Int.toNat_of_nonneg (idxL_spec hv35).1).symm (idxL_lt hv35) (by rfl) ?_
    refine X.store_l shp3 (by rfl) (by rfl) (by rfl) (by rfl) (by repeat (first | trivial | refine ⟨by first | rfl | simp [setL],?_⟩)) (by rfl) (splice3 int (idxL_spec hv35).1 (idxL_lt hv35)) (by rfl) ?_
    refine X.nil (Run.blk (Run.reg (X.ad ?_)))
    refine X.mn ?_
    exact R.ag hag23 (n23 - 1) (z24+1,(bif (z24 == 0) then v34 else a25),(bif (z24 == 1) then v34 else a26),(bif (z24 == 2) then v34 else a27)) (R.n3 (by first | (rw [hds23];exact h) | (dsimp only;rw [hds23];exact h)))
   replace h:=condF hc33 h
   refine Run.skip (Run.reg (X.mv ?_))
   refine X.mv ?_
   obtain ⟨v36,hv36,h⟩:=bindE h
   refine X.index_a (m:=(z24).toNat) arr131 (by rfl) (by rfl) (Int.toNat_of_nonneg (idxL_spec hv36).1).symm (idxL_lt hv36) (by rfl) ?_
   refine X.store_l shp3 (by rfl) (by rfl) (by rfl) (by rfl) (by repeat (first | trivial | refine ⟨by first | rfl | simp [setL],?_⟩)) (by rfl) (splice3 int (idxL_spec hv36).1 (idxL_lt hv36)) (by rfl) ?_
   refine X.nil (Run.blk (Run.reg (X.ad ?_)))
   refine X.mn ?_
   exact R.ag hag23 (n23 - 1) (z24+1,(bif (z24 == 0) then v32.1 else a25),(bif (z24 == 1) then v32.1 else a26),(bif (z24 == 2) then v32.1 else a27)) (R.n3 (by first | (rw [hds23];exact h) | (dsimp only;rw [hds23];exact h)))
  rw [drop_endI hza23 hc30] at h
  rw [i_ParseRule_L2] at h
  refine Run.exit (by rfl) ?_
  exact R.mt hmeet19 (a25,a26,a27) (Option.some.inj h)
 rintro p37 rfl
 replace h:=elimL h
 refine Run.seq (Run.draw2 (footOf [(1,([512],[],[],[])),(3,([512],[],[],[])),(5,([512],[],[],[])),(7,([448],[448],[],[])),(9,([448],[448],[],[])),(11,([448],[448],[],[]))]) mixed (by kernel_rfl) (by kernel_rfl) ?_)
 refine X.index_a (m:=0) arr131 (by rfl) (by rfl) (by rfl) (by decide) (by rfl) ?_
 refine X.ld shp3 ?_
 refine X.index_a (m:=1) arr131 (by rfl) (by rfl) (by rfl) (by decide) (by rfl) ?_
 refine X.ld shp3 ?_
 refine X.index_a (m:=2) arr131 (by rfl) (by rfl) (by rfl) (by decide) (by rfl) ?_
 refine X.ld shp3 ?_
 refine X.fl fld50_1 ?_
 refine X.sl shp3 ?_
 refine X.fl fld50_2 ?_
 refine X.sl shp3 ?_
 refine X.fl fld50_3 ?_
 refine X.sl shp3 ?_
 refine X.nil (Run.seq (Run.seq ?_))
 obtain ⟨e39,he39,h2⟩:=bindE h
 refine R.regG [(4,.lptr 256 0),(7,.lptr 448 0),(72,bool e39)] [(256,.blk true [int 0,int 0,int 0,int 0]),(448,.blk true [int p15,int p37.1,int p37.2.1,int p37.2.2])] ?_ ?_
 ·clear h;have h:=he39;clear he39 h2
  refine X.mv ?_
  refine X.bi ?_
  refine X.mv ?_
  refine X.iG (fun hb40=>?_) (fun hb40=>?_)
  ·replace h:=condF hb40 h
   refine X.ld shp36 ?_
   refine X.gy (X.ld shp50 ?_)
   refine X.gy ?_
   obtain ⟨v41,hv41,h⟩:=bindE h
   refine X.cp (i_FormatRule_pc _ _ _ hv41) ?_
   refine X.gy (X.mv ?_)
   refine X.gy (X.bi ?_)
   refine X.pF ?_
   cases h
   exact X.eG
  replace h:=condT hb40 h
  refine X.gn (X.gn (X.gn (X.gn (X.pT ?_))))
  cases h
  exact X.eG
 replace h:=h2;clear h2
 refine R.cd (fun hc42=>?_) (fun hc42=>?_)
 ·replace h:=condT hc42 h
  refine Run.sr ?_
  refine X.build zer50 pl50 (by rfl) (by rfl) (by repeat (first | trivial | refine ⟨by first | rfl | simp [setL],?_⟩)) (by rfl) (by rfl) (by rfl) ?_
  refine X.sl shp50 ?_
  refine X.an ?_
  cases h
  refine R.finC2 Tryz.results53 shp50 (by rfl) (by rfl) (by rfl) (by rfl) (by rfl) (by rfl) (by repeat (first | trivial | refine ⟨by first | rfl | simp [setL],?_⟩)) ?_
  rfl
 replace h:=condF hc42 h
 refine Run.skip (Run.sr (X.ld shp50 ?_))
 refine X.sl shp50 ?_
 refine X.an ?_
 cases h
 refine R.finC2 Tryz.results53 shp50 (by rfl) (by rfl) (by rfl) (by rfl) (by rfl) (by rfl) (by repeat (first | trivial | refine ⟨by first | rfl | simp [setL],?_⟩)) ?_
 rfl
theorem i_LineOk_pc (b0:TProject)(b1:TLine)(r:Bool)(h:i_LineOk b0 b1=some r):PC Tryz.prog 90 [eTProject b0,eTLine b1] (bool r):=by
 unfold i_LineOk at h
 refine PC.start Tryz.func90 Tryz.ntmps90 rfl ok90 rfl ?_
 refine Run.sr (X.bx ?_)
 refine X.bx ?_
 refine X.an ?_
 refine Run.seq ?_
 obtain ⟨v1,hv1,h⟩:=bindE h
 obtain ⟨e2,he2,h2⟩:=bindE h
 refine R.regG [(4,bool e2)] [] ?_ ?_
 ·clear h;have h:=he2;clear he2 h2
  refine X.ld shp36 ?_
  refine X.fl fld53_2 ?_
  refine X.ld shp51 ?_
  refine X.cp (i_ClauseOk_pc _ _ _ hv1) ?_
  refine X.mv ?_
  refine X.iG (fun hb3=>?_) (fun hb3=>?_)
  ·replace h:=condT hb3 h
   refine X.fl fld53_0 ?_
   refine X.gy (X.ld shp3 ?_)
   refine X.gy (X.bi ?_)
   refine X.gy (X.mv ?_)
   refine X.iG (fun hb4=>?_) (fun hb4=>?_)
   ·replace h:=condF hb4 h
    refine X.fl fld53_0 ?_
    refine X.gy (X.ld shp3 ?_)
    refine X.gy (X.bi ?_)
    refine X.gy (X.mv ?_)
    refine X.iG (fun hb5=>?_) (fun hb5=>?_)
    ·replace h:=condT hb5 h
     refine X.fl fld53_1 ?_
     refine X.gy (X.ld shp50 ?_)
     refine X.gy ?_
     refine X.build zer50 pl50 (by rfl) (by rfl) (by repeat (first | trivial | refine ⟨by first | rfl | simp [setL],?_⟩)) (by rfl) (by rfl) (by rfl) ?_
     refine X.gy (X.eqlAgg flat50 (by rfl) (by rfl) (by rfl) (by rfl) ?_)
     refine X.gy (X.pT ?_)
     refine X.gy (X.pF ?_)
     refine X.pT ?_
     refine X.as ?_
     cases h
     exact X.eG
    replace h:=condF hb5 h
    refine X.gn (X.gn (X.gn (X.gy (X.pF ?_))))
    refine X.gy (X.pF ?_)
    refine X.pT ?_
    refine X.as ?_
    cases h
    exact X.eG
   replace h:=condT hb4 h
   refine X.gn (X.gn (X.gn (X.gU (h:=?_))))
   refine X.gU (h:=?_)
   refine X.gU (h:=?_)
   refine X.gU (h:=?_)
   refine X.gn (X.gy (X.pT ?_))
   refine X.pT ?_
   refine X.as ?_
   cases h
   exact X.eG
  replace h:=condF hb3 h
  refine X.gn (X.gn (X.gn (X.gU (h:=?_))))
  refine X.gU (h:=?_)
  refine X.gU (h:=?_)
  refine X.gU (h:=?_)
  refine X.gU (h:=?_)
  refine X.gU (h:=?_)
  refine X.gU (h:=?_)
  refine X.gU (h:=?_)
  refine X.gU (h:=?_)
  refine X.gn (X.pF ?_)
  refine X.as ?_
  cases h
  exact X.eG
 replace h:=h2;clear h2
 cases h
 refine R.f1 Tryz.results90 ?_
 rfl
theorem i_FormatLine_pc (b0:TProject)(b1:TLine)(r:ByteArray)(h:i_FormatLine b0 b1=some r):PC Tryz.prog 55 [eTProject b0,eTLine b1] (str r):=by
 unfold i_FormatLine at h
 refine PC.start Tryz.func55 Tryz.ntmps55 rfl ok55 rfl ?_
 refine Run.sr (X.bx ?_)
 refine X.bx ?_
 refine X.an ?_
 refine Run.seq (Run.seq ?_)
 obtain ⟨v1,hv1,h⟩:=bindE h
 obtain ⟨e2,he2,h2⟩:=bindE h
 refine R.regG [(2,.lptr 128 0),(3,.lptr 192 0),(14,bool e2)] [(128,.blk true [int b0.Deadline,.slice (b0.Activities.map eTActivity),.slice (b0.Links.map eTLink),.slice (b0.Resources.map eTResource),.slice (b0.Stocks.map int)]),(192,.blk true [int b1.Kind,int b1.Rule.Kind,int b1.Rule.A,int b1.Rule.B,int b1.Rule.C,.slice (b1.Clause.map eTLiteral)])] ?_ ?_
 ·clear h;have h:=he2;clear he2 h2
  refine X.ld shp36 ?_
  refine X.cp (i_ProjectOk_pc _ _ hv1) ?_
  refine X.un (h:=?_)
  refine X.mv ?_
  refine X.iG (fun hb3=>?_) (fun hb3=>?_)
  ·replace h:=condF hb3 h
   refine X.ld shp36 ?_
   refine X.gy (X.ld shp53 ?_)
   refine X.gy ?_
   obtain ⟨v4,hv4,h⟩:=bindE h
   refine X.cp (i_LineOk_pc _ _ _ hv4) ?_
   refine X.gy (X.un (h:=?_))
   refine X.pF ?_
   cases h
   exact X.eG
  replace h:=condT hb3 h
  refine X.gn (X.gn (X.gn (X.pT ?_)))
  cases h
  exact X.eG
 replace h:=h2;clear h2
 refine R.cd (fun hc5=>?_) (fun hc5=>?_)
 ·replace h:=condT hc5 h
  refine Run.sr (X.an ?_)
  cases h
  refine R.f1 Tryz.results55 ?_
  rfl
 replace h:=condF hc5 h
 refine Run.skip (Run.seq (Run.sr (X.fl fld53_0 ?_)))
 refine X.ld shp3 ?_
 refine X.bi ?_
 refine X.nil ?_
 refine R.cd (fun hc6=>?_) (fun hc6=>?_)
 ·replace h:=condT hc6 h
  refine Run.sr (X.ld shp36 ?_)
  refine X.fl fld53_2 ?_
  refine X.ld shp51 ?_
  obtain ⟨v7,hv7,h⟩:=bindE h
  refine X.cp (i_FormatClause_pc _ _ _ hv7) ?_
  obtain ⟨v8,hv8,h⟩:=bindE h
  refine X.cat2 hv8 (by rfl) (by rfl) (by rfl) ?_
  refine X.an ?_
  cases h
  refine R.f1 Tryz.results55 ?_
  rfl
 replace h:=condF hc6 h
 refine Run.skip (Run.sr (X.an ?_))
 refine Run.seq (Run.sr (X.ld shp36 ?_))
 refine X.fl fld53_1 ?_
 refine X.ld shp50 ?_
 obtain ⟨v9,hv9,h⟩:=bindE h
 refine X.cp (i_RuleOk_pc _ _ _ hv9) ?_
 refine X.nil ?_
 obtain ⟨o10,ho10,h⟩:=bindE h
 refine R.join2 (β:=ByteArray) [(2,.lptr 128 0),(3,.lptr 192 0)] [(128,.blk true [int b0.Deadline,.slice (b0.Activities.map eTActivity),.slice (b0.Links.map eTLink),.slice (b0.Resources.map eTResource),.slice (b0.Stocks.map int)]),(192,.blk true [int b1.Kind,int b1.Rule.Kind,int b1.Rule.A,int b1.Rule.B,int b1.Rule.C,.slice (b1.Clause.map eTLiteral)])] (fun p17 S=>(5,str p17)::S) (fun p17 M=>M) (fun p17=>p17=o10) ?_ ?_
 ·intro JJ13 hmeet12
  have hup11:=h;clear h;have h:=ho10;clear ho10
  refine R.cd (fun hc14=>?_) (fun hc14=>?_)
  ·replace h:=condT hc14 h
   refine Run.reg (X.ld shp36 ?_)
   refine X.fl fld53_1 ?_
   refine X.ld shp50 ?_
   obtain ⟨v15,hv15,h⟩:=bindE h
   refine X.cp (i_FormatRule_pc _ _ _ hv15) ?_
   obtain ⟨v16,hv16,h⟩:=bindE h
   refine X.cp (strings_ReplaceAll_pc _ _ _ _ hv16) ?_
   refine X.an ?_
   exact R.mt hmeet12 v16 (Option.some.inj h)
  replace h:=condF hc14 h
  refine Run.skip ?_
  exact R.mt hmeet12 (⟨#[110,111,110,101]⟩:ByteArray) (Option.some.inj h)
 rintro p17 rfl
 refine Run.sr (X.mv ?_)
 obtain ⟨v18,hv18,h⟩:=bindE h
 refine X.cat2 hv18 (by rfl) (by rfl) (by rfl) ?_
 obtain ⟨v19,hv19,h⟩:=bindE h
 refine X.cat2 hv19 (by rfl) (by rfl) (by rfl) ?_
 refine X.ld shp36 ?_
 refine X.fl fld53_2 ?_
 refine X.ld shp51 ?_
 obtain ⟨v20,hv20,h⟩:=bindE h
 refine X.cp (i_FormatClause_pc _ _ _ hv20) ?_
 obtain ⟨v21,hv21,h⟩:=bindE h
 refine X.cat2 hv21 (by rfl) (by rfl) (by rfl) ?_
 refine X.an ?_
 cases h
 refine R.f1 Tryz.results55 ?_
 rfl
theorem i_ParseLine_pc (b0:TProject)(b1:ByteArray)(r:TLine×Bool)(h:i_ParseLine b0 b1=some r):PC Tryz.prog 25 [eTProject b0,str b1] (.tuple [.agg [int r.1.Kind,int r.1.Rule.Kind,int r.1.Rule.A,int r.1.Rule.B,int r.1.Rule.C,.fresh true 114 3 (r.1.Clause.map eTLiteral)],bool r.2]):=by
 unfold i_ParseLine at h
 refine PC.start Tryz.func25 Tryz.ntmps25 rfl ok25 rfl ?_
 refine Run.sr (X.bx ?_)
 refine X.alloc zer53 (h:=?_)
 refine X.an ?_
 refine Run.sr (X.mv ?_)
 obtain ⟨v1,hv1,h⟩:=bindE h
 refine X.callT (strings_Cut_pc _ _ _ hv1) (by rfl) (by rfl) (by rfl) (by trivial) (by rfl) (by rfl) (by rfl) (by rfl) (by rfl) (by rfl) ?_
 refine X.mv ?_
 refine X.extract (h:=?_)
 refine X.extract (h:=?_)
 refine X.extract (h:=?_)
 refine X.as ?_
 refine X.as ?_
 refine X.an ?_
 refine Run.sr (X.ld shp36 ?_)
 refine X.mv ?_
 obtain ⟨v2,hv2,h⟩:=bindE h
 refine X.callT (i_ParseClause_pc _ _ _ hv2) (by rfl) (by rfl) (by rfl) (by trivial) (by rfl) (by rfl) (by rfl) (by rfl) (by rfl) (by rfl) ?_
 refine X.mv ?_
 refine X.extract (h:=?_)
 refine X.extract (h:=?_)
 refine X.as ?_
 refine X.an ?_
 refine Run.seq (Run.seq ?_)
 obtain ⟨e3,he3,h2⟩:=bindE h
 refine R.regG [(1,str b1),(2,.lptr 128 0),(4,.lptr 256 0),(6,str v1.1),(9,.own 1472 (v2.1.map eTLiteral).length),(31,bool e3)] [(128,.blk true [int b0.Deadline,.slice (b0.Activities.map eTActivity),.slice (b0.Links.map eTLink),.slice (b0.Resources.map eTResource),.slice (b0.Stocks.map int)]),(256,.blk true [int 0,int 0,int 0,int 0,int 0,.nils]),(1472,.obj true 114 3 (v2.1.map eTLiteral))] ?_ ?_
 ·clear h;have h:=he3;clear he3 h2
  refine X.mv ?_
  refine X.un (h:=?_)
  refine X.mv ?_
  refine X.iG (fun hb4=>?_) (fun hb4=>?_)
  ·replace h:=condF hb4 h
   refine X.mv ?_
   refine X.gy (X.un (h:=?_))
   refine X.pF ?_
   cases h
   exact X.eG
  replace h:=condT hb4 h
  refine X.gn (X.pT ?_)
  cases h
  exact X.eG
 replace h:=h2;clear h2
 refine R.cd (fun hc5=>?_) (fun hc5=>?_)
 ·replace h:=condT hc5 h
  refine Run.sr ?_
  refine X.build zer53 pl53 (by rfl) (by rfl) (by repeat (first | trivial | refine ⟨by first | rfl | simp [setL],?_⟩)) (by rfl) (by rfl) (by rfl) ?_
  refine X.sl shp53 ?_
  refine X.an ?_
  cases h
  refine R.nilOwnB (m:=256) 5 301 true 114 3 (by rfl) (by rfl) (by rfl) (by rfl) (by rfl) ?_
  refine R.finC2 Tryz.results25 shp53 (by rfl) (by rfl) (by rfl) (by rfl) (by rfl) (by rfl) (by repeat (first | trivial | refine ⟨by first | rfl | simp [setL],?_⟩)) ?_
  rfl
 replace h:=condF hc5 h
 refine Run.skip (Run.sr (X.mv ?_))
 refine X.build zer53 pl53 (by rfl) (by rfl) (by repeat (first | trivial | refine ⟨by first | rfl | simp [setL],?_⟩)) (by rfl) (by rfl) (by rfl) ?_
 refine X.alloc zer53 (h:=?_)
 refine X.sl shp53 ?_
 refine X.nil (Run.seq (Run.sr (X.mv ?_)))
 obtain ⟨v6,hv6,h⟩:=bindE h
 refine X.callT (strings_CutPrefix_pc _ _ _ hv6) (by rfl) (by rfl) (by rfl) (by trivial) (by rfl) (by rfl) (by rfl) (by rfl) (by rfl) (by rfl) ?_
 refine X.mv ?_
 refine X.extract (h:=?_)
 refine X.extract (h:=?_)
 refine X.as ?_
 refine X.an ?_
 refine Run.sr (X.mn ?_)
 obtain ⟨o7,ho7,h⟩:=bindE h
 refine R.join2 (β:=Int×Int×Int×Int×Int) [(1,str b1),(2,.lptr 128 0),(4,.lptr 256 0),(11,.lptr 704 0)] [(128,.blk true [int b0.Deadline,.slice (b0.Activities.map eTActivity),.slice (b0.Links.map eTLink),.slice (b0.Resources.map eTResource),.slice (b0.Stocks.map int)]),(256,.blk true [int 0,int 0,int 0,int 0,int 0,.nils]),(1472,.obj true 114 3 (v2.1.map eTLiteral))] (fun p15 S=>S) (fun p15 M=>(704,.blk true [int p15.1,int p15.2.1,int p15.2.2.1,int p15.2.2.2.1,int p15.2.2.2.2,.own 1472 (v2.1.map eTLiteral).length])::M) (fun p15=>p15=o7) ?_ ?_
 ·intro JJ10 hmeet9
  have hup8:=h;clear h;have h:=ho7;clear ho7
  refine R.cd (fun hc11=>?_) (fun hc11=>?_)
  ·replace h:=condT hc11 h
   refine Run.sr (X.fl fld53_0 ?_)
   refine X.sl shp3 ?_
   refine X.nil (Run.sr (X.mv ?_))
   refine X.bi ?_
   refine X.nil ?_
   refine R.cd (fun hc12=>?_) (fun hc12=>?_)
   ·replace h:=condT hc12 h
    refine Run.draw (footOf [(0,([128],[],[],[])),(8,([704],[704],[],[]))]) mixed (by kernel_rfl) (by kernel_rfl) ?_
    refine X.ld shp36 ?_
    refine X.mv ?_
    obtain ⟨v13,hv13,h⟩:=bindE h
    refine X.cp (strings_ReplaceAll_pc _ _ _ _ hv13) ?_
    obtain ⟨v14,hv14,h⟩:=bindE h
    refine X.callT2 (i_ParseRule_pc _ _ _ hv14) (by rfl) (by rfl) (by rfl) (by trivial) (by rfl) (by rfl) (by rfl) (by rfl) (by rfl) (by rfl) ?_
    refine X.mv ?_
    refine X.extract (h:=?_)
    refine X.extract (h:=?_)
    refine X.fl fld53_1 ?_
    refine X.sl shp50 ?_
    refine X.nil ?_
    exact R.mt hmeet9 (1,v14.1.Kind,v14.1.A,v14.1.B,v14.1.C) (Option.some.inj h)
   replace h:=condF hc12 h
   refine Run.skip ?_
   exact R.mt hmeet9 (1,0,0,0,0) (Option.some.inj h)
  replace h:=condF hc11 h
  refine Run.skip ?_
  exact R.mt hmeet9 (2,0,0,0,0) (Option.some.inj h)
 rintro p15 rfl
 refine Run.seq (Run.sr (X.ld shp36 ?_))
 refine X.ld shp53 ?_
 obtain ⟨v16,hv16,h⟩:=bindE h
 refine X.callM [(13183,1472)] (PC.lend (M0:=[(13183,.obj true 114 3 (v2.1.map eTLiteral))]) (i_FormatLine_pc _ _ _ hv16) (.lit _) (by rfl) (.agg _ _ _ _ (.same _ _ _ (by rfl) (.same _ _ _ (by rfl) (.same _ _ _ (by rfl) (.same _ _ _ (by rfl) (.same _ _ _ (by rfl) .nil))))) (.agg _ _ _ _ (.same _ _ _ (by rfl) (.same _ _ _ (by rfl) (.same _ _ _ (by rfl) (.same _ _ _ (by rfl) (.same _ _ _ (by rfl) (.own 13183 _ _ _ _ _ _ _ (by rfl) (by first | rfl | simp [setL] | omega) .nil)))))) .nil))) (by rfl) (by rfl) (.pureB (by rfl) (by repeat (first | trivial | refine ⟨by first | rfl | simp [setL],?_⟩)) (.agg _ _ _ _ _ _ (.pureB (by rfl) (by repeat (first | trivial | refine ⟨by first | rfl | simp [setL],?_⟩)) (.pureB (by rfl) (by repeat (first | trivial | refine ⟨by first | rfl | simp [setL],?_⟩)) (.pureB (by rfl) (by repeat (first | trivial | refine ⟨by first | rfl | simp [setL],?_⟩)) (.pureB (by rfl) (by repeat (first | trivial | refine ⟨by first | rfl | simp [setL],?_⟩)) (.pureB (by rfl) (by repeat (first | trivial | refine ⟨by first | rfl | simp [setL],?_⟩)) (.ownB 13183 (by rfl) (by first | rfl | simp [setL] | omega) (by rfl) .nil)))))) .nil)) (by rfl) ⟨rfl,rfl,⟨_,by rfl,by constructor⟩,by constructor,trivial⟩ (by rfl) (by rfl) (by rfl) (by rfl) (by rfl) (by rfl) (by rfl) (by rfl) (by rfl) ?_
 refine X.mv ?_
 refine X.bi ?_
 refine X.nil ?_
 refine R.cd (fun hc17=>?_) (fun hc17=>?_)
 ·replace h:=condT hc17 h
  refine Run.sr ?_
  refine X.build zer53 pl53 (by rfl) (by rfl) (by repeat (first | trivial | refine ⟨by first | rfl | simp [setL],?_⟩)) (by rfl) (by rfl) (by rfl) ?_
  refine X.sl shp53 ?_
  refine X.an ?_
  cases h
  refine R.nilOwnB (m:=256) 5 301 true 114 3 (by rfl) (by rfl) (by rfl) (by rfl) (by rfl) ?_
  refine R.finC2 Tryz.results25 shp53 (by rfl) (by rfl) (by rfl) (by rfl) (by rfl) (by rfl) (by repeat (first | trivial | refine ⟨by first | rfl | simp [setL],?_⟩)) ?_
  rfl
 replace h:=condF hc17 h
 refine Run.skip (Run.sr (X.ld shp53 ?_))
 refine X.sl shp53 ?_
 refine X.an ?_
 cases h
 refine R.finC2 Tryz.results25 shp53 (by rfl) (by rfl) (by rfl) (by rfl) (by rfl) (by rfl) (by repeat (first | trivial | refine ⟨by first | rfl | simp [setL],?_⟩)) ?_
 rfl
theorem i_FormatProof_pc (b0:TProject)(b1:List TLine)(r:ByteArray)(h:i_FormatProof b0 b1=some r):PC Tryz.prog 26 [eTProject b0,.slice (b1.map eTLine)] (str r):=by
 unfold i_FormatProof at h
 refine PC.start Tryz.func26 Tryz.ntmps26 rfl ok26 rfl ?_
 refine Run.sr (X.bx ?_)
 refine X.an ?_
 refine Run.sr (X.an ?_)
 refine Run.seq (Run.sr (X.mv ?_))
 refine X.ls elt29 ?_
 refine X.mn ?_
 obtain ⟨o1,ho1,h⟩:=bindE h
 refine R.join2 (β:=ByteArray) [] [] (fun p17 S=>(5,str p17)::S) (fun p17 M=>M) (fun p17=>(Sum.inl p17)=o1) ?_ ?_
 ·intro JJ4 hmeet3
  have hup2:=h;clear h;have h:=ho1;clear ho1
  refine Run.block ?_
  refine R.bndS (t:=1) (by rfl) (fun hbd7=>?_)
  replace hbd7:b1.length≤9223372036854775807:=by first | (rw [List.length_map] at hbd7;exact hbd7) | simp
  refine R.lp (β:=Int×ByteArray) [(2,.lptr 128 0),(9,.slice (b1.map eTLine)),(10,int (b1.length:Int))] [(128,.blk true [int b0.Deadline,.slice (b0.Activities.map eTActivity),.slice (b0.Links.map eTLink),.slice (b0.Resources.map eTResource),.slice (b0.Stocks.map int)])] (fun bb S=>(5,str bb.2)::(11,int bb.1)::S) (fun bb M=>M) (fun n bb=>0≤bb.1∧bb.1+n=(b1.length:Int)∧i_FormatProof_L1 b0 (b1.drop bb.1.toNat) bb.1 bb.2=some o1) b1.length (0,ByteArray.empty) ⟨Int.le_refl _,by simp,h⟩ ?_
  clear h
  rintro JJ7 n7 ⟨z8,a9⟩ hag7 ⟨hza7,hzb7,h⟩
  dsimp only at hza7 hzb7 h
  refine Run.sr (X.bi ?_)
  refine X.nil (Run.seq ?_)
  refine R.cd (fun hc12=>?_) (fun hc12=>?_)
  ·obtain ⟨x10,xs11,hd7,hx7,hds7,hlt7⟩:=drop_atI hza7 hc12
   rw [hd7] at h
   rw [i_FormatProof_L1] at h
   refine Run.skip (Run.seq (Run.block (Run.sr (X.ix elt29 (idxL_spec hx7).1 (idxL_map eTLine hx7) ?_))))
   refine X.lc shp53 ?_
   refine X.alloc zer53 (h:=?_)
   refine X.sl shp53 ?_
   refine X.nil (Run.sr (X.ld shp36 ?_))
   refine X.ld shp53 ?_
   obtain ⟨v13,hv13,h⟩:=bindE h
   refine X.cp (i_FormatLine_pc _ _ _ hv13) ?_
   refine X.an ?_
   refine Run.seq (Run.sr (X.mv ?_))
   refine X.bi ?_
   refine X.nil ?_
   refine R.cd (fun hc14=>?_) (fun hc14=>?_)
   ·replace h:=condT hc14 h
    refine Run.sr (X.an ?_)
    cases h
    have h:=hup2
    replace h:=elimR h
    cases h
    refine R.f1 Tryz.results26 ?_
    rfl
   replace h:=condF hc14 h
   refine Run.skip (Run.reg (X.mv ?_))
   refine X.mv ?_
   obtain ⟨v15,hv15,h⟩:=bindE h
   refine X.cat2 hv15 (by rfl) (by rfl) (by rfl) ?_
   obtain ⟨v16,hv16,h⟩:=bindE h
   refine X.cat2 hv16 (by rfl) (by rfl) (by rfl) ?_
   refine X.an ?_
   refine Run.blk (Run.reg (X.ad ?_))
   refine X.mn ?_
   exact R.ag hag7 (n7 - 1) (z8+1,v16) (R.n3 (by first | (rw [hds7];exact h) | (dsimp only;rw [hds7];exact h)))
  rw [drop_endI hza7 hc12] at h
  rw [i_FormatProof_L1] at h
  refine Run.exit (by rfl) ?_
  exact R.mt hmeet3 a9 (Option.some.inj h)
 rintro p17 rfl
 replace h:=elimL h
 refine Run.sr (X.mv ?_)
 refine X.an ?_
 cases h
 refine R.f1 Tryz.results26 ?_
 rfl
theorem i_ParseProof_pc (b0:TProject)(b1:ByteArray)(r:(List TLine)×Bool)(h:i_ParseProof b0 b1=some r):PC Tryz.prog 7 [eTProject b0,str b1] (.tuple [.tre 53 6 (r.1.map tTLine),bool r.2]):=by
 unfold i_ParseProof at h
 refine PC.start Tryz.func7 Tryz.ntmps7 rfl ok7 rfl ?_
 refine Run.sr (X.bx ?_)
 refine X.as ?_
 refine X.an ?_
 refine Run.seq (Run.region ?_)
 refine Run.buildT0 elt29 (by rfl) zer53 (by rfl) (by rfl) (by rfl) ?_
 refine Run.aso ?_
 refine Run.nil (Run.seq (Run.sr (X.mv ?_)))
 obtain ⟨v1,hv1,h⟩:=bindE h
 refine X.cp (i_SplitLines_pc _ _ hv1) ?_
 refine X.ls elt47 ?_
 refine X.mn ?_
 obtain ⟨o2,ho2,h⟩:=bindE h
 refine R.join2 (β:=(List TLine)) [(1,str b1),(2,.lptr 128 0)] [(128,.blk true [int b0.Deadline,.slice (b0.Activities.map eTActivity),.slice (b0.Links.map eTLink),.slice (b0.Resources.map eTResource),.slice (b0.Stocks.map int)])] (fun p17 S=>(6,.tref 704 (p17.map tTLine).length .out)::S) (fun p17 M=>(704,.tre 53 6 (p17.map tTLine))::M) (fun p17=>(Sum.inl p17)=o2) ?_ ?_
 ·intro JJ5 hmeet4
  have hup3:=h;clear h;have h:=ho2;clear ho2
  refine Run.block ?_
  refine R.bndS (t:=13) (by rfl) (fun hbd8=>?_)
  replace hbd8:v1.length≤9223372036854775807:=by first | (rw [List.length_map] at hbd8;exact hbd8) | simp
  refine R.lp (β:=Int×(List TLine)) [(1,str b1),(2,.lptr 128 0),(13,.slice (v1.map str)),(14,int (v1.length:Int))] [(128,.blk true [int b0.Deadline,.slice (b0.Activities.map eTActivity),.slice (b0.Links.map eTLink),.slice (b0.Resources.map eTResource),.slice (b0.Stocks.map int)])] (fun bb S=>(6,.tref 704 (bb.2.map tTLine).length .out)::(15,int bb.1)::S) (fun bb M=>(704,.tre 53 6 (bb.2.map tTLine))::M) (fun n bb=>0≤bb.1∧bb.1+n=(v1.length:Int)∧i_ParseProof_L1 b0 (v1.drop bb.1.toNat) bb.1 bb.2=some o2) v1.length (0,([]:List TLine)) ⟨Int.le_refl _,by simp,h⟩ ?_
  clear h
  rintro JJ8 n8 ⟨z9,a10⟩ hag8 ⟨hza8,hzb8,h⟩
  dsimp only at hza8 hzb8 h
  refine Run.sr (X.bi ?_)
  refine X.nil (Run.seq ?_)
  refine R.cd (fun hc13=>?_) (fun hc13=>?_)
  ·obtain ⟨x11,xs12,hd8,hx8,hds8,hlt8⟩:=drop_atI hza8 hc13
   rw [hd8] at h
   rw [i_ParseProof_L1] at h
   refine Run.skip (Run.seq (Run.block (Run.sr (X.ix elt47 (idxL_spec hx8).1 (idxL_map str hx8) ?_))))
   refine X.lc shp9 ?_
   refine X.an ?_
   refine Run.sr (X.ld shp36 ?_)
   refine X.mv ?_
   obtain ⟨v14,hv14,h⟩:=bindE h
   refine X.callT2 (i_ParseLine_pc _ _ _ hv14) (by rfl) (by rfl) (by rfl) (by trivial) (by rfl) (by rfl) (by rfl) (by rfl) (by rfl) (by rfl) ?_
   refine X.mv ?_
   refine X.extract (h:=?_)
   refine X.extract (h:=?_)
   refine X.alloc zer53 (h:=?_)
   refine X.sl shp53 ?_
   refine X.an ?_
   refine Run.seq (Run.sr (X.mv ?_))
   refine X.un (h:=?_)
   refine X.nil ?_
   refine R.cd (fun hc15=>?_) (fun hc15=>?_)
   ·replace h:=condT hc15 h
    refine Run.sr (X.as ?_)
    refine X.an ?_
    cases h
    have h:=hup3
    replace h:=elimR h
    cases h
    refine R.fin2tn (e:=53) (sz:=6) Tryz.results7 (by rfl) (by decide) (by rfl) (by rfl) ?_
    rfl
   replace h:=condF hc15 h
   refine Run.skip (Run.region ?_)
   refine Run.mvo ?_
   refine Run.one ?_
   refine X.ld shp53 ?_
   refine X.nil ?_
   refine Run.buildT1 (S':=[(1,str b1),(2,.lptr 128 0),(13,.slice (v1.map str)),(14,int (v1.length:Int)),(15,int z9),(27,.tref 704 (a10.map tTLine).length .out)]) (M':=[(128,.blk true [int b0.Deadline,.slice (b0.Activities.map eTActivity),.slice (b0.Links.map eTLink),.slice (b0.Resources.map eTResource),.slice (b0.Stocks.map int)]),(704,.tre 53 6 (a10.map tTLine))]) (q:=tTLine v14.1) elt29 (by rfl) (by rfl) zer53 (by rfl) (by rfl) (by exact (.lit _ _ _ _ (.lit _ _ _ _ (.lit _ _ _ _ (.lit _ _ _ _ (.lit _ _ _ _ (.own _ _ _ _ _ _ _ _ (by rfl) (by first | rfl | simp [setL] | omega) (flat_lit _ (fun _=>(by repeat (first | exact trivial | refine ⟨trivial,?_⟩)))) (by simp) .nil))))))) (by rfl) (by repeat (first | trivial | refine ⟨by first | rfl | simp [setL],?_⟩)) (by repeat (first | trivial | refine ⟨by first | rfl | simp [setL],?_⟩)) (by rfl) (by rfl) (by rfl) (by rfl) (by rfl) ?_
   obtain ⟨v16,hv16,h⟩:=bindE h
   refine Run.appT (S':=[(1,str b1),(2,.lptr 128 0),(13,.slice (v1.map str)),(14,int (v1.length:Int)),(15,int z9)]) (M':=[(128,.blk true [int b0.Deadline,.slice (b0.Activities.map eTActivity),.slice (b0.Links.map eTLink),.slice (b0.Resources.map eTResource),.slice (b0.Stocks.map int)])]) (appL_map tTLine hv16) elt29 (by rfl) zer53 (by rfl) (by rfl) (by rfl) (by first | rfl | simp [setL] | omega) (by rfl) (by rfl) (by first | rfl | simp [setL] | omega) (by rfl) (by rfl) (appL_len tTLine hv16) (by rfl) (by repeat (first | trivial | refine ⟨by first | rfl | simp [setL],?_⟩)) (by repeat (first | trivial | refine ⟨by first | rfl | simp [setL],?_⟩)) (by rfl) (by rfl) (by rfl) (by rfl) (by rfl) ?_
   refine Run.aso ?_
   refine Run.nil (Run.blk (Run.reg (X.ad ?_)))
   refine X.mn ?_
   exact R.ag hag8 (n8 - 1) (z9+1,v16) (R.n3 (by first | (rw [hds8];exact h) | (dsimp only;rw [hds8];exact h)))
  rw [drop_endI hza8 hc13] at h
  rw [i_ParseProof_L1] at h
  refine Run.exit (by rfl) ?_
  exact R.mt hmeet4 a10 (Option.some.inj h)
 rintro p17 rfl
 replace h:=elimL h
 refine Run.seq (Run.seq ?_)
 obtain ⟨e19,he19,h2⟩:=bindE h
 refine R.regG [(6,.tref 704 (p17.map tTLine).length .out),(41,bool e19)] [(704,.tre 53 6 (p17.map tTLine))] ?_ ?_
 ·clear h;have h:=he19;clear he19 h2
  refine X.mv ?_
  refine X.lenT (z:=(p17.length:Int)) elt29 (by rfl) (by rfl) (by first | rfl | simp [setL] | omega) (by simp) (by rfl) (by rfl) ?_
  refine X.bi ?_
  refine X.mv ?_
  refine X.iG (fun hb20=>?_) (fun hb20=>?_)
  ·replace h:=condF hb20 h
   refine X.ld shp36 ?_
   refine X.gy (X.mv ?_)
   refine X.gy ?_
   obtain ⟨v21,hv21,h⟩:=bindE h
   refine X.callM [(127,704)] (PC.lend (M0:=[(127,.tre 53 6 (p17.map tTLine))]) (i_FormatProof_pc _ _ _ hv21) (.lit _) (by rfl) (.agg _ _ _ _ (.same _ _ _ (by rfl) (.same _ _ _ (by rfl) (.same _ _ _ (by rfl) (.same _ _ _ (by rfl) (.same _ _ _ (by rfl) .nil))))) (.tref 127 _ _ _ _ _ _ _ (by rfl) (by first | rfl | simp [setL] | omega) (by rw [List.map_map];rfl) .nil))) (by rfl) (by rfl) (.pureB (by rfl) (by repeat (first | trivial | refine ⟨by first | rfl | simp [setL],?_⟩)) (.trefB 127 (by rfl) (by rfl) .nil)) (by rfl) ⟨rfl,rfl,⟨_,by rfl,by constructor⟩,.tre _ _ _ _ (shapeT_refl _),trivial⟩ (by rfl) (by rfl) (by rfl) (by rfl) (by rfl) (by rfl) (by rfl) (by rfl) (by rfl) ?_
   refine X.gy (X.mv ?_)
   refine X.gy (X.bi ?_)
   refine X.pF ?_
   cases h
   exact X.eG
  replace h:=condT hb20 h
  refine X.gn (X.gn (X.gn (X.gn (X.pT ?_))))
  cases h
  exact X.eG
 replace h:=h2;clear h2
 refine R.cd (fun hc22=>?_) (fun hc22=>?_)
 ·replace h:=condT hc22 h
  refine Run.sr (X.as ?_)
  refine X.an ?_
  cases h
  refine R.fin2tn (e:=53) (sz:=6) Tryz.results7 (by rfl) (by decide) (by rfl) (by rfl) ?_
  rfl
 replace h:=condF hc22 h
 refine Run.skip (Run.sr (X.mv ?_))
 refine X.as ?_
 refine X.an ?_
 cases h
 refine R.fin2t Tryz.results7 (by rfl) (by rfl) (by first | rfl | simp [setL] | omega) (by rfl) (by rfl) ?_
 rfl
theorem w_eqRule_pc (b0:TRule)(b1:TRule)(r:Bool)(h:w_eqRule b0 b1=some r):PC Tryz.prog 56 [eTRule b0,eTRule b1] (bool r):=by
 unfold w_eqRule at h
 refine PC.start Tryz.func56 Tryz.ntmps56 rfl ok56 rfl ?_
 refine Run.sr (X.bx ?_)
 refine X.bx ?_
 refine X.an ?_
 refine Run.seq (Run.sr (X.fl fld50_0 ?_))
 refine X.ld shp3 ?_
 refine X.fl fld50_0 ?_
 refine X.ld shp3 ?_
 refine X.bi ?_
 refine X.nil ?_
 refine R.cd (fun hc1=>?_) (fun hc1=>?_)
 ·replace h:=condT hc1 h
  refine Run.sr (X.an ?_)
  cases h
  refine R.f1 Tryz.results56 ?_
  rfl
 replace h:=condF hc1 h
 refine Run.skip (Run.seq (Run.sr (X.fl fld50_1 ?_)))
 refine X.ld shp3 ?_
 refine X.fl fld50_1 ?_
 refine X.ld shp3 ?_
 refine X.bi ?_
 refine X.nil ?_
 refine R.cd (fun hc2=>?_) (fun hc2=>?_)
 ·replace h:=condT hc2 h
  refine Run.sr (X.an ?_)
  cases h
  refine R.f1 Tryz.results56 ?_
  rfl
 replace h:=condF hc2 h
 refine Run.skip (Run.seq (Run.sr (X.fl fld50_2 ?_)))
 refine X.ld shp3 ?_
 refine X.fl fld50_2 ?_
 refine X.ld shp3 ?_
 refine X.bi ?_
 refine X.nil ?_
 refine R.cd (fun hc3=>?_) (fun hc3=>?_)
 ·replace h:=condT hc3 h
  refine Run.sr (X.an ?_)
  cases h
  refine R.f1 Tryz.results56 ?_
  rfl
 replace h:=condF hc3 h
 refine Run.skip (Run.seq (Run.sr (X.fl fld50_3 ?_)))
 refine X.ld shp3 ?_
 refine X.fl fld50_3 ?_
 refine X.ld shp3 ?_
 refine X.bi ?_
 refine X.nil ?_
 refine R.cd (fun hc4=>?_) (fun hc4=>?_)
 ·replace h:=condT hc4 h
  refine Run.sr (X.an ?_)
  cases h
  refine R.f1 Tryz.results56 ?_
  rfl
 replace h:=condF hc4 h
 refine Run.skip (Run.sr (X.an ?_))
 cases h
 refine R.f1 Tryz.results56 ?_
 rfl
theorem w_eqLiteral_pc (b0:TLiteral)(b1:TLiteral)(r:Bool)(h:w_eqLiteral b0 b1=some r):PC Tryz.prog 92 [eTLiteral b0,eTLiteral b1] (bool r):=by
 unfold w_eqLiteral at h
 refine PC.start Tryz.func92 Tryz.ntmps92 rfl ok92 rfl ?_
 refine Run.sr (X.bx ?_)
 refine X.bx ?_
 refine X.an ?_
 refine Run.seq (Run.sr (X.fl fld114_0 ?_))
 refine X.ld shp3 ?_
 refine X.fl fld114_0 ?_
 refine X.ld shp3 ?_
 refine X.bi ?_
 refine X.nil ?_
 refine R.cd (fun hc1=>?_) (fun hc1=>?_)
 ·replace h:=condT hc1 h
  refine Run.sr (X.an ?_)
  cases h
  refine R.f1 Tryz.results92 ?_
  rfl
 replace h:=condF hc1 h
 refine Run.skip (Run.seq (Run.sr (X.fl fld114_1 ?_)))
 refine X.ld shp3 ?_
 refine X.fl fld114_1 ?_
 refine X.ld shp3 ?_
 refine X.bi ?_
 refine X.nil ?_
 refine R.cd (fun hc2=>?_) (fun hc2=>?_)
 ·replace h:=condT hc2 h
  refine Run.sr (X.an ?_)
  cases h
  refine R.f1 Tryz.results92 ?_
  rfl
 replace h:=condF hc2 h
 refine Run.skip (Run.seq (Run.sr (X.fl fld114_2 ?_)))
 refine X.ld shp3 ?_
 refine X.fl fld114_2 ?_
 refine X.ld shp3 ?_
 refine X.bi ?_
 refine X.nil ?_
 refine R.cd (fun hc3=>?_) (fun hc3=>?_)
 ·replace h:=condT hc3 h
  refine Run.sr (X.an ?_)
  cases h
  refine R.f1 Tryz.results92 ?_
  rfl
 replace h:=condF hc3 h
 refine Run.skip (Run.sr (X.an ?_))
 cases h
 refine R.f1 Tryz.results92 ?_
 rfl
theorem w_eqLiteralS_pc (b0:List TLiteral)(b1:List TLiteral)(r:Bool)(h:w_eqLiteralS b0 b1=some r):PC Tryz.prog 57 [.slice (b0.map eTLiteral),.slice (b1.map eTLiteral)] (bool r):=by
 unfold w_eqLiteralS at h
 refine PC.start Tryz.func57 Tryz.ntmps57 rfl ok57 rfl ?_
 refine Run.sr (X.an ?_)
 refine Run.seq (Run.sr (X.mv ?_))
 refine X.ls elt51 ?_
 refine X.mv ?_
 refine X.ls elt51 ?_
 refine X.bi ?_
 refine X.nil ?_
 refine R.cd (fun hc1=>?_) (fun hc1=>?_)
 ·replace h:=condT hc1 h
  refine Run.sr (X.an ?_)
  cases h
  refine R.f1 Tryz.results57 ?_
  rfl
 replace h:=condF hc1 h
 refine Run.skip (Run.seq (Run.sr (X.an ?_)))
 obtain ⟨o2,ho2,h⟩:=bindE h
 refine R.join2 (β:=Unit) [] [] (fun p16 S=>S) (fun p16 M=>M) (fun p16=>(Sum.inl p16)=o2) ?_ ?_
 ·intro JJ5 hmeet4
  have hup3:=h;clear h;have h:=ho2;clear ho2
  refine Run.block ?_
  refine R.bndS (t:=0) (by rfl) (fun hbd8=>?_)
  replace hbd8:b0.length≤9223372036854775807:=by first | (rw [List.length_map] at hbd8;exact hbd8) | simp
  refine R.lp (β:=Int) [(0,.slice (b0.map eTLiteral)),(1,.slice (b1.map eTLiteral))] [] (fun bb S=>(5,int bb)::S) (fun bb M=>M) (fun n bb=>0≤bb∧bb+n=(b0.length:Int)∧w_eqLiteralS_L1 b1 (b0.drop bb.toNat) bb=some o2) b0.length (0:Int) ⟨Int.le_refl _,by simp,h⟩ ?_
  clear h
  rintro JJ8 n8 z9 hag8 ⟨hza8,hzb8,h⟩
  refine Run.seq (Run.sr (X.mv ?_))
  refine X.mv ?_
  refine X.ls elt51 ?_
  refine X.bi ?_
  refine X.nil ?_
  refine R.cd (fun hc12=>?_) (fun hc12=>?_)
  ·obtain ⟨x10,xs11,hd8,hx8,hds8,hlt8⟩:=drop_atI hza8 hc12
   rw [hd8] at h
   rw [w_eqLiteralS_L1] at h
   refine Run.skip (Run.seq (Run.block (Run.seq (Run.draw (footOf []) mixed (by kernel_rfl) (by kernel_rfl) ?_))))
   refine X.mv ?_
   refine X.mv ?_
   refine X.ix elt51 (idxL_spec hx8).1 (idxL_map eTLiteral hx8) ?_
   refine X.lc shp114 ?_
   refine X.mv ?_
   refine X.mv ?_
   obtain ⟨v13,hv13,h⟩:=bindE h
   refine X.ix elt51 (idxL_spec hv13).1 (idxL_map eTLiteral hv13) ?_
   refine X.lc shp114 ?_
   obtain ⟨v14,hv14,h⟩:=bindE h
   refine X.cp (w_eqLiteral_pc _ _ _ hv14) ?_
   refine X.un (h:=?_)
   refine X.nil ?_
   refine R.cd (fun hc15=>?_) (fun hc15=>?_)
   ·replace h:=condT hc15 h
    refine Run.sr (X.an ?_)
    cases h
    have h:=hup3
    replace h:=elimR h
    cases h
    refine R.f1 Tryz.results57 ?_
    rfl
   replace h:=condF hc15 h
   refine Run.skip (Run.blk (Run.reg (X.mv ?_)))
   refine X.ad ?_
   refine X.an ?_
   exact R.ag hag8 (n8 - 1) (z9+1) (R.n3 (by first | (rw [hds8];exact h) | (dsimp only;rw [hds8];exact h)))
  rw [drop_endI hza8 hc12] at h
  rw [w_eqLiteralS_L1] at h
  refine Run.exit (by rfl) ?_
  exact R.mt hmeet4 () (Option.some.inj h)
 rintro p16 rfl
 replace h:=elimL h
 refine Run.sr (X.an ?_)
 cases h
 refine R.f1 Tryz.results57 ?_
 rfl
theorem w_eqLine_pc (b0:TLine)(b1:TLine)(r:Bool)(h:w_eqLine b0 b1=some r):PC Tryz.prog 27 [eTLine b0,eTLine b1] (bool r):=by
 unfold w_eqLine at h
 refine PC.start Tryz.func27 Tryz.ntmps27 rfl ok27 rfl ?_
 refine Run.sr (X.bx ?_)
 refine X.bx ?_
 refine X.an ?_
 refine Run.seq (Run.sr (X.fl fld53_0 ?_))
 refine X.ld shp3 ?_
 refine X.fl fld53_0 ?_
 refine X.ld shp3 ?_
 refine X.bi ?_
 refine X.nil ?_
 refine R.cd (fun hc1=>?_) (fun hc1=>?_)
 ·replace h:=condT hc1 h
  refine Run.sr (X.an ?_)
  cases h
  refine R.f1 Tryz.results27 ?_
  rfl
 replace h:=condF hc1 h
 refine Run.skip (Run.seq (Run.sr (X.fl fld53_1 ?_)))
 refine X.ld shp50 ?_
 refine X.fl fld53_1 ?_
 refine X.ld shp50 ?_
 obtain ⟨v2,hv2,h⟩:=bindE h
 refine X.cp (w_eqRule_pc _ _ _ hv2) ?_
 refine X.un (h:=?_)
 refine X.nil ?_
 refine R.cd (fun hc3=>?_) (fun hc3=>?_)
 ·replace h:=condT hc3 h
  refine Run.sr (X.an ?_)
  cases h
  refine R.f1 Tryz.results27 ?_
  rfl
 replace h:=condF hc3 h
 refine Run.skip (Run.seq (Run.sr (X.fl fld53_2 ?_)))
 refine X.ld shp51 ?_
 refine X.fl fld53_2 ?_
 refine X.ld shp51 ?_
 obtain ⟨v4,hv4,h⟩:=bindE h
 refine X.cp (w_eqLiteralS_pc _ _ _ hv4) ?_
 refine X.un (h:=?_)
 refine X.nil ?_
 refine R.cd (fun hc5=>?_) (fun hc5=>?_)
 ·replace h:=condT hc5 h
  refine Run.sr (X.an ?_)
  cases h
  refine R.f1 Tryz.results27 ?_
  rfl
 replace h:=condF hc5 h
 refine Run.skip (Run.sr (X.an ?_))
 cases h
 refine R.f1 Tryz.results27 ?_
 rfl
theorem w_eqLineS_pc (b0:List TLine)(b1:List TLine)(r:Bool)(h:w_eqLineS b0 b1=some r):PC Tryz.prog 8 [.slice (b0.map eTLine),.slice (b1.map eTLine)] (bool r):=by
 unfold w_eqLineS at h
 refine PC.start Tryz.func8 Tryz.ntmps8 rfl ok8 rfl ?_
 refine Run.sr (X.an ?_)
 refine Run.seq (Run.sr (X.mv ?_))
 refine X.ls elt29 ?_
 refine X.mv ?_
 refine X.ls elt29 ?_
 refine X.bi ?_
 refine X.nil ?_
 refine R.cd (fun hc1=>?_) (fun hc1=>?_)
 ·replace h:=condT hc1 h
  refine Run.sr (X.an ?_)
  cases h
  refine R.f1 Tryz.results8 ?_
  rfl
 replace h:=condF hc1 h
 refine Run.skip (Run.seq (Run.sr (X.an ?_)))
 obtain ⟨o2,ho2,h⟩:=bindE h
 refine R.join2 (β:=Unit) [] [] (fun p16 S=>S) (fun p16 M=>M) (fun p16=>(Sum.inl p16)=o2) ?_ ?_
 ·intro JJ5 hmeet4
  have hup3:=h;clear h;have h:=ho2;clear ho2
  refine Run.block ?_
  refine R.bndS (t:=0) (by rfl) (fun hbd8=>?_)
  replace hbd8:b0.length≤9223372036854775807:=by first | (rw [List.length_map] at hbd8;exact hbd8) | simp
  refine R.lp (β:=Int) [(0,.slice (b0.map eTLine)),(1,.slice (b1.map eTLine))] [] (fun bb S=>(5,int bb)::S) (fun bb M=>M) (fun n bb=>0≤bb∧bb+n=(b0.length:Int)∧w_eqLineS_L1 b1 (b0.drop bb.toNat) bb=some o2) b0.length (0:Int) ⟨Int.le_refl _,by simp,h⟩ ?_
  clear h
  rintro JJ8 n8 z9 hag8 ⟨hza8,hzb8,h⟩
  refine Run.seq (Run.sr (X.mv ?_))
  refine X.mv ?_
  refine X.ls elt29 ?_
  refine X.bi ?_
  refine X.nil ?_
  refine R.cd (fun hc12=>?_) (fun hc12=>?_)
  ·obtain ⟨x10,xs11,hd8,hx8,hds8,hlt8⟩:=drop_atI hza8 hc12
   rw [hd8] at h
   rw [w_eqLineS_L1] at h
   refine Run.skip (Run.seq (Run.block (Run.seq (Run.draw (footOf []) mixed (by kernel_rfl) (by kernel_rfl) ?_))))
   refine X.mv ?_
   refine X.mv ?_
   refine X.ix elt29 (idxL_spec hx8).1 (idxL_map eTLine hx8) ?_
   refine X.lc shp53 ?_
   refine X.mv ?_
   refine X.mv ?_
   obtain ⟨v13,hv13,h⟩:=bindE h
   refine X.ix elt29 (idxL_spec hv13).1 (idxL_map eTLine hv13) ?_
   refine X.lc shp53 ?_
   obtain ⟨v14,hv14,h⟩:=bindE h
   refine X.cp (w_eqLine_pc _ _ _ hv14) ?_
   refine X.un (h:=?_)
   refine X.nil ?_
   refine R.cd (fun hc15=>?_) (fun hc15=>?_)
   ·replace h:=condT hc15 h
    refine Run.sr (X.an ?_)
    cases h
    have h:=hup3
    replace h:=elimR h
    cases h
    refine R.f1 Tryz.results8 ?_
    rfl
   replace h:=condF hc15 h
   refine Run.skip (Run.blk (Run.reg (X.mv ?_)))
   refine X.ad ?_
   refine X.an ?_
   exact R.ag hag8 (n8 - 1) (z9+1) (R.n3 (by first | (rw [hds8];exact h) | (dsimp only;rw [hds8];exact h)))
  rw [drop_endI hza8 hc12] at h
  rw [w_eqLineS_L1] at h
  refine Run.exit (by rfl) ?_
  exact R.mt hmeet4 () (Option.some.inj h)
 rintro p16 rfl
 replace h:=elimL h
 refine Run.sr (X.an ?_)
 cases h
 refine R.f1 Tryz.results8 ?_
 rfl
theorem w_eqIntS_pc (b0:List Int)(b1:List Int)(r:Bool)(h:w_eqIntS b0 b1=some r):PC Tryz.prog 31 [.slice (b0.map int),.slice (b1.map int)] (bool r):=by
 unfold w_eqIntS at h
 refine PC.start Tryz.func31 Tryz.ntmps31 rfl ok31 rfl ?_
 refine Run.sr (X.an ?_)
 refine Run.seq (Run.sr (X.mv ?_))
 refine X.ls elt25 ?_
 refine X.mv ?_
 refine X.ls elt25 ?_
 refine X.bi ?_
 refine X.nil ?_
 refine R.cd (fun hc1=>?_) (fun hc1=>?_)
 ·replace h:=condT hc1 h
  refine Run.sr (X.an ?_)
  cases h
  refine R.f1 Tryz.results31 ?_
  rfl
 replace h:=condF hc1 h
 refine Run.skip (Run.seq (Run.sr (X.an ?_)))
 obtain ⟨o2,ho2,h⟩:=bindE h
 refine R.join2 (β:=Unit) [] [] (fun p15 S=>S) (fun p15 M=>M) (fun p15=>(Sum.inl p15)=o2) ?_ ?_
 ·intro JJ5 hmeet4
  have hup3:=h;clear h;have h:=ho2;clear ho2
  refine Run.block ?_
  refine R.bndS (t:=0) (by rfl) (fun hbd8=>?_)
  replace hbd8:b0.length≤9223372036854775807:=by first | (rw [List.length_map] at hbd8;exact hbd8) | simp
  refine R.lp (β:=Int) [(0,.slice (b0.map int)),(1,.slice (b1.map int))] [] (fun bb S=>(5,int bb)::S) (fun bb M=>M) (fun n bb=>0≤bb∧bb+n=(b0.length:Int)∧w_eqIntS_L1 b1 (b0.drop bb.toNat) bb=some o2) b0.length (0:Int) ⟨Int.le_refl _,by simp,h⟩ ?_
  clear h
  rintro JJ8 n8 z9 hag8 ⟨hza8,hzb8,h⟩
  refine Run.seq (Run.sr (X.mv ?_))
  refine X.mv ?_
  refine X.ls elt25 ?_
  refine X.bi ?_
  refine X.nil ?_
  refine R.cd (fun hc12=>?_) (fun hc12=>?_)
  ·obtain ⟨x10,xs11,hd8,hx8,hds8,hlt8⟩:=drop_atI hza8 hc12
   rw [hd8] at h
   rw [w_eqIntS_L1] at h
   refine Run.skip (Run.seq (Run.block (Run.seq (Run.draw (footOf []) mixed (by kernel_rfl) (by kernel_rfl) ?_))))
   refine X.mv ?_
   refine X.mv ?_
   refine X.ix elt25 (idxL_spec hx8).1 (idxL_map int hx8) ?_
   refine X.lc shp3 ?_
   refine X.mv ?_
   refine X.mv ?_
   obtain ⟨v13,hv13,h⟩:=bindE h
   refine X.ix elt25 (idxL_spec hv13).1 (idxL_map int hv13) ?_
   refine X.lc shp3 ?_
   refine X.bi ?_
   refine X.nil ?_
   refine R.cd (fun hc14=>?_) (fun hc14=>?_)
   ·replace h:=condT hc14 h
    refine Run.sr (X.an ?_)
    cases h
    have h:=hup3
    replace h:=elimR h
    cases h
    refine R.f1 Tryz.results31 ?_
    rfl
   replace h:=condF hc14 h
   refine Run.skip (Run.blk (Run.reg (X.mv ?_)))
   refine X.ad ?_
   refine X.an ?_
   exact R.ag hag8 (n8 - 1) (z9+1) (R.n3 (by first | (rw [hds8];exact h) | (dsimp only;rw [hds8];exact h)))
  rw [drop_endI hza8 hc12] at h
  rw [w_eqIntS_L1] at h
  refine Run.exit (by rfl) ?_
  exact R.mt hmeet4 () (Option.some.inj h)
 rintro p15 rfl
 replace h:=elimL h
 refine Run.sr (X.an ?_)
 cases h
 refine R.f1 Tryz.results31 ?_
 rfl
theorem w_eqMode_pc (b0:TMode)(b1:TMode)(r:Bool)(h:w_eqMode b0 b1=some r):PC Tryz.prog 134 [eTMode b0,eTMode b1] (bool r):=by
 unfold w_eqMode at h
 refine PC.start Tryz.func134 Tryz.ntmps134 rfl ok134 rfl ?_
 refine Run.sr (X.bx ?_)
 refine X.bx ?_
 refine X.an ?_
 refine Run.seq (Run.sr (X.fl fld139_0 ?_))
 refine X.ld shp3 ?_
 refine X.fl fld139_0 ?_
 refine X.ld shp3 ?_
 refine X.bi ?_
 refine X.nil ?_
 refine R.cd (fun hc1=>?_) (fun hc1=>?_)
 ·replace h:=condT hc1 h
  refine Run.sr (X.an ?_)
  cases h
  refine R.f1 Tryz.results134 ?_
  rfl
 replace h:=condF hc1 h
 refine Run.skip (Run.seq (Run.sr (X.fl fld139_1 ?_)))
 refine X.ld shp25 ?_
 refine X.fl fld139_1 ?_
 refine X.ld shp25 ?_
 obtain ⟨v2,hv2,h⟩:=bindE h
 refine X.cp (w_eqIntS_pc _ _ _ hv2) ?_
 refine X.un (h:=?_)
 refine X.nil ?_
 refine R.cd (fun hc3=>?_) (fun hc3=>?_)
 ·replace h:=condT hc3 h
  refine Run.sr (X.an ?_)
  cases h
  refine R.f1 Tryz.results134 ?_
  rfl
 replace h:=condF hc3 h
 refine Run.skip (Run.seq (Run.sr (X.fl fld139_2 ?_)))
 refine X.ld shp25 ?_
 refine X.fl fld139_2 ?_
 refine X.ld shp25 ?_
 obtain ⟨v4,hv4,h⟩:=bindE h
 refine X.cp (w_eqIntS_pc _ _ _ hv4) ?_
 refine X.un (h:=?_)
 refine X.nil ?_
 refine R.cd (fun hc5=>?_) (fun hc5=>?_)
 ·replace h:=condT hc5 h
  refine Run.sr (X.an ?_)
  cases h
  refine R.f1 Tryz.results134 ?_
  rfl
 replace h:=condF hc5 h
 refine Run.skip (Run.sr (X.an ?_))
 cases h
 refine R.f1 Tryz.results134 ?_
 rfl
theorem w_eqModeS_pc (b0:List TMode)(b1:List TMode)(r:Bool)(h:w_eqModeS b0 b1=some r):PC Tryz.prog 93 [.slice (b0.map eTMode),.slice (b1.map eTMode)] (bool r):=by
 unfold w_eqModeS at h
 refine PC.start Tryz.func93 Tryz.ntmps93 rfl ok93 rfl ?_
 refine Run.sr (X.an ?_)
 refine Run.seq (Run.sr (X.mv ?_))
 refine X.ls elt87 ?_
 refine X.mv ?_
 refine X.ls elt87 ?_
 refine X.bi ?_
 refine X.nil ?_
 refine R.cd (fun hc1=>?_) (fun hc1=>?_)
 ·replace h:=condT hc1 h
  refine Run.sr (X.an ?_)
  cases h
  refine R.f1 Tryz.results93 ?_
  rfl
 replace h:=condF hc1 h
 refine Run.skip (Run.seq (Run.sr (X.an ?_)))
 obtain ⟨o2,ho2,h⟩:=bindE h
 refine R.join2 (β:=Unit) [] [] (fun p16 S=>S) (fun p16 M=>M) (fun p16=>(Sum.inl p16)=o2) ?_ ?_
 ·intro JJ5 hmeet4
  have hup3:=h;clear h;have h:=ho2;clear ho2
  refine Run.block ?_
  refine R.bndS (t:=0) (by rfl) (fun hbd8=>?_)
  replace hbd8:b0.length≤9223372036854775807:=by first | (rw [List.length_map] at hbd8;exact hbd8) | simp
  refine R.lp (β:=Int) [(0,.slice (b0.map eTMode)),(1,.slice (b1.map eTMode))] [] (fun bb S=>(5,int bb)::S) (fun bb M=>M) (fun n bb=>0≤bb∧bb+n=(b0.length:Int)∧w_eqModeS_L1 b1 (b0.drop bb.toNat) bb=some o2) b0.length (0:Int) ⟨Int.le_refl _,by simp,h⟩ ?_
  clear h
  rintro JJ8 n8 z9 hag8 ⟨hza8,hzb8,h⟩
  refine Run.seq (Run.sr (X.mv ?_))
  refine X.mv ?_
  refine X.ls elt87 ?_
  refine X.bi ?_
  refine X.nil ?_
  refine R.cd (fun hc12=>?_) (fun hc12=>?_)
  ·obtain ⟨x10,xs11,hd8,hx8,hds8,hlt8⟩:=drop_atI hza8 hc12
   rw [hd8] at h
   rw [w_eqModeS_L1] at h
   refine Run.skip (Run.seq (Run.block (Run.seq (Run.draw (footOf []) mixed (by kernel_rfl) (by kernel_rfl) ?_))))
   refine X.mv ?_
   refine X.mv ?_
   refine X.ix elt87 (idxL_spec hx8).1 (idxL_map eTMode hx8) ?_
   refine X.lc shp139 ?_
   refine X.mv ?_
   refine X.mv ?_
   obtain ⟨v13,hv13,h⟩:=bindE h
   refine X.ix elt87 (idxL_spec hv13).1 (idxL_map eTMode hv13) ?_
   refine X.lc shp139 ?_
   obtain ⟨v14,hv14,h⟩:=bindE h
   refine X.cp (w_eqMode_pc _ _ _ hv14) ?_
   refine X.un (h:=?_)
   refine X.nil ?_
   refine R.cd (fun hc15=>?_) (fun hc15=>?_)
   ·replace h:=condT hc15 h
    refine Run.sr (X.an ?_)
    cases h
    have h:=hup3
    replace h:=elimR h
    cases h
    refine R.f1 Tryz.results93 ?_
    rfl
   replace h:=condF hc15 h
   refine Run.skip (Run.blk (Run.reg (X.mv ?_)))
   refine X.ad ?_
   refine X.an ?_
   exact R.ag hag8 (n8 - 1) (z9+1) (R.n3 (by first | (rw [hds8];exact h) | (dsimp only;rw [hds8];exact h)))
  rw [drop_endI hza8 hc12] at h
  rw [w_eqModeS_L1] at h
  refine Run.exit (by rfl) ?_
  exact R.mt hmeet4 () (Option.some.inj h)
 rintro p16 rfl
 replace h:=elimL h
 refine Run.sr (X.an ?_)
 cases h
 refine R.f1 Tryz.results93 ?_
 rfl
theorem w_eqActivity_pc (b0:TActivity)(b1:TActivity)(r:Bool)(h:w_eqActivity b0 b1=some r):PC Tryz.prog 58 [eTActivity b0,eTActivity b1] (bool r):=by
 unfold w_eqActivity at h
 refine PC.start Tryz.func58 Tryz.ntmps58 rfl ok58 rfl ?_
 refine Run.sr (X.bx ?_)
 refine X.bx ?_
 refine X.an ?_
 refine Run.seq (Run.sr (X.fl fld89_0 ?_))
 refine X.ld shp9 ?_
 refine X.fl fld89_0 ?_
 refine X.ld shp9 ?_
 refine X.bi ?_
 refine X.nil ?_
 refine R.cd (fun hc1=>?_) (fun hc1=>?_)
 ·replace h:=condT hc1 h
  refine Run.sr (X.an ?_)
  cases h
  refine R.f1 Tryz.results58 ?_
  rfl
 replace h:=condF hc1 h
 refine Run.skip (Run.seq (Run.sr (X.fl fld89_1 ?_)))
 refine X.ld shp3 ?_
 refine X.fl fld89_1 ?_
 refine X.ld shp3 ?_
 refine X.bi ?_
 refine X.nil ?_
 refine R.cd (fun hc2=>?_) (fun hc2=>?_)
 ·replace h:=condT hc2 h
  refine Run.sr (X.an ?_)
  cases h
  refine R.f1 Tryz.results58 ?_
  rfl
 replace h:=condF hc2 h
 refine Run.skip (Run.seq (Run.sr (X.fl fld89_2 ?_)))
 refine X.ld shp87 ?_
 refine X.fl fld89_2 ?_
 refine X.ld shp87 ?_
 obtain ⟨v3,hv3,h⟩:=bindE h
 refine X.cp (w_eqModeS_pc _ _ _ hv3) ?_
 refine X.un (h:=?_)
 refine X.nil ?_
 refine R.cd (fun hc4=>?_) (fun hc4=>?_)
 ·replace h:=condT hc4 h
  refine Run.sr (X.an ?_)
  cases h
  refine R.f1 Tryz.results58 ?_
  rfl
 replace h:=condF hc4 h
 refine Run.skip (Run.sr (X.an ?_))
 cases h
 refine R.f1 Tryz.results58 ?_
 rfl
theorem w_eqActivityS_pc (b0:List TActivity)(b1:List TActivity)(r:Bool)(h:w_eqActivityS b0 b1=some r):PC Tryz.prog 28 [.slice (b0.map eTActivity),.slice (b1.map eTActivity)] (bool r):=by
 unfold w_eqActivityS at h
 refine PC.start Tryz.func28 Tryz.ntmps28 rfl ok28 rfl ?_
 refine Run.sr (X.an ?_)
 refine Run.seq (Run.sr (X.mv ?_))
 refine X.ls elt32 ?_
 refine X.mv ?_
 refine X.ls elt32 ?_
 refine X.bi ?_
 refine X.nil ?_
 refine R.cd (fun hc1=>?_) (fun hc1=>?_)
 ·replace h:=condT hc1 h
  refine Run.sr (X.an ?_)
  cases h
  refine R.f1 Tryz.results28 ?_
  rfl
 replace h:=condF hc1 h
 refine Run.skip (Run.seq (Run.sr (X.an ?_)))
 obtain ⟨o2,ho2,h⟩:=bindE h
 refine R.join2 (β:=Unit) [] [] (fun p16 S=>S) (fun p16 M=>M) (fun p16=>(Sum.inl p16)=o2) ?_ ?_
 ·intro JJ5 hmeet4
  have hup3:=h;clear h;have h:=ho2;clear ho2
  refine Run.block ?_
  refine R.bndS (t:=0) (by rfl) (fun hbd8=>?_)
  replace hbd8:b0.length≤9223372036854775807:=by first | (rw [List.length_map] at hbd8;exact hbd8) | simp
  refine R.lp (β:=Int) [(0,.slice (b0.map eTActivity)),(1,.slice (b1.map eTActivity))] [] (fun bb S=>(5,int bb)::S) (fun bb M=>M) (fun n bb=>0≤bb∧bb+n=(b0.length:Int)∧w_eqActivityS_L1 b1 (b0.drop bb.toNat) bb=some o2) b0.length (0:Int) ⟨Int.le_refl _,by simp,h⟩ ?_
  clear h
  rintro JJ8 n8 z9 hag8 ⟨hza8,hzb8,h⟩
  refine Run.seq (Run.sr (X.mv ?_))
  refine X.mv ?_
  refine X.ls elt32 ?_
  refine X.bi ?_
  refine X.nil ?_
  refine R.cd (fun hc12=>?_) (fun hc12=>?_)
  ·obtain ⟨x10,xs11,hd8,hx8,hds8,hlt8⟩:=drop_atI hza8 hc12
   rw [hd8] at h
   rw [w_eqActivityS_L1] at h
   refine Run.skip (Run.seq (Run.block (Run.seq (Run.draw (footOf []) mixed (by kernel_rfl) (by kernel_rfl) ?_))))
   refine X.mv ?_
   refine X.mv ?_
   refine X.ix elt32 (idxL_spec hx8).1 (idxL_map eTActivity hx8) ?_
   refine X.lc shp89 ?_
   refine X.mv ?_
   refine X.mv ?_
   obtain ⟨v13,hv13,h⟩:=bindE h
   refine X.ix elt32 (idxL_spec hv13).1 (idxL_map eTActivity hv13) ?_
   refine X.lc shp89 ?_
   obtain ⟨v14,hv14,h⟩:=bindE h
   refine X.cp (w_eqActivity_pc _ _ _ hv14) ?_
   refine X.un (h:=?_)
   refine X.nil ?_
   refine R.cd (fun hc15=>?_) (fun hc15=>?_)
   ·replace h:=condT hc15 h
    refine Run.sr (X.an ?_)
    cases h
    have h:=hup3
    replace h:=elimR h
    cases h
    refine R.f1 Tryz.results28 ?_
    rfl
   replace h:=condF hc15 h
   refine Run.skip (Run.blk (Run.reg (X.mv ?_)))
   refine X.ad ?_
   refine X.an ?_
   exact R.ag hag8 (n8 - 1) (z9+1) (R.n3 (by first | (rw [hds8];exact h) | (dsimp only;rw [hds8];exact h)))
  rw [drop_endI hza8 hc12] at h
  rw [w_eqActivityS_L1] at h
  refine Run.exit (by rfl) ?_
  exact R.mt hmeet4 () (Option.some.inj h)
 rintro p16 rfl
 replace h:=elimL h
 refine Run.sr (X.an ?_)
 cases h
 refine R.f1 Tryz.results28 ?_
 rfl
theorem w_eqLink_pc (b0:TLink)(b1:TLink)(r:Bool)(h:w_eqLink b0 b1=some r):PC Tryz.prog 59 [eTLink b0,eTLink b1] (bool r):=by
 unfold w_eqLink at h
 refine PC.start Tryz.func59 Tryz.ntmps59 rfl ok59 rfl ?_
 refine Run.sr (X.bx ?_)
 refine X.bx ?_
 refine X.an ?_
 refine Run.seq (Run.sr (X.fl fld92_0 ?_))
 refine X.ld shp3 ?_
 refine X.fl fld92_0 ?_
 refine X.ld shp3 ?_
 refine X.bi ?_
 refine X.nil ?_
 refine R.cd (fun hc1=>?_) (fun hc1=>?_)
 ·replace h:=condT hc1 h
  refine Run.sr (X.an ?_)
  cases h
  refine R.f1 Tryz.results59 ?_
  rfl
 replace h:=condF hc1 h
 refine Run.skip (Run.seq (Run.sr (X.fl fld92_1 ?_)))
 refine X.ld shp3 ?_
 refine X.fl fld92_1 ?_
 refine X.ld shp3 ?_
 refine X.bi ?_
 refine X.nil ?_
 refine R.cd (fun hc2=>?_) (fun hc2=>?_)
 ·replace h:=condT hc2 h
  refine Run.sr (X.an ?_)
  cases h
  refine R.f1 Tryz.results59 ?_
  rfl
 replace h:=condF hc2 h
 refine Run.skip (Run.seq (Run.sr (X.fl fld92_2 ?_)))
 refine X.ld shp4 ?_
 refine X.fl fld92_2 ?_
 refine X.ld shp4 ?_
 refine X.neqBool Tryz.underlying4 (by rfl) (by rfl) (by rfl) ?_
 refine X.nil ?_
 refine R.cd (fun hc3=>?_) (fun hc3=>?_)
 ·replace h:=condT hc3 h
  refine Run.sr (X.an ?_)
  cases h
  refine R.f1 Tryz.results59 ?_
  rfl
 replace h:=condF hc3 h
 refine Run.skip (Run.seq (Run.sr (X.fl fld92_3 ?_)))
 refine X.ld shp3 ?_
 refine X.fl fld92_3 ?_
 refine X.ld shp3 ?_
 refine X.bi ?_
 refine X.nil ?_
 refine R.cd (fun hc4=>?_) (fun hc4=>?_)
 ·replace h:=condT hc4 h
  refine Run.sr (X.an ?_)
  cases h
  refine R.f1 Tryz.results59 ?_
  rfl
 replace h:=condF hc4 h
 refine Run.skip (Run.sr (X.an ?_))
 cases h
 refine R.f1 Tryz.results59 ?_
 rfl
theorem w_eqLinkS_pc (b0:List TLink)(b1:List TLink)(r:Bool)(h:w_eqLinkS b0 b1=some r):PC Tryz.prog 29 [.slice (b0.map eTLink),.slice (b1.map eTLink)] (bool r):=by
 unfold w_eqLinkS at h
 refine PC.start Tryz.func29 Tryz.ntmps29 rfl ok29 rfl ?_
 refine Run.sr (X.an ?_)
 refine Run.seq (Run.sr (X.mv ?_))
 refine X.ls elt33 ?_
 refine X.mv ?_
 refine X.ls elt33 ?_
 refine X.bi ?_
 refine X.nil ?_
 refine R.cd (fun hc1=>?_) (fun hc1=>?_)
 ·replace h:=condT hc1 h
  refine Run.sr (X.an ?_)
  cases h
  refine R.f1 Tryz.results29 ?_
  rfl
 replace h:=condF hc1 h
 refine Run.skip (Run.seq (Run.sr (X.an ?_)))
 obtain ⟨o2,ho2,h⟩:=bindE h
 refine R.join2 (β:=Unit) [] [] (fun p16 S=>S) (fun p16 M=>M) (fun p16=>(Sum.inl p16)=o2) ?_ ?_
 ·intro JJ5 hmeet4
  have hup3:=h;clear h;have h:=ho2;clear ho2
  refine Run.block ?_
  refine R.bndS (t:=0) (by rfl) (fun hbd8=>?_)
  replace hbd8:b0.length≤9223372036854775807:=by first | (rw [List.length_map] at hbd8;exact hbd8) | simp
  refine R.lp (β:=Int) [(0,.slice (b0.map eTLink)),(1,.slice (b1.map eTLink))] [] (fun bb S=>(5,int bb)::S) (fun bb M=>M) (fun n bb=>0≤bb∧bb+n=(b0.length:Int)∧w_eqLinkS_L1 b1 (b0.drop bb.toNat) bb=some o2) b0.length (0:Int) ⟨Int.le_refl _,by simp,h⟩ ?_
  clear h
  rintro JJ8 n8 z9 hag8 ⟨hza8,hzb8,h⟩
  refine Run.seq (Run.sr (X.mv ?_))
  refine X.mv ?_
  refine X.ls elt33 ?_
  refine X.bi ?_
  refine X.nil ?_
  refine R.cd (fun hc12=>?_) (fun hc12=>?_)
  ·obtain ⟨x10,xs11,hd8,hx8,hds8,hlt8⟩:=drop_atI hza8 hc12
   rw [hd8] at h
   rw [w_eqLinkS_L1] at h
   refine Run.skip (Run.seq (Run.block (Run.seq (Run.draw (footOf []) mixed (by kernel_rfl) (by kernel_rfl) ?_))))
   refine X.mv ?_
   refine X.mv ?_
   refine X.ix elt33 (idxL_spec hx8).1 (idxL_map eTLink hx8) ?_
   refine X.lc shp92 ?_
   refine X.mv ?_
   refine X.mv ?_
   obtain ⟨v13,hv13,h⟩:=bindE h
   refine X.ix elt33 (idxL_spec hv13).1 (idxL_map eTLink hv13) ?_
   refine X.lc shp92 ?_
   obtain ⟨v14,hv14,h⟩:=bindE h
   refine X.cp (w_eqLink_pc _ _ _ hv14) ?_
   refine X.un (h:=?_)
   refine X.nil ?_
   refine R.cd (fun hc15=>?_) (fun hc15=>?_)
   ·replace h:=condT hc15 h
    refine Run.sr (X.an ?_)
    cases h
    have h:=hup3
    replace h:=elimR h
    cases h
    refine R.f1 Tryz.results29 ?_
    rfl
   replace h:=condF hc15 h
   refine Run.skip (Run.blk (Run.reg (X.mv ?_)))
   refine X.ad ?_
   refine X.an ?_
   exact R.ag hag8 (n8 - 1) (z9+1) (R.n3 (by first | (rw [hds8];exact h) | (dsimp only;rw [hds8];exact h)))
  rw [drop_endI hza8 hc12] at h
  rw [w_eqLinkS_L1] at h
  refine Run.exit (by rfl) ?_
  exact R.mt hmeet4 () (Option.some.inj h)
 rintro p16 rfl
 replace h:=elimL h
 refine Run.sr (X.an ?_)
 cases h
 refine R.f1 Tryz.results29 ?_
 rfl
theorem w_eqStep_pc (b0:TStep)(b1:TStep)(r:Bool)(h:w_eqStep b0 b1=some r):PC Tryz.prog 135 [eTStep b0,eTStep b1] (bool r):=by
 unfold w_eqStep at h
 refine PC.start Tryz.func135 Tryz.ntmps135 rfl ok135 rfl ?_
 refine Run.sr (X.bx ?_)
 refine X.bx ?_
 refine X.an ?_
 refine Run.seq (Run.sr (X.fl fld141_0 ?_))
 refine X.ld shp3 ?_
 refine X.fl fld141_0 ?_
 refine X.ld shp3 ?_
 refine X.bi ?_
 refine X.nil ?_
 refine R.cd (fun hc1=>?_) (fun hc1=>?_)
 ·replace h:=condT hc1 h
  refine Run.sr (X.an ?_)
  cases h
  refine R.f1 Tryz.results135 ?_
  rfl
 replace h:=condF hc1 h
 refine Run.skip (Run.seq (Run.sr (X.fl fld141_1 ?_)))
 refine X.ld shp3 ?_
 refine X.fl fld141_1 ?_
 refine X.ld shp3 ?_
 refine X.bi ?_
 refine X.nil ?_
 refine R.cd (fun hc2=>?_) (fun hc2=>?_)
 ·replace h:=condT hc2 h
  refine Run.sr (X.an ?_)
  cases h
  refine R.f1 Tryz.results135 ?_
  rfl
 replace h:=condF hc2 h
 refine Run.skip (Run.sr (X.an ?_))
 cases h
 refine R.f1 Tryz.results135 ?_
 rfl
theorem w_eqStepS_pc (b0:List TStep)(b1:List TStep)(r:Bool)(h:w_eqStepS b0 b1=some r):PC Tryz.prog 94 [.slice (b0.map eTStep),.slice (b1.map eTStep)] (bool r):=by
 unfold w_eqStepS at h
 refine PC.start Tryz.func94 Tryz.ntmps94 rfl ok94 rfl ?_
 refine Run.sr (X.an ?_)
 refine Run.seq (Run.sr (X.mv ?_))
 refine X.ls elt95 ?_
 refine X.mv ?_
 refine X.ls elt95 ?_
 refine X.bi ?_
 refine X.nil ?_
 refine R.cd (fun hc1=>?_) (fun hc1=>?_)
 ·replace h:=condT hc1 h
  refine Run.sr (X.an ?_)
  cases h
  refine R.f1 Tryz.results94 ?_
  rfl
 replace h:=condF hc1 h
 refine Run.skip (Run.seq (Run.sr (X.an ?_)))
 obtain ⟨o2,ho2,h⟩:=bindE h
 refine R.join2 (β:=Unit) [] [] (fun p16 S=>S) (fun p16 M=>M) (fun p16=>(Sum.inl p16)=o2) ?_ ?_
 ·intro JJ5 hmeet4
  have hup3:=h;clear h;have h:=ho2;clear ho2
  refine Run.block ?_
  refine R.bndS (t:=0) (by rfl) (fun hbd8=>?_)
  replace hbd8:b0.length≤9223372036854775807:=by first | (rw [List.length_map] at hbd8;exact hbd8) | simp
  refine R.lp (β:=Int) [(0,.slice (b0.map eTStep)),(1,.slice (b1.map eTStep))] [] (fun bb S=>(5,int bb)::S) (fun bb M=>M) (fun n bb=>0≤bb∧bb+n=(b0.length:Int)∧w_eqStepS_L1 b1 (b0.drop bb.toNat) bb=some o2) b0.length (0:Int) ⟨Int.le_refl _,by simp,h⟩ ?_
  clear h
  rintro JJ8 n8 z9 hag8 ⟨hza8,hzb8,h⟩
  refine Run.seq (Run.sr (X.mv ?_))
  refine X.mv ?_
  refine X.ls elt95 ?_
  refine X.bi ?_
  refine X.nil ?_
  refine R.cd (fun hc12=>?_) (fun hc12=>?_)
  ·obtain ⟨x10,xs11,hd8,hx8,hds8,hlt8⟩:=drop_atI hza8 hc12
   rw [hd8] at h
   rw [w_eqStepS_L1] at h
   refine Run.skip (Run.seq (Run.block (Run.seq (Run.draw (footOf []) mixed (by kernel_rfl) (by kernel_rfl) ?_))))
   refine X.mv ?_
   refine X.mv ?_
   refine X.ix elt95 (idxL_spec hx8).1 (idxL_map eTStep hx8) ?_
   refine X.lc shp141 ?_
   refine X.mv ?_
   refine X.mv ?_
   obtain ⟨v13,hv13,h⟩:=bindE h
   refine X.ix elt95 (idxL_spec hv13).1 (idxL_map eTStep hv13) ?_
   refine X.lc shp141 ?_
   obtain ⟨v14,hv14,h⟩:=bindE h
   refine X.cp (w_eqStep_pc _ _ _ hv14) ?_
   refine X.un (h:=?_)
   refine X.nil ?_
   refine R.cd (fun hc15=>?_) (fun hc15=>?_)
   ·replace h:=condT hc15 h
    refine Run.sr (X.an ?_)
    cases h
    have h:=hup3
    replace h:=elimR h
    cases h
    refine R.f1 Tryz.results94 ?_
    rfl
   replace h:=condF hc15 h
   refine Run.skip (Run.blk (Run.reg (X.mv ?_)))
   refine X.ad ?_
   refine X.an ?_
   exact R.ag hag8 (n8 - 1) (z9+1) (R.n3 (by first | (rw [hds8];exact h) | (dsimp only;rw [hds8];exact h)))
  rw [drop_endI hza8 hc12] at h
  rw [w_eqStepS_L1] at h
  refine Run.exit (by rfl) ?_
  exact R.mt hmeet4 () (Option.some.inj h)
 rintro p16 rfl
 replace h:=elimL h
 refine Run.sr (X.an ?_)
 cases h
 refine R.f1 Tryz.results94 ?_
 rfl
theorem w_eqIntSS_pc (b0:List (List Int))(b1:List (List Int))(r:Bool)(h:w_eqIntSS b0 b1=some r):PC Tryz.prog 95 [.slice (b0.map l_int),.slice (b1.map l_int)] (bool r):=by
 unfold w_eqIntSS at h
 refine PC.start Tryz.func95 Tryz.ntmps95 rfl ok95 rfl ?_
 refine Run.sr (X.an ?_)
 refine Run.seq (Run.sr (X.mv ?_))
 refine X.ls elt76 ?_
 refine X.mv ?_
 refine X.ls elt76 ?_
 refine X.bi ?_
 refine X.nil ?_
 refine R.cd (fun hc1=>?_) (fun hc1=>?_)
 ·replace h:=condT hc1 h
  refine Run.sr (X.an ?_)
  cases h
  refine R.f1 Tryz.results95 ?_
  rfl
 replace h:=condF hc1 h
 refine Run.skip (Run.seq (Run.sr (X.an ?_)))
 obtain ⟨o2,ho2,h⟩:=bindE h
 refine R.join2 (β:=Unit) [] [] (fun p16 S=>S) (fun p16 M=>M) (fun p16=>(Sum.inl p16)=o2) ?_ ?_
 ·intro JJ5 hmeet4
  have hup3:=h;clear h;have h:=ho2;clear ho2
  refine Run.block ?_
  refine R.bndS (t:=0) (by rfl) (fun hbd8=>?_)
  replace hbd8:b0.length≤9223372036854775807:=by first | (rw [List.length_map] at hbd8;exact hbd8) | simp
  refine R.lp (β:=Int) [(0,.slice (b0.map l_int)),(1,.slice (b1.map l_int))] [] (fun bb S=>(5,int bb)::S) (fun bb M=>M) (fun n bb=>0≤bb∧bb+n=(b0.length:Int)∧w_eqIntSS_L1 b1 (b0.drop bb.toNat) bb=some o2) b0.length (0:Int) ⟨Int.le_refl _,by simp,h⟩ ?_
  clear h
  rintro JJ8 n8 z9 hag8 ⟨hza8,hzb8,h⟩
  refine Run.seq (Run.sr (X.mv ?_))
  refine X.mv ?_
  refine X.ls elt76 ?_
  refine X.bi ?_
  refine X.nil ?_
  refine R.cd (fun hc12=>?_) (fun hc12=>?_)
  ·obtain ⟨x10,xs11,hd8,hx8,hds8,hlt8⟩:=drop_atI hza8 hc12
   rw [hd8] at h
   rw [w_eqIntSS_L1] at h
   refine Run.skip (Run.seq (Run.block (Run.seq (Run.draw (footOf []) mixed (by kernel_rfl) (by kernel_rfl) ?_))))
   refine X.mv ?_
   refine X.mv ?_
   refine X.ix elt76 (idxL_spec hx8).1 (idxL_map l_int hx8) ?_
   refine X.lc shp25 ?_
   refine X.mv ?_
   refine X.mv ?_
   obtain ⟨v13,hv13,h⟩:=bindE h
   refine X.ix elt76 (idxL_spec hv13).1 (idxL_map l_int hv13) ?_
   refine X.lc shp25 ?_
   obtain ⟨v14,hv14,h⟩:=bindE h
   refine X.cp (w_eqIntS_pc _ _ _ hv14) ?_
   refine X.un (h:=?_)
   refine X.nil ?_
   refine R.cd (fun hc15=>?_) (fun hc15=>?_)
   ·replace h:=condT hc15 h
    refine Run.sr (X.an ?_)
    cases h
    have h:=hup3
    replace h:=elimR h
    cases h
    refine R.f1 Tryz.results95 ?_
    rfl
   replace h:=condF hc15 h
   refine Run.skip (Run.blk (Run.reg (X.mv ?_)))
   refine X.ad ?_
   refine X.an ?_
   exact R.ag hag8 (n8 - 1) (z9+1) (R.n3 (by first | (rw [hds8];exact h) | (dsimp only;rw [hds8];exact h)))
  rw [drop_endI hza8 hc12] at h
  rw [w_eqIntSS_L1] at h
  refine Run.exit (by rfl) ?_
  exact R.mt hmeet4 () (Option.some.inj h)
 rintro p16 rfl
 replace h:=elimL h
 refine Run.sr (X.an ?_)
 cases h
 refine R.f1 Tryz.results95 ?_
 rfl
theorem w_eqResource_pc (b0:TResource)(b1:TResource)(r:Bool)(h:w_eqResource b0 b1=some r):PC Tryz.prog 60 [eTResource b0,eTResource b1] (bool r):=by
 unfold w_eqResource at h
 refine PC.start Tryz.func60 Tryz.ntmps60 rfl ok60 rfl ?_
 refine Run.sr (X.bx ?_)
 refine X.bx ?_
 refine X.an ?_
 refine Run.seq (Run.sr (X.fl fld97_0 ?_))
 refine X.ld shp95 ?_
 refine X.fl fld97_0 ?_
 refine X.ld shp95 ?_
 obtain ⟨v1,hv1,h⟩:=bindE h
 refine X.cp (w_eqStepS_pc _ _ _ hv1) ?_
 refine X.un (h:=?_)
 refine X.nil ?_
 refine R.cd (fun hc2=>?_) (fun hc2=>?_)
 ·replace h:=condT hc2 h
  refine Run.sr (X.an ?_)
  cases h
  refine R.f1 Tryz.results60 ?_
  rfl
 replace h:=condF hc2 h
 refine Run.skip (Run.seq (Run.sr (X.fl fld97_1 ?_)))
 refine X.ld shp76 ?_
 refine X.fl fld97_1 ?_
 refine X.ld shp76 ?_
 obtain ⟨v3,hv3,h⟩:=bindE h
 refine X.cp (w_eqIntSS_pc _ _ _ hv3) ?_
 refine X.un (h:=?_)
 refine X.nil ?_
 refine R.cd (fun hc4=>?_) (fun hc4=>?_)
 ·replace h:=condT hc4 h
  refine Run.sr (X.an ?_)
  cases h
  refine R.f1 Tryz.results60 ?_
  rfl
 replace h:=condF hc4 h
 refine Run.skip (Run.sr (X.an ?_))
 cases h
 refine R.f1 Tryz.results60 ?_
 rfl
theorem w_eqResourceS_pc (b0:List TResource)(b1:List TResource)(r:Bool)(h:w_eqResourceS b0 b1=some r):PC Tryz.prog 30 [.slice (b0.map eTResource),.slice (b1.map eTResource)] (bool r):=by
 unfold w_eqResourceS at h
 refine PC.start Tryz.func30 Tryz.ntmps30 rfl ok30 rfl ?_
 refine Run.sr (X.an ?_)
 refine Run.seq (Run.sr (X.mv ?_))
 refine X.ls elt34 ?_
 refine X.mv ?_
 refine X.ls elt34 ?_
 refine X.bi ?_
 refine X.nil ?_
 refine R.cd (fun hc1=>?_) (fun hc1=>?_)
 ·replace h:=condT hc1 h
  refine Run.sr (X.an ?_)
  cases h
  refine R.f1 Tryz.results30 ?_
  rfl
 replace h:=condF hc1 h
 refine Run.skip (Run.seq (Run.sr (X.an ?_)))
 obtain ⟨o2,ho2,h⟩:=bindE h
 refine R.join2 (β:=Unit) [] [] (fun p16 S=>S) (fun p16 M=>M) (fun p16=>(Sum.inl p16)=o2) ?_ ?_
 ·intro JJ5 hmeet4
  have hup3:=h;clear h;have h:=ho2;clear ho2
  refine Run.block ?_
  refine R.bndS (t:=0) (by rfl) (fun hbd8=>?_)
  replace hbd8:b0.length≤9223372036854775807:=by first | (rw [List.length_map] at hbd8;exact hbd8) | simp
  refine R.lp (β:=Int) [(0,.slice (b0.map eTResource)),(1,.slice (b1.map eTResource))] [] (fun bb S=>(5,int bb)::S) (fun bb M=>M) (fun n bb=>0≤bb∧bb+n=(b0.length:Int)∧w_eqResourceS_L1 b1 (b0.drop bb.toNat) bb=some o2) b0.length (0:Int) ⟨Int.le_refl _,by simp,h⟩ ?_
  clear h
  rintro JJ8 n8 z9 hag8 ⟨hza8,hzb8,h⟩
  refine Run.seq (Run.sr (X.mv ?_))
  refine X.mv ?_
  refine X.ls elt34 ?_
  refine X.bi ?_
  refine X.nil ?_
  refine R.cd (fun hc12=>?_) (fun hc12=>?_)
  ·obtain ⟨x10,xs11,hd8,hx8,hds8,hlt8⟩:=drop_atI hza8 hc12
   rw [hd8] at h
   rw [w_eqResourceS_L1] at h
   refine Run.skip (Run.seq (Run.block (Run.seq (Run.draw (footOf []) mixed (by kernel_rfl) (by kernel_rfl) ?_))))
   refine X.mv ?_
   refine X.mv ?_
   refine X.ix elt34 (idxL_spec hx8).1 (idxL_map eTResource hx8) ?_
   refine X.lc shp97 ?_
   refine X.mv ?_
   refine X.mv ?_
   obtain ⟨v13,hv13,h⟩:=bindE h
   refine X.ix elt34 (idxL_spec hv13).1 (idxL_map eTResource hv13) ?_
   refine X.lc shp97 ?_
   obtain ⟨v14,hv14,h⟩:=bindE h
   refine X.cp (w_eqResource_pc _ _ _ hv14) ?_
   refine X.un (h:=?_)
   refine X.nil ?_
   refine R.cd (fun hc15=>?_) (fun hc15=>?_)
   ·replace h:=condT hc15 h
    refine Run.sr (X.an ?_)
    cases h
    have h:=hup3
    replace h:=elimR h
    cases h
    refine R.f1 Tryz.results30 ?_
    rfl
   replace h:=condF hc15 h
   refine Run.skip (Run.blk (Run.reg (X.mv ?_)))
   refine X.ad ?_
   refine X.an ?_
   exact R.ag hag8 (n8 - 1) (z9+1) (R.n3 (by first | (rw [hds8];exact h) | (dsimp only;rw [hds8];exact h)))
  rw [drop_endI hza8 hc12] at h
  rw [w_eqResourceS_L1] at h
  refine Run.exit (by rfl) ?_
  exact R.mt hmeet4 () (Option.some.inj h)
 rintro p16 rfl
 replace h:=elimL h
 refine Run.sr (X.an ?_)
 cases h
 refine R.f1 Tryz.results30 ?_
 rfl
theorem w_eqProject_pc (b0:TProject)(b1:TProject)(r:Bool)(h:w_eqProject b0 b1=some r):PC Tryz.prog 9 [eTProject b0,eTProject b1] (bool r):=by
 unfold w_eqProject at h
 refine PC.start Tryz.func9 Tryz.ntmps9 rfl ok9 rfl ?_
 refine Run.sr (X.bx ?_)
 refine X.bx ?_
 refine X.an ?_
 refine Run.seq (Run.sr (X.fl fld36_0 ?_))
 refine X.ld shp3 ?_
 refine X.fl fld36_0 ?_
 refine X.ld shp3 ?_
 refine X.bi ?_
 refine X.nil ?_
 refine R.cd (fun hc1=>?_) (fun hc1=>?_)
 ·replace h:=condT hc1 h
  refine Run.sr (X.an ?_)
  cases h
  refine R.f1 Tryz.results9 ?_
  rfl
 replace h:=condF hc1 h
 refine Run.skip (Run.seq (Run.sr (X.fl fld36_1 ?_)))
 refine X.ld shp32 ?_
 refine X.fl fld36_1 ?_
 refine X.ld shp32 ?_
 obtain ⟨v2,hv2,h⟩:=bindE h
 refine X.cp (w_eqActivityS_pc _ _ _ hv2) ?_
 refine X.un (h:=?_)
 refine X.nil ?_
 refine R.cd (fun hc3=>?_) (fun hc3=>?_)
 ·replace h:=condT hc3 h
  refine Run.sr (X.an ?_)
  cases h
  refine R.f1 Tryz.results9 ?_
  rfl
 replace h:=condF hc3 h
 refine Run.skip (Run.seq (Run.sr (X.fl fld36_2 ?_)))
 refine X.ld shp33 ?_
 refine X.fl fld36_2 ?_
 refine X.ld shp33 ?_
 obtain ⟨v4,hv4,h⟩:=bindE h
 refine X.cp (w_eqLinkS_pc _ _ _ hv4) ?_
 refine X.un (h:=?_)
 refine X.nil ?_
 refine R.cd (fun hc5=>?_) (fun hc5=>?_)
 ·replace h:=condT hc5 h
  refine Run.sr (X.an ?_)
  cases h
  refine R.f1 Tryz.results9 ?_
  rfl
 replace h:=condF hc5 h
 refine Run.skip (Run.seq (Run.sr (X.fl fld36_3 ?_)))
 refine X.ld shp34 ?_
 refine X.fl fld36_3 ?_
 refine X.ld shp34 ?_
 obtain ⟨v6,hv6,h⟩:=bindE h
 refine X.cp (w_eqResourceS_pc _ _ _ hv6) ?_
 refine X.un (h:=?_)
 refine X.nil ?_
 refine R.cd (fun hc7=>?_) (fun hc7=>?_)
 ·replace h:=condT hc7 h
  refine Run.sr (X.an ?_)
  cases h
  refine R.f1 Tryz.results9 ?_
  rfl
 replace h:=condF hc7 h
 refine Run.skip (Run.seq (Run.sr (X.fl fld36_4 ?_)))
 refine X.ld shp25 ?_
 refine X.fl fld36_4 ?_
 refine X.ld shp25 ?_
 obtain ⟨v8,hv8,h⟩:=bindE h
 refine X.cp (w_eqIntS_pc _ _ _ hv8) ?_
 refine X.un (h:=?_)
 refine X.nil ?_
 refine R.cd (fun hc9=>?_) (fun hc9=>?_)
 ·replace h:=condT hc9 h
  refine Run.sr (X.an ?_)
  cases h
  refine R.f1 Tryz.results9 ?_
  rfl
 replace h:=condF hc9 h
 refine Run.skip (Run.sr (X.an ?_))
 cases h
 refine R.f1 Tryz.results9 ?_
 rfl
theorem w_markText_pc (b0:Int)(r:ByteArray)(h:w_markText b0=some r):PC Tryz.prog 61 [int b0] (str r):=by
 unfold w_markText at h
 refine PC.start Tryz.func61 Tryz.ntmps61 rfl ok61 rfl ?_
 refine Run.sr (X.an ?_)
 refine Run.seq (Run.sr (X.mv ?_))
 refine X.bi ?_
 refine X.nil ?_
 refine R.cd (fun hc1=>?_) (fun hc1=>?_)
 ·replace h:=condT hc1 h
  refine Run.sr (X.an ?_)
  cases h
  refine R.f1 Tryz.results61 ?_
  rfl
 replace h:=condF hc1 h
 refine Run.skip (Run.sr (X.an ?_))
 refine Run.seq ?_
 obtain ⟨o2,ho2,h⟩:=bindE h
 refine R.join2 (β:=ByteArray) [] [] (fun p13 S=>(3,str p13)::S) (fun p13 M=>M) (fun p13=>p13=o2) ?_ ?_
 ·intro JJ5 hmeet4
  have hup3:=h;clear h;have h:=ho2;clear ho2
  refine Run.block ?_
  refine R.lp (β:=Int×ByteArray) [] [] (fun bb S=>(0,int bb.1)::(3,str bb.2)::S) (fun bb M=>M) (fun n bb=>w_markText_L1 n bb.1 bb.2=some o2) F0 (b0,ByteArray.empty) h ?_
  clear h
  rintro JJ5 n5 ⟨a7,a8⟩ hag5 h
  dsimp only at h
  obtain _ | n5:=n5
  ·exact absurd h (by simp [w_markText_L1])
  rw [w_markText_L1] at h
  refine Run.seq (Run.sr (X.mv ?_))
  refine X.bi ?_
  refine X.nil ?_
  refine R.cd (fun hc11=>?_) (fun hc11=>?_)
  ·replace h:=condT hc11 h
   refine Run.skip (Run.block (Run.sr (X.mv ?_)))
   refine X.bi ?_
   refine X.addW (h:=?_)
   refine X.conv Tryz.underlying5 (by rw [Tryz.underlying3];rfl) (by rfl) (by rfl) ?_
   refine X.buildSlice false elt121 zer5 (by rfl) (by rfl) (by rfl) (by rfl) (by rfl) (by rfl) (by repeat (first | trivial | refine ⟨by first | rfl | simp [setL],?_⟩)) (allSz_spec (by rfl)) (by rfl) (by rfl) (by rfl) ?_
   refine X.convBS ([(IntKind.u8.wrap (W (48+(a7.tmod 10))))]:List Int) Tryz.underlying121 Tryz.underlying5 Tryz.underlying9 (by rfl) (.own _ _ _ _ _ _ (look_mem (by rfl)) (by first | rfl | simp [setL] | omega)) (by rfl) (by rfl) (by rfl) ?_
   refine X.mv ?_
   obtain ⟨v12,hv12,h⟩:=bindE h
   refine X.cat2 hv12 (by rfl) (by rfl) (by rfl) ?_
   refine X.an ?_
   refine Run.reg (X.mv ?_)
   refine X.bi ?_
   refine X.an ?_
   refine Run.blk ?_
   exact hag5 n5 ((W (a7.tdiv 10)),v12) _ _ (by omega) h (by repeat (first | trivial | refine ⟨by first | rfl | simp [setL],?_⟩)) (by repeat (first | trivial | refine ⟨by first | rfl | simp [setL],?_⟩)) (by rfl) (by rfl)
  replace h:=condF hc11 h
  refine Run.exit (by rfl) ?_
  exact R.mt hmeet4 a8 (Option.some.inj h)
 rintro p13 rfl
 refine Run.sr (X.mv ?_)
 obtain ⟨v14,hv14,h⟩:=bindE h
 refine X.cat2 hv14 (by rfl) (by rfl) (by rfl) ?_
 refine X.an ?_
 cases h
 refine R.f1 Tryz.results61 ?_
 rfl
theorem w_markIntS_k_pc (b0:List Int)(b1:Int)(r:Int)(h:w_markIntS_k b0 b1=some r):PCM Tryz.prog 35 [.ysk 63 (.slice (b0.map int)),int b1] [(63,.yreg true true)] (int r) [(63,.yreg true true)]:=by
 unfold w_markIntS_k at h
 refine PCM.start Tryz.func35 Tryz.ntmps35 rfl ok35 rfl (by rfl) (by rfl) (by rfl) (by rfl) (by rfl) ?_
 refine Run.sr (X.an ?_)
 refine Run.seq (Run.sr (X.an ?_))
 obtain ⟨o1,ho1,h⟩:=bindE h
 refine R.join2 (β:=Int) [] [(63,.yreg true true)] (fun p13 S=>(1,int p13)::S) (fun p13 M=>M) (fun p13=>p13=o1) ?_ ?_
 ·intro JJ4 hmeet3
  have hup2:=h;clear h;have h:=ho1;clear ho1
  refine Run.block ?_
  refine R.bndY true 63 (t:=0) (by rfl) (fun hbd7=>?_)
  replace hbd7:b0.length≤9223372036854775807:=by first | (rw [List.length_map] at hbd7;exact hbd7) | simp
  refine R.lp (β:=Int×Int) [(0,.ysk 63 (.slice (b0.map int)))] [(63,.yreg true true)] (fun bb S=>(1,int bb.2)::(5,int bb.1)::S) (fun bb M=>M) (fun n bb=>0≤bb.1∧bb.1+n=(b0.length:Int)∧w_markIntS_k_L1 (b0.drop bb.1.toNat) bb.1 bb.2=some o1) b0.length (0,b1) ⟨Int.le_refl _,by simp,h⟩ ?_
  clear h
  rintro JJ7 n7 ⟨z8,a9⟩ hag7 ⟨hza7,hzb7,h⟩
  dsimp only at hza7 hzb7 h
  refine Run.seq (Run.sr (X.mv ?_))
  refine X.mv ?_
  refine X.lenY true 63 elt25 (by rfl) (by exact List.length_map ..) (by rfl) ?_
  refine X.bi ?_
  refine X.nil ?_
  refine R.cd (fun hc12=>?_) (fun hc12=>?_)
  ·obtain ⟨x10,xs11,hd7,hx7,hds7,hlt7⟩:=drop_atI hza7 hc12
   rw [hd7] at h
   rw [w_markIntS_k_L1] at h
   refine Run.skip (Run.seq (Run.block (Run.sr (X.mv ?_))))
   refine X.mv ?_
   refine X.mv ?_
   refine X.indexY true 63 elt25 (by rfl) (by rfl) (idxL_spec hx7).1 (idxL_map int hx7) (by rfl) (by rfl) ?_
   refine X.storeY 63 shp3 (by rfl) (by rfl) (by rfl) (by rfl) (by rfl) (by rfl) (by rfl) ?_
   refine X.nil (Run.reg (X.mv ?_))
   refine X.addW (h:=?_)
   refine X.an ?_
   refine Run.blk (Run.reg (X.mv ?_))
   refine X.ad ?_
   refine X.an ?_
   exact R.ag hag7 (n7 - 1) (z8+1,(W (a9+1))) (R.n3 (by first | (rw [hds7];exact h) | (dsimp only;rw [hds7];exact h)))
  rw [drop_endI hza7 hc12] at h
  rw [w_markIntS_k_L1] at h
  refine Run.exit (by rfl) ?_
  exact R.mt hmeet3 a9 (Option.some.inj h)
 rintro p13 rfl
 refine Run.sr (X.mv ?_)
 refine X.an ?_
 cases h
 exact R.finM1 Tryz.results35 (by rfl) (by rfl) (by repeat (first | exact trivial | refine ⟨by rfl,?_⟩)) rfl
theorem w_markModeS_k_pc (b0:List TMode)(b1:Int)(r:Int)(h:w_markModeS_k b0 b1=some r):PCM Tryz.prog 62 [.ysk 63 (.slice (b0.map eTMode)),int b1] [(63,.yreg true true)] (int r) [(63,.yreg true true)]:=by
 unfold w_markModeS_k at h
 refine PCM.start Tryz.func62 Tryz.ntmps62 rfl ok62 rfl (by rfl) (by rfl) (by rfl) (by rfl) (by rfl) ?_
 refine Run.sr (X.an ?_)
 refine Run.seq (Run.sr (X.an ?_))
 obtain ⟨o1,ho1,h⟩:=bindE h
 refine R.join2 (β:=Int) [] [(63,.yreg true true)] (fun p15 S=>(1,int p15)::S) (fun p15 M=>M) (fun p15=>p15=o1) ?_ ?_
 ·intro JJ4 hmeet3
  have hup2:=h;clear h;have h:=ho1;clear ho1
  refine Run.block ?_
  refine R.bndY true 63 (t:=0) (by rfl) (fun hbd7=>?_)
  replace hbd7:b0.length≤9223372036854775807:=by first | (rw [List.length_map] at hbd7;exact hbd7) | simp
  refine R.lp (β:=Int×Int) [(0,.ysk 63 (.slice (b0.map eTMode)))] [(63,.yreg true true)] (fun bb S=>(1,int bb.2)::(5,int bb.1)::S) (fun bb M=>M) (fun n bb=>0≤bb.1∧bb.1+n=(b0.length:Int)∧w_markModeS_k_L1 (b0.drop bb.1.toNat) bb.1 bb.2=some o1) b0.length (0,b1) ⟨Int.le_refl _,by simp,h⟩ ?_
  clear h
  rintro JJ7 n7 ⟨z8,a9⟩ hag7 ⟨hza7,hzb7,h⟩
  dsimp only at hza7 hzb7 h
  refine Run.seq (Run.sr (X.mv ?_))
  refine X.mv ?_
  refine X.lenY true 63 elt87 (by rfl) (by exact List.length_map ..) (by rfl) ?_
  refine X.bi ?_
  refine X.nil ?_
  refine R.cd (fun hc12=>?_) (fun hc12=>?_)
  ·obtain ⟨x10,xs11,hd7,hx7,hds7,hlt7⟩:=drop_atI hza7 hc12
   rw [hd7] at h
   rw [w_markModeS_k_L1] at h
   refine Run.skip (Run.seq (Run.block (Run.sr (X.mv ?_))))
   refine X.mv ?_
   refine X.mv ?_
   refine X.indexY true 63 elt87 (by rfl) (by rfl) (idxL_spec hx7).1 (idxL_map eTMode hx7) (by rfl) (by rfl) ?_
   refine X.fieldY true 63 fld139_0 (by rfl) (by rfl) ?_
   refine X.storeY 63 shp3 (by rfl) (by rfl) (by rfl) (by rfl) (by rfl) (by rfl) (by rfl) ?_
   refine X.nil (Run.sr (X.mv ?_))
   refine X.addW (h:=?_)
   refine X.an ?_
   refine Run.sr (X.mv ?_)
   refine X.mv ?_
   refine X.indexY true 63 elt87 (by rfl) (by rfl) (idxL_spec hx7).1 (idxL_map eTMode hx7) (by rfl) (by rfl) ?_
   refine X.fieldY true 63 fld139_1 (by rfl) (by rfl) ?_
   refine X.loadY true 63 shp25 (by rfl) (by rfl) (by rfl) (by rfl) ?_
   refine X.mv ?_
   obtain ⟨v13,hv13,h⟩:=bindE h
   refine X.callM [(63,63)] (w_markIntS_k_pc _ _ _ hv13) (by rfl) (by rfl) (.yskB 63 (by rfl) (by rfl) (.pureB (by rfl) (by repeat (first | trivial | refine ⟨by first | rfl | simp [setL],?_⟩)) .nil)) (by rfl) ⟨rfl,rfl,⟨_,by rfl,by constructor⟩,by constructor,trivial⟩ (by rfl) (by rfl) (by rfl) (by rfl) (by rfl) (by rfl) (by rfl) (by rfl) (by rfl) ?_
   refine X.an ?_
   refine Run.reg (X.mv ?_)
   refine X.mv ?_
   refine X.indexY true 63 elt87 (by rfl) (by rfl) (idxL_spec hx7).1 (idxL_map eTMode hx7) (by rfl) (by rfl) ?_
   refine X.fieldY true 63 fld139_2 (by rfl) (by rfl) ?_
   refine X.loadY true 63 shp25 (by rfl) (by rfl) (by rfl) (by rfl) ?_
   refine X.mv ?_
   obtain ⟨v14,hv14,h⟩:=bindE h
   refine X.callM [(63,63)] (w_markIntS_k_pc _ _ _ hv14) (by rfl) (by rfl) (.yskB 63 (by rfl) (by rfl) (.pureB (by rfl) (by repeat (first | trivial | refine ⟨by first | rfl | simp [setL],?_⟩)) .nil)) (by rfl) ⟨rfl,rfl,⟨_,by rfl,by constructor⟩,by constructor,trivial⟩ (by rfl) (by rfl) (by rfl) (by rfl) (by rfl) (by rfl) (by rfl) (by rfl) (by rfl) ?_
   refine X.an ?_
   refine Run.blk (Run.reg (X.mv ?_))
   refine X.ad ?_
   refine X.an ?_
   exact R.ag hag7 (n7 - 1) (z8+1,v14) (R.n3 (by first | (rw [hds7];exact h) | (dsimp only;rw [hds7];exact h)))
  rw [drop_endI hza7 hc12] at h
  rw [w_markModeS_k_L1] at h
  refine Run.exit (by rfl) ?_
  exact R.mt hmeet3 a9 (Option.some.inj h)
 rintro p15 rfl
 refine Run.sr (X.mv ?_)
 refine X.an ?_
 cases h
 exact R.finM1 Tryz.results62 (by rfl) (by rfl) (by repeat (first | exact trivial | refine ⟨by rfl,?_⟩)) rfl
theorem w_markActivityS_k_pc (b0:List TActivity)(b1:Int)(r:Int)(h:w_markActivityS_k b0 b1=some r):PCM Tryz.prog 32 [.ysk 63 (.slice (b0.map eTActivity)),int b1] [(63,.yreg true true)] (int r) [(63,.yreg true true)]:=by
 unfold w_markActivityS_k at h
 refine PCM.start Tryz.func32 Tryz.ntmps32 rfl ok32 rfl (by rfl) (by rfl) (by rfl) (by rfl) (by rfl) ?_
 refine Run.sr (X.an ?_)
 refine Run.seq (Run.sr (X.an ?_))
 obtain ⟨o1,ho1,h⟩:=bindE h
 refine R.join2 (β:=Int) [] [(63,.yreg true true)] (fun p15 S=>(1,int p15)::S) (fun p15 M=>M) (fun p15=>p15=o1) ?_ ?_
 ·intro JJ4 hmeet3
  have hup2:=h;clear h;have h:=ho1;clear ho1
  refine Run.block ?_
  refine R.bndY true 63 (t:=0) (by rfl) (fun hbd7=>?_)
  replace hbd7:b0.length≤9223372036854775807:=by first | (rw [List.length_map] at hbd7;exact hbd7) | simp
  refine R.lp (β:=Int×Int) [(0,.ysk 63 (.slice (b0.map eTActivity)))] [(63,.yreg true true)] (fun bb S=>(1,int bb.2)::(5,int bb.1)::S) (fun bb M=>M) (fun n bb=>0≤bb.1∧bb.1+n=(b0.length:Int)∧w_markActivityS_k_L1 (b0.drop bb.1.toNat) bb.1 bb.2=some o1) b0.length (0,b1) ⟨Int.le_refl _,by simp,h⟩ ?_
  clear h
  rintro JJ7 n7 ⟨z8,a9⟩ hag7 ⟨hza7,hzb7,h⟩
  dsimp only at hza7 hzb7 h
  refine Run.seq (Run.sr (X.mv ?_))
  refine X.mv ?_
  refine X.lenY true 63 elt32 (by rfl) (by exact List.length_map ..) (by rfl) ?_
  refine X.bi ?_
  refine X.nil ?_
  refine R.cd (fun hc12=>?_) (fun hc12=>?_)
  ·obtain ⟨x10,xs11,hd7,hx7,hds7,hlt7⟩:=drop_atI hza7 hc12
   rw [hd7] at h
   rw [w_markActivityS_k_L1] at h
   refine Run.skip (Run.seq (Run.block (Run.sr (X.mv ?_))))
   refine X.mv ?_
   refine X.mv ?_
   obtain ⟨v13,hv13,h⟩:=bindE h
   refine X.cp (w_markText_pc _ _ hv13) ?_
   refine X.indexY true 63 elt32 (by rfl) (by rfl) (idxL_spec hx7).1 (idxL_map eTActivity hx7) (by rfl) (by rfl) ?_
   refine X.fieldY true 63 fld89_0 (by rfl) (by rfl) ?_
   refine X.storeY 63 shp9 (by rfl) (by rfl) (by rfl) (by rfl) (by rfl) (by rfl) (by rfl) ?_
   refine X.nil (Run.sr (X.mv ?_))
   refine X.addW (h:=?_)
   refine X.an ?_
   refine Run.sr (X.mv ?_)
   refine X.mv ?_
   refine X.mv ?_
   refine X.indexY true 63 elt32 (by rfl) (by rfl) (idxL_spec hx7).1 (idxL_map eTActivity hx7) (by rfl) (by rfl) ?_
   refine X.fieldY true 63 fld89_1 (by rfl) (by rfl) ?_
   refine X.storeY 63 shp3 (by rfl) (by rfl) (by rfl) (by rfl) (by rfl) (by rfl) (by rfl) ?_
   refine X.nil (Run.sr (X.mv ?_))
   refine X.addW (h:=?_)
   refine X.an ?_
   refine Run.reg (X.mv ?_)
   refine X.mv ?_
   refine X.indexY true 63 elt32 (by rfl) (by rfl) (idxL_spec hx7).1 (idxL_map eTActivity hx7) (by rfl) (by rfl) ?_
   refine X.fieldY true 63 fld89_2 (by rfl) (by rfl) ?_
   refine X.loadY true 63 shp87 (by rfl) (by rfl) (by rfl) (by rfl) ?_
   refine X.mv ?_
   obtain ⟨v14,hv14,h⟩:=bindE h
   refine X.callM [(63,63)] (w_markModeS_k_pc _ _ _ hv14) (by rfl) (by rfl) (.yskB 63 (by rfl) (by rfl) (.pureB (by rfl) (by repeat (first | trivial | refine ⟨by first | rfl | simp [setL],?_⟩)) .nil)) (by rfl) ⟨rfl,rfl,⟨_,by rfl,by constructor⟩,by constructor,trivial⟩ (by rfl) (by rfl) (by rfl) (by rfl) (by rfl) (by rfl) (by rfl) (by rfl) (by rfl) ?_
   refine X.an ?_
   refine Run.blk (Run.reg (X.mv ?_))
   refine X.ad ?_
   refine X.an ?_
   exact R.ag hag7 (n7 - 1) (z8+1,v14) (R.n3 (by first | (rw [hds7];exact h) | (dsimp only;rw [hds7];exact h)))
  rw [drop_endI hza7 hc12] at h
  rw [w_markActivityS_k_L1] at h
  refine Run.exit (by rfl) ?_
  exact R.mt hmeet3 a9 (Option.some.inj h)
 rintro p15 rfl
 refine Run.sr (X.mv ?_)
 refine X.an ?_
 cases h
 exact R.finM1 Tryz.results32 (by rfl) (by rfl) (by repeat (first | exact trivial | refine ⟨by rfl,?_⟩)) rfl
theorem w_markLinkS_k_pc (b0:List TLink)(b1:Int)(r:Int)(h:w_markLinkS_k b0 b1=some r):PCM Tryz.prog 33 [.ysk 63 (.slice (b0.map eTLink)),int b1] [(63,.yreg true true)] (int r) [(63,.yreg true true)]:=by
 unfold w_markLinkS_k at h
 refine PCM.start Tryz.func33 Tryz.ntmps33 rfl ok33 rfl (by rfl) (by rfl) (by rfl) (by rfl) (by rfl) ?_
 refine Run.sr (X.an ?_)
 refine Run.seq (Run.sr (X.an ?_))
 obtain ⟨o1,ho1,h⟩:=bindE h
 refine R.join2 (β:=Int) [] [(63,.yreg true true)] (fun p13 S=>(1,int p13)::S) (fun p13 M=>M) (fun p13=>p13=o1) ?_ ?_
 ·intro JJ4 hmeet3
  have hup2:=h;clear h;have h:=ho1;clear ho1
  refine Run.block ?_
  refine R.bndY true 63 (t:=0) (by rfl) (fun hbd7=>?_)
  replace hbd7:b0.length≤9223372036854775807:=by first | (rw [List.length_map] at hbd7;exact hbd7) | simp
  refine R.lp (β:=Int×Int) [(0,.ysk 63 (.slice (b0.map eTLink)))] [(63,.yreg true true)] (fun bb S=>(1,int bb.2)::(5,int bb.1)::S) (fun bb M=>M) (fun n bb=>0≤bb.1∧bb.1+n=(b0.length:Int)∧w_markLinkS_k_L1 (b0.drop bb.1.toNat) bb.1 bb.2=some o1) b0.length (0,b1) ⟨Int.le_refl _,by simp,h⟩ ?_
  clear h
  rintro JJ7 n7 ⟨z8,a9⟩ hag7 ⟨hza7,hzb7,h⟩
  dsimp only at hza7 hzb7 h
  refine Run.seq (Run.sr (X.mv ?_))
  refine X.mv ?_
  refine X.lenY true 63 elt33 (by rfl) (by exact List.length_map ..) (by rfl) ?_
  refine X.bi ?_
  refine X.nil ?_
  refine R.cd (fun hc12=>?_) (fun hc12=>?_)
  ·obtain ⟨x10,xs11,hd7,hx7,hds7,hlt7⟩:=drop_atI hza7 hc12
   rw [hd7] at h
   rw [w_markLinkS_k_L1] at h
   refine Run.skip (Run.seq (Run.block (Run.sr (X.mv ?_))))
   refine X.mv ?_
   refine X.mv ?_
   refine X.indexY true 63 elt33 (by rfl) (by rfl) (idxL_spec hx7).1 (idxL_map eTLink hx7) (by rfl) (by rfl) ?_
   refine X.fieldY true 63 fld92_0 (by rfl) (by rfl) ?_
   refine X.storeY 63 shp3 (by rfl) (by rfl) (by rfl) (by rfl) (by rfl) (by rfl) (by rfl) ?_
   refine X.nil (Run.sr (X.mv ?_))
   refine X.addW (h:=?_)
   refine X.an ?_
   refine Run.sr (X.mv ?_)
   refine X.mv ?_
   refine X.mv ?_
   refine X.indexY true 63 elt33 (by rfl) (by rfl) (idxL_spec hx7).1 (idxL_map eTLink hx7) (by rfl) (by rfl) ?_
   refine X.fieldY true 63 fld92_1 (by rfl) (by rfl) ?_
   refine X.storeY 63 shp3 (by rfl) (by rfl) (by rfl) (by rfl) (by rfl) (by rfl) (by rfl) ?_
   refine X.nil (Run.sr (X.mv ?_))
   refine X.addW (h:=?_)
   refine X.an ?_
   refine Run.sr (X.mv ?_)
   refine X.mv ?_
   refine X.mv ?_
   refine X.bi ?_
   refine X.bi ?_
   refine X.indexY true 63 elt33 (by rfl) (by rfl) (idxL_spec hx7).1 (idxL_map eTLink hx7) (by rfl) (by rfl) ?_
   refine X.fieldY true 63 fld92_2 (by rfl) (by rfl) ?_
   refine X.storeY 63 shp4 (by rfl) (by rfl) (by rfl) (by rfl) (by rfl) (by rfl) (by rfl) ?_
   refine X.nil (Run.sr (X.mv ?_))
   refine X.addW (h:=?_)
   refine X.an ?_
   refine Run.sr (X.mv ?_)
   refine X.mv ?_
   refine X.mv ?_
   refine X.indexY true 63 elt33 (by rfl) (by rfl) (idxL_spec hx7).1 (idxL_map eTLink hx7) (by rfl) (by rfl) ?_
   refine X.fieldY true 63 fld92_3 (by rfl) (by rfl) ?_
   refine X.storeY 63 shp3 (by rfl) (by rfl) (by rfl) (by rfl) (by rfl) (by rfl) (by rfl) ?_
   refine X.nil (Run.reg (X.mv ?_))
   refine X.addW (h:=?_)
   refine X.an ?_
   refine Run.blk (Run.reg (X.mv ?_))
   refine X.ad ?_
   refine X.an ?_
   exact R.ag hag7 (n7 - 1) (z8+1,(W ((W ((W ((W (a9+1))+1))+1))+1))) (R.n3 (by first | (rw [hds7];exact h) | (dsimp only;rw [hds7];exact h)))
  rw [drop_endI hza7 hc12] at h
  rw [w_markLinkS_k_L1] at h
  refine Run.exit (by rfl) ?_
  exact R.mt hmeet3 a9 (Option.some.inj h)
 rintro p13 rfl
 refine Run.sr (X.mv ?_)
 refine X.an ?_
 cases h
 exact R.finM1 Tryz.results33 (by rfl) (by rfl) (by repeat (first | exact trivial | refine ⟨by rfl,?_⟩)) rfl
theorem w_markStepS_k_pc (b0:List TStep)(b1:Int)(r:Int)(h:w_markStepS_k b0 b1=some r):PCM Tryz.prog 63 [.ysk 63 (.slice (b0.map eTStep)),int b1] [(63,.yreg true true)] (int r) [(63,.yreg true true)]:=by
 unfold w_markStepS_k at h
 refine PCM.start Tryz.func63 Tryz.ntmps63 rfl ok63 rfl (by rfl) (by rfl) (by rfl) (by rfl) (by rfl) ?_
 refine Run.sr (X.an ?_)
 refine Run.seq (Run.sr (X.an ?_))
 obtain ⟨o1,ho1,h⟩:=bindE h
 refine R.join2 (β:=Int) [] [(63,.yreg true true)] (fun p13 S=>(1,int p13)::S) (fun p13 M=>M) (fun p13=>p13=o1) ?_ ?_
 ·intro JJ4 hmeet3
  have hup2:=h;clear h;have h:=ho1;clear ho1
  refine Run.block ?_
  refine R.bndY true 63 (t:=0) (by rfl) (fun hbd7=>?_)
  replace hbd7:b0.length≤9223372036854775807:=by first | (rw [List.length_map] at hbd7;exact hbd7) | simp
  refine R.lp (β:=Int×Int) [(0,.ysk 63 (.slice (b0.map eTStep)))] [(63,.yreg true true)] (fun bb S=>(1,int bb.2)::(5,int bb.1)::S) (fun bb M=>M) (fun n bb=>0≤bb.1∧bb.1+n=(b0.length:Int)∧w_markStepS_k_L1 (b0.drop bb.1.toNat) bb.1 bb.2=some o1) b0.length (0,b1) ⟨Int.le_refl _,by simp,h⟩ ?_
  clear h
  rintro JJ7 n7 ⟨z8,a9⟩ hag7 ⟨hza7,hzb7,h⟩
  dsimp only at hza7 hzb7 h
  refine Run.seq (Run.sr (X.mv ?_))
  refine X.mv ?_
  refine X.lenY true 63 elt95 (by rfl) (by exact List.length_map ..) (by rfl) ?_
  refine X.bi ?_
  refine X.nil ?_
  refine R.cd (fun hc12=>?_) (fun hc12=>?_)
  ·obtain ⟨x10,xs11,hd7,hx7,hds7,hlt7⟩:=drop_atI hza7 hc12
   rw [hd7] at h
   rw [w_markStepS_k_L1] at h
   refine Run.skip (Run.seq (Run.block (Run.sr (X.mv ?_))))
   refine X.mv ?_
   refine X.mv ?_
   refine X.indexY true 63 elt95 (by rfl) (by rfl) (idxL_spec hx7).1 (idxL_map eTStep hx7) (by rfl) (by rfl) ?_
   refine X.fieldY true 63 fld141_0 (by rfl) (by rfl) ?_
   refine X.storeY 63 shp3 (by rfl) (by rfl) (by rfl) (by rfl) (by rfl) (by rfl) (by rfl) ?_
   refine X.nil (Run.sr (X.mv ?_))
   refine X.addW (h:=?_)
   refine X.an ?_
   refine Run.sr (X.mv ?_)
   refine X.mv ?_
   refine X.mv ?_
   refine X.indexY true 63 elt95 (by rfl) (by rfl) (idxL_spec hx7).1 (idxL_map eTStep hx7) (by rfl) (by rfl) ?_
   refine X.fieldY true 63 fld141_1 (by rfl) (by rfl) ?_
   refine X.storeY 63 shp3 (by rfl) (by rfl) (by rfl) (by rfl) (by rfl) (by rfl) (by rfl) ?_
   refine X.nil (Run.reg (X.mv ?_))
   refine X.addW (h:=?_)
   refine X.an ?_
   refine Run.blk (Run.reg (X.mv ?_))
   refine X.ad ?_
   refine X.an ?_
   exact R.ag hag7 (n7 - 1) (z8+1,(W ((W (a9+1))+1))) (R.n3 (by first | (rw [hds7];exact h) | (dsimp only;rw [hds7];exact h)))
  rw [drop_endI hza7 hc12] at h
  rw [w_markStepS_k_L1] at h
  refine Run.exit (by rfl) ?_
  exact R.mt hmeet3 a9 (Option.some.inj h)
 rintro p13 rfl
 refine Run.sr (X.mv ?_)
 refine X.an ?_
 cases h
 exact R.finM1 Tryz.results63 (by rfl) (by rfl) (by repeat (first | exact trivial | refine ⟨by rfl,?_⟩)) rfl
theorem w_markIntSS_k_pc (b0:List (List Int))(b1:Int)(r:Int)(h:w_markIntSS_k b0 b1=some r):PCM Tryz.prog 64 [.ysk 63 (.slice (b0.map l_int)),int b1] [(63,.yreg true true)] (int r) [(63,.yreg true true)]:=by
 unfold w_markIntSS_k at h
 refine PCM.start Tryz.func64 Tryz.ntmps64 rfl ok64 rfl (by rfl) (by rfl) (by rfl) (by rfl) (by rfl) ?_
 refine Run.sr (X.an ?_)
 refine Run.seq (Run.sr (X.an ?_))
 obtain ⟨o1,ho1,h⟩:=bindE h
 refine R.join2 (β:=Int) [] [(63,.yreg true true)] (fun p14 S=>(1,int p14)::S) (fun p14 M=>M) (fun p14=>p14=o1) ?_ ?_
 ·intro JJ4 hmeet3
  have hup2:=h;clear h;have h:=ho1;clear ho1
  refine Run.block ?_
  refine R.bndY true 63 (t:=0) (by rfl) (fun hbd7=>?_)
  replace hbd7:b0.length≤9223372036854775807:=by first | (rw [List.length_map] at hbd7;exact hbd7) | simp
  refine R.lp (β:=Int×Int) [(0,.ysk 63 (.slice (b0.map l_int)))] [(63,.yreg true true)] (fun bb S=>(1,int bb.2)::(5,int bb.1)::S) (fun bb M=>M) (fun n bb=>0≤bb.1∧bb.1+n=(b0.length:Int)∧w_markIntSS_k_L1 (b0.drop bb.1.toNat) bb.1 bb.2=some o1) b0.length (0,b1) ⟨Int.le_refl _,by simp,h⟩ ?_
  clear h
  rintro JJ7 n7 ⟨z8,a9⟩ hag7 ⟨hza7,hzb7,h⟩
  dsimp only at hza7 hzb7 h
  refine Run.seq (Run.sr (X.mv ?_))
  refine X.mv ?_
  refine X.lenY true 63 elt76 (by rfl) (by exact List.length_map ..) (by rfl) ?_
  refine X.bi ?_
  refine X.nil ?_
  refine R.cd (fun hc12=>?_) (fun hc12=>?_)
  ·obtain ⟨x10,xs11,hd7,hx7,hds7,hlt7⟩:=drop_atI hza7 hc12
   rw [hd7] at h
   rw [w_markIntSS_k_L1] at h
   refine Run.skip (Run.seq (Run.block (Run.reg (X.mv ?_))))
   refine X.mv ?_
   refine X.indexY true 63 elt76 (by rfl) (by rfl) (idxL_spec hx7).1 (idxL_map l_int hx7) (by rfl) (by rfl) ?_
   refine X.loadY true 63 shp25 (by rfl) (by rfl) (by rfl) (by rfl) ?_
   refine X.mv ?_
   obtain ⟨v13,hv13,h⟩:=bindE h
   refine X.callM [(63,63)] (w_markIntS_k_pc _ _ _ hv13) (by rfl) (by rfl) (.yskB 63 (by rfl) (by rfl) (.pureB (by rfl) (by repeat (first | trivial | refine ⟨by first | rfl | simp [setL],?_⟩)) .nil)) (by rfl) ⟨rfl,rfl,⟨_,by rfl,by constructor⟩,by constructor,trivial⟩ (by rfl) (by rfl) (by rfl) (by rfl) (by rfl) (by rfl) (by rfl) (by rfl) (by rfl) ?_
   refine X.an ?_
   refine Run.blk (Run.reg (X.mv ?_))
   refine X.ad ?_
   refine X.an ?_
   exact R.ag hag7 (n7 - 1) (z8+1,v13) (R.n3 (by first | (rw [hds7];exact h) | (dsimp only;rw [hds7];exact h)))
  rw [drop_endI hza7 hc12] at h
  rw [w_markIntSS_k_L1] at h
  refine Run.exit (by rfl) ?_
  exact R.mt hmeet3 a9 (Option.some.inj h)
 rintro p14 rfl
 refine Run.sr (X.mv ?_)
 refine X.an ?_
 cases h
 exact R.finM1 Tryz.results64 (by rfl) (by rfl) (by repeat (first | exact trivial | refine ⟨by rfl,?_⟩)) rfl
theorem w_markResourceS_k_pc (b0:List TResource)(b1:Int)(r:Int)(h:w_markResourceS_k b0 b1=some r):PCM Tryz.prog 34 [.ysk 63 (.slice (b0.map eTResource)),int b1] [(63,.yreg true true)] (int r) [(63,.yreg true true)]:=by
 unfold w_markResourceS_k at h
 refine PCM.start Tryz.func34 Tryz.ntmps34 rfl ok34 rfl (by rfl) (by rfl) (by rfl) (by rfl) (by rfl) ?_
 refine Run.sr (X.an ?_)
 refine Run.seq (Run.sr (X.an ?_))
 obtain ⟨o1,ho1,h⟩:=bindE h
 refine R.join2 (β:=Int) [] [(63,.yreg true true)] (fun p15 S=>(1,int p15)::S) (fun p15 M=>M) (fun p15=>p15=o1) ?_ ?_
 ·intro JJ4 hmeet3
  have hup2:=h;clear h;have h:=ho1;clear ho1
  refine Run.block ?_
  refine R.bndY true 63 (t:=0) (by rfl) (fun hbd7=>?_)
  replace hbd7:b0.length≤9223372036854775807:=by first | (rw [List.length_map] at hbd7;exact hbd7) | simp
  refine R.lp (β:=Int×Int) [(0,.ysk 63 (.slice (b0.map eTResource)))] [(63,.yreg true true)] (fun bb S=>(1,int bb.2)::(5,int bb.1)::S) (fun bb M=>M) (fun n bb=>0≤bb.1∧bb.1+n=(b0.length:Int)∧w_markResourceS_k_L1 (b0.drop bb.1.toNat) bb.1 bb.2=some o1) b0.length (0,b1) ⟨Int.le_refl _,by simp,h⟩ ?_
  clear h
  rintro JJ7 n7 ⟨z8,a9⟩ hag7 ⟨hza7,hzb7,h⟩
  dsimp only at hza7 hzb7 h
  refine Run.seq (Run.sr (X.mv ?_))
  refine X.mv ?_
  refine X.lenY true 63 elt34 (by rfl) (by exact List.length_map ..) (by rfl) ?_
  refine X.bi ?_
  refine X.nil ?_
  refine R.cd (fun hc12=>?_) (fun hc12=>?_)
  ·obtain ⟨x10,xs11,hd7,hx7,hds7,hlt7⟩:=drop_atI hza7 hc12
   rw [hd7] at h
   rw [w_markResourceS_k_L1] at h
   refine Run.skip (Run.seq (Run.block (Run.sr (X.mv ?_))))
   refine X.mv ?_
   refine X.indexY true 63 elt34 (by rfl) (by rfl) (idxL_spec hx7).1 (idxL_map eTResource hx7) (by rfl) (by rfl) ?_
   refine X.fieldY true 63 fld97_0 (by rfl) (by rfl) ?_
   refine X.loadY true 63 shp95 (by rfl) (by rfl) (by rfl) (by rfl) ?_
   refine X.mv ?_
   obtain ⟨v13,hv13,h⟩:=bindE h
   refine X.callM [(63,63)] (w_markStepS_k_pc _ _ _ hv13) (by rfl) (by rfl) (.yskB 63 (by rfl) (by rfl) (.pureB (by rfl) (by repeat (first | trivial | refine ⟨by first | rfl | simp [setL],?_⟩)) .nil)) (by rfl) ⟨rfl,rfl,⟨_,by rfl,by constructor⟩,by constructor,trivial⟩ (by rfl) (by rfl) (by rfl) (by rfl) (by rfl) (by rfl) (by rfl) (by rfl) (by rfl) ?_
   refine X.an ?_
   refine Run.reg (X.mv ?_)
   refine X.mv ?_
   refine X.indexY true 63 elt34 (by rfl) (by rfl) (idxL_spec hx7).1 (idxL_map eTResource hx7) (by rfl) (by rfl) ?_
   refine X.fieldY true 63 fld97_1 (by rfl) (by rfl) ?_
   refine X.loadY true 63 shp76 (by rfl) (by rfl) (by rfl) (by rfl) ?_
   refine X.mv ?_
   obtain ⟨v14,hv14,h⟩:=bindE h
   refine X.callM [(63,63)] (w_markIntSS_k_pc _ _ _ hv14) (by rfl) (by rfl) (.yskB 63 (by rfl) (by rfl) (.pureB (by rfl) (by repeat (first | trivial | refine ⟨by first | rfl | simp [setL],?_⟩)) .nil)) (by rfl) ⟨rfl,rfl,⟨_,by rfl,by constructor⟩,by constructor,trivial⟩ (by rfl) (by rfl) (by rfl) (by rfl) (by rfl) (by rfl) (by rfl) (by rfl) (by rfl) ?_
   refine X.an ?_
   refine Run.blk (Run.reg (X.mv ?_))
   refine X.ad ?_
   refine X.an ?_
   exact R.ag hag7 (n7 - 1) (z8+1,v14) (R.n3 (by first | (rw [hds7];exact h) | (dsimp only;rw [hds7];exact h)))
  rw [drop_endI hza7 hc12] at h
  rw [w_markResourceS_k_L1] at h
  refine Run.exit (by rfl) ?_
  exact R.mt hmeet3 a9 (Option.some.inj h)
 rintro p15 rfl
 refine Run.sr (X.mv ?_)
 refine X.an ?_
 cases h
 exact R.finM1 Tryz.results34 (by rfl) (by rfl) (by repeat (first | exact trivial | refine ⟨by rfl,?_⟩)) rfl
theorem w_markProject_k_pc (b0:TProject)(b1:Int)(r:Int)(h:w_markProject_k b0 b1=some r):PCM Tryz.prog 10 [.agg [int b0.Deadline,.ysk 63 (.slice (b0.Activities.map eTActivity)),.ysk 63 (.slice (b0.Links.map eTLink)),.ysk 63 (.slice (b0.Resources.map eTResource)),.ysk 63 (.slice (b0.Stocks.map int))],int b1] [(63,.yreg true true)] (int r) [(63,.yreg true true)]:=by
 unfold w_markProject_k at h
 refine PCM.start Tryz.func10 Tryz.ntmps10 rfl ok10 rfl (by rfl) (by rfl) (by rfl) (by rfl) (by rfl) ?_
 refine Run.sr (X.bx ?_)
 refine X.an ?_
 refine Run.sr (X.fl fld36_1 ?_)
 refine X.ld shp32 ?_
 refine X.mv ?_
 obtain ⟨v1,hv1,h⟩:=bindE h
 refine X.callM [(63,63)] (w_markActivityS_k_pc _ _ _ hv1) (by rfl) (by rfl) (.yskB 63 (by rfl) (by rfl) (.pureB (by rfl) (by repeat (first | trivial | refine ⟨by first | rfl | simp [setL],?_⟩)) .nil)) (by rfl) ⟨rfl,rfl,⟨_,by rfl,by constructor⟩,by constructor,trivial⟩ (by rfl) (by rfl) (by rfl) (by rfl) (by rfl) (by rfl) (by rfl) (by rfl) (by rfl) ?_
 refine X.an ?_
 refine Run.sr (X.fl fld36_2 ?_)
 refine X.ld shp33 ?_
 refine X.mv ?_
 obtain ⟨v2,hv2,h⟩:=bindE h
 refine X.callM [(63,63)] (w_markLinkS_k_pc _ _ _ hv2) (by rfl) (by rfl) (.yskB 63 (by rfl) (by rfl) (.pureB (by rfl) (by repeat (first | trivial | refine ⟨by first | rfl | simp [setL],?_⟩)) .nil)) (by rfl) ⟨rfl,rfl,⟨_,by rfl,by constructor⟩,by constructor,trivial⟩ (by rfl) (by rfl) (by rfl) (by rfl) (by rfl) (by rfl) (by rfl) (by rfl) (by rfl) ?_
 refine X.an ?_
 refine Run.sr (X.fl fld36_3 ?_)
 refine X.ld shp34 ?_
 refine X.mv ?_
 obtain ⟨v3,hv3,h⟩:=bindE h
 refine X.callM [(63,63)] (w_markResourceS_k_pc _ _ _ hv3) (by rfl) (by rfl) (.yskB 63 (by rfl) (by rfl) (.pureB (by rfl) (by repeat (first | trivial | refine ⟨by first | rfl | simp [setL],?_⟩)) .nil)) (by rfl) ⟨rfl,rfl,⟨_,by rfl,by constructor⟩,by constructor,trivial⟩ (by rfl) (by rfl) (by rfl) (by rfl) (by rfl) (by rfl) (by rfl) (by rfl) (by rfl) ?_
 refine X.an ?_
 refine Run.sr (X.fl fld36_4 ?_)
 refine X.ld shp25 ?_
 refine X.mv ?_
 obtain ⟨v4,hv4,h⟩:=bindE h
 refine X.callM [(63,63)] (w_markIntS_k_pc _ _ _ hv4) (by rfl) (by rfl) (.yskB 63 (by rfl) (by rfl) (.pureB (by rfl) (by repeat (first | trivial | refine ⟨by first | rfl | simp [setL],?_⟩)) .nil)) (by rfl) ⟨rfl,rfl,⟨_,by rfl,by constructor⟩,by constructor,trivial⟩ (by rfl) (by rfl) (by rfl) (by rfl) (by rfl) (by rfl) (by rfl) (by rfl) (by rfl) ?_
 refine X.an ?_
 refine Run.sr (X.mv ?_)
 refine X.an ?_
 cases h
 exact R.finM1 Tryz.results10 (by rfl) (by rfl) (by repeat (first | exact trivial | refine ⟨by rfl,?_⟩)) rfl
theorem w_markLiteralS_pc (b0:List TLiteral)(b1:Int)(r:Int×(List TLiteral))(h:w_markLiteralS b0 b1=some r):PCM Tryz.prog 36 [.own 63 (b0.map eTLiteral).length,int b1] [(63,.obj true 114 3 (b0.map eTLiteral))] (int r.1) [(63,.obj true 114 3 (r.2.map eTLiteral))]:=by
 unfold w_markLiteralS at h
 refine PCM.start Tryz.func36 Tryz.ntmps36 rfl ok36 rfl (by rfl) (by rfl) (by rfl) (by rfl) (by rfl) ?_
 refine Run.sr (X.an ?_)
 refine Run.seq (Run.sr (X.an ?_))
 obtain ⟨o1,ho1,h⟩:=bindE h
 refine R.join2 (β:=Int×(List TLiteral)) [] [] (fun p16 S=>(1,int p16.1)::S) (fun p16 M=>(63,.obj true 114 3 (p16.2.map eTLiteral))::M) (fun p16=>p16=o1) ?_ ?_
 ·intro JJ4 hmeet3
  have hup2:=h;clear h;have h:=ho1;clear ho1
  refine Run.block ?_
  refine R.lp (β:=Int×Int×(List TLiteral)) [] [] (fun bb S=>(0,.own 63 (bb.2.2.map eTLiteral).length)::(1,int bb.1)::(5,int bb.2.1)::S) (fun bb M=>(63,.obj true 114 3 (bb.2.2.map eTLiteral))::M) (fun n bb=>w_markLiteralS_L1 n bb.1 bb.2.1 bb.2.2=some o1) F0 (b1,0,b0) h ?_
  clear h
  rintro JJ5 n5 ⟨a7,a8,a9⟩ hag5 h
  dsimp only at h
  obtain _ | n5:=n5
  ·exact absurd h (by simp [w_markLiteralS_L1])
  rw [w_markLiteralS_L1] at h
  refine Run.seq (Run.sr (X.mv ?_))
  refine X.mv ?_
  refine X.len_o elt51 (by rfl) (by rfl) (by first | rfl | simp [setL] | omega) (by first | exact List.length_map .. | rfl) (by rfl) (by rfl) ?_
  refine X.bi ?_
  refine X.nil ?_
  refine R.cd (fun hc12=>?_) (fun hc12=>?_)
  ·replace h:=condT hc12 h
   refine Run.skip (Run.seq (Run.block (Run.sr (X.mv ?_))))
   refine X.mv ?_
   refine X.mv ?_
   obtain ⟨v13,hv13,h⟩:=bindE h
   refine X.index_xs elt51 (by rfl) (by rfl) (by first | rfl | simp [setL] | omega) (by rfl) (by exact (Int.toNat_of_nonneg (idxL_spec hv13).1).symm) (by have:=idxL_lt hv13;first | exact this | (rw [List.length_map];exact this)) (by rfl) (by rfl) ?_
   refine X.fieldAddr_es fld114_0 (by rfl) (by rfl) (by first | rfl | simp [setL] | omega) (by rfl) (by rfl) ?_
   refine X.store_es shp3 (by rfl) (by rfl) (by first | rfl | simp [setL] | omega) (idxL_map _ hv13) (by rfl) (by rfl) (by repeat (first | trivial | refine ⟨by first | rfl | simp [setL],?_⟩)) (by rfl) (by rfl) (by rfl) (by rfl) (by exact setL_map _ _ _ (TLiteral.mk a7 v13.Activity v13.Value)) ?_
   refine X.nil (Run.sr (X.mv ?_))
   refine X.addW (h:=?_)
   refine X.an ?_
   refine Run.sr (X.mv ?_)
   refine X.mv ?_
   refine X.mv ?_
   obtain ⟨v14,hv14,h⟩:=bindE h
   refine X.index_xs elt51 (by rfl) (by rfl) (by first | rfl | simp [setL] | omega) (by rfl) (by exact (Int.toNat_of_nonneg (idxL_spec hv14).1).symm) (by have:=idxL_lt hv14;first | exact this | (rw [List.length_map];exact this)) (by rfl) (by rfl) ?_
   refine X.fieldAddr_es fld114_1 (by rfl) (by rfl) (by first | rfl | simp [setL] | omega) (by rfl) (by rfl) ?_
   refine X.store_es shp3 (by rfl) (by rfl) (by first | rfl | simp [setL] | omega) (idxL_map _ hv14) (by rfl) (by rfl) (by repeat (first | trivial | refine ⟨by first | rfl | simp [setL],?_⟩)) (by rfl) (by rfl) (by rfl) (by rfl) (by exact setL_map _ _ _ (TLiteral.mk v14.Kind (W (a7+1)) v14.Value)) ?_
   refine X.nil (Run.sr (X.mv ?_))
   refine X.addW (h:=?_)
   refine X.an ?_
   refine Run.sr (X.mv ?_)
   refine X.mv ?_
   refine X.mv ?_
   obtain ⟨v15,hv15,h⟩:=bindE h
   refine X.index_xs elt51 (by rfl) (by rfl) (by first | rfl | simp [setL] | omega) (by rfl) (by exact (Int.toNat_of_nonneg (idxL_spec hv15).1).symm) (by have:=idxL_lt hv15;first | exact this | (rw [List.length_map];exact this)) (by rfl) (by rfl) ?_
   refine X.fieldAddr_es fld114_2 (by rfl) (by rfl) (by first | rfl | simp [setL] | omega) (by rfl) (by rfl) ?_
   refine X.store_es shp3 (by rfl) (by rfl) (by first | rfl | simp [setL] | omega) (idxL_map _ hv15) (by rfl) (by rfl) (by repeat (first | trivial | refine ⟨by first | rfl | simp [setL],?_⟩)) (by rfl) (by rfl) (by rfl) (by rfl) (by exact setL_map _ _ _ (TLiteral.mk v15.Kind v15.Activity (W ((W (a7+1))+1)))) ?_
   refine X.nil (Run.reg (X.mv ?_))
   refine X.addW (h:=?_)
   refine X.an ?_
   refine Run.blk (Run.reg (X.mv ?_))
   refine X.addW (h:=?_)
   refine X.an ?_
   refine R.castS (t:=0) (.own 63 ((setL (setL (setL a9 a8 (TLiteral.mk a7 v13.Activity v13.Value)) a8 (TLiteral.mk v14.Kind (W (a7+1)) v14.Value)) a8 (TLiteral.mk v15.Kind v15.Activity (W ((W (a7+1))+1)))).map eTLiteral).length) (by rfl) (.inl (by first | rfl | simp [setL])) ?_
   exact hag5 n5 ((W ((W ((W (a7+1))+1))+1)),(W (a8+1)),(setL (setL (setL a9 a8 (TLiteral.mk a7 v13.Activity v13.Value)) a8 (TLiteral.mk v14.Kind (W (a7+1)) v14.Value)) a8 (TLiteral.mk v15.Kind v15.Activity (W ((W (a7+1))+1))))) _ _ (by omega) h (by repeat (first | trivial | refine ⟨by first | rfl | simp [setL],?_⟩)) (by repeat (first | trivial | refine ⟨by first | rfl | simp [setL],?_⟩)) (by rfl) (by rfl)
  replace h:=condF hc12 h
  refine Run.exit (by rfl) ?_
  exact R.mt hmeet3 (a7,a9) (Option.some.inj h)
 rintro p16 rfl
 refine Run.sr (X.mv ?_)
 refine X.an ?_
 cases h
 exact R.finM1 Tryz.results36 (by rfl) (by rfl) (by repeat (first | exact trivial | refine ⟨by rfl,?_⟩)) rfl
theorem w_markLineS_pc (b0:List TLine)(b1:Int)(r:Int×(List TLine))(h:w_markLineS b0 b1=some r):PCM Tryz.prog 11 [.tref 63 (b0.map tTLine).length .out,int b1] [(63,.tre 53 6 (b0.map tTLine))] (int r.1) [(63,.tre 53 6 (r.2.map tTLine))]:=by
 unfold w_markLineS at h
 refine PCM.start Tryz.func11 Tryz.ntmps11 rfl ok11 rfl (by rfl) (by rfl) (by rfl) (by rfl) (by rfl) ?_
 refine Run.sr (X.an ?_)
 refine Run.seq (Run.sr (X.an ?_))
 obtain ⟨o1,ho1,h⟩:=bindE h
 refine R.join2 (β:=Int×(List TLine)) [] [] (fun p20 S=>(1,int p20.1)::S) (fun p20 M=>(63,.tre 53 6 (p20.2.map tTLine))::M) (fun p20=>p20=o1) ?_ ?_
 ·intro JJ4 hmeet3
  have hup2:=h;clear h;have h:=ho1;clear ho1
  refine Run.block ?_
  refine R.lp (β:=Int×Int×(List TLine)) [] [] (fun bb S=>(0,.tref 63 (bb.2.2.map tTLine).length .out)::(1,int bb.1)::(5,int bb.2.1)::S) (fun bb M=>(63,.tre 53 6 (bb.2.2.map tTLine))::M) (fun n bb=>w_markLineS_L1 n bb.1 bb.2.1 bb.2.2=some o1) F0 (b1,0,b0) h ?_
  clear h
  rintro JJ5 n5 ⟨a7,a8,a9⟩ hag5 h
  dsimp only at h
  obtain _ | n5:=n5
  ·exact absurd h (by simp [w_markLineS_L1])
  rw [w_markLineS_L1] at h
  refine Run.seq (Run.sr (X.mv ?_))
  refine X.mv ?_
  refine X.lenT (z:=(a9.length:Int)) elt29 (by rfl) (by rfl) (by first | rfl | simp [setL] | omega) (by simp) (by rfl) (by rfl) ?_
  refine X.bi ?_
  refine X.nil ?_
  refine R.cd (fun hc12=>?_) (fun hc12=>?_)
  ·replace h:=condT hc12 h
   refine Run.skip (Run.seq (Run.block (Run.seq (Run.region ?_))))
   refine Run.mvo ?_
   refine Run.mvo ?_
   refine Run.mvo ?_
   obtain ⟨v13,hv13,h⟩:=bindE h
   refine Run.idxT (m:=(a8).toNat) elt29 (by rfl) (by rfl) (by first | rfl | simp [setL] | omega) (by rfl) ⟨(idxL_spec hv13).1,by have h0:=(idxL_spec hv13).1;have h1:=idxL_lt hv13;rw [List.length_map];(try dsimp only);omega⟩ rfl (by rfl) ?_
   refine Run.fldT fld53_0 (by rfl) (by rfl) (by first | rfl | simp [setL] | omega) (by rfl) ?_
   refine Run.stT (l2:=(setL a9 a8 (TLine.mk a7 v13.Rule v13.Clause)).map tTLine) shp3 (by rfl) (by rfl) (by first | rfl | simp [setL] | omega) (by rfl) rfl (flat_at2 (by exact cells_map (f:=tTLine) (fun _=>rfl)) (idxL_map tTLine hv13) (by rfl)) (by simp [setL]) (by exact cells_map (f:=tTLine) (fun _=>rfl)) (by rw [← setL_map];exact flat_setC (by exact cells_map (f:=tTLine) (fun _=>rfl)) (idxL_map tTLine hv13) (by rfl) (by decide)) ?_
   refine Run.nil (Run.sr (X.mv ?_))
   refine X.addW (h:=?_)
   refine X.an ?_
   refine Run.seq (Run.region ?_)
   refine Run.mvo ?_
   refine Run.mvo ?_
   refine Run.mvo ?_
   obtain ⟨v14,hv14,h⟩:=bindE h
   refine Run.idxT (m:=(a8).toNat) elt29 (by rfl) (by rfl) (by first | rfl | simp [setL] | omega) (by rfl) ⟨(idxL_spec hv14).1,by have h0:=(idxL_spec hv14).1;have h1:=idxL_lt hv14;rw [List.length_map];(try dsimp only);omega⟩ rfl (by rfl) ?_
   refine Run.fldT fld53_1 (by rfl) (by rfl) (by first | rfl | simp [setL] | omega) (by rfl) ?_
   refine Run.fldT fld50_0 (by rfl) (by rfl) (by first | rfl | simp [setL] | omega) (by rfl) ?_
   refine Run.stT (l2:=(setL (setL a9 a8 (TLine.mk a7 v13.Rule v13.Clause)) a8 (TLine.mk v14.Kind (TRule.mk (W (a7+1)) v14.Rule.A v14.Rule.B v14.Rule.C) v14.Clause)).map tTLine) shp3 (by rfl) (by rfl) (by first | rfl | simp [setL] | omega) (by rfl) rfl (flat_at2 (by exact cells_map (f:=tTLine) (fun _=>rfl)) (idxL_map tTLine hv14) (by rfl)) (by simp [setL]) (by exact cells_map (f:=tTLine) (fun _=>rfl)) (by rw [← setL_map];exact flat_setC (by exact cells_map (f:=tTLine) (fun _=>rfl)) (idxL_map tTLine hv14) (by rfl) (by decide)) ?_
   refine Run.nil (Run.sr (X.mv ?_))
   refine X.addW (h:=?_)
   refine X.an ?_
   refine Run.seq (Run.region ?_)
   refine Run.mvo ?_
   refine Run.mvo ?_
   refine Run.mvo ?_
   obtain ⟨v15,hv15,h⟩:=bindE h
   refine Run.idxT (m:=(a8).toNat) elt29 (by rfl) (by rfl) (by first | rfl | simp [setL] | omega) (by rfl) ⟨(idxL_spec hv15).1,by have h0:=(idxL_spec hv15).1;have h1:=idxL_lt hv15;rw [List.length_map];(try dsimp only);omega⟩ rfl (by rfl) ?_
   refine Run.fldT fld53_1 (by rfl) (by rfl) (by first | rfl | simp [setL] | omega) (by rfl) ?_
   refine Run.fldT fld50_1 (by rfl) (by rfl) (by first | rfl | simp [setL] | omega) (by rfl) ?_
   refine Run.stT (l2:=(setL (setL (setL a9 a8 (TLine.mk a7 v13.Rule v13.Clause)) a8 (TLine.mk v14.Kind (TRule.mk (W (a7+1)) v14.Rule.A v14.Rule.B v14.Rule.C) v14.Clause)) a8 (TLine.mk v15.Kind (TRule.mk v15.Rule.Kind (W ((W (a7+1))+1)) v15.Rule.B v15.Rule.C) v15.Clause)).map tTLine) shp3 (by rfl) (by rfl) (by first | rfl | simp [setL] | omega) (by rfl) rfl (flat_at2 (by exact cells_map (f:=tTLine) (fun _=>rfl)) (idxL_map tTLine hv15) (by rfl)) (by simp [setL]) (by exact cells_map (f:=tTLine) (fun _=>rfl)) (by rw [← setL_map];exact flat_setC (by exact cells_map (f:=tTLine) (fun _=>rfl)) (idxL_map tTLine hv15) (by rfl) (by decide)) ?_
   refine Run.nil (Run.sr (X.mv ?_))
   refine X.addW (h:=?_)
   refine X.an ?_
   refine Run.seq (Run.region ?_)
   refine Run.mvo ?_
   refine Run.mvo ?_
   refine Run.mvo ?_
   obtain ⟨v16,hv16,h⟩:=bindE h
   refine Run.idxT (m:=(a8).toNat) elt29 (by rfl) (by rfl) (by first | rfl | simp [setL] | omega) (by rfl) ⟨(idxL_spec hv16).1,by have h0:=(idxL_spec hv16).1;have h1:=idxL_lt hv16;rw [List.length_map];(try dsimp only);omega⟩ rfl (by rfl) ?_
   refine Run.fldT fld53_1 (by rfl) (by rfl) (by first | rfl | simp [setL] | omega) (by rfl) ?_
   refine Run.fldT fld50_2 (by rfl) (by rfl) (by first | rfl | simp [setL] | omega) (by rfl) ?_
   refine Run.stT (l2:=(setL (setL (setL (setL a9 a8 (TLine.mk a7 v13.Rule v13.Clause)) a8 (TLine.mk v14.Kind (TRule.mk (W (a7+1)) v14.Rule.A v14.Rule.B v14.Rule.C) v14.Clause)) a8 (TLine.mk v15.Kind (TRule.mk v15.Rule.Kind (W ((W (a7+1))+1)) v15.Rule.B v15.Rule.C) v15.Clause)) a8 (TLine.mk v16.Kind (TRule.mk v16.Rule.Kind v16.Rule.A (W ((W ((W (a7+1))+1))+1)) v16.Rule.C) v16.Clause)).map tTLine) shp3 (by rfl) (by rfl) (by first | rfl | simp [setL] | omega) (by rfl) rfl (flat_at2 (by exact cells_map (f:=tTLine) (fun _=>rfl)) (idxL_map tTLine hv16) (by rfl)) (by simp [setL]) (by exact cells_map (f:=tTLine) (fun _=>rfl)) (by rw [← setL_map];exact flat_setC (by exact cells_map (f:=tTLine) (fun _=>rfl)) (idxL_map tTLine hv16) (by rfl) (by decide)) ?_
   refine Run.nil (Run.sr (X.mv ?_))
   refine X.addW (h:=?_)
   refine X.an ?_
   refine Run.seq (Run.region ?_)
   refine Run.mvo ?_
   refine Run.mvo ?_
   refine Run.mvo ?_
   obtain ⟨v17,hv17,h⟩:=bindE h
   refine Run.idxT (m:=(a8).toNat) elt29 (by rfl) (by rfl) (by first | rfl | simp [setL] | omega) (by rfl) ⟨(idxL_spec hv17).1,by have h0:=(idxL_spec hv17).1;have h1:=idxL_lt hv17;rw [List.length_map];(try dsimp only);omega⟩ rfl (by rfl) ?_
   refine Run.fldT fld53_1 (by rfl) (by rfl) (by first | rfl | simp [setL] | omega) (by rfl) ?_
   refine Run.fldT fld50_3 (by rfl) (by rfl) (by first | rfl | simp [setL] | omega) (by rfl) ?_
   refine Run.stT (l2:=(setL (setL (setL (setL (setL a9 a8 (TLine.mk a7 v13.Rule v13.Clause)) a8 (TLine.mk v14.Kind (TRule.mk (W (a7+1)) v14.Rule.A v14.Rule.B v14.Rule.C) v14.Clause)) a8 (TLine.mk v15.Kind (TRule.mk v15.Rule.Kind (W ((W (a7+1))+1)) v15.Rule.B v15.Rule.C) v15.Clause)) a8 (TLine.mk v16.Kind (TRule.mk v16.Rule.Kind v16.Rule.A (W ((W ((W (a7+1))+1))+1)) v16.Rule.C) v16.Clause)) a8 (TLine.mk v17.Kind (TRule.mk v17.Rule.Kind v17.Rule.A v17.Rule.B (W ((W ((W ((W (a7+1))+1))+1))+1))) v17.Clause)).map tTLine) shp3 (by rfl) (by rfl) (by first | rfl | simp [setL] | omega) (by rfl) rfl (flat_at2 (by exact cells_map (f:=tTLine) (fun _=>rfl)) (idxL_map tTLine hv17) (by rfl)) (by simp [setL]) (by exact cells_map (f:=tTLine) (fun _=>rfl)) (by rw [← setL_map];exact flat_setC (by exact cells_map (f:=tTLine) (fun _=>rfl)) (idxL_map tTLine hv17) (by rfl) (by decide)) ?_
   refine Run.nil (Run.sr (X.mv ?_))
   refine X.addW (h:=?_)
   refine X.an ?_
   refine Run.region ?_
   refine Run.mvo ?_
   refine Run.mvo ?_
   obtain ⟨v18,hv18,h⟩:=bindE h
   refine Run.idxT (m:=(a8).toNat) elt29 (by rfl) (by rfl) (by first | rfl | simp [setL] | omega) (by rfl) ⟨(idxL_spec hv18).1,by have h0:=(idxL_spec hv18).1;have h1:=idxL_lt hv18;rw [List.length_map];(try dsimp only);omega⟩ rfl (by rfl) ?_
   refine Run.fldT fld53_2 (by rfl) (by rfl) (by first | rfl | simp [setL] | omega) (by rfl) ?_
   refine Run.ldT shp51 (by rfl) (by rfl) (by first | rfl | simp [setL] | omega) rfl (flat_at2 (by exact cells_map (f:=tTLine) (fun _=>rfl)) (idxL_map tTLine hv18) (by rfl)) (by rfl) ?_
   refine Run.mvo ?_
   obtain ⟨v19,hv19,h⟩:=bindE h
   refine Run.callRow (l2:=(setL (setL (setL (setL (setL (setL a9 a8 (TLine.mk a7 v13.Rule v13.Clause)) a8 (TLine.mk v14.Kind (TRule.mk (W (a7+1)) v14.Rule.A v14.Rule.B v14.Rule.C) v14.Clause)) a8 (TLine.mk v15.Kind (TRule.mk v15.Rule.Kind (W ((W (a7+1))+1)) v15.Rule.B v15.Rule.C) v15.Clause)) a8 (TLine.mk v16.Kind (TRule.mk v16.Rule.Kind v16.Rule.A (W ((W ((W (a7+1))+1))+1)) v16.Rule.C) v16.Clause)) a8 (TLine.mk v17.Kind (TRule.mk v17.Rule.Kind v17.Rule.A v17.Rule.B (W ((W ((W ((W (a7+1))+1))+1))+1))) v17.Clause)) a8 (TLine.mk v18.Kind v18.Rule v19.2)).map tTLine) (w_markLiteralS_pc _ _ _ hv19) (by rfl) rfl (by rfl) (by rfl) (by rfl) (by rfl) (by first | rfl | simp [setL] | omega) (flat_at2 (by exact cells_map (f:=tTLine) (fun _=>rfl)) (idxL_map tTLine hv18) (by rfl)) (flat_lit _ (fun _=>(by repeat (first | exact trivial | refine ⟨trivial,?_⟩)))) (by rfl) (by simp [setL]) (by exact cells_map (f:=tTLine) (fun _=>rfl)) (by rw [← setL_map];exact flat_setC (by exact cells_map (f:=tTLine) (fun _=>rfl)) (idxL_map tTLine hv18) (by rfl) (by decide)) (by rfl) ?_
   refine Run.aso ?_
   refine Run.nil (Run.blk (Run.reg (X.mv ?_)))
   refine X.addW (h:=?_)
   refine X.an ?_
   refine R.castS (t:=0) (.tref 63 ((setL (setL (setL (setL (setL (setL a9 a8 (TLine.mk a7 v13.Rule v13.Clause)) a8 (TLine.mk v14.Kind (TRule.mk (W (a7+1)) v14.Rule.A v14.Rule.B v14.Rule.C) v14.Clause)) a8 (TLine.mk v15.Kind (TRule.mk v15.Rule.Kind (W ((W (a7+1))+1)) v15.Rule.B v15.Rule.C) v15.Clause)) a8 (TLine.mk v16.Kind (TRule.mk v16.Rule.Kind v16.Rule.A (W ((W ((W (a7+1))+1))+1)) v16.Rule.C) v16.Clause)) a8 (TLine.mk v17.Kind (TRule.mk v17.Rule.Kind v17.Rule.A v17.Rule.B (W ((W ((W ((W (a7+1))+1))+1))+1))) v17.Clause)) a8 (TLine.mk v18.Kind v18.Rule v19.2)).map tTLine).length .out) (by rfl) (.inl (by first | rfl | simp [setL])) ?_
   exact hag5 n5 (v19.1,(W (a8+1)),(setL (setL (setL (setL (setL (setL a9 a8 (TLine.mk a7 v13.Rule v13.Clause)) a8 (TLine.mk v14.Kind (TRule.mk (W (a7+1)) v14.Rule.A v14.Rule.B v14.Rule.C) v14.Clause)) a8 (TLine.mk v15.Kind (TRule.mk v15.Rule.Kind (W ((W (a7+1))+1)) v15.Rule.B v15.Rule.C) v15.Clause)) a8 (TLine.mk v16.Kind (TRule.mk v16.Rule.Kind v16.Rule.A (W ((W ((W (a7+1))+1))+1)) v16.Rule.C) v16.Clause)) a8 (TLine.mk v17.Kind (TRule.mk v17.Rule.Kind v17.Rule.A v17.Rule.B (W ((W ((W ((W (a7+1))+1))+1))+1))) v17.Clause)) a8 (TLine.mk v18.Kind v18.Rule v19.2))) _ _ (by omega) h (by repeat (first | trivial | refine ⟨by first | rfl | simp [setL],?_⟩)) (by repeat (first | trivial | refine ⟨by first | rfl | simp [setL],?_⟩)) (by rfl) (by rfl)
  replace h:=condF hc12 h
  refine Run.exit (by rfl) ?_
  exact R.mt hmeet3 (a7,a9) (Option.some.inj h)
 rintro p20 rfl
 refine Run.sr (X.mv ?_)
 refine X.an ?_
 cases h
 exact R.finM1 Tryz.results11 (by rfl) (by rfl) (by repeat (first | exact trivial | refine ⟨by rfl,?_⟩)) rfl
theorem w_heldLiteralS_pc (b0:List TLiteral)(b1:Int)(r:Int)(h:w_heldLiteralS b0 b1=some r):PC Tryz.prog 37 [.slice (b0.map eTLiteral),int b1] (int r):=by
 unfold w_heldLiteralS at h
 refine PC.start Tryz.func37 Tryz.ntmps37 rfl ok37 rfl ?_
 refine Run.sr (X.an ?_)
 refine Run.seq (Run.sr (X.an ?_))
 obtain ⟨o1,ho1,h⟩:=bindE h
 refine R.join2 (β:=Int) [] [] (fun p16 S=>(1,int p16)::S) (fun p16 M=>M) (fun p16=>(Sum.inl p16)=o1) ?_ ?_
 ·intro JJ4 hmeet3
  have hup2:=h;clear h;have h:=ho1;clear ho1
  refine Run.block ?_
  refine R.bndS (t:=0) (by rfl) (fun hbd7=>?_)
  replace hbd7:b0.length≤9223372036854775807:=by first | (rw [List.length_map] at hbd7;exact hbd7) | simp
  refine R.lp (β:=Int×Int) [(0,.slice (b0.map eTLiteral))] [] (fun bb S=>(1,int bb.2)::(5,int bb.1)::S) (fun bb M=>M) (fun n bb=>0≤bb.1∧bb.1+n=(b0.length:Int)∧w_heldLiteralS_L1 (b0.drop bb.1.toNat) bb.1 bb.2=some o1) b0.length (0,b1) ⟨Int.le_refl _,by simp,h⟩ ?_
  clear h
  rintro JJ7 n7 ⟨z8,a9⟩ hag7 ⟨hza7,hzb7,h⟩
  dsimp only at hza7 hzb7 h
  refine Run.seq (Run.sr (X.mv ?_))
  refine X.mv ?_
  refine X.ls elt51 ?_
  refine X.bi ?_
  refine X.nil ?_
  refine R.cd (fun hc12=>?_) (fun hc12=>?_)
  ·obtain ⟨x10,xs11,hd7,hx7,hds7,hlt7⟩:=drop_atI hza7 hc12
   rw [hd7] at h
   rw [w_heldLiteralS_L1] at h
   refine Run.skip (Run.seq (Run.block (Run.seq (Run.sr (X.mv ?_)))))
   refine X.mv ?_
   refine X.ix elt51 (idxL_spec hx7).1 (idxL_map eTLiteral hx7) ?_
   refine X.fieldAddr_c fld114_0 (by rfl) (by rfl) ?_
   refine X.lc shp3 ?_
   refine X.mv ?_
   refine X.bi ?_
   refine X.nil ?_
   refine R.cd (fun hc13=>?_) (fun hc13=>?_)
   ·replace h:=condT hc13 h
    refine Run.sr (X.an ?_)
    cases h
    have h:=hup2
    replace h:=elimR h
    cases h
    refine R.f1 Tryz.results37 ?_
    rfl
   replace h:=condF hc13 h
   refine Run.skip (Run.sr (X.mv ?_))
   refine X.addW (h:=?_)
   refine X.an ?_
   refine Run.seq (Run.sr (X.mv ?_))
   refine X.mv ?_
   refine X.ix elt51 (idxL_spec hx7).1 (idxL_map eTLiteral hx7) ?_
   refine X.fieldAddr_c fld114_1 (by rfl) (by rfl) ?_
   refine X.lc shp3 ?_
   refine X.mv ?_
   refine X.bi ?_
   refine X.nil ?_
   refine R.cd (fun hc14=>?_) (fun hc14=>?_)
   ·replace h:=condT hc14 h
    refine Run.sr (X.an ?_)
    cases h
    have h:=hup2
    replace h:=elimR h
    cases h
    refine R.f1 Tryz.results37 ?_
    rfl
   replace h:=condF hc14 h
   refine Run.skip (Run.sr (X.mv ?_))
   refine X.addW (h:=?_)
   refine X.an ?_
   refine Run.seq (Run.sr (X.mv ?_))
   refine X.mv ?_
   refine X.ix elt51 (idxL_spec hx7).1 (idxL_map eTLiteral hx7) ?_
   refine X.fieldAddr_c fld114_2 (by rfl) (by rfl) ?_
   refine X.lc shp3 ?_
   refine X.mv ?_
   refine X.bi ?_
   refine X.nil ?_
   refine R.cd (fun hc15=>?_) (fun hc15=>?_)
   ·replace h:=condT hc15 h
    refine Run.sr (X.an ?_)
    cases h
    have h:=hup2
    replace h:=elimR h
    cases h
    refine R.f1 Tryz.results37 ?_
    rfl
   replace h:=condF hc15 h
   refine Run.skip (Run.reg (X.mv ?_))
   refine X.addW (h:=?_)
   refine X.an ?_
   refine Run.blk (Run.reg (X.mv ?_))
   refine X.ad ?_
   refine X.an ?_
   exact R.ag hag7 (n7 - 1) (z8+1,(W ((W ((W (a9+1))+1))+1))) (R.n3 (by first | (rw [hds7];exact h) | (dsimp only;rw [hds7];exact h)))
  rw [drop_endI hza7 hc12] at h
  rw [w_heldLiteralS_L1] at h
  refine Run.exit (by rfl) ?_
  exact R.mt hmeet3 a9 (Option.some.inj h)
 rintro p16 rfl
 replace h:=elimL h
 refine Run.sr (X.mv ?_)
 refine X.an ?_
 cases h
 refine R.f1 Tryz.results37 ?_
 rfl
theorem w_heldLineS_pc (b0:List TLine)(b1:Int)(r:Int)(h:w_heldLineS b0 b1=some r):PC Tryz.prog 12 [.slice (b0.map eTLine),int b1] (int r):=by
 unfold w_heldLineS at h
 refine PC.start Tryz.func12 Tryz.ntmps12 rfl ok12 rfl ?_
 refine Run.sr (X.an ?_)
 refine Run.seq (Run.sr (X.an ?_))
 obtain ⟨o1,ho1,h⟩:=bindE h
 refine R.join2 (β:=Int) [] [] (fun p20 S=>(1,int p20)::S) (fun p20 M=>M) (fun p20=>(Sum.inl p20)=o1) ?_ ?_
 ·intro JJ4 hmeet3
  have hup2:=h;clear h;have h:=ho1;clear ho1
  refine Run.block ?_
  refine R.bndS (t:=0) (by rfl) (fun hbd7=>?_)
  replace hbd7:b0.length≤9223372036854775807:=by first | (rw [List.length_map] at hbd7;exact hbd7) | simp
  refine R.lp (β:=Int×Int) [(0,.slice (b0.map eTLine))] [] (fun bb S=>(1,int bb.2)::(5,int bb.1)::S) (fun bb M=>M) (fun n bb=>0≤bb.1∧bb.1+n=(b0.length:Int)∧w_heldLineS_L1 (b0.drop bb.1.toNat) bb.1 bb.2=some o1) b0.length (0,b1) ⟨Int.le_refl _,by simp,h⟩ ?_
  clear h
  rintro JJ7 n7 ⟨z8,a9⟩ hag7 ⟨hza7,hzb7,h⟩
  dsimp only at hza7 hzb7 h
  refine Run.seq (Run.sr (X.mv ?_))
  refine X.mv ?_
  refine X.ls elt29 ?_
  refine X.bi ?_
  refine X.nil ?_
  refine R.cd (fun hc12=>?_) (fun hc12=>?_)
  ·obtain ⟨x10,xs11,hd7,hx7,hds7,hlt7⟩:=drop_atI hza7 hc12
   rw [hd7] at h
   rw [w_heldLineS_L1] at h
   refine Run.skip (Run.seq (Run.block (Run.seq (Run.sr (X.mv ?_)))))
   refine X.mv ?_
   refine X.ix elt29 (idxL_spec hx7).1 (idxL_map eTLine hx7) ?_
   refine X.fieldAddr_c fld53_0 (by rfl) (by rfl) ?_
   refine X.lc shp3 ?_
   refine X.mv ?_
   refine X.bi ?_
   refine X.nil ?_
   refine R.cd (fun hc13=>?_) (fun hc13=>?_)
   ·replace h:=condT hc13 h
    refine Run.sr (X.an ?_)
    cases h
    have h:=hup2
    replace h:=elimR h
    cases h
    refine R.f1 Tryz.results12 ?_
    rfl
   replace h:=condF hc13 h
   refine Run.skip (Run.sr (X.mv ?_))
   refine X.addW (h:=?_)
   refine X.an ?_
   refine Run.seq (Run.sr (X.mv ?_))
   refine X.mv ?_
   refine X.ix elt29 (idxL_spec hx7).1 (idxL_map eTLine hx7) ?_
   refine X.fieldAddr_c fld53_1 (by rfl) (by rfl) ?_
   refine X.fieldAddr_c fld50_0 (by rfl) (by rfl) ?_
   refine X.lc shp3 ?_
   refine X.mv ?_
   refine X.bi ?_
   refine X.nil ?_
   refine R.cd (fun hc14=>?_) (fun hc14=>?_)
   ·replace h:=condT hc14 h
    refine Run.sr (X.an ?_)
    cases h
    have h:=hup2
    replace h:=elimR h
    cases h
    refine R.f1 Tryz.results12 ?_
    rfl
   replace h:=condF hc14 h
   refine Run.skip (Run.sr (X.mv ?_))
   refine X.addW (h:=?_)
   refine X.an ?_
   refine Run.seq (Run.sr (X.mv ?_))
   refine X.mv ?_
   refine X.ix elt29 (idxL_spec hx7).1 (idxL_map eTLine hx7) ?_
   refine X.fieldAddr_c fld53_1 (by rfl) (by rfl) ?_
   refine X.fieldAddr_c fld50_1 (by rfl) (by rfl) ?_
   refine X.lc shp3 ?_
   refine X.mv ?_
   refine X.bi ?_
   refine X.nil ?_
   refine R.cd (fun hc15=>?_) (fun hc15=>?_)
   ·replace h:=condT hc15 h
    refine Run.sr (X.an ?_)
    cases h
    have h:=hup2
    replace h:=elimR h
    cases h
    refine R.f1 Tryz.results12 ?_
    rfl
   replace h:=condF hc15 h
   refine Run.skip (Run.sr (X.mv ?_))
   refine X.addW (h:=?_)
   refine X.an ?_
   refine Run.seq (Run.sr (X.mv ?_))
   refine X.mv ?_
   refine X.ix elt29 (idxL_spec hx7).1 (idxL_map eTLine hx7) ?_
   refine X.fieldAddr_c fld53_1 (by rfl) (by rfl) ?_
   refine X.fieldAddr_c fld50_2 (by rfl) (by rfl) ?_
   refine X.lc shp3 ?_
   refine X.mv ?_
   refine X.bi ?_
   refine X.nil ?_
   refine R.cd (fun hc16=>?_) (fun hc16=>?_)
   ·replace h:=condT hc16 h
    refine Run.sr (X.an ?_)
    cases h
    have h:=hup2
    replace h:=elimR h
    cases h
    refine R.f1 Tryz.results12 ?_
    rfl
   replace h:=condF hc16 h
   refine Run.skip (Run.sr (X.mv ?_))
   refine X.addW (h:=?_)
   refine X.an ?_
   refine Run.seq (Run.sr (X.mv ?_))
   refine X.mv ?_
   refine X.ix elt29 (idxL_spec hx7).1 (idxL_map eTLine hx7) ?_
   refine X.fieldAddr_c fld53_1 (by rfl) (by rfl) ?_
   refine X.fieldAddr_c fld50_3 (by rfl) (by rfl) ?_
   refine X.lc shp3 ?_
   refine X.mv ?_
   refine X.bi ?_
   refine X.nil ?_
   refine R.cd (fun hc17=>?_) (fun hc17=>?_)
   ·replace h:=condT hc17 h
    refine Run.sr (X.an ?_)
    cases h
    have h:=hup2
    replace h:=elimR h
    cases h
    refine R.f1 Tryz.results12 ?_
    rfl
   replace h:=condF hc17 h
   refine Run.skip (Run.sr (X.mv ?_))
   refine X.addW (h:=?_)
   refine X.an ?_
   refine Run.sr (X.mv ?_)
   refine X.mv ?_
   refine X.ix elt29 (idxL_spec hx7).1 (idxL_map eTLine hx7) ?_
   refine X.fieldAddr_c fld53_2 (by rfl) (by rfl) ?_
   refine X.lc shp51 ?_
   refine X.mv ?_
   obtain ⟨v18,hv18,h⟩:=bindE h
   refine X.cp (w_heldLiteralS_pc _ _ _ hv18) ?_
   refine X.an ?_
   refine Run.sr (X.mv ?_)
   refine X.bi ?_
   refine X.nil ?_
   refine R.cd (fun hc19=>?_) (fun hc19=>?_)
   ·replace h:=condT hc19 h
    refine Run.sr (X.an ?_)
    cases h
    have h:=hup2
    replace h:=elimR h
    cases h
    refine R.f1 Tryz.results12 ?_
    rfl
   replace h:=condF hc19 h
   refine Run.skip (Run.blk (Run.reg (X.mv ?_)))
   refine X.ad ?_
   refine X.an ?_
   exact R.ag hag7 (n7 - 1) (z8+1,v18) (R.n3 (by first | (rw [hds7];exact h) | (dsimp only;rw [hds7];exact h)))
  rw [drop_endI hza7 hc12] at h
  rw [w_heldLineS_L1] at h
  refine Run.exit (by rfl) ?_
  exact R.mt hmeet3 a9 (Option.some.inj h)
 rintro p20 rfl
 replace h:=elimL h
 refine Run.sr (X.mv ?_)
 refine X.an ?_
 cases h
 refine R.f1 Tryz.results12 ?_
 rfl
end Go.Px.YtoajaeffpalmlaaGreatDoor
