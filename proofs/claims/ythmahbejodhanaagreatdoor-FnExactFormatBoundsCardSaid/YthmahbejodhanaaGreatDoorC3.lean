/-
  PROVED: contracts of functions of the program over pure values. No condition beyond those that each theorem names.
-/
import Derived.Test.YthmahbejodhanaaGreatDoorProg
import Derived.Test.YthmahbejodhanaaGreatDoorD2
import Derived.Test.YthmahbejodhanaaGreatDoorS
import Derived.Test.YthmahbejodhanaaGreatDoorC2
namespace Go.Px.YthmahbejodhanaaGreatDoor
set_option linter.unusedSimpArgs false
set_option linter.unusedVariables false
open Go.Px Go.Proofs
theorem G0z (b0:List Int)(b1:Int)(b2:Int)(g3:Int→Int→Option Int)(g3id:Nat)(g3c:List PV)(hg3:∀(x0:Int) (x1:Int) v,g3 x0 x1=some v→PC Tryz.prog g3id ([int x0,int x1] ++ g3c) (int v))(r:(List Int))(h:B0h b0 b1 b2 g3=some r):PCM Tryz.prog 171 [.own 63 (b0.map int).length,int b1,int b2,.fn g3id g3c] [(63,.obj true 3 1 (b0.map int))] (.tuple []) [(63,.obj true 3 1 (r.map int))]:=by
 unfold B0h at h
 refine PCM.start Tryz.func171 Tryz.ntmps171 rfl ok171 rfl (by rfl) (by rfl) (by rfl) (by rfl) (by rfl) ?_
 refine Run.sr (X.mv ?_)
 refine X.addW (h:=?_)
 refine X.an ?_
 obtain ⟨o1,ho1,h⟩:=bindE h
 refine R.join2 (β:=(List Int)) [] [] (fun p30 S=>S) (fun p30 M=>(63,.obj true 3 1 (p30.map int))::M) (fun p30=>p30=o1) ?_ ?_
 ·intro JJ4 hmeet3
  have hup2:=h;clear h;have h:=ho1;clear ho1
  refine Run.block ?_
  refine R.lp (β:=Int×(List Int)) [(1,int b1),(2,int b2),(3,.fn g3id g3c)] [] (fun bb S=>(0,.own 63 (bb.2.map int).length)::(8,int bb.1)::S) (fun bb M=>(63,.obj true 3 1 (bb.2.map int))::M) (fun n bb=>A0s b1 b2 g3 n bb.1 bb.2=some o1) F0 ((W (b1+1)),b0) h ?_
  clear h
  rintro JJ4 n4 ⟨a6,a7⟩ hag4 h
  dsimp only at h
  obtain _ | n4:=n4
  ·exact absurd h (by simp [A0s])
  rw [A0s] at h
  refine Run.seq (Run.sr (X.mv ?_))
  refine X.mv ?_
  refine X.bi ?_
  refine X.nil ?_
  refine R.cd (fun hc10=>?_) (fun hc10=>?_)
  ·replace h:=condT hc10 h
   refine Run.skip (Run.seq (Run.block (Run.sr (X.mv ?_))))
   refine X.an ?_
   obtain ⟨o11,ho11,h⟩:=bindE h
   refine R.join2 (β:=(List Int)) [(1,int b1),(2,int b2),(3,.fn g3id g3c),(8,int a6)] [] (fun p29 S=>(0,.own 63 (p29.map int).length)::S) (fun p29 M=>(63,.obj true 3 1 (p29.map int))::M) (fun p29=>p29=o11) ?_ ?_
   ·intro JJ14 hmeet13
    have hup12:=h;clear h;have h:=ho11;clear ho11
    refine Run.block ?_
    refine R.lp (β:=Int×(List Int)) [(1,int b1),(2,int b2),(3,.fn g3id g3c),(8,int a6)] [] (fun bb S=>(0,.own 63 (bb.2.map int).length)::(9,int bb.1)::S) (fun bb M=>(63,.obj true 3 1 (bb.2.map int))::M) (fun n bb=>A0w b1 g3 n bb.1 bb.2=some o11) F0 (a6,a7) h ?_
    clear h
    rintro JJ14 n14 ⟨a16,a17⟩ hag14 h
    dsimp only at h
    obtain _ | n14:=n14
    ·exact absurd h (by simp [A0w])
    rw [A0w] at h
    refine Run.seq (Run.seq ?_)
    obtain ⟨e20,he20,h2⟩:=bindE h
    refine R.drawG [(0,.own 63 (a17.map int).length),(1,int b1),(2,int b2),(3,.fn g3id g3c),(8,int a6),(9,int a16),(34,bool e20)] [(63,.obj true 3 1 (a17.map int))] (B0m [(7,([],[],[63],[])),(8,([63],[],[],[])),(12,([],[],[63],[])),(13,([63],[],[],[]))]) mixed (by kernel_rfl) (by kernel_rfl) ?_ ?_
    ·clear h;have h:=he20;clear he20 h2
     refine X.mv ?_
     refine X.mv ?_
     refine X.bi ?_
     refine X.mv ?_
     refine X.iG (fun hb21=>?_) (fun hb21=>?_)
     ·replace h:=condT hb21 h
      refine X.mv ?_
      refine X.gy (X.mv ?_)
      refine X.gy (X.mv ?_)
      refine X.gy ?_
      obtain ⟨v22,hv22,h⟩:=bindE h
      refine X.index_xs elt25 (by rfl) (by rfl) (by first | rfl | simp [setL] | omega) (by rfl) (by exact (Int.toNat_of_nonneg (A0a hv22).1).symm) (by have:=A0t hv22;first | exact this | (rw [List.length_map];exact this)) (by rfl) (by rfl) ?_
      refine X.gy (X.load_e shp3 (by rfl) (by rfl) (by rfl) (by first | rfl | simp [setL] | omega) (A0c _ hv22) (by rfl) (by rfl) (by rfl) ?_)
      refine X.gy (X.mv ?_)
      refine X.gy (X.mv ?_)
      refine X.gy (X.subW (h:=?_))
      refine X.gy ?_
      obtain ⟨v23,hv23,h⟩:=bindE h
      refine X.index_xs elt25 (by rfl) (by rfl) (by first | rfl | simp [setL] | omega) (by rfl) (by exact (Int.toNat_of_nonneg (A0a hv23).1).symm) (by have:=A0t hv23;first | exact this | (rw [List.length_map];exact this)) (by rfl) (by rfl) ?_
      refine X.gy (X.load_e shp3 (by rfl) (by rfl) (by rfl) (by first | rfl | simp [setL] | omega) (A0c _ hv23) (by rfl) (by rfl) (by rfl) ?_)
      refine X.gy ?_
      obtain ⟨v24,hv24,h⟩:=bindE h
      refine X.cp (hg3 _ _ _ hv24) ?_
      refine X.gy (X.bi ?_)
      refine X.pT ?_
      cases h
      exact X.eG
     replace h:=condF hb21 h
     refine X.gn (X.gn (X.gn (X.gn (X.gn (X.gn (X.gn (X.gn ?_)))))))
     refine X.gn (X.gn (X.gn (X.pF ?_)))
     cases h
     exact X.eG
    replace h:=h2;clear h2
    refine R.cd (fun hc25=>?_) (fun hc25=>?_)
    ·replace h:=condT hc25 h
     refine Run.skip (Run.seq (Run.block (Run.draw (B0m [(8,([],[],[63],[])),(9,([63],[],[],[])),(12,([],[],[63],[])),(13,([63],[],[],[])),(14,([],[],[63],[])),(15,([63],[],[],[63])),(16,([],[],[63],[])),(17,([63],[],[],[63]))]) mixed (by kernel_rfl) (by kernel_rfl) ?_)))
     refine X.mv ?_
     refine X.mv ?_
     refine X.mv ?_
     refine X.mv ?_
     refine X.subW (h:=?_)
     refine X.mv ?_
     refine X.mv ?_
     refine X.subW (h:=?_)
     obtain ⟨v26,hv26,h⟩:=bindE h
     refine X.index_xs elt25 (by rfl) (by rfl) (by first | rfl | simp [setL] | omega) (by rfl) (by exact (Int.toNat_of_nonneg (A0a hv26).1).symm) (by have:=A0t hv26;first | exact this | (rw [List.length_map];exact this)) (by rfl) (by rfl) ?_
     refine X.load_e shp3 (by rfl) (by rfl) (by rfl) (by first | rfl | simp [setL] | omega) (A0c _ hv26) (by rfl) (by rfl) (by rfl) ?_
     refine X.mv ?_
     refine X.mv ?_
     obtain ⟨v27,hv27,h⟩:=bindE h
     refine X.index_xs elt25 (by rfl) (by rfl) (by first | rfl | simp [setL] | omega) (by rfl) (by exact (Int.toNat_of_nonneg (A0a hv27).1).symm) (by have:=A0t hv27;first | exact this | (rw [List.length_map];exact this)) (by rfl) (by rfl) ?_
     refine X.load_e shp3 (by rfl) (by rfl) (by rfl) (by first | rfl | simp [setL] | omega) (A0c _ hv27) (by rfl) (by rfl) (by rfl) ?_
     refine X.index_xs elt25 (by rfl) (by rfl) (by first | rfl | simp [setL] | omega) (by rfl) (by exact (Int.toNat_of_nonneg (A0a hv27).1).symm) (by have:=A0t hv27;first | exact this | (rw [List.length_map];exact this)) (by rfl) (by rfl) ?_
     refine X.store_es shp3 (by rfl) (by rfl) (by first | rfl | simp [setL] | omega) (A0c _ hv27) (by rfl) (by rfl) (by repeat (first | trivial | refine ⟨by first | rfl | simp [setL],?_⟩)) (by rfl) (by rfl) (by rfl) (by rfl) (by exact D0e _ _ _ v26) ?_
     obtain ⟨v28,hv28,h⟩:=bindE h
     refine X.index_xs elt25 (by rfl) (by rfl) (by first | rfl | simp [setL] | omega) (by rfl) (by exact (Int.toNat_of_nonneg (A0a hv28).1).symm) (by have:=A0t hv28;first | exact this | (rw [List.length_map];exact this)) (by rfl) (by rfl) ?_
     refine X.store_es shp3 (by rfl) (by rfl) (by first | rfl | simp [setL] | omega) (A0c _ hv28) (by rfl) (by rfl) (by repeat (first | trivial | refine ⟨by first | rfl | simp [setL],?_⟩)) (by rfl) (by rfl) (by rfl) (by rfl) (by exact D0e _ _ _ v27) ?_
     refine X.nil (Run.blk (Run.reg (X.mv ?_)))
     refine X.subW (h:=?_)
     refine X.an ?_
     refine R.castS (t:=0) (.own 63 ((setL (setL a17 a16 v26) (W (a16 - 1)) v27).map int).length) (by rfl) (.inl (by first | rfl | simp [setL])) ?_
     exact hag14 n14 ((W (a16 - 1)),(setL (setL a17 a16 v26) (W (a16 - 1)) v27)) _ _ (by omega) h (by repeat (first | trivial | refine ⟨by first | rfl | simp [setL],?_⟩)) (by repeat (first | trivial | refine ⟨by first | rfl | simp [setL],?_⟩)) (by rfl) (by rfl)
    replace h:=condF hc25 h
    refine Run.exit (by rfl) ?_
    exact R.mt hmeet13 a17 (Option.some.inj h)
   rintro p29 rfl
   refine Run.blk (Run.reg (X.mv ?_))
   refine X.addW (h:=?_)
   refine X.an ?_
   exact hag4 n4 ((W (a6+1)),p29) _ _ (by omega) h (by repeat (first | trivial | refine ⟨by first | rfl | simp [setL],?_⟩)) (by repeat (first | trivial | refine ⟨by first | rfl | simp [setL],?_⟩)) (by rfl) (by rfl)
  replace h:=condF hc10 h
  refine Run.exit (by rfl) ?_
  exact R.mt hmeet3 a7 (Option.some.inj h)
 rintro p30 rfl
 cases h
 exact R.endM0 Tryz.results171 (by repeat (first | exact trivial | refine ⟨by rfl,?_⟩)) rfl
theorem F0p (b0:List Int)(b1:Int)(b2:Int)(b3:Int)(g4:Int→Int→Option Int)(g4id:Nat)(g4c:List PV)(hg4:∀(x0:Int) (x1:Int) v,g4 x0 x1=some v→PC Tryz.prog g4id ([int x0,int x1] ++ g4c) (int v))(r:(List Int))(h:C0q b0 b1 b2 b3 g4=some r):PCM Tryz.prog 187 [.own 63 (b0.map int).length,int b1,int b2,int b3,.fn g4id g4c] [(63,.obj true 3 1 (b0.map int))] (.tuple []) [(63,.obj true 3 1 (r.map int))]:=by
 unfold C0q at h
 refine PCM.start Tryz.func187 Tryz.ntmps187 rfl ok187 rfl (by rfl) (by rfl) (by rfl) (by rfl) (by rfl) ?_
 refine Run.sr (X.an ?_)
 obtain ⟨o1,ho1,h⟩:=bindE h
 refine R.join2 (β:=(List Int)) [] [] (fun p15 S=>S) (fun p15 M=>(63,.obj true 3 1 (p15.map int))::M) (fun p15=>p15=o1) ?_ ?_
 ·intro JJ4 hmeet3
  have hup2:=h;clear h;have h:=ho1;clear ho1
  refine Run.block ?_
  refine R.lp (β:=Int×(List Int)) [(1,int b1),(2,int b2),(3,int b3)] [] (fun bb S=>(0,.own 63 (bb.2.map int).length)::(10,int bb.1)::S) (fun bb M=>(63,.obj true 3 1 (bb.2.map int))::M) (fun n bb=>B0z b1 b2 b3 n bb.1 bb.2=some o1) F0 (0,b0) h ?_
  clear h
  rintro JJ5 n5 ⟨a7,a8⟩ hag5 h
  dsimp only at h
  obtain _ | n5:=n5
  ·exact absurd h (by simp [B0z])
  rw [B0z] at h
  refine Run.seq (Run.sr (X.mv ?_))
  refine X.mv ?_
  refine X.bi ?_
  refine X.nil ?_
  refine R.cd (fun hc11=>?_) (fun hc11=>?_)
  ·replace h:=condT hc11 h
   refine Run.skip (Run.seq (Run.block (Run.draw (B0m [(12,([],[],[63],[])),(13,([63],[],[],[])),(18,([],[],[63],[])),(19,([63],[],[],[])),(20,([],[],[63],[])),(21,([63],[],[],[63])),(22,([],[],[63],[])),(23,([63],[],[],[63]))]) mixed (by kernel_rfl) (by kernel_rfl) ?_)))
   refine X.mv ?_
   refine X.mv ?_
   refine X.mv ?_
   refine X.addW (h:=?_)
   refine X.mv ?_
   refine X.mv ?_
   refine X.mv ?_
   refine X.addW (h:=?_)
   refine X.mv ?_
   refine X.mv ?_
   refine X.mv ?_
   refine X.addW (h:=?_)
   obtain ⟨v12,hv12,h⟩:=bindE h
   refine X.index_xs elt25 (by rfl) (by rfl) (by first | rfl | simp [setL] | omega) (by rfl) (by exact (Int.toNat_of_nonneg (A0a hv12).1).symm) (by have:=A0t hv12;first | exact this | (rw [List.length_map];exact this)) (by rfl) (by rfl) ?_
   refine X.load_e shp3 (by rfl) (by rfl) (by rfl) (by first | rfl | simp [setL] | omega) (A0c _ hv12) (by rfl) (by rfl) (by rfl) ?_
   refine X.mv ?_
   refine X.mv ?_
   refine X.mv ?_
   refine X.addW (h:=?_)
   obtain ⟨v13,hv13,h⟩:=bindE h
   refine X.index_xs elt25 (by rfl) (by rfl) (by first | rfl | simp [setL] | omega) (by rfl) (by exact (Int.toNat_of_nonneg (A0a hv13).1).symm) (by have:=A0t hv13;first | exact this | (rw [List.length_map];exact this)) (by rfl) (by rfl) ?_
   refine X.load_e shp3 (by rfl) (by rfl) (by rfl) (by first | rfl | simp [setL] | omega) (A0c _ hv13) (by rfl) (by rfl) (by rfl) ?_
   refine X.index_xs elt25 (by rfl) (by rfl) (by first | rfl | simp [setL] | omega) (by rfl) (by exact (Int.toNat_of_nonneg (A0a hv13).1).symm) (by have:=A0t hv13;first | exact this | (rw [List.length_map];exact this)) (by rfl) (by rfl) ?_
   refine X.store_es shp3 (by rfl) (by rfl) (by first | rfl | simp [setL] | omega) (A0c _ hv13) (by rfl) (by rfl) (by repeat (first | trivial | refine ⟨by first | rfl | simp [setL],?_⟩)) (by rfl) (by rfl) (by rfl) (by rfl) (by exact D0e _ _ _ v12) ?_
   obtain ⟨v14,hv14,h⟩:=bindE h
   refine X.index_xs elt25 (by rfl) (by rfl) (by first | rfl | simp [setL] | omega) (by rfl) (by exact (Int.toNat_of_nonneg (A0a hv14).1).symm) (by have:=A0t hv14;first | exact this | (rw [List.length_map];exact this)) (by rfl) (by rfl) ?_
   refine X.store_es shp3 (by rfl) (by rfl) (by first | rfl | simp [setL] | omega) (A0c _ hv14) (by rfl) (by rfl) (by repeat (first | trivial | refine ⟨by first | rfl | simp [setL],?_⟩)) (by rfl) (by rfl) (by rfl) (by rfl) (by exact D0e _ _ _ v13) ?_
   refine X.nil (Run.blk (Run.reg (X.mv ?_)))
   refine X.addW (h:=?_)
   refine X.an ?_
   refine R.castS (t:=0) (.own 63 ((setL (setL a8 (W (b1+a7)) v12) (W (b2+a7)) v13).map int).length) (by rfl) (.inl (by first | rfl | simp [setL])) ?_
   exact hag5 n5 ((W (a7+1)),(setL (setL a8 (W (b1+a7)) v12) (W (b2+a7)) v13)) _ _ (by omega) h (by repeat (first | trivial | refine ⟨by first | rfl | simp [setL],?_⟩)) (by repeat (first | trivial | refine ⟨by first | rfl | simp [setL],?_⟩)) (by rfl) (by rfl)
  replace h:=condF hc11 h
  refine Run.exit (by rfl) ?_
  exact R.mt hmeet3 a8 (Option.some.inj h)
 rintro p15 rfl
 cases h
 exact R.endM0 Tryz.results187 (by repeat (first | exact trivial | refine ⟨by rfl,?_⟩)) rfl
theorem R0s (b0:List Int)(b1:Int)(b2:Int)(b3:Int)(g4:Int→Int→Option Int)(g4id:Nat)(g4c:List PV)(hg4:∀(x0:Int) (x1:Int) v,g4 x0 x1=some v→PC Tryz.prog g4id ([int x0,int x1] ++ g4c) (int v))(r:(List Int))(h:J0j b0 b1 b2 b3 g4=some r):PCM Tryz.prog 183 [.own 63 (b0.map int).length,int b1,int b2,int b3,.fn g4id g4c] [(63,.obj true 3 1 (b0.map int))] (.tuple []) [(63,.obj true 3 1 (r.map int))]:=by
 unfold J0j at h
 refine PCM.start Tryz.func183 Tryz.ntmps183 rfl ok183 rfl (by rfl) (by rfl) (by rfl) (by rfl) (by rfl) ?_
 refine Run.sr (X.mv ?_)
 refine X.mv ?_
 refine X.subW (h:=?_)
 refine X.an ?_
 refine Run.sr (X.mv ?_)
 refine X.mv ?_
 refine X.subW (h:=?_)
 refine X.an ?_
 refine Run.seq ?_
 obtain ⟨o1,ho1,h⟩:=bindE h
 refine R.join2 (β:=Int×(List Int)) [(2,int b2),(4,.fn g4id g4c)] [] (fun p15 S=>(0,.own 63 (p15.2.map int).length)::(10,int p15.1)::S) (fun p15 M=>(63,.obj true 3 1 (p15.2.map int))::M) (fun p15=>p15=o1) ?_ ?_
 ·intro JJ4 hmeet3
  have hup2:=h;clear h;have h:=ho1;clear ho1
  refine Run.block ?_
  refine R.lp (β:=Int×Int×(List Int)) [(2,int b2),(4,.fn g4id g4c)] [] (fun bb S=>(0,.own 63 (bb.2.2.map int).length)::(10,int bb.1)::(11,int bb.2.1)::S) (fun bb M=>(63,.obj true 3 1 (bb.2.2.map int))::M) (fun n bb=>B0v b2 g4 n bb.1 bb.2.1 bb.2.2=some o1) F0 ((W (b2 - b1)),(W (b3 - b2)),b0) h ?_
  clear h
  rintro JJ4 n4 ⟨a6,a7,a8⟩ hag4 h
  dsimp only at h
  obtain _ | n4:=n4
  ·exact absurd h (by simp [B0v])
  rw [B0v] at h
  refine Run.seq (Run.sr (X.mv ?_))
  refine X.mv ?_
  refine X.bi ?_
  refine X.nil ?_
  refine R.cd (fun hc11=>?_) (fun hc11=>?_)
  ·replace h:=condT hc11 h
   refine Run.skip (Run.block (Run.sr (X.mv ?_)))
   refine X.mv ?_
   refine X.bi ?_
   refine X.nil ?_
   refine R.cd (fun hc12=>?_) (fun hc12=>?_)
   ·replace h:=condT hc12 h
    refine Run.sr (X.mv ?_)
    refine X.mv ?_
    refine X.mv ?_
    refine X.subW (h:=?_)
    refine X.mv ?_
    refine X.mv ?_
    refine X.mv ?_
    obtain ⟨v13,hv13,h⟩:=bindE h
    refine X.callR [(63,63)] [(63,(a8.map int).length)] [(63,(v13.map int).length)] (F0p _ _ _ _ g4 _ _ hg4 _ hv13) (by rfl) (by rfl) (.ownB 63 (by rfl) (by first | rfl | simp [setL] | omega) (by rfl) (.pureB (by rfl) (by repeat (first | trivial | refine ⟨by first | rfl | simp [setL],?_⟩)) (.pureB (by rfl) (by repeat (first | trivial | refine ⟨by first | rfl | simp [setL],?_⟩)) (.pureB (by rfl) (by repeat (first | trivial | refine ⟨by first | rfl | simp [setL],?_⟩)) (.pureB (by rfl) (by repeat (first | trivial | refine ⟨by first | rfl | simp [setL],?_⟩)) .nil))))) (by rfl) ⟨rfl,rfl,⟨_,by rfl,by constructor⟩,by constructor,trivial⟩ (by rfl) (by rfl) (by rfl) (by rfl) ⟨rfl,⟨_,_,_,_,by rfl,by rfl⟩,⟨_,_,_,_,by rfl,by rfl⟩,trivial⟩ (by rfl) (by repeat (first | trivial | refine ⟨by first | rfl | simp [setL],?_⟩)) (by rfl) (by rfl) (by rfl) (by rfl) (by rfl) ?_
    refine X.nil (Run.reg (X.mv ?_))
    refine X.mv ?_
    refine X.subW (h:=?_)
    refine X.an ?_
    refine Run.blk ?_
    exact hag4 n4 ((W (a6 - a7)),a7,v13) _ _ (by omega) h (by repeat (first | trivial | refine ⟨by first | rfl | simp [setL],?_⟩)) (by repeat (first | trivial | refine ⟨by first | rfl | simp [setL],?_⟩)) (by rfl) (by rfl)
   replace h:=condF hc12 h
   refine Run.sr (X.mv ?_)
   refine X.mv ?_
   refine X.mv ?_
   refine X.subW (h:=?_)
   refine X.mv ?_
   refine X.mv ?_
   refine X.addW (h:=?_)
   refine X.mv ?_
   refine X.subW (h:=?_)
   refine X.mv ?_
   refine X.mv ?_
   obtain ⟨v14,hv14,h⟩:=bindE h
   refine X.callR [(63,63)] [(63,(a8.map int).length)] [(63,(v14.map int).length)] (F0p _ _ _ _ g4 _ _ hg4 _ hv14) (by rfl) (by rfl) (.ownB 63 (by rfl) (by first | rfl | simp [setL] | omega) (by rfl) (.pureB (by rfl) (by repeat (first | trivial | refine ⟨by first | rfl | simp [setL],?_⟩)) (.pureB (by rfl) (by repeat (first | trivial | refine ⟨by first | rfl | simp [setL],?_⟩)) (.pureB (by rfl) (by repeat (first | trivial | refine ⟨by first | rfl | simp [setL],?_⟩)) (.pureB (by rfl) (by repeat (first | trivial | refine ⟨by first | rfl | simp [setL],?_⟩)) .nil))))) (by rfl) ⟨rfl,rfl,⟨_,by rfl,by constructor⟩,by constructor,trivial⟩ (by rfl) (by rfl) (by rfl) (by rfl) ⟨rfl,⟨_,_,_,_,by rfl,by rfl⟩,⟨_,_,_,_,by rfl,by rfl⟩,trivial⟩ (by rfl) (by repeat (first | trivial | refine ⟨by first | rfl | simp [setL],?_⟩)) (by rfl) (by rfl) (by rfl) (by rfl) (by rfl) ?_
   refine X.nil (Run.reg (X.mv ?_))
   refine X.mv ?_
   refine X.subW (h:=?_)
   refine X.an ?_
   refine Run.blk ?_
   exact hag4 n4 (a6,(W (a7 - a6)),v14) _ _ (by omega) h (by repeat (first | trivial | refine ⟨by first | rfl | simp [setL],?_⟩)) (by repeat (first | trivial | refine ⟨by first | rfl | simp [setL],?_⟩)) (by rfl) (by rfl)
  replace h:=condF hc11 h
  refine Run.exit (by rfl) ?_
  exact R.mt hmeet3 (a6,a8) (Option.some.inj h)
 rintro p15 rfl
 refine Run.reg (X.mv ?_)
 refine X.mv ?_
 refine X.mv ?_
 refine X.subW (h:=?_)
 refine X.mv ?_
 refine X.mv ?_
 refine X.mv ?_
 obtain ⟨v16,hv16,h⟩:=bindE h
 refine X.callR [(63,63)] [(63,(p15.2.map int).length)] [(63,(v16.map int).length)] (F0p _ _ _ _ g4 _ _ hg4 _ hv16) (by rfl) (by rfl) (.ownB 63 (by rfl) (by first | rfl | simp [setL] | omega) (by rfl) (.pureB (by rfl) (by repeat (first | trivial | refine ⟨by first | rfl | simp [setL],?_⟩)) (.pureB (by rfl) (by repeat (first | trivial | refine ⟨by first | rfl | simp [setL],?_⟩)) (.pureB (by rfl) (by repeat (first | trivial | refine ⟨by first | rfl | simp [setL],?_⟩)) (.pureB (by rfl) (by repeat (first | trivial | refine ⟨by first | rfl | simp [setL],?_⟩)) .nil))))) (by rfl) ⟨rfl,rfl,⟨_,by rfl,by constructor⟩,by constructor,trivial⟩ (by rfl) (by rfl) (by rfl) (by rfl) ⟨rfl,⟨_,_,_,_,by rfl,by rfl⟩,⟨_,_,_,_,by rfl,by rfl⟩,trivial⟩ (by rfl) (by repeat (first | trivial | refine ⟨by first | rfl | simp [setL],?_⟩)) (by rfl) (by rfl) (by rfl) (by rfl) (by rfl) ?_
 refine X.nil ?_
 cases h
 exact R.endM0 Tryz.results183 (by repeat (first | exact trivial | refine ⟨by rfl,?_⟩)) rfl
theorem K0f (b0:List Int)(b1:Int)(b2:Int)(b3:Int)(g4:Int→Int→Option Int)(g4id:Nat)(g4c:List PV)(hg4:∀(x0:Int) (x1:Int) v,g4 x0 x1=some v→PC Tryz.prog g4id ([int x0,int x1] ++ g4c) (int v))(r:(List Int))(h:E0s b0 b1 b2 b3 g4=some r):PCM Tryz.prog 172 [.own 63 (b0.map int).length,int b1,int b2,int b3,.fn g4id g4c] [(63,.obj true 3 1 (b0.map int))] (.tuple []) [(63,.obj true 3 1 (r.map int))]:=by
 unfold E0s at h
 refine PCM.start Tryz.func172 Tryz.ntmps172 rfl ok172 rfl (by rfl) (by rfl) (by rfl) (by rfl) (by rfl) ?_
 refine Run.seq (Run.sr (X.mv ?_))
 refine X.mv ?_
 refine X.subW (h:=?_)
 refine X.bi ?_
 refine X.nil ?_
 refine R.cd (fun hc1=>?_) (fun hc1=>?_)
 ·replace h:=condT hc1 h
  refine Run.sr (X.mv ?_)
  refine X.an ?_
  refine Run.sr (X.mv ?_)
  refine X.an ?_
  refine Run.seq ?_
  obtain ⟨o2,ho2,h⟩:=bindE h
  refine R.join2 (β:=Int) [(1,int b1)] [(63,.obj true 3 1 (b0.map int))] (fun p16 S=>(0,.own 63 (b0.map int).length)::(10,int p16)::S) (fun p16 M=>M) (fun p16=>p16=o2) ?_ ?_
  ·intro JJ5 hmeet4
   have hup3:=h;clear h;have h:=ho2;clear ho2
   refine Run.block ?_
   refine R.lp (β:=Int×Int) [(1,int b1),(4,.fn g4id g4c)] [(63,.obj true 3 1 (b0.map int))] (fun bb S=>(0,.own 63 (b0.map int).length)::(10,int bb.1)::(11,int bb.2)::S) (fun bb M=>M) (fun n bb=>B0s b0 b1 g4 n bb.1 bb.2=some o2) F0 (b2,b3) h ?_
   clear h
   rintro JJ5 n5 ⟨a7,a8⟩ hag5 h
   dsimp only at h
   obtain _ | n5:=n5
   ·exact absurd h (by simp [B0s])
   rw [B0s] at h
   refine Run.seq (Run.sr (X.mv ?_))
   refine X.mv ?_
   refine X.bi ?_
   refine X.nil ?_
   refine R.cd (fun hc11=>?_) (fun hc11=>?_)
   ·replace h:=condT hc11 h
    refine Run.skip (Run.block (Run.sr (X.mv ?_)))
    refine X.mv ?_
    refine X.addW (h:=?_)
    refine X.conv Tryz.underlying182 (by rw [Tryz.underlying3];rfl) (by rfl) (by rfl) ?_
    refine X.shr (by rfl) (by rfl) (by decide) (by rfl) ?_
    refine X.conv Tryz.underlying3 (by rw [Tryz.underlying182];rfl) (by rfl) (by rfl) ?_
    refine X.an ?_
    refine Run.seq (Run.draw (B0m [(3,([],[],[63],[])),(4,([63],[],[],[])),(7,([],[],[63],[])),(8,([63],[],[],[]))]) mixed (by kernel_rfl) (by kernel_rfl) ?_)
    refine X.mv ?_
    refine X.mv ?_
    refine X.mv ?_
    obtain ⟨v12,hv12,h⟩:=bindE h
    refine X.index_xs elt25 (by rfl) (by rfl) (by first | rfl | simp [setL] | omega) (by rfl) (by exact (Int.toNat_of_nonneg (A0a hv12).1).symm) (by have:=A0t hv12;first | exact this | (rw [List.length_map];exact this)) (by rfl) (by rfl) ?_
    refine X.load_e shp3 (by rfl) (by rfl) (by rfl) (by first | rfl | simp [setL] | omega) (A0c _ hv12) (by rfl) (by rfl) (by rfl) ?_
    refine X.mv ?_
    refine X.mv ?_
    obtain ⟨v13,hv13,h⟩:=bindE h
    refine X.index_xs elt25 (by rfl) (by rfl) (by first | rfl | simp [setL] | omega) (by rfl) (by exact (Int.toNat_of_nonneg (A0a hv13).1).symm) (by have:=A0t hv13;first | exact this | (rw [List.length_map];exact this)) (by rfl) (by rfl) ?_
    refine X.load_e shp3 (by rfl) (by rfl) (by rfl) (by first | rfl | simp [setL] | omega) (A0c _ hv13) (by rfl) (by rfl) (by rfl) ?_
    obtain ⟨v14,hv14,h⟩:=bindE h
    refine X.cp (hg4 _ _ _ hv14) ?_
    refine X.bi ?_
    refine X.nil ?_
    refine R.cd (fun hc15=>?_) (fun hc15=>?_)
    ·replace h:=condT hc15 h
     refine Run.reg (X.mv ?_)
     refine X.addW (h:=?_)
     refine X.an ?_
     refine Run.blk ?_
     exact hag5 n5 ((W ((IntKind.i64.wrap (Int.fdiv (IntKind.u64.wrap (W (a7+a8))) (2 ^ min (Int.toNat 1) (IntKind.bits .u64))))+1)),a8) _ _ (by omega) h (by repeat (first | trivial | refine ⟨by first | rfl | simp [setL],?_⟩)) (by repeat (first | trivial | refine ⟨by first | rfl | simp [setL],?_⟩)) (by rfl) (by rfl)
    replace h:=condF hc15 h
    refine Run.reg (X.mv ?_)
    refine X.an ?_
    refine Run.blk ?_
    exact hag5 n5 (a7,(IntKind.i64.wrap (Int.fdiv (IntKind.u64.wrap (W (a7+a8))) (2 ^ min (Int.toNat 1) (IntKind.bits .u64))))) _ _ (by omega) h (by repeat (first | trivial | refine ⟨by first | rfl | simp [setL],?_⟩)) (by repeat (first | trivial | refine ⟨by first | rfl | simp [setL],?_⟩)) (by rfl) (by rfl)
   replace h:=condF hc11 h
   refine Run.exit (by rfl) ?_
   exact R.mt hmeet4 a7 (Option.some.inj h)
  rintro p16 rfl
  refine Run.seq (Run.sr (X.mv ?_))
  refine X.an ?_
  obtain ⟨o17,ho17,h⟩:=bindE h
  refine R.join2 (β:=(List Int)) [] [] (fun p30 S=>S) (fun p30 M=>(63,.obj true 3 1 (p30.map int))::M) (fun p30=>p30=o17) ?_ ?_
  ·intro JJ20 hmeet19
   have hup18:=h;clear h;have h:=ho17;clear ho17
   refine Run.block ?_
   refine R.lp (β:=Int×(List Int)) [(10,int p16)] [] (fun bb S=>(0,.own 63 (bb.2.map int).length)::(13,int bb.1)::S) (fun bb M=>(63,.obj true 3 1 (bb.2.map int))::M) (fun n bb=>C0f p16 n bb.1 bb.2=some o17) F0 (b1,b0) h ?_
   clear h
   rintro JJ20 n20 ⟨a22,a23⟩ hag20 h
   dsimp only at h
   obtain _ | n20:=n20
   ·exact absurd h (by simp [C0f])
   rw [C0f] at h
   refine Run.seq (Run.sr (X.mv ?_))
   refine X.mv ?_
   refine X.subW (h:=?_)
   refine X.bi ?_
   refine X.nil ?_
   refine R.cd (fun hc26=>?_) (fun hc26=>?_)
   ·replace h:=condT hc26 h
    refine Run.skip (Run.seq (Run.block (Run.draw (B0m [(8,([],[],[63],[])),(9,([63],[],[],[])),(12,([],[],[63],[])),(13,([63],[],[],[])),(14,([],[],[63],[])),(15,([63],[],[],[63])),(16,([],[],[63],[])),(17,([63],[],[],[63]))]) mixed (by kernel_rfl) (by kernel_rfl) ?_)))
    refine X.mv ?_
    refine X.mv ?_
    refine X.mv ?_
    refine X.mv ?_
    refine X.addW (h:=?_)
    refine X.mv ?_
    refine X.mv ?_
    refine X.addW (h:=?_)
    obtain ⟨v27,hv27,h⟩:=bindE h
    refine X.index_xs elt25 (by rfl) (by rfl) (by first | rfl | simp [setL] | omega) (by rfl) (by exact (Int.toNat_of_nonneg (A0a hv27).1).symm) (by have:=A0t hv27;first | exact this | (rw [List.length_map];exact this)) (by rfl) (by rfl) ?_
    refine X.load_e shp3 (by rfl) (by rfl) (by rfl) (by first | rfl | simp [setL] | omega) (A0c _ hv27) (by rfl) (by rfl) (by rfl) ?_
    refine X.mv ?_
    refine X.mv ?_
    obtain ⟨v28,hv28,h⟩:=bindE h
    refine X.index_xs elt25 (by rfl) (by rfl) (by first | rfl | simp [setL] | omega) (by rfl) (by exact (Int.toNat_of_nonneg (A0a hv28).1).symm) (by have:=A0t hv28;first | exact this | (rw [List.length_map];exact this)) (by rfl) (by rfl) ?_
    refine X.load_e shp3 (by rfl) (by rfl) (by rfl) (by first | rfl | simp [setL] | omega) (A0c _ hv28) (by rfl) (by rfl) (by rfl) ?_
    refine X.index_xs elt25 (by rfl) (by rfl) (by first | rfl | simp [setL] | omega) (by rfl) (by exact (Int.toNat_of_nonneg (A0a hv28).1).symm) (by have:=A0t hv28;first | exact this | (rw [List.length_map];exact this)) (by rfl) (by rfl) ?_
    refine X.store_es shp3 (by rfl) (by rfl) (by first | rfl | simp [setL] | omega) (A0c _ hv28) (by rfl) (by rfl) (by repeat (first | trivial | refine ⟨by first | rfl | simp [setL],?_⟩)) (by rfl) (by rfl) (by rfl) (by rfl) (by exact D0e _ _ _ v27) ?_
    obtain ⟨v29,hv29,h⟩:=bindE h
    refine X.index_xs elt25 (by rfl) (by rfl) (by first | rfl | simp [setL] | omega) (by rfl) (by exact (Int.toNat_of_nonneg (A0a hv29).1).symm) (by have:=A0t hv29;first | exact this | (rw [List.length_map];exact this)) (by rfl) (by rfl) ?_
    refine X.store_es shp3 (by rfl) (by rfl) (by first | rfl | simp [setL] | omega) (A0c _ hv29) (by rfl) (by rfl) (by repeat (first | trivial | refine ⟨by first | rfl | simp [setL],?_⟩)) (by rfl) (by rfl) (by rfl) (by rfl) (by exact D0e _ _ _ v28) ?_
    refine X.nil (Run.blk (Run.reg (X.mv ?_)))
    refine X.addW (h:=?_)
    refine X.an ?_
    refine R.castS (t:=0) (.own 63 ((setL (setL a23 a22 v27) (W (a22+1)) v28).map int).length) (by rfl) (.inl (by first | rfl | simp [setL])) ?_
    exact hag20 n20 ((W (a22+1)),(setL (setL a23 a22 v27) (W (a22+1)) v28)) _ _ (by omega) h (by repeat (first | trivial | refine ⟨by first | rfl | simp [setL],?_⟩)) (by repeat (first | trivial | refine ⟨by first | rfl | simp [setL],?_⟩)) (by rfl) (by rfl)
   replace h:=condF hc26 h
   refine Run.exit (by rfl) ?_
   exact R.mt hmeet19 a23 (Option.some.inj h)
  rintro p30 rfl
  cases h
  exact R.finM0 Tryz.results172 (by repeat (first | exact trivial | refine ⟨by rfl,?_⟩)) rfl
 replace h:=condF hc1 h
 refine Run.skip (Run.seq (Run.sr (X.mv ?_)))
 refine X.mv ?_
 refine X.subW (h:=?_)
 refine X.bi ?_
 refine X.nil ?_
 refine R.cd (fun hc31=>?_) (fun hc31=>?_)
 ·replace h:=condT hc31 h
  refine Run.sr (X.mv ?_)
  refine X.an ?_
  refine Run.sr (X.mv ?_)
  refine X.an ?_
  refine Run.seq ?_
  obtain ⟨o32,ho32,h⟩:=bindE h
  refine R.join2 (β:=Int) [(2,int b2)] [(63,.obj true 3 1 (b0.map int))] (fun p46 S=>(0,.own 63 (b0.map int).length)::(14,int p46)::S) (fun p46 M=>M) (fun p46=>p46=o32) ?_ ?_
  ·intro JJ35 hmeet34
   have hup33:=h;clear h;have h:=ho32;clear ho32
   refine Run.block ?_
   refine R.lp (β:=Int×Int) [(2,int b2),(4,.fn g4id g4c)] [(63,.obj true 3 1 (b0.map int))] (fun bb S=>(0,.own 63 (b0.map int).length)::(14,int bb.1)::(15,int bb.2)::S) (fun bb M=>M) (fun n bb=>B0p b0 b2 g4 n bb.1 bb.2=some o32) F0 (b1,b2) h ?_
   clear h
   rintro JJ35 n35 ⟨a37,a38⟩ hag35 h
   dsimp only at h
   obtain _ | n35:=n35
   ·exact absurd h (by simp [B0p])
   rw [B0p] at h
   refine Run.seq (Run.sr (X.mv ?_))
   refine X.mv ?_
   refine X.bi ?_
   refine X.nil ?_
   refine R.cd (fun hc41=>?_) (fun hc41=>?_)
   ·replace h:=condT hc41 h
    refine Run.skip (Run.block (Run.sr (X.mv ?_)))
    refine X.mv ?_
    refine X.addW (h:=?_)
    refine X.conv Tryz.underlying182 (by rw [Tryz.underlying3];rfl) (by rfl) (by rfl) ?_
    refine X.shr (by rfl) (by rfl) (by decide) (by rfl) ?_
    refine X.conv Tryz.underlying3 (by rw [Tryz.underlying182];rfl) (by rfl) (by rfl) ?_
    refine X.an ?_
    refine Run.seq (Run.draw (B0m [(3,([],[],[63],[])),(4,([63],[],[],[])),(7,([],[],[63],[])),(8,([63],[],[],[]))]) mixed (by kernel_rfl) (by kernel_rfl) ?_)
    refine X.mv ?_
    refine X.mv ?_
    refine X.mv ?_
    obtain ⟨v42,hv42,h⟩:=bindE h
    refine X.index_xs elt25 (by rfl) (by rfl) (by first | rfl | simp [setL] | omega) (by rfl) (by exact (Int.toNat_of_nonneg (A0a hv42).1).symm) (by have:=A0t hv42;first | exact this | (rw [List.length_map];exact this)) (by rfl) (by rfl) ?_
    refine X.load_e shp3 (by rfl) (by rfl) (by rfl) (by first | rfl | simp [setL] | omega) (A0c _ hv42) (by rfl) (by rfl) (by rfl) ?_
    refine X.mv ?_
    refine X.mv ?_
    obtain ⟨v43,hv43,h⟩:=bindE h
    refine X.index_xs elt25 (by rfl) (by rfl) (by first | rfl | simp [setL] | omega) (by rfl) (by exact (Int.toNat_of_nonneg (A0a hv43).1).symm) (by have:=A0t hv43;first | exact this | (rw [List.length_map];exact this)) (by rfl) (by rfl) ?_
    refine X.load_e shp3 (by rfl) (by rfl) (by rfl) (by first | rfl | simp [setL] | omega) (A0c _ hv43) (by rfl) (by rfl) (by rfl) ?_
    obtain ⟨v44,hv44,h⟩:=bindE h
    refine X.cp (hg4 _ _ _ hv44) ?_
    refine X.bi ?_
    refine X.un (h:=?_)
    refine X.nil ?_
    refine R.cd (fun hc45=>?_) (fun hc45=>?_)
    ·replace h:=condT hc45 h
     refine Run.reg (X.mv ?_)
     refine X.addW (h:=?_)
     refine X.an ?_
     refine Run.blk ?_
     exact hag35 n35 ((W ((IntKind.i64.wrap (Int.fdiv (IntKind.u64.wrap (W (a37+a38))) (2 ^ min (Int.toNat 1) (IntKind.bits .u64))))+1)),a38) _ _ (by omega) h (by repeat (first | trivial | refine ⟨by first | rfl | simp [setL],?_⟩)) (by repeat (first | trivial | refine ⟨by first | rfl | simp [setL],?_⟩)) (by rfl) (by rfl)
    replace h:=condF hc45 h
    refine Run.reg (X.mv ?_)
    refine X.an ?_
    refine Run.blk ?_
    exact hag35 n35 (a37,(IntKind.i64.wrap (Int.fdiv (IntKind.u64.wrap (W (a37+a38))) (2 ^ min (Int.toNat 1) (IntKind.bits .u64))))) _ _ (by omega) h (by repeat (first | trivial | refine ⟨by first | rfl | simp [setL],?_⟩)) (by repeat (first | trivial | refine ⟨by first | rfl | simp [setL],?_⟩)) (by rfl) (by rfl)
   replace h:=condF hc41 h
   refine Run.exit (by rfl) ?_
   exact R.mt hmeet34 a37 (Option.some.inj h)
  rintro p46 rfl
  refine Run.seq (Run.sr (X.mv ?_))
  refine X.an ?_
  obtain ⟨o47,ho47,h⟩:=bindE h
  refine R.join2 (β:=(List Int)) [] [] (fun p60 S=>S) (fun p60 M=>(63,.obj true 3 1 (p60.map int))::M) (fun p60=>p60=o47) ?_ ?_
  ·intro JJ50 hmeet49
   have hup48:=h;clear h;have h:=ho47;clear ho47
   refine Run.block ?_
   refine R.lp (β:=Int×(List Int)) [(14,int p46)] [] (fun bb S=>(0,.own 63 (bb.2.map int).length)::(17,int bb.1)::S) (fun bb M=>(63,.obj true 3 1 (bb.2.map int))::M) (fun n bb=>C0g p46 n bb.1 bb.2=some o47) F0 (b2,b0) h ?_
   clear h
   rintro JJ50 n50 ⟨a52,a53⟩ hag50 h
   dsimp only at h
   obtain _ | n50:=n50
   ·exact absurd h (by simp [C0g])
   rw [C0g] at h
   refine Run.seq (Run.sr (X.mv ?_))
   refine X.mv ?_
   refine X.bi ?_
   refine X.nil ?_
   refine R.cd (fun hc56=>?_) (fun hc56=>?_)
   ·replace h:=condT hc56 h
    refine Run.skip (Run.seq (Run.block (Run.draw (B0m [(8,([],[],[63],[])),(9,([63],[],[],[])),(12,([],[],[63],[])),(13,([63],[],[],[])),(14,([],[],[63],[])),(15,([63],[],[],[63])),(16,([],[],[63],[])),(17,([63],[],[],[63]))]) mixed (by kernel_rfl) (by kernel_rfl) ?_)))
    refine X.mv ?_
    refine X.mv ?_
    refine X.mv ?_
    refine X.mv ?_
    refine X.subW (h:=?_)
    refine X.mv ?_
    refine X.mv ?_
    refine X.subW (h:=?_)
    obtain ⟨v57,hv57,h⟩:=bindE h
    refine X.index_xs elt25 (by rfl) (by rfl) (by first | rfl | simp [setL] | omega) (by rfl) (by exact (Int.toNat_of_nonneg (A0a hv57).1).symm) (by have:=A0t hv57;first | exact this | (rw [List.length_map];exact this)) (by rfl) (by rfl) ?_
    refine X.load_e shp3 (by rfl) (by rfl) (by rfl) (by first | rfl | simp [setL] | omega) (A0c _ hv57) (by rfl) (by rfl) (by rfl) ?_
    refine X.mv ?_
    refine X.mv ?_
    obtain ⟨v58,hv58,h⟩:=bindE h
    refine X.index_xs elt25 (by rfl) (by rfl) (by first | rfl | simp [setL] | omega) (by rfl) (by exact (Int.toNat_of_nonneg (A0a hv58).1).symm) (by have:=A0t hv58;first | exact this | (rw [List.length_map];exact this)) (by rfl) (by rfl) ?_
    refine X.load_e shp3 (by rfl) (by rfl) (by rfl) (by first | rfl | simp [setL] | omega) (A0c _ hv58) (by rfl) (by rfl) (by rfl) ?_
    refine X.index_xs elt25 (by rfl) (by rfl) (by first | rfl | simp [setL] | omega) (by rfl) (by exact (Int.toNat_of_nonneg (A0a hv58).1).symm) (by have:=A0t hv58;first | exact this | (rw [List.length_map];exact this)) (by rfl) (by rfl) ?_
    refine X.store_es shp3 (by rfl) (by rfl) (by first | rfl | simp [setL] | omega) (A0c _ hv58) (by rfl) (by rfl) (by repeat (first | trivial | refine ⟨by first | rfl | simp [setL],?_⟩)) (by rfl) (by rfl) (by rfl) (by rfl) (by exact D0e _ _ _ v57) ?_
    obtain ⟨v59,hv59,h⟩:=bindE h
    refine X.index_xs elt25 (by rfl) (by rfl) (by first | rfl | simp [setL] | omega) (by rfl) (by exact (Int.toNat_of_nonneg (A0a hv59).1).symm) (by have:=A0t hv59;first | exact this | (rw [List.length_map];exact this)) (by rfl) (by rfl) ?_
    refine X.store_es shp3 (by rfl) (by rfl) (by first | rfl | simp [setL] | omega) (A0c _ hv59) (by rfl) (by rfl) (by repeat (first | trivial | refine ⟨by first | rfl | simp [setL],?_⟩)) (by rfl) (by rfl) (by rfl) (by rfl) (by exact D0e _ _ _ v58) ?_
    refine X.nil (Run.blk (Run.reg (X.mv ?_)))
    refine X.subW (h:=?_)
    refine X.an ?_
    refine R.castS (t:=0) (.own 63 ((setL (setL a53 a52 v57) (W (a52 - 1)) v58).map int).length) (by rfl) (.inl (by first | rfl | simp [setL])) ?_
    exact hag50 n50 ((W (a52 - 1)),(setL (setL a53 a52 v57) (W (a52 - 1)) v58)) _ _ (by omega) h (by repeat (first | trivial | refine ⟨by first | rfl | simp [setL],?_⟩)) (by repeat (first | trivial | refine ⟨by first | rfl | simp [setL],?_⟩)) (by rfl) (by rfl)
   replace h:=condF hc56 h
   refine Run.exit (by rfl) ?_
   exact R.mt hmeet49 a53 (Option.some.inj h)
  rintro p60 rfl
  cases h
  exact R.finM0 Tryz.results172 (by repeat (first | exact trivial | refine ⟨by rfl,?_⟩)) rfl
 replace h:=condF hc31 h
 refine Run.skip (Run.sr (X.mv ?_))
 refine X.mv ?_
 refine X.addW (h:=?_)
 refine X.conv Tryz.underlying182 (by rw [Tryz.underlying3];rfl) (by rfl) (by rfl) ?_
 refine X.shr (by rfl) (by rfl) (by decide) (by rfl) ?_
 refine X.conv Tryz.underlying3 (by rw [Tryz.underlying182];rfl) (by rfl) (by rfl) ?_
 refine X.an ?_
 refine Run.sr (X.mv ?_)
 refine X.mv ?_
 refine X.addW (h:=?_)
 refine X.an ?_
 refine Run.sr (X.as ?_)
 refine X.an ?_
 refine Run.seq (Run.sr (X.mv ?_))
 refine X.mv ?_
 refine X.bi ?_
 refine X.nil ?_
 obtain ⟨o61,ho61,h⟩:=bindE h
 refine R.join2 (β:=Int×Int) [(1,int b1),(2,int b2),(3,int b3),(4,.fn g4id g4c),(18,int (IntKind.i64.wrap (Int.fdiv (IntKind.u64.wrap (W (b1+b3))) (2 ^ min (Int.toNat 1) (IntKind.bits .u64))))),(19,int (W ((IntKind.i64.wrap (Int.fdiv (IntKind.u64.wrap (W (b1+b3))) (2 ^ min (Int.toNat 1) (IntKind.bits .u64))))+b2)))] [(63,.obj true 3 1 (b0.map int))] (fun p66 S=>(0,.own 63 (b0.map int).length)::(20,int p66.1)::(21,int p66.2)::S) (fun p66 M=>M) (fun p66=>p66=o61) ?_ ?_
 ·intro JJ64 hmeet63
  have hup62:=h;clear h;have h:=ho61;clear ho61
  refine R.cd (fun hc65=>?_) (fun hc65=>?_)
  ·replace h:=condT hc65 h
   refine Run.sr (X.mv ?_)
   refine X.mv ?_
   refine X.subW (h:=?_)
   refine X.an ?_
   refine Run.reg (X.mv ?_)
   refine X.an ?_
   exact R.mt hmeet63 ((W ((W ((IntKind.i64.wrap (Int.fdiv (IntKind.u64.wrap (W (b1+b3))) (2 ^ min (Int.toNat 1) (IntKind.bits .u64))))+b2)) - b3)),(IntKind.i64.wrap (Int.fdiv (IntKind.u64.wrap (W (b1+b3))) (2 ^ min (Int.toNat 1) (IntKind.bits .u64))))) (Option.some.inj h)
  replace h:=condF hc65 h
  refine Run.sr (X.mv ?_)
  refine X.an ?_
  refine Run.reg (X.mv ?_)
  refine X.an ?_
  exact R.mt hmeet63 (b1,b2) (Option.some.inj h)
 rintro p66 rfl
 refine Run.sr (X.mv ?_)
 refine X.subW (h:=?_)
 refine X.an ?_
 refine Run.seq ?_
 obtain ⟨o67,ho67,h⟩:=bindE h
 refine R.join2 (β:=Int) [(1,int b1),(2,int b2),(3,int b3),(4,.fn g4id g4c),(18,int (IntKind.i64.wrap (Int.fdiv (IntKind.u64.wrap (W (b1+b3))) (2 ^ min (Int.toNat 1) (IntKind.bits .u64))))),(19,int (W ((IntKind.i64.wrap (Int.fdiv (IntKind.u64.wrap (W (b1+b3))) (2 ^ min (Int.toNat 1) (IntKind.bits .u64))))+b2)))] [(63,.obj true 3 1 (b0.map int))] (fun p81 S=>(0,.own 63 (b0.map int).length)::(20,int p81)::S) (fun p81 M=>M) (fun p81=>p81=o67) ?_ ?_
 ·intro JJ70 hmeet69
  have hup68:=h;clear h;have h:=ho67;clear ho67
  refine Run.block ?_
  refine R.lp (β:=Int×Int) [(1,int b1),(2,int b2),(3,int b3),(4,.fn g4id g4c),(18,int (IntKind.i64.wrap (Int.fdiv (IntKind.u64.wrap (W (b1+b3))) (2 ^ min (Int.toNat 1) (IntKind.bits .u64))))),(19,int (W ((IntKind.i64.wrap (Int.fdiv (IntKind.u64.wrap (W (b1+b3))) (2 ^ min (Int.toNat 1) (IntKind.bits .u64))))+b2))),(22,int (W ((W ((IntKind.i64.wrap (Int.fdiv (IntKind.u64.wrap (W (b1+b3))) (2 ^ min (Int.toNat 1) (IntKind.bits .u64))))+b2)) - 1)))] [(63,.obj true 3 1 (b0.map int))] (fun bb S=>(0,.own 63 (b0.map int).length)::(20,int bb.1)::(21,int bb.2)::S) (fun bb M=>M) (fun n bb=>B0o b0 b1 b2 b3 g4 n bb.1 bb.2=some o67) F0 (p66.1,p66.2) h ?_
  clear h
  rintro JJ70 n70 ⟨a72,a73⟩ hag70 h
  dsimp only at h
  obtain _ | n70:=n70
  ·exact absurd h (by simp [B0o])
  rw [B0o] at h
  refine Run.seq (Run.sr (X.mv ?_))
  refine X.mv ?_
  refine X.bi ?_
  refine X.nil ?_
  refine R.cd (fun hc76=>?_) (fun hc76=>?_)
  ·replace h:=condT hc76 h
   refine Run.skip (Run.block (Run.sr (X.mv ?_)))
   refine X.mv ?_
   refine X.addW (h:=?_)
   refine X.conv Tryz.underlying182 (by rw [Tryz.underlying3];rfl) (by rfl) (by rfl) ?_
   refine X.shr (by rfl) (by rfl) (by decide) (by rfl) ?_
   refine X.conv Tryz.underlying3 (by rw [Tryz.underlying182];rfl) (by rfl) (by rfl) ?_
   refine X.an ?_
   refine Run.seq (Run.draw (B0m [(5,([],[],[63],[])),(6,([63],[],[],[])),(9,([],[],[63],[])),(10,([63],[],[],[]))]) mixed (by kernel_rfl) (by kernel_rfl) ?_)
   refine X.mv ?_
   refine X.mv ?_
   refine X.mv ?_
   refine X.mv ?_
   refine X.subW (h:=?_)
   obtain ⟨v77,hv77,h⟩:=bindE h
   refine X.index_xs elt25 (by rfl) (by rfl) (by first | rfl | simp [setL] | omega) (by rfl) (by exact (Int.toNat_of_nonneg (A0a hv77).1).symm) (by have:=A0t hv77;first | exact this | (rw [List.length_map];exact this)) (by rfl) (by rfl) ?_
   refine X.load_e shp3 (by rfl) (by rfl) (by rfl) (by first | rfl | simp [setL] | omega) (A0c _ hv77) (by rfl) (by rfl) (by rfl) ?_
   refine X.mv ?_
   refine X.mv ?_
   obtain ⟨v78,hv78,h⟩:=bindE h
   refine X.index_xs elt25 (by rfl) (by rfl) (by first | rfl | simp [setL] | omega) (by rfl) (by exact (Int.toNat_of_nonneg (A0a hv78).1).symm) (by have:=A0t hv78;first | exact this | (rw [List.length_map];exact this)) (by rfl) (by rfl) ?_
   refine X.load_e shp3 (by rfl) (by rfl) (by rfl) (by first | rfl | simp [setL] | omega) (A0c _ hv78) (by rfl) (by rfl) (by rfl) ?_
   obtain ⟨v79,hv79,h⟩:=bindE h
   refine X.cp (hg4 _ _ _ hv79) ?_
   refine X.bi ?_
   refine X.un (h:=?_)
   refine X.nil ?_
   refine R.cd (fun hc80=>?_) (fun hc80=>?_)
   ·replace h:=condT hc80 h
    refine Run.reg (X.mv ?_)
    refine X.addW (h:=?_)
    refine X.an ?_
    refine Run.blk ?_
    exact hag70 n70 ((W ((IntKind.i64.wrap (Int.fdiv (IntKind.u64.wrap (W (a72+a73))) (2 ^ min (Int.toNat 1) (IntKind.bits .u64))))+1)),a73) _ _ (by omega) h (by repeat (first | trivial | refine ⟨by first | rfl | simp [setL],?_⟩)) (by repeat (first | trivial | refine ⟨by first | rfl | simp [setL],?_⟩)) (by rfl) (by rfl)
   replace h:=condF hc80 h
   refine Run.reg (X.mv ?_)
   refine X.an ?_
   refine Run.blk ?_
   exact hag70 n70 (a72,(IntKind.i64.wrap (Int.fdiv (IntKind.u64.wrap (W (a72+a73))) (2 ^ min (Int.toNat 1) (IntKind.bits .u64))))) _ _ (by omega) h (by repeat (first | trivial | refine ⟨by first | rfl | simp [setL],?_⟩)) (by repeat (first | trivial | refine ⟨by first | rfl | simp [setL],?_⟩)) (by rfl) (by rfl)
  replace h:=condF hc76 h
  refine Run.exit (by rfl) ?_
  exact R.mt hmeet69 a72 (Option.some.inj h)
 rintro p81 rfl
 refine Run.sr (X.mv ?_)
 refine X.mv ?_
 refine X.subW (h:=?_)
 refine X.an ?_
 refine Run.seq (Run.seq ?_)
 obtain ⟨e82,he82,h2⟩:=bindE h
 refine R.regG [(0,.own 63 (b0.map int).length),(1,int b1),(2,int b2),(3,int b3),(4,.fn g4id g4c),(18,int (IntKind.i64.wrap (Int.fdiv (IntKind.u64.wrap (W (b1+b3))) (2 ^ min (Int.toNat 1) (IntKind.bits .u64))))),(20,int p81),(24,int (W ((W ((IntKind.i64.wrap (Int.fdiv (IntKind.u64.wrap (W (b1+b3))) (2 ^ min (Int.toNat 1) (IntKind.bits .u64))))+b2)) - p81))),(185,bool e82)] [(63,.obj true 3 1 (b0.map int))] ?_ ?_
 ·clear h;have h:=he82;clear he82 h2
  refine X.mv ?_
  refine X.mv ?_
  refine X.bi ?_
  refine X.mv ?_
  refine X.iG (fun hb83=>?_) (fun hb83=>?_)
  ·replace h:=condT hb83 h
   refine X.mv ?_
   refine X.gy (X.mv ?_)
   refine X.gy (X.bi ?_)
   refine X.pT ?_
   cases h
   exact X.eG
  replace h:=condF hb83 h
  refine X.gn (X.gn (X.pF ?_))
  cases h
  exact X.eG
 replace h:=h2;clear h2
 obtain ⟨o84,ho84,h⟩:=bindE h
 refine R.join2 (β:=(List Int)) [(1,int b1),(3,int b3),(4,.fn g4id g4c),(18,int (IntKind.i64.wrap (Int.fdiv (IntKind.u64.wrap (W (b1+b3))) (2 ^ min (Int.toNat 1) (IntKind.bits .u64))))),(20,int p81),(24,int (W ((W ((IntKind.i64.wrap (Int.fdiv (IntKind.u64.wrap (W (b1+b3))) (2 ^ min (Int.toNat 1) (IntKind.bits .u64))))+b2)) - p81)))] [] (fun p90 S=>(0,.own 63 (p90.map int).length)::S) (fun p90 M=>(63,.obj true 3 1 (p90.map int))::M) (fun p90=>p90=o84) ?_ ?_
 ·intro JJ87 hmeet86
  have hup85:=h;clear h;have h:=ho84;clear ho84
  refine R.cd (fun hc88=>?_) (fun hc88=>?_)
  ·replace h:=condT hc88 h
   refine Run.reg (X.mv ?_)
   refine X.mv ?_
   refine X.mv ?_
   refine X.mv ?_
   refine X.mv ?_
   obtain ⟨v89,hv89,h⟩:=bindE h
   refine X.callR [(63,63)] [(63,(b0.map int).length)] [(63,(v89.map int).length)] (R0s _ _ _ _ g4 _ _ hg4 _ hv89) (by rfl) (by rfl) (.ownB 63 (by rfl) (by first | rfl | simp [setL] | omega) (by rfl) (.pureB (by rfl) (by repeat (first | trivial | refine ⟨by first | rfl | simp [setL],?_⟩)) (.pureB (by rfl) (by repeat (first | trivial | refine ⟨by first | rfl | simp [setL],?_⟩)) (.pureB (by rfl) (by repeat (first | trivial | refine ⟨by first | rfl | simp [setL],?_⟩)) (.pureB (by rfl) (by repeat (first | trivial | refine ⟨by first | rfl | simp [setL],?_⟩)) .nil))))) (by rfl) ⟨rfl,rfl,⟨_,by rfl,by constructor⟩,by constructor,trivial⟩ (by rfl) (by rfl) (by rfl) (by rfl) ⟨rfl,⟨_,_,_,_,by rfl,by rfl⟩,⟨_,_,_,_,by rfl,by rfl⟩,trivial⟩ (by rfl) (by repeat (first | trivial | refine ⟨by first | rfl | simp [setL],?_⟩)) (by rfl) (by rfl) (by rfl) (by rfl) (by rfl) ?_
   refine X.nil ?_
   exact R.mt hmeet86 v89 (Option.some.inj h)
  replace h:=condF hc88 h
  refine Run.skip ?_
  exact R.mt hmeet86 b0 (Option.some.inj h)
 rintro p90 rfl
 refine Run.seq (Run.seq ?_)
 obtain ⟨e91,he91,h2⟩:=bindE h
 refine R.regG [(0,.own 63 (p90.map int).length),(1,int b1),(3,int b3),(4,.fn g4id g4c),(18,int (IntKind.i64.wrap (Int.fdiv (IntKind.u64.wrap (W (b1+b3))) (2 ^ min (Int.toNat 1) (IntKind.bits .u64))))),(20,int p81),(24,int (W ((W ((IntKind.i64.wrap (Int.fdiv (IntKind.u64.wrap (W (b1+b3))) (2 ^ min (Int.toNat 1) (IntKind.bits .u64))))+b2)) - p81))),(199,bool e91)] [(63,.obj true 3 1 (p90.map int))] ?_ ?_
 ·clear h;have h:=he91;clear he91 h2
  refine X.mv ?_
  refine X.mv ?_
  refine X.bi ?_
  refine X.mv ?_
  refine X.iG (fun hb92=>?_) (fun hb92=>?_)
  ·replace h:=condT hb92 h
   refine X.mv ?_
   refine X.gy (X.mv ?_)
   refine X.gy (X.bi ?_)
   refine X.pT ?_
   cases h
   exact X.eG
  replace h:=condF hb92 h
  refine X.gn (X.gn (X.pF ?_))
  cases h
  exact X.eG
 replace h:=h2;clear h2
 obtain ⟨o93,ho93,h⟩:=bindE h
 refine R.join2 (β:=Unit) [(3,int b3),(4,.fn g4id g4c),(18,int (IntKind.i64.wrap (Int.fdiv (IntKind.u64.wrap (W (b1+b3))) (2 ^ min (Int.toNat 1) (IntKind.bits .u64))))),(24,int (W ((W ((IntKind.i64.wrap (Int.fdiv (IntKind.u64.wrap (W (b1+b3))) (2 ^ min (Int.toNat 1) (IntKind.bits .u64))))+b2)) - p81)))] [(63,.obj true 3 1 (p90.map int))] (fun p98 S=>(0,.own 63 (p90.map int).length)::S) (fun p98 M=>M) (fun p98=>p98=o93) ?_ ?_
 ·intro JJ96 hmeet95
  have hup94:=h;clear h;have h:=ho93;clear ho93
  refine R.cd (fun hc97=>?_) (fun hc97=>?_)
  ·replace h:=condT hc97 h
   exact absurd h (by simp)
  replace h:=condF hc97 h
  refine Run.skip ?_
  exact R.mt hmeet95 () (Option.some.inj h)
 rintro p98 rfl
 refine Run.seq ?_
 obtain ⟨e99,he99,h2⟩:=bindE h
 refine R.regG [(0,.own 63 (p90.map int).length),(3,int b3),(4,.fn g4id g4c),(18,int (IntKind.i64.wrap (Int.fdiv (IntKind.u64.wrap (W (b1+b3))) (2 ^ min (Int.toNat 1) (IntKind.bits .u64))))),(24,int (W ((W ((IntKind.i64.wrap (Int.fdiv (IntKind.u64.wrap (W (b1+b3))) (2 ^ min (Int.toNat 1) (IntKind.bits .u64))))+b2)) - p81))),(213,bool e99)] [(63,.obj true 3 1 (p90.map int))] ?_ ?_
 ·clear h;have h:=he99;clear he99 h2
  refine X.mv ?_
  refine X.mv ?_
  refine X.bi ?_
  refine X.mv ?_
  refine X.iG (fun hb100=>?_) (fun hb100=>?_)
  ·replace h:=condT hb100 h
   refine X.mv ?_
   refine X.gy (X.mv ?_)
   refine X.gy (X.bi ?_)
   refine X.pT ?_
   cases h
   exact X.eG
  replace h:=condF hb100 h
  refine X.gn (X.gn (X.pF ?_))
  cases h
  exact X.eG
 replace h:=h2;clear h2
 refine R.cd (fun hc101=>?_) (fun hc101=>?_)
 ·replace h:=condT hc101 h
  exact absurd h (by simp)
 replace h:=condF hc101 h
 refine Run.skip ?_
 cases h
 exact R.endM0 Tryz.results172 (by repeat (first | exact trivial | refine ⟨by rfl,?_⟩)) rfl
theorem R0t (b0:List Int)(b1:Int)(g2:Int→Int→Option Int)(g2id:Nat)(g2c:List PV)(hg2:∀(x0:Int) (x1:Int) v,g2 x0 x1=some v→PC Tryz.prog g2id ([int x0,int x1] ++ g2c) (int v))(r:(List Int))(h:F0w b0 b1 g2=some r):PCM Tryz.prog 157 [.own 63 (b0.map int).length,int b1,.fn g2id g2c] [(63,.obj true 3 1 (b0.map int))] (.tuple []) [(63,.obj true 3 1 (r.map int))]:=by
 unfold F0w at h
 refine PCM.start Tryz.func157 Tryz.ntmps157 rfl ok157 rfl (by rfl) (by rfl) (by rfl) (by rfl) (by rfl) ?_
 refine Run.sr (X.an ?_)
 refine Run.sr (X.mv ?_)
 refine X.as ?_
 refine X.an ?_
 refine Run.seq ?_
 obtain ⟨o1,ho1,h⟩:=bindE h
 refine R.join2 (β:=Int×(List Int)) [(1,int b1),(2,.fn g2id g2c),(6,int 20)] [] (fun p13 S=>(0,.own 63 (p13.2.map int).length)::(7,int p13.1)::S) (fun p13 M=>(63,.obj true 3 1 (p13.2.map int))::M) (fun p13=>p13=o1) ?_ ?_
 ·intro JJ4 hmeet3
  have hup2:=h;clear h;have h:=ho1;clear ho1
  refine Run.block ?_
  refine R.lp (β:=Int×Int×(List Int)) [(1,int b1),(2,.fn g2id g2c),(6,int 20)] [] (fun bb S=>(0,.own 63 (bb.2.2.map int).length)::(7,int bb.1)::(8,int bb.2.1)::S) (fun bb M=>(63,.obj true 3 1 (bb.2.2.map int))::M) (fun n bb=>B0i b1 g2 n bb.1 bb.2.1 bb.2.2=some o1) F0 (0,20,b0) h ?_
  clear h
  rintro JJ4 n4 ⟨a6,a7,a8⟩ hag4 h
  dsimp only at h
  obtain _ | n4:=n4
  ·exact absurd h (by simp [B0i])
  rw [B0i] at h
  refine Run.seq (Run.sr (X.mv ?_))
  refine X.mv ?_
  refine X.bi ?_
  refine X.nil ?_
  refine R.cd (fun hc11=>?_) (fun hc11=>?_)
  ·replace h:=condT hc11 h
   refine Run.skip (Run.block (Run.sr (X.mv ?_)))
   refine X.mv ?_
   refine X.mv ?_
   refine X.mv ?_
   obtain ⟨v12,hv12,h⟩:=bindE h
   refine X.callR [(63,63)] [(63,(a8.map int).length)] [(63,(v12.map int).length)] (G0z _ _ _ g2 _ _ hg2 _ hv12) (by rfl) (by rfl) (.ownB 63 (by rfl) (by first | rfl | simp [setL] | omega) (by rfl) (.pureB (by rfl) (by repeat (first | trivial | refine ⟨by first | rfl | simp [setL],?_⟩)) (.pureB (by rfl) (by repeat (first | trivial | refine ⟨by first | rfl | simp [setL],?_⟩)) (.pureB (by rfl) (by repeat (first | trivial | refine ⟨by first | rfl | simp [setL],?_⟩)) .nil)))) (by rfl) ⟨rfl,rfl,⟨_,by rfl,by constructor⟩,by constructor,trivial⟩ (by rfl) (by rfl) (by rfl) (by rfl) ⟨rfl,⟨_,_,_,_,by rfl,by rfl⟩,⟨_,_,_,_,by rfl,by rfl⟩,trivial⟩ (by rfl) (by repeat (first | trivial | refine ⟨by first | rfl | simp [setL],?_⟩)) (by rfl) (by rfl) (by rfl) (by rfl) (by rfl) ?_
   refine X.nil (Run.sr (X.mv ?_))
   refine X.an ?_
   refine Run.reg (X.mv ?_)
   refine X.mv ?_
   refine X.addW (h:=?_)
   refine X.an ?_
   refine Run.blk ?_
   exact hag4 n4 (a7,(W (a7+20)),v12) _ _ (by omega) h (by repeat (first | trivial | refine ⟨by first | rfl | simp [setL],?_⟩)) (by repeat (first | trivial | refine ⟨by first | rfl | simp [setL],?_⟩)) (by rfl) (by rfl)
  replace h:=condF hc11 h
  refine Run.exit (by rfl) ?_
  exact R.mt hmeet3 (a6,a8) (Option.some.inj h)
 rintro p13 rfl
 refine Run.sr (X.mv ?_)
 refine X.mv ?_
 refine X.mv ?_
 refine X.mv ?_
 obtain ⟨v14,hv14,h⟩:=bindE h
 refine X.callR [(63,63)] [(63,(p13.2.map int).length)] [(63,(v14.map int).length)] (G0z _ _ _ g2 _ _ hg2 _ hv14) (by rfl) (by rfl) (.ownB 63 (by rfl) (by first | rfl | simp [setL] | omega) (by rfl) (.pureB (by rfl) (by repeat (first | trivial | refine ⟨by first | rfl | simp [setL],?_⟩)) (.pureB (by rfl) (by repeat (first | trivial | refine ⟨by first | rfl | simp [setL],?_⟩)) (.pureB (by rfl) (by repeat (first | trivial | refine ⟨by first | rfl | simp [setL],?_⟩)) .nil)))) (by rfl) ⟨rfl,rfl,⟨_,by rfl,by constructor⟩,by constructor,trivial⟩ (by rfl) (by rfl) (by rfl) (by rfl) ⟨rfl,⟨_,_,_,_,by rfl,by rfl⟩,⟨_,_,_,_,by rfl,by rfl⟩,trivial⟩ (by rfl) (by repeat (first | trivial | refine ⟨by first | rfl | simp [setL],?_⟩)) (by rfl) (by rfl) (by rfl) (by rfl) (by rfl) ?_
 refine X.nil ?_
 obtain ⟨o15,ho15,h⟩:=bindE h
 refine R.join2 (β:=(List Int)) [] [] (fun p40 S=>S) (fun p40 M=>(63,.obj true 3 1 (p40.map int))::M) (fun p40=>p40=o15) ?_ ?_
 ·intro JJ18 hmeet17
  have hup16:=h;clear h;have h:=ho15;clear ho15
  refine Run.block ?_
  refine R.lp (β:=Int×(List Int)) [(1,int b1),(2,.fn g2id g2c)] [] (fun bb S=>(0,.own 63 (bb.2.map int).length)::(6,int bb.1)::S) (fun bb M=>(63,.obj true 3 1 (bb.2.map int))::M) (fun n bb=>B0c b1 g2 n bb.1 bb.2=some o15) F0 (20,v14) h ?_
  clear h
  rintro JJ18 n18 ⟨a20,a21⟩ hag18 h
  dsimp only at h
  obtain _ | n18:=n18
  ·exact absurd h (by simp [B0c])
  rw [B0c] at h
  refine Run.seq (Run.sr (X.mv ?_))
  refine X.mv ?_
  refine X.bi ?_
  refine X.nil ?_
  refine R.cd (fun hc24=>?_) (fun hc24=>?_)
  ·replace h:=condT hc24 h
   refine Run.skip (Run.block (Run.sr (X.mv ?_)))
   refine X.mulW (by rfl) (by rfl) (by rfl) ?_
   refine X.as ?_
   refine X.an ?_
   refine Run.seq ?_
   obtain ⟨o25,ho25,h⟩:=bindE h
   refine R.join2 (β:=Int×(List Int)) [(1,int b1),(2,.fn g2id g2c),(6,int a20)] [] (fun p37 S=>(0,.own 63 (p37.2.map int).length)::(7,int p37.1)::S) (fun p37 M=>(63,.obj true 3 1 (p37.2.map int))::M) (fun p37=>p37=o25) ?_ ?_
   ·intro JJ28 hmeet27
    have hup26:=h;clear h;have h:=ho25;clear ho25
    refine Run.block ?_
    refine R.lp (β:=Int×Int×(List Int)) [(1,int b1),(2,.fn g2id g2c),(6,int a20)] [] (fun bb S=>(0,.own 63 (bb.2.2.map int).length)::(7,int bb.1)::(8,int bb.2.1)::S) (fun bb M=>(63,.obj true 3 1 (bb.2.2.map int))::M) (fun n bb=>C0s b1 g2 a20 n bb.1 bb.2.1 bb.2.2=some o25) F0 (0,(W (2*a20)),a21) h ?_
    clear h
    rintro JJ28 n28 ⟨a30,a31,a32⟩ hag28 h
    dsimp only at h
    obtain _ | n28:=n28
    ·exact absurd h (by simp [C0s])
    rw [C0s] at h
    refine Run.seq (Run.sr (X.mv ?_))
    refine X.mv ?_
    refine X.bi ?_
    refine X.nil ?_
    refine R.cd (fun hc35=>?_) (fun hc35=>?_)
    ·replace h:=condT hc35 h
     refine Run.skip (Run.block (Run.sr (X.mv ?_)))
     refine X.mv ?_
     refine X.mv ?_
     refine X.mv ?_
     refine X.addW (h:=?_)
     refine X.mv ?_
     refine X.mv ?_
     obtain ⟨v36,hv36,h⟩:=bindE h
     refine X.callR [(63,63)] [(63,(a32.map int).length)] [(63,(v36.map int).length)] (K0f _ _ _ _ g2 _ _ hg2 _ hv36) (by rfl) (by rfl) (.ownB 63 (by rfl) (by first | rfl | simp [setL] | omega) (by rfl) (.pureB (by rfl) (by repeat (first | trivial | refine ⟨by first | rfl | simp [setL],?_⟩)) (.pureB (by rfl) (by repeat (first | trivial | refine ⟨by first | rfl | simp [setL],?_⟩)) (.pureB (by rfl) (by repeat (first | trivial | refine ⟨by first | rfl | simp [setL],?_⟩)) (.pureB (by rfl) (by repeat (first | trivial | refine ⟨by first | rfl | simp [setL],?_⟩)) .nil))))) (by rfl) ⟨rfl,rfl,⟨_,by rfl,by constructor⟩,by constructor,trivial⟩ (by rfl) (by rfl) (by rfl) (by rfl) ⟨rfl,⟨_,_,_,_,by rfl,by rfl⟩,⟨_,_,_,_,by rfl,by rfl⟩,trivial⟩ (by rfl) (by repeat (first | trivial | refine ⟨by first | rfl | simp [setL],?_⟩)) (by rfl) (by rfl) (by rfl) (by rfl) (by rfl) ?_
     refine X.nil (Run.sr (X.mv ?_))
     refine X.an ?_
     refine Run.reg (X.mv ?_)
     refine X.mv ?_
     refine X.mulW (by rfl) (by rfl) (by rfl) ?_
     refine X.addW (h:=?_)
     refine X.an ?_
     refine Run.blk ?_
     exact hag28 n28 (a31,(W (a31+(W (2*a20)))),v36) _ _ (by omega) h (by repeat (first | trivial | refine ⟨by first | rfl | simp [setL],?_⟩)) (by repeat (first | trivial | refine ⟨by first | rfl | simp [setL],?_⟩)) (by rfl) (by rfl)
    replace h:=condF hc35 h
    refine Run.exit (by rfl) ?_
    exact R.mt hmeet27 (a30,a32) (Option.some.inj h)
   rintro p37 rfl
   refine Run.seq (Run.sr (X.mv ?_))
   refine X.mv ?_
   refine X.addW (h:=?_)
   refine X.an ?_
   refine Run.sr (X.mv ?_)
   refine X.mv ?_
   refine X.bi ?_
   refine X.nil ?_
   refine R.cd (fun hc38=>?_) (fun hc38=>?_)
   ·replace h:=condT hc38 h
    refine Run.reg (X.mv ?_)
    refine X.mv ?_
    refine X.mv ?_
    refine X.mv ?_
    refine X.mv ?_
    obtain ⟨v39,hv39,h⟩:=bindE h
    refine X.callR [(63,63)] [(63,(p37.2.map int).length)] [(63,(v39.map int).length)] (K0f _ _ _ _ g2 _ _ hg2 _ hv39) (by rfl) (by rfl) (.ownB 63 (by rfl) (by first | rfl | simp [setL] | omega) (by rfl) (.pureB (by rfl) (by repeat (first | trivial | refine ⟨by first | rfl | simp [setL],?_⟩)) (.pureB (by rfl) (by repeat (first | trivial | refine ⟨by first | rfl | simp [setL],?_⟩)) (.pureB (by rfl) (by repeat (first | trivial | refine ⟨by first | rfl | simp [setL],?_⟩)) (.pureB (by rfl) (by repeat (first | trivial | refine ⟨by first | rfl | simp [setL],?_⟩)) .nil))))) (by rfl) ⟨rfl,rfl,⟨_,by rfl,by constructor⟩,by constructor,trivial⟩ (by rfl) (by rfl) (by rfl) (by rfl) ⟨rfl,⟨_,_,_,_,by rfl,by rfl⟩,⟨_,_,_,_,by rfl,by rfl⟩,trivial⟩ (by rfl) (by repeat (first | trivial | refine ⟨by first | rfl | simp [setL],?_⟩)) (by rfl) (by rfl) (by rfl) (by rfl) (by rfl) ?_
    refine X.nil (Run.reg (X.mv ?_))
    refine X.mulW (by rfl) (by rfl) (by rfl) ?_
    refine X.an ?_
    refine Run.blk ?_
    exact hag18 n18 ((W (a20*2)),v39) _ _ (by omega) h (by repeat (first | trivial | refine ⟨by first | rfl | simp [setL],?_⟩)) (by repeat (first | trivial | refine ⟨by first | rfl | simp [setL],?_⟩)) (by rfl) (by rfl)
   replace h:=condF hc38 h
   refine Run.skip (Run.reg (X.mv ?_))
   refine X.mulW (by rfl) (by rfl) (by rfl) ?_
   refine X.an ?_
   refine Run.blk ?_
   exact hag18 n18 ((W (a20*2)),p37.2) _ _ (by omega) h (by repeat (first | trivial | refine ⟨by first | rfl | simp [setL],?_⟩)) (by repeat (first | trivial | refine ⟨by first | rfl | simp [setL],?_⟩)) (by rfl) (by rfl)
  replace h:=condF hc24 h
  refine Run.exit (by rfl) ?_
  exact R.mt hmeet17 a21 (Option.some.inj h)
 rintro p40 rfl
 cases h
 exact R.endM0 Tryz.results157 (by repeat (first | exact trivial | refine ⟨by rfl,?_⟩)) rfl
theorem Q0q (b0:List Int)(g1:Int→Int→Option Int)(g1id:Nat)(g1c:List PV)(hg1:∀(x0:Int) (x1:Int) v,g1 x0 x1=some v→PC Tryz.prog g1id ([int x0,int x1] ++ g1c) (int v))(r:(List Int))(h:D0b b0 g1=some r):PCM Tryz.prog 137 [.own 63 (b0.map int).length,.fn g1id g1c] [(63,.obj true 3 1 (b0.map int))] (.tuple []) [(63,.obj true 3 1 (r.map int))]:=by
 unfold D0b at h
 refine PCM.start Tryz.func137 Tryz.ntmps137 rfl ok137 rfl (by rfl) (by rfl) (by rfl) (by rfl) (by rfl) ?_
 refine Run.reg (X.mv ?_)
 refine X.mv ?_
 refine X.len_o elt25 (by rfl) (by rfl) (by first | rfl | simp [setL] | omega) (by first | exact List.length_map .. | rfl) (by rfl) (by rfl) ?_
 refine X.mv ?_
 obtain ⟨v1,hv1,h⟩:=bindE h
 refine X.callR [(63,63)] [(63,(b0.map int).length)] [(63,(v1.map int).length)] (R0t _ _ g1 _ _ hg1 _ hv1) (by rfl) (by rfl) (.ownB 63 (by rfl) (by first | rfl | simp [setL] | omega) (by rfl) (.pureB (by rfl) (by repeat (first | trivial | refine ⟨by first | rfl | simp [setL],?_⟩)) (.pureB (by rfl) (by repeat (first | trivial | refine ⟨by first | rfl | simp [setL],?_⟩)) .nil))) (by rfl) ⟨rfl,rfl,⟨_,by rfl,by constructor⟩,by constructor,trivial⟩ (by rfl) (by rfl) (by rfl) (by rfl) ⟨rfl,⟨_,_,_,_,by rfl,by rfl⟩,⟨_,_,_,_,by rfl,by rfl⟩,trivial⟩ (by rfl) (by repeat (first | trivial | refine ⟨by first | rfl | simp [setL],?_⟩)) (by rfl) (by rfl) (by rfl) (by rfl) (by rfl) ?_
 refine X.nil ?_
 cases h
 exact R.endM0 Tryz.results137 (by repeat (first | exact trivial | refine ⟨by rfl,?_⟩)) rfl
theorem Z0y (b0:A0b)(b1:A0r)(b2:Int)(r:List Int)(h:L0z b0 b1 b2=some r):PC Tryz.prog 106 [A0n b0,H0m b1,int b2] (.fresh false 3 1 (r.map int)):=by
 unfold L0z at h
 refine PC.start Tryz.func106 Tryz.ntmps106 rfl ok106 rfl ?_
 refine Run.sr (X.bx ?_)
 refine X.bx ?_
 refine X.bx ?_
 refine X.an ?_
 refine Run.seq (Run.sr (X.ld shp34 ?_))
 refine X.ld shp85 ?_
 refine X.ld shp3 ?_
 obtain ⟨v1,hv1,h⟩:=bindE h
 refine X.cp (F1i _ _ _ _ hv1) ?_
 refine X.un (h:=?_)
 refine X.nil ?_
 refine R.cd (fun hc2=>?_) (fun hc2=>?_)
 ·replace h:=condT hc2 h
  refine Run.sr (X.an ?_)
  cases h
  refine R.fin1n (x:=false) (e:=3) (sz:=1) Tryz.results106 (by rfl) (by decide) ?_
  rfl
 replace h:=condF hc2 h
 refine Run.skip (Run.seq ?_)
 refine R.pubBlk (n:=192) (by rfl) (by rfl) (by repeat (first | trivial | refine ⟨by first | rfl | simp [setL],?_⟩)) ?_
 refine R.pubBlk (n:=256) (by rfl) (by rfl) (by repeat (first | trivial | refine ⟨by first | rfl | simp [setL],?_⟩)) ?_
 refine R.pubBlk (n:=320) (by rfl) (by rfl) (by repeat (first | trivial | refine ⟨by first | rfl | simp [setL],?_⟩)) ?_
 refine Run.reg (X.fl B0l ?_)
 refine X.ld shp30 ?_
 refine X.ls elt30 ?_
 obtain ⟨v3,hv3,h⟩:=bindE h
 refine X.callF (Y0g _ _ hv3) (by rfl) (by rfl) (by rfl) (by trivial) (by rfl) (by rfl) (by rfl) (by rfl) ?_
 refine X.makeFunc (by rfl) (by rfl) (by repeat (first | trivial | refine ⟨by first | rfl | simp [setL],?_⟩)) (by rfl) (by rfl) ?_
 obtain ⟨v4,hv4,h⟩:=bindE h
 refine X.callF (Q1u _ (fun x0=>D0l x0 b0 b1 b2) _ _ (fun x0 v hv=>W0a _ _ _ _ _ hv) _ hv4) (by rfl) (by rfl) (by rfl) (by repeat (first | trivial | refine ⟨by first | rfl | simp [setL],?_⟩)) (by rfl) (by rfl) (by rfl) (by rfl) ?_
 refine X.an ?_
 refine Run.sr (X.mv ?_)
 refine X.makeFunc (by rfl) (by rfl) (by repeat (first | trivial | refine ⟨by first | rfl | simp [setL],?_⟩)) (by rfl) (by rfl) ?_
 obtain ⟨v5,hv5,h⟩:=bindE h
 refine X.callR [(63,1152)] [(1152,(v4.map int).length)] [(1152,(v5.map int).length)] (Q0q _ (fun x0 x1=>G0s x0 x1 b1) _ _ (fun x0 x1 v hv=>W0b _ _ _ _ hv) _ hv5) (by rfl) (by rfl) (.ownB 63 (by rfl) (by first | rfl | simp [setL] | omega) (by rfl) (.pureB (by rfl) (by repeat (first | trivial | refine ⟨by first | rfl | simp [setL],?_⟩)) .nil)) (by rfl) ⟨rfl,rfl,⟨_,by rfl,by constructor⟩,by constructor,trivial⟩ (by rfl) (by rfl) (by rfl) (by rfl) ⟨rfl,⟨_,_,_,_,by rfl,by rfl⟩,⟨_,_,_,_,by rfl,by rfl⟩,trivial⟩ (by rfl) (by repeat (first | trivial | refine ⟨by first | rfl | simp [setL],?_⟩)) (by rfl) (by rfl) (by rfl) (by rfl) (by rfl) ?_
 refine X.nil (Run.sr (X.mv ?_))
 refine X.an ?_
 cases h
 refine R.pubObj (n:=1152) (by rfl) ?_
 refine R.fin1o Tryz.results106 (by rfl) (by rfl) (by first | rfl | simp [setL] | omega) ?_
 rfl
theorem F1b (b0:A0b)(b1:Int)(b2:Int)(b3:Int)(r:Int)(h:R0u b0 b1 b2 b3=some r):PC Tryz.prog 107 [A0n b0,int b1,int b2,int b3] (int r):=by
 unfold R0u at h
 refine PC.start Tryz.func107 Tryz.ntmps107 rfl ok107 rfl ?_
 refine Run.sr (X.bx ?_)
 refine X.an ?_
 refine Run.seq (Run.seq ?_)
 obtain ⟨v1,hv1,h⟩:=bindE h
 obtain ⟨e2,he2,h2⟩:=bindE h
 refine R.regG [(1,int b1),(2,int b2),(3,int b3),(4,.lptr 256 0),(29,bool e2)] [(256,.blk true [int b0.Deadline,.slice (b0.Activities.map A0d),.slice (b0.Links.map A0l),.slice (b0.Resources.map A0e),.slice (b0.Stocks.map int)])] ?_ ?_
 ·clear h;have h:=he2;clear he2 h2
  refine X.ld shp34 ?_
  refine X.mv ?_
  refine X.cp (W0f _ _ _ hv1) ?_
  refine X.un (h:=?_)
  refine X.mv ?_
  refine X.iG (fun hb3=>?_) (fun hb3=>?_)
  ·replace h:=condF hb3 h
   refine X.ld shp34 ?_
   refine X.gy ?_
   obtain ⟨v4,hv4,h⟩:=bindE h
   refine X.cp (F0d _ _ hv4) ?_
   refine X.gy (X.un (h:=?_))
   refine X.pF ?_
   refine X.mv ?_
   refine X.iG (fun hb5=>?_) (fun hb5=>?_)
   ·replace h:=condF hb5 h
    refine X.ld shp34 ?_
    refine X.gy (X.mv ?_)
    refine X.gy ?_
    obtain ⟨v6,hv6,h⟩:=bindE h
    refine X.cp (D0p _ _ _ hv6) ?_
    refine X.gy (X.un (h:=?_))
    refine X.pF ?_
    refine X.mv ?_
    refine X.iG (fun hb7=>?_) (fun hb7=>?_)
    ·replace h:=condF hb7 h
     refine X.ld shp34 ?_
     refine X.gy (X.mv ?_)
     refine X.gy ?_
     obtain ⟨v8,hv8,h⟩:=bindE h
     refine X.cp (D0p _ _ _ hv8) ?_
     refine X.gy (X.un (h:=?_))
     refine X.pF ?_
     cases h
     exact X.eG
    replace h:=condT hb7 h
    refine X.gn (X.gn (X.gn (X.pT ?_)))
    cases h
    exact X.eG
   replace h:=condT hb5 h
   refine X.gn (X.gn (X.gn (X.pT ?_)))
   refine X.mv ?_
   refine X.gn (X.gn (X.gn (X.gn (X.pT ?_))))
   cases h
   exact X.eG
  replace h:=condT hb3 h
  refine X.gn (X.gn (X.pT ?_))
  refine X.mv ?_
  refine X.gn (X.gn (X.gn (X.gn (X.pT ?_))))
  refine X.mv ?_
  refine X.gn (X.gn (X.gn (X.gn (X.pT ?_))))
  cases h
  exact X.eG
 replace h:=h2;clear h2
 refine R.cd (fun hc9=>?_) (fun hc9=>?_)
 ·replace h:=condT hc9 h
  refine Run.sr (X.an ?_)
  cases h
  refine R.f1 Tryz.results107 ?_
  rfl
 replace h:=condF hc9 h
 refine Run.skip (Run.seq (Run.draw (B0m [(1,([256],[],[],[])),(7,([256],[],[],[])),(15,([256],[],[],[]))]) mixed (by kernel_rfl) (by kernel_rfl) ?_))
 refine X.fl H0o ?_
 refine X.ld shp32 ?_
 refine X.mv ?_
 obtain ⟨v10,hv10,h⟩:=bindE h
 refine X.ix elt32 (A0a hv10).1 (A0c A0e hv10) ?_
 refine X.fieldAddr_c N0z (by rfl) (by rfl) ?_
 refine X.lc shp61 ?_
 refine X.fl B0l ?_
 refine X.ld shp30 ?_
 refine X.mv ?_
 obtain ⟨v11,hv11,h⟩:=bindE h
 refine X.ix elt30 (A0a hv11).1 (A0c A0d hv11) ?_
 refine X.fieldAddr_c T0u (by rfl) (by rfl) ?_
 refine X.lc shp3 ?_
 obtain ⟨v12,hv12,h⟩:=bindE h
 refine X.ix elt61 (A0a hv12).1 (A0c l_int hv12) ?_
 refine X.lc shp25 ?_
 refine X.fl B0l ?_
 refine X.ld shp30 ?_
 refine X.mv ?_
 obtain ⟨v13,hv13,h⟩:=bindE h
 refine X.ix elt30 (A0a hv13).1 (A0c A0d hv13) ?_
 refine X.fieldAddr_c T0u (by rfl) (by rfl) ?_
 refine X.lc shp3 ?_
 obtain ⟨v14,hv14,h⟩:=bindE h
 refine X.ix elt25 (A0a hv14).1 (A0c int hv14) ?_
 refine X.lc shp3 ?_
 refine X.an ?_
 cases h
 refine R.f1 Tryz.results107 ?_
 rfl
theorem V0d (b0:A0b)(b1:A0r)(b2:Int)(r:Int)(h:H0h b0 b1 b2=some r):PC Tryz.prog 108 [A0n b0,H0m b1,int b2] (int r):=by
 unfold H0h at h
 refine PC.start Tryz.func108 Tryz.ntmps108 rfl ok108 rfl ?_
 refine Run.sr (X.bx ?_)
 refine X.bx ?_
 refine X.an ?_
 refine Run.seq (Run.draw (B0m [(1,([192],[],[],[])),(6,([256],[],[],[]))]) mixed (by kernel_rfl) (by kernel_rfl) ?_)
 refine X.fl B0l ?_
 refine X.ld shp30 ?_
 refine X.mv ?_
 obtain ⟨v1,hv1,h⟩:=bindE h
 refine X.ix elt30 (A0a hv1).1 (A0c A0d hv1) ?_
 refine X.lc shp67 ?_
 refine X.fl M0o ?_
 refine X.ld shp61 ?_
 refine X.mv ?_
 obtain ⟨v2,hv2,h⟩:=bindE h
 refine X.ix elt61 (A0a hv2).1 (A0c l_int hv2) ?_
 refine X.lc shp25 ?_
 obtain ⟨v3,hv3,h⟩:=bindE h
 refine X.cp (P0x _ _ _ hv3) ?_
 refine X.an ?_
 cases h
 refine R.f1 Tryz.results108 ?_
 rfl
theorem A1b (b0:A0b)(b1:A0r)(b2:Int)(r:Int)(h:L0x b0 b1 b2=some r):PC Tryz.prog 64 [A0n b0,H0m b1,int b2] (int r):=by
 unfold L0x at h
 refine PC.start Tryz.func64 Tryz.ntmps64 rfl ok64 rfl ?_
 refine Run.sr (X.bx ?_)
 refine X.bx ?_
 refine X.an ?_
 refine Run.sr (X.ld shp34 ?_)
 refine X.ld shp85 ?_
 refine X.mv ?_
 obtain ⟨v1,hv1,h⟩:=bindE h
 refine X.callF (Z0y _ _ _ _ hv1) (by rfl) (by rfl) (by rfl) (by trivial) (by rfl) (by rfl) (by rfl) (by rfl) ?_
 refine X.an ?_
 refine Run.seq (Run.sr (X.mv ?_))
 refine X.len_o elt25 (by rfl) (by rfl) (by first | rfl | simp [setL] | omega) (by first | exact List.length_map .. | rfl) (by rfl) (by rfl) ?_
 refine X.bi ?_
 refine X.nil ?_
 refine R.cd (fun hc2=>?_) (fun hc2=>?_)
 ·replace h:=condT hc2 h
  refine Run.sr (X.an ?_)
  cases h
  refine R.f1 Tryz.results64 ?_
  rfl
 replace h:=condF hc2 h
 refine Run.skip (Run.seq (Run.draw (B0m [(1,([256],[],[],[])),(3,([1280],[],[],[]))]) mixed (by kernel_rfl) (by kernel_rfl) ?_))
 refine X.fl L0p ?_
 refine X.ld shp25 ?_
 refine X.mv ?_
 obtain ⟨v3,hv3,h⟩:=bindE h
 refine X.index_o elt25 (by rfl) (by rfl) (by first | rfl | simp [setL] | omega) (by rfl) (A0a hv3).1 (A0c int hv3) (by rfl) (by rfl) (by rfl) ?_
 refine X.lc shp3 ?_
 obtain ⟨v4,hv4,h⟩:=bindE h
 refine X.ix elt25 (A0a hv4).1 (A0c int hv4) ?_
 refine X.lc shp3 ?_
 refine X.as ?_
 refine X.an ?_
 refine Run.seq (Run.sr (X.mv ?_))
 refine X.len_o elt25 (by rfl) (by rfl) (by first | rfl | simp [setL] | omega) (by first | exact List.length_map .. | rfl) (by rfl) (by rfl) ?_
 refine X.mn ?_
 obtain ⟨o5,ho5,h⟩:=bindE h
 refine R.join2 (β:=Int×Int) [] [] (fun p38 S=>(8,int p38.1)::(9,int p38.2)::S) (fun p38 M=>M) (fun p38=>p38=o5) ?_ ?_
 ·intro JJ8 hmeet7
  have hup6:=h;clear h;have h:=ho5;clear ho5
  refine Run.block ?_
  refine R.bndO (n:=1280) (by rfl) (fun hbd11=>?_)
  replace hbd11:v1.length≤9223372036854775807:=by first | (rw [List.length_map] at hbd11;exact hbd11) | simp
  refine R.lp (β:=Int×Int×Int) [(2,int b2),(3,.lptr 192 0),(4,.lptr 256 0),(32,int (v1.length:Int))] [(192,.blk true [int b0.Deadline,.slice (b0.Activities.map A0d),.slice (b0.Links.map A0l),.slice (b0.Resources.map A0e),.slice (b0.Stocks.map int)]),(256,.blk true [.slice (b1.MinStart.map int),.slice (b1.MaxStart.map int),.slice (b1.Modes.map l_int)]),(1280,.obj false 3 1 (v1.map int))] (fun bb S=>(7,.own 1280 (v1.map int).length)::(8,int bb.2.1)::(9,int bb.2.2)::(31,.own 1280 (v1.map int).length)::(33,int bb.1)::S) (fun bb M=>M) (fun n bb=>0≤bb.1∧bb.1+n=(v1.length:Int)∧E0z b0 b1 b2 v1 (v1.drop bb.1.toNat) bb.1 bb.2.1 bb.2.2=some o5) v1.length (0,v4,0) ⟨Int.le_refl _,by simp,h⟩ ?_
  clear h
  rintro JJ11 n11 ⟨z12,a13,a14⟩ hag11 ⟨hza11,hzb11,h⟩
  dsimp only at hza11 hzb11 h
  refine Run.sr (X.bi ?_)
  refine X.nil (Run.seq ?_)
  refine R.cd (fun hc17=>?_) (fun hc17=>?_)
  ·obtain ⟨x15,xs16,hd11,hx11,hds11,hlt11⟩:=A0k hza11 hc17
   rw [hd11] at h
   rw [E0z] at h
   refine Run.skip (Run.seq (Run.block (Run.sr (X.index_o elt25 (by rfl) (by rfl) (by first | rfl | simp [setL] | omega) (by rfl) (A0a hx11).1 (A0c int hx11) (by rfl) (by rfl) (by rfl) ?_))))
   refine X.lc shp3 ?_
   refine X.an ?_
   refine Run.sr (X.as ?_)
   refine X.an ?_
   refine Run.seq (Run.sr (X.mv ?_))
   refine X.len_o elt25 (by rfl) (by rfl) (by first | rfl | simp [setL] | omega) (by first | exact List.length_map .. | rfl) (by rfl) (by rfl) ?_
   refine X.mn ?_
   obtain ⟨o18,ho18,h⟩:=bindE h
   refine R.join2 (β:=Int) [(2,int b2),(3,.lptr 192 0),(4,.lptr 256 0),(8,int a13),(9,int a14),(11,int x15),(32,int (v1.length:Int)),(33,int z12)] [(192,.blk true [int b0.Deadline,.slice (b0.Activities.map A0d),.slice (b0.Links.map A0l),.slice (b0.Resources.map A0e),.slice (b0.Stocks.map int)]),(256,.blk true [.slice (b1.MinStart.map int),.slice (b1.MaxStart.map int),.slice (b1.Modes.map l_int)]),(1280,.obj false 3 1 (v1.map int))] (fun p36 S=>(7,.own 1280 (v1.map int).length)::(12,int p36)::(31,.own 1280 (v1.map int).length)::S) (fun p36 M=>M) (fun p36=>p36=o18) ?_ ?_
   ·intro JJ21 hmeet20
    have hup19:=h;clear h;have h:=ho18;clear ho18
    refine Run.block ?_
    refine R.bndO (n:=1280) (by rfl) (fun hbd24=>?_)
    replace hbd24:v1.length≤9223372036854775807:=by first | (rw [List.length_map] at hbd24;exact hbd24) | simp
    refine R.lp (β:=Int×Int×Bool) [(2,int b2),(3,.lptr 192 0),(4,.lptr 256 0),(8,int a13),(9,int a14),(11,int x15),(32,int (v1.length:Int)),(33,int z12),(38,int (v1.length:Int))] [(192,.blk true [int b0.Deadline,.slice (b0.Activities.map A0d),.slice (b0.Links.map A0l),.slice (b0.Resources.map A0e),.slice (b0.Stocks.map int)]),(256,.blk true [.slice (b1.MinStart.map int),.slice (b1.MaxStart.map int),.slice (b1.Modes.map l_int)]),(1280,.obj false 3 1 (v1.map int))] (fun bb S=>(7,.own 1280 (v1.map int).length)::(12,int bb.2.1)::(13,bool bb.2.2)::(31,.own 1280 (v1.map int).length)::(37,.own 1280 (v1.map int).length)::(39,int bb.1)::S) (fun bb M=>M) (fun n bb=>0≤bb.1∧bb.1+n=(v1.length:Int)∧B0q b0 b2 x15 (v1.drop bb.1.toNat) bb.1 bb.2.1 bb.2.2=some o18) v1.length (0,0,false) ⟨Int.le_refl _,by simp,h⟩ ?_
    clear h
    rintro JJ24 n24 ⟨z25,a26,a27⟩ hag24 ⟨hza24,hzb24,h⟩
    dsimp only at hza24 hzb24 h
    refine Run.sr (X.bi ?_)
    refine X.nil (Run.seq ?_)
    refine R.cd (fun hc30=>?_) (fun hc30=>?_)
    ·obtain ⟨x28,xs29,hd24,hx24,hds24,hlt24⟩:=A0k hza24 hc30
     rw [hd24] at h
     rw [B0q] at h
     refine Run.skip (Run.seq (Run.block (Run.sr (X.index_o elt25 (by rfl) (by rfl) (by first | rfl | simp [setL] | omega) (by rfl) (A0a hx24).1 (A0c int hx24) (by rfl) (by rfl) (by rfl) ?_))))
     refine X.lc shp3 ?_
     refine X.an ?_
     refine Run.sr (X.ld shp34 ?_)
     refine X.mv ?_
     refine X.mv ?_
     refine X.mv ?_
     obtain ⟨v31,hv31,h⟩:=bindE h
     refine X.cp (F1b _ _ _ _ _ hv31) ?_
     refine X.an ?_
     refine Run.seq ?_
     obtain ⟨e32,he32,h2⟩:=bindE h
     refine R.regG [(2,int b2),(3,.lptr 192 0),(4,.lptr 256 0),(7,.own 1280 (v1.map int).length),(8,int a13),(9,int a14),(11,int x15),(12,int a26),(13,bool a27),(16,int v31),(31,.own 1280 (v1.map int).length),(32,int (v1.length:Int)),(33,int z12),(37,.own 1280 (v1.map int).length),(38,int (v1.length:Int)),(39,int z25),(59,bool e32)] [(192,.blk true [int b0.Deadline,.slice (b0.Activities.map A0d),.slice (b0.Links.map A0l),.slice (b0.Resources.map A0e),.slice (b0.Stocks.map int)]),(256,.blk true [.slice (b1.MinStart.map int),.slice (b1.MaxStart.map int),.slice (b1.Modes.map l_int)]),(1280,.obj false 3 1 (v1.map int))] ?_ ?_
     ·clear h;have h:=he32;clear he32 h2
      refine X.mv ?_
      refine X.mv ?_
      refine X.bi ?_
      refine X.mv ?_
      refine X.iG (fun hb33=>?_) (fun hb33=>?_)
      ·replace h:=condT hb33 h
       refine X.mv ?_
       refine X.gy (X.un (h:=?_))
       refine X.gy (X.mv ?_)
       refine X.iG (fun hb34=>?_) (fun hb34=>?_)
       ·replace h:=condF hb34 h
        refine X.mv ?_
        refine X.gy (X.mv ?_)
        refine X.gy (X.bi ?_)
        refine X.gy (X.pF ?_)
        refine X.pT ?_
        cases h
        exact X.eG
       replace h:=condT hb34 h
       refine X.gn (X.gn (X.gy (X.pT ?_)))
       refine X.pT ?_
       cases h
       exact X.eG
      replace h:=condF hb33 h
      refine X.gn (X.gn (X.gU (h:=?_)))
      refine X.gU (h:=?_)
      refine X.gU (h:=?_)
      refine X.gn (X.pF ?_)
      cases h
      exact X.eG
     replace h:=h2;clear h2
     refine R.cd (fun hc35=>?_) (fun hc35=>?_)
     ·replace h:=condT hc35 h
      refine Run.reg (X.mv ?_)
      refine X.as ?_
      refine X.an ?_
      refine Run.blk (Run.reg (X.ad ?_))
      refine X.mn ?_
      exact R.ag hag24 (n24 - 1) (z25+1,v31,true) (R.n3 (by first | (rw [hds24];exact h) | (dsimp only;rw [hds24];exact h)))
     replace h:=condF hc35 h
     refine Run.skip (Run.blk (Run.reg (X.ad ?_)))
     refine X.mn ?_
     exact R.ag hag24 (n24 - 1) (z25+1,a26,a27) (R.n3 (by first | (rw [hds24];exact h) | (dsimp only;rw [hds24];exact h)))
    rw [A0h hza24 hc30] at h
    rw [B0q] at h
    refine Run.exit (by rfl) ?_
    exact R.mt hmeet20 a26 (Option.some.inj h)
   rintro p36 rfl
   refine Run.sr (X.mv ?_)
   refine X.ld shp34 ?_
   refine X.ld shp85 ?_
   refine X.mv ?_
   obtain ⟨v37,hv37,h⟩:=bindE h
   refine X.cp (V0d _ _ _ _ hv37) ?_
   refine X.mv ?_
   refine X.addW (h:=?_)
   refine X.addW (h:=?_)
   refine X.an ?_
   refine Run.reg (X.mv ?_)
   refine X.mv ?_
   refine X.max2 (by rfl) (by rfl) (by rfl) ?_
   refine X.an ?_
   refine Run.blk (Run.reg (X.ad ?_))
   refine X.mn ?_
   exact R.ag hag11 (n11 - 1) (z12+1,(W (a13+(W (v37+p36)))),(max a14 p36)) (R.n3 (by first | (rw [hds11];exact h) | (dsimp only;rw [hds11];exact h)))
  rw [A0h hza11 hc17] at h
  rw [E0z] at h
  refine Run.exit (by rfl) ?_
  exact R.mt hmeet7 (a13,a14) (Option.some.inj h)
 rintro p38 rfl
 refine Run.sr (X.mv ?_)
 refine X.mv ?_
 refine X.subW (h:=?_)
 refine X.an ?_
 cases h
 refine R.f1 Tryz.results64 ?_
 rfl
theorem N0n (b0:A0b)(r:Int)(h:E0v b0=some r):PC Tryz.prog 27 [A0n b0] (int r):=by
 unfold E0v at h
 refine PC.start Tryz.func27 Tryz.ntmps27 rfl ok27 rfl ?_
 refine Run.sr (X.bx ?_)
 refine X.an ?_
 refine Run.seq (Run.sr (X.ld shp34 ?_))
 obtain ⟨v1,hv1,h⟩:=bindE h
 refine X.cp (F0d _ _ hv1) ?_
 refine X.un (h:=?_)
 refine X.nil ?_
 refine R.cd (fun hc2=>?_) (fun hc2=>?_)
 ·replace h:=condT hc2 h
  refine Run.sr (X.an ?_)
  cases h
  refine R.f1 Tryz.results27 ?_
  rfl
 replace h:=condF hc2 h
 refine Run.skip (Run.sr (X.an ?_))
 refine Run.seq (Run.sr (X.fl H0o ?_))
 refine X.ld shp32 ?_
 refine X.ls elt32 ?_
 refine X.mn ?_
 obtain ⟨o3,ho3,h⟩:=bindE h
 refine R.join2 (β:=Int) [] [] (fun p17 S=>(3,int p17)::S) (fun p17 M=>M) (fun p17=>p17=o3) ?_ ?_
 ·intro JJ6 hmeet5
  have hup4:=h;clear h;have h:=ho3;clear ho3
  refine Run.block ?_
  refine R.bndS (t:=9) (by rfl) (fun hbd9=>?_)
  replace hbd9:b0.Resources.length≤9223372036854775807:=by first | (rw [List.length_map] at hbd9;exact hbd9) | simp
  refine R.lp (β:=Int×Int) [(1,.lptr 64 0),(10,int (b0.Resources.length:Int))] [(64,.blk true [int b0.Deadline,.slice (b0.Activities.map A0d),.slice (b0.Links.map A0l),.slice (b0.Resources.map A0e),.slice (b0.Stocks.map int)])] (fun bb S=>(3,int bb.2)::(11,int bb.1)::S) (fun bb M=>M) (fun n bb=>0≤bb.1∧bb.1+n=(b0.Resources.length:Int)∧C0i b0 (b0.Resources.drop bb.1.toNat) bb.1 bb.2=some o3) b0.Resources.length (0,0) ⟨Int.le_refl _,by simp,h⟩ ?_
  clear h
  rintro JJ9 n9 ⟨z10,a11⟩ hag9 ⟨hza9,hzb9,h⟩
  dsimp only at hza9 hzb9 h
  refine Run.sr (X.bi ?_)
  refine X.nil (Run.seq ?_)
  refine R.cd (fun hc14=>?_) (fun hc14=>?_)
  ·obtain ⟨x12,xs13,hd9,hx9,hds9,hlt9⟩:=A0k hza9 hc14
   rw [hd9] at h
   rw [C0i] at h
   refine Run.skip (Run.seq (Run.block (Run.sr (X.mv ?_))))
   refine X.an ?_
   refine Run.draw (B0m [(1,([64],[],[],[])),(2,([64],[],[],[])),(3,([],[1088,1089,1090],[],[])),(5,([1088,1089,1090],[],[],[]))]) mixed (by kernel_rfl) (by kernel_rfl) ?_
   refine X.mv ?_
   refine X.ld shp34 ?_
   refine X.ld shp34 ?_
   obtain ⟨v15,hv15,h⟩:=bindE h
   refine X.callA (X0y _ _ hv15) (by rfl) (by rfl) (by rfl) (by trivial) (by rfl) (by rfl) (by rfl) (by rfl) (by rfl) (by rfl) ?_
   refine X.mv ?_
   obtain ⟨v16,hv16,h⟩:=bindE h
   refine X.cp (A1b _ _ _ _ hv16) ?_
   refine X.max2 (by rfl) (by rfl) (by rfl) ?_
   refine X.an ?_
   refine Run.blk (Run.reg (X.ad ?_))
   refine X.mn ?_
   exact R.ag hag9 (n9 - 1) (z10+1,(max a11 v16)) (R.n3 (by first | (rw [hds9];exact h) | (dsimp only;rw [hds9];exact h)))
  rw [A0h hza9 hc14] at h
  rw [C0i] at h
  refine Run.exit (by rfl) ?_
  exact R.mt hmeet5 a11 (Option.some.inj h)
 rintro p17 rfl
 refine Run.sr (X.mv ?_)
 refine X.an ?_
 cases h
 refine R.f1 Tryz.results27 ?_
 rfl
theorem E1m (b0:A0b)(r:Int)(h:P0j b0=some r):PC Tryz.prog 28 [A0n b0] (int r):=by
 unfold P0j at h
 refine PC.start Tryz.func28 Tryz.ntmps28 rfl ok28 rfl ?_
 refine Run.sr (X.bx ?_)
 refine X.an ?_
 refine Run.seq (Run.sr (X.ld shp34 ?_))
 obtain ⟨v1,hv1,h⟩:=bindE h
 refine X.cp (F0d _ _ hv1) ?_
 refine X.un (h:=?_)
 refine X.nil ?_
 refine R.cd (fun hc2=>?_) (fun hc2=>?_)
 ·replace h:=condT hc2 h
  refine Run.sr (X.an ?_)
  cases h
  refine R.f1 Tryz.results28 ?_
  rfl
 replace h:=condF hc2 h
 refine Run.skip (Run.seq (Run.draw (B0m [(0,([64],[],[],[])),(2,([64],[],[],[])),(4,([64],[],[],[]))]) mixed (by kernel_rfl) (by kernel_rfl) ?_))
 refine X.ld shp34 ?_
 obtain ⟨v3,hv3,h⟩:=bindE h
 refine X.cp (S0m _ _ hv3) ?_
 refine X.ld shp34 ?_
 obtain ⟨v4,hv4,h⟩:=bindE h
 refine X.cp (W0l _ _ hv4) ?_
 refine X.ld shp34 ?_
 obtain ⟨v5,hv5,h⟩:=bindE h
 refine X.cp (N0n _ _ hv5) ?_
 refine X.max4 (by rfl) (by rfl) (by rfl) (by rfl) (by rfl) ?_
 refine X.an ?_
 cases h
 refine R.f1 Tryz.results28 ?_
 rfl
theorem E1t (b0:Int)(r:ByteArray)(h:strconv_Itoa b0=some r):PC Tryz.prog 66 [int b0] (str r):=PC.itoa ok66 (by rfl) (fun n w h1 h2 h3=>Tryz.strconv_Itoa n h1 h2 w h3) b0 r h
theorem F1a (b0:Int)(r:ByteArray)(h:K0v b0=some r):PC Tryz.prog 29 [int b0] (str r):=by
 unfold K0v at h
 refine PC.start Tryz.func29 Tryz.ntmps29 rfl ok29 rfl ?_
 refine Run.sr (X.an ?_)
 refine Run.seq (Run.sr (X.mv ?_))
 obtain ⟨v1,hv1,h⟩:=bindE h
 refine X.cp (C0j _ _ _ _ hv1) ?_
 refine X.un (h:=?_)
 refine X.nil ?_
 refine R.cd (fun hc2=>?_) (fun hc2=>?_)
 ·replace h:=condT hc2 h
  refine Run.sr (X.an ?_)
  cases h
  refine R.f1 Tryz.results29 ?_
  rfl
 replace h:=condF hc2 h
 refine Run.skip (Run.sr (X.mv ?_))
 obtain ⟨v3,hv3,h⟩:=bindE h
 refine X.cp (E1t _ _ hv3) ?_
 refine X.an ?_
 cases h
 refine R.f1 Tryz.results29 ?_
 rfl
theorem C1r (b0:List ByteArray)(b1:ByteArray)(r:ByteArray)(h:strings_Join b0 b1=some r):PC Tryz.prog 30 [.slice (b0.map str),str b1] (str r):=PC.join ok30 (fun bk o c xs sep w h1 h2 h3 h4 h5=>Tryz.strings_Join bk o c xs sep w h1 h2 h3 h4 h5) (fun a c sep w=>Tryz.strings_Join_none a c sep w) b0 b1 r h
theorem A1a (b0:A0b)(r:ByteArray)(h:L0u b0=some r):PC Tryz.prog 7 [A0n b0] (str r):=by
 unfold L0u at h
 refine PC.start Tryz.func7 Tryz.ntmps7 rfl ok7 rfl ?_
 refine Run.sr (X.bx ?_)
 refine X.an ?_
 refine Run.seq (Run.sr (X.ld shp34 ?_))
 obtain ⟨v1,hv1,h⟩:=bindE h
 refine X.cp (F0d _ _ hv1) ?_
 refine X.un (h:=?_)
 refine X.nil ?_
 refine R.cd (fun hc2=>?_) (fun hc2=>?_)
 ·replace h:=condT hc2 h
  refine Run.sr (X.an ?_)
  cases h
  refine R.f1 Tryz.results7 ?_
  rfl
 replace h:=condF hc2 h
 refine Run.skip (Run.sr ?_)
 refine X.buildSlice false elt46 zer9 (by rfl) (by rfl) (by rfl) (by rfl) (by rfl) (by rfl) (by repeat (first | trivial | refine ⟨by first | rfl | simp [setL],?_⟩)) (A0o (by rfl)) (by rfl) (by rfl) (by rfl) ?_
 refine X.an ?_
 refine Run.seq (Run.seq (Run.draw (B0m [(0,([64],[],[],[])),(2,([64],[],[],[])),(4,([64],[],[],[])),(6,([64],[],[],[])),(8,([1152],[1152],[],[])),(9,([1152],[],[],[]))]) mixed (by kernel_rfl) (by kernel_rfl) ?_))
 refine X.ld shp34 ?_
 obtain ⟨v3,hv3,h⟩:=bindE h
 refine X.cp (S0m _ _ hv3) ?_
 refine X.ld shp34 ?_
 obtain ⟨v4,hv4,h⟩:=bindE h
 refine X.cp (W0l _ _ hv4) ?_
 refine X.ld shp34 ?_
 obtain ⟨v5,hv5,h⟩:=bindE h
 refine X.cp (N0n _ _ hv5) ?_
 refine X.ld shp34 ?_
 obtain ⟨v6,hv6,h⟩:=bindE h
 refine X.cp (E1m _ _ hv6) ?_
 refine X.buildSlice false elt25 zer3 (by rfl) (by rfl) (by rfl) (by rfl) (by rfl) (by rfl) (by repeat (first | trivial | refine ⟨by first | rfl | simp [setL],?_⟩)) (A0o (by rfl)) (by rfl) (by rfl) (by rfl) ?_
 refine X.len_o elt25 (by rfl) (by rfl) (by first | rfl | simp [setL] | omega) (by first | exact List.length_map .. | rfl) (by rfl) (by rfl) ?_
 refine X.mn ?_
 obtain ⟨o7,ho7,h⟩:=bindE h
 refine R.join2 (β:=(List ByteArray)) [] [] (fun p21 S=>(3,.own 576 (p21.map str).length)::S) (fun p21 M=>(576,.obj false 9 1 (p21.map str))::M) (fun p21=>p21=o7) ?_ ?_
 ·intro JJ10 hmeet9
  have hup8:=h;clear h;have h:=ho7;clear ho7
  refine Run.block ?_
  refine R.bndO (n:=1152) (by rfl) (fun hbd13=>?_)
  replace hbd13:([v3,v4,v5,v6]:List Int).length≤9223372036854775807:=by first | (rw [List.length_map] at hbd13;exact hbd13) | simp
  refine R.lp (β:=Int×(List ByteArray)) [(19,int (([v3,v4,v5,v6]:List Int).length:Int))] [(1152,.obj false 3 1 (([v3,v4,v5,v6]:List Int).map int))] (fun bb S=>(3,.own 576 (bb.2.map str).length)::(18,.own 1152 (([v3,v4,v5,v6]:List Int).map int).length)::(20,int bb.1)::S) (fun bb M=>(576,.obj false 9 1 (bb.2.map str))::M) (fun n bb=>0≤bb.1∧bb.1+n=(([v3,v4,v5,v6]:List Int).length:Int)∧E0y (([v3,v4,v5,v6]:List Int).drop bb.1.toNat) bb.1 bb.2=some o7) ([v3,v4,v5,v6]:List Int).length (0,([]:List ByteArray)) ⟨Int.le_refl _,by simp,h⟩ ?_
  clear h
  rintro JJ13 n13 ⟨z14,a15⟩ hag13 ⟨hza13,hzb13,h⟩
  dsimp only at hza13 hzb13 h
  refine Run.sr (X.bi ?_)
  refine X.nil (Run.seq ?_)
  refine R.cd (fun hc18=>?_) (fun hc18=>?_)
  ·obtain ⟨x16,xs17,hd13,hx13,hds13,hlt13⟩:=A0k hza13 hc18
   rw [hd13] at h
   rw [E0y] at h
   refine Run.skip (Run.seq (Run.block (Run.sr (X.index_o elt25 (by rfl) (by rfl) (by first | rfl | simp [setL] | omega) (by rfl) (A0a hx13).1 (A0c int hx13) (by rfl) (by rfl) (by rfl) ?_))))
   refine X.lc shp3 ?_
   refine X.an ?_
   refine Run.reg (X.mv ?_)
   refine X.mv ?_
   obtain ⟨v19,hv19,h⟩:=bindE h
   refine X.cp (F1a _ _ hv19) ?_
   refine X.buildSlice false elt46 zer9 (by rfl) (by rfl) (by rfl) (by rfl) (by rfl) (by rfl) (by repeat (first | trivial | refine ⟨by first | rfl | simp [setL],?_⟩)) (A0o (by rfl)) (by rfl) (by rfl) (by rfl) ?_
   obtain ⟨v20,hv20,h⟩:=bindE h
   refine X.append elt46 zer9 (by rfl) (by rfl) (by first | rfl | simp [setL] | omega) (by rfl) (.own _ _ _ _ _ _ (A0g (by rfl)) (by first | rfl | simp [setL] | omega)) (A0o (by rfl)) (E0l str hv20) (E0k str hv20) (by rfl) (by rfl) (by rfl) (by rfl) ?_
   refine X.an ?_
   refine Run.blk (Run.reg (X.ad ?_))
   refine X.mn ?_
   exact R.ag hag13 (n13 - 1) (z14+1,v20) (R.n3 (by first | (rw [hds13];exact h) | (dsimp only;rw [hds13];exact h)))
  rw [A0h hza13 hc18] at h
  rw [E0y] at h
  refine Run.exit (by rfl) ?_
  exact R.mt hmeet9 a15 (Option.some.inj h)
 rintro p21 rfl
 refine Run.sr (X.mv ?_)
 obtain ⟨v22,hv22,h⟩:=bindE h
 refine X.cp (C1r _ _ _ hv22) ?_
 refine X.an ?_
 cases h
 refine R.f1 Tryz.results7 ?_
 rfl
theorem U0f (b0:List Int)(b1:List Int)(r:Bool)(h:U0e b0 b1=some r):PC Tryz.prog 34 [.slice (b0.map int),.slice (b1.map int)] (bool r):=by
 unfold U0e at h
 refine PC.start Tryz.func34 Tryz.ntmps34 rfl ok34 rfl ?_
 refine Run.sr (X.an ?_)
 refine Run.seq (Run.sr (X.mv ?_))
 refine X.ls elt25 ?_
 refine X.mv ?_
 refine X.ls elt25 ?_
 refine X.bi ?_
 refine X.nil ?_
 refine R.cd (fun hc1=>?_) (fun hc1=>?_)
 ·replace h:=condT hc1 h
  refine Run.sr (X.an ?_)
  cases h
  refine R.f1 Tryz.results34 ?_
  rfl
 replace h:=condF hc1 h
 refine Run.skip (Run.seq (Run.sr (X.an ?_)))
 obtain ⟨o2,ho2,h⟩:=bindE h
 refine R.join2 (β:=Unit) [] [] (fun p15 S=>S) (fun p15 M=>M) (fun p15=>(Sum.inl p15)=o2) ?_ ?_
 ·intro JJ5 hmeet4
  have hup3:=h;clear h;have h:=ho2;clear ho2
  refine Run.block ?_
  refine R.bndS (t:=0) (by rfl) (fun hbd8=>?_)
  replace hbd8:b0.length≤9223372036854775807:=by first | (rw [List.length_map] at hbd8;exact hbd8) | simp
  refine R.lp (β:=Int) [(0,.slice (b0.map int)),(1,.slice (b1.map int))] [] (fun bb S=>(5,int bb)::S) (fun bb M=>M) (fun n bb=>0≤bb∧bb+n=(b0.length:Int)∧M0n b1 (b0.drop bb.toNat) bb=some o2) b0.length (0:Int) ⟨Int.le_refl _,by simp,h⟩ ?_
  clear h
  rintro JJ8 n8 z9 hag8 ⟨hza8,hzb8,h⟩
  refine Run.seq (Run.sr (X.mv ?_))
  refine X.mv ?_
  refine X.ls elt25 ?_
  refine X.bi ?_
  refine X.nil ?_
  refine R.cd (fun hc12=>?_) (fun hc12=>?_)
  ·obtain ⟨x10,xs11,hd8,hx8,hds8,hlt8⟩:=A0k hza8 hc12
   rw [hd8] at h
   rw [M0n] at h
   refine Run.skip (Run.seq (Run.block (Run.seq (Run.draw (B0m []) mixed (by kernel_rfl) (by kernel_rfl) ?_))))
   refine X.mv ?_
   refine X.mv ?_
   refine X.ix elt25 (A0a hx8).1 (A0c int hx8) ?_
   refine X.lc shp3 ?_
   refine X.mv ?_
   refine X.mv ?_
   obtain ⟨v13,hv13,h⟩:=bindE h
   refine X.ix elt25 (A0a hv13).1 (A0c int hv13) ?_
   refine X.lc shp3 ?_
   refine X.bi ?_
   refine X.nil ?_
   refine R.cd (fun hc14=>?_) (fun hc14=>?_)
   ·replace h:=condT hc14 h
    refine Run.sr (X.an ?_)
    cases h
    have h:=hup3
    replace h:=elimR h
    cases h
    refine R.f1 Tryz.results34 ?_
    rfl
   replace h:=condF hc14 h
   refine Run.skip (Run.blk (Run.reg (X.mv ?_)))
   refine X.ad ?_
   refine X.an ?_
   exact R.ag hag8 (n8 - 1) (z9+1) (R.n3 (by first | (rw [hds8];exact h) | (dsimp only;rw [hds8];exact h)))
  rw [A0h hza8 hc12] at h
  rw [M0n] at h
  refine Run.exit (by rfl) ?_
  exact R.mt hmeet4 () (Option.some.inj h)
 rintro p15 rfl
 replace h:=elimL h
 refine Run.sr (X.an ?_)
 cases h
 refine R.f1 Tryz.results34 ?_
 rfl
theorem L1i (b0:TMode)(b1:TMode)(r:Bool)(h:Y0e b0 b1=some r):PC Tryz.prog 144 [B0f b0,B0f b1] (bool r):=by
 unfold Y0e at h
 refine PC.start Tryz.func144 Tryz.ntmps144 rfl ok144 rfl ?_
 refine Run.sr (X.bx ?_)
 refine X.bx ?_
 refine X.an ?_
 refine Run.seq (Run.sr (X.fl N0k ?_))
 refine X.ld shp3 ?_
 refine X.fl N0k ?_
 refine X.ld shp3 ?_
 refine X.bi ?_
 refine X.nil ?_
 refine R.cd (fun hc1=>?_) (fun hc1=>?_)
 ·replace h:=condT hc1 h
  refine Run.sr (X.an ?_)
  cases h
  refine R.f1 Tryz.results144 ?_
  rfl
 replace h:=condF hc1 h
 refine Run.skip (Run.seq (Run.sr (X.fl S0d ?_)))
 refine X.ld shp25 ?_
 refine X.fl S0d ?_
 refine X.ld shp25 ?_
 obtain ⟨v2,hv2,h⟩:=bindE h
 refine X.cp (U0f _ _ _ hv2) ?_
 refine X.un (h:=?_)
 refine X.nil ?_
 refine R.cd (fun hc3=>?_) (fun hc3=>?_)
 ·replace h:=condT hc3 h
  refine Run.sr (X.an ?_)
  cases h
  refine R.f1 Tryz.results144 ?_
  rfl
 replace h:=condF hc3 h
 refine Run.skip (Run.seq (Run.sr (X.fl V0q ?_)))
 refine X.ld shp25 ?_
 refine X.fl V0q ?_
 refine X.ld shp25 ?_
 obtain ⟨v4,hv4,h⟩:=bindE h
 refine X.cp (U0f _ _ _ hv4) ?_
 refine X.un (h:=?_)
 refine X.nil ?_
 refine R.cd (fun hc5=>?_) (fun hc5=>?_)
 ·replace h:=condT hc5 h
  refine Run.sr (X.an ?_)
  cases h
  refine R.f1 Tryz.results144 ?_
  rfl
 replace h:=condF hc5 h
 refine Run.skip (Run.sr (X.an ?_))
 cases h
 refine R.f1 Tryz.results144 ?_
 rfl
theorem J1a (b0:List TMode)(b1:List TMode)(r:Bool)(h:X0l b0 b1=some r):PC Tryz.prog 112 [.slice (b0.map B0f),.slice (b1.map B0f)] (bool r):=by
 unfold X0l at h
 refine PC.start Tryz.func112 Tryz.ntmps112 rfl ok112 rfl ?_
 refine Run.sr (X.an ?_)
 refine Run.seq (Run.sr (X.mv ?_))
 refine X.ls elt65 ?_
 refine X.mv ?_
 refine X.ls elt65 ?_
 refine X.bi ?_
 refine X.nil ?_
 refine R.cd (fun hc1=>?_) (fun hc1=>?_)
 ·replace h:=condT hc1 h
  refine Run.sr (X.an ?_)
  cases h
  refine R.f1 Tryz.results112 ?_
  rfl
 replace h:=condF hc1 h
 refine Run.skip (Run.seq (Run.sr (X.an ?_)))
 obtain ⟨o2,ho2,h⟩:=bindE h
 refine R.join2 (β:=Unit) [] [] (fun p16 S=>S) (fun p16 M=>M) (fun p16=>(Sum.inl p16)=o2) ?_ ?_
 ·intro JJ5 hmeet4
  have hup3:=h;clear h;have h:=ho2;clear ho2
  refine Run.block ?_
  refine R.bndS (t:=0) (by rfl) (fun hbd8=>?_)
  replace hbd8:b0.length≤9223372036854775807:=by first | (rw [List.length_map] at hbd8;exact hbd8) | simp
  refine R.lp (β:=Int) [(0,.slice (b0.map B0f)),(1,.slice (b1.map B0f))] [] (fun bb S=>(5,int bb)::S) (fun bb M=>M) (fun n bb=>0≤bb∧bb+n=(b0.length:Int)∧L0a b1 (b0.drop bb.toNat) bb=some o2) b0.length (0:Int) ⟨Int.le_refl _,by simp,h⟩ ?_
  clear h
  rintro JJ8 n8 z9 hag8 ⟨hza8,hzb8,h⟩
  refine Run.seq (Run.sr (X.mv ?_))
  refine X.mv ?_
  refine X.ls elt65 ?_
  refine X.bi ?_
  refine X.nil ?_
  refine R.cd (fun hc12=>?_) (fun hc12=>?_)
  ·obtain ⟨x10,xs11,hd8,hx8,hds8,hlt8⟩:=A0k hza8 hc12
   rw [hd8] at h
   rw [L0a] at h
   refine Run.skip (Run.seq (Run.block (Run.seq (Run.draw (B0m []) mixed (by kernel_rfl) (by kernel_rfl) ?_))))
   refine X.mv ?_
   refine X.mv ?_
   refine X.ix elt65 (A0a hx8).1 (A0c B0f hx8) ?_
   refine X.lc K0p ?_
   refine X.mv ?_
   refine X.mv ?_
   obtain ⟨v13,hv13,h⟩:=bindE h
   refine X.ix elt65 (A0a hv13).1 (A0c B0f hv13) ?_
   refine X.lc K0p ?_
   obtain ⟨v14,hv14,h⟩:=bindE h
   refine X.cp (L1i _ _ _ hv14) ?_
   refine X.un (h:=?_)
   refine X.nil ?_
   refine R.cd (fun hc15=>?_) (fun hc15=>?_)
   ·replace h:=condT hc15 h
    refine Run.sr (X.an ?_)
    cases h
    have h:=hup3
    replace h:=elimR h
    cases h
    refine R.f1 Tryz.results112 ?_
    rfl
   replace h:=condF hc15 h
   refine Run.skip (Run.blk (Run.reg (X.mv ?_)))
   refine X.ad ?_
   refine X.an ?_
   exact R.ag hag8 (n8 - 1) (z9+1) (R.n3 (by first | (rw [hds8];exact h) | (dsimp only;rw [hds8];exact h)))
  rw [A0h hza8 hc12] at h
  rw [L0a] at h
  refine Run.exit (by rfl) ?_
  exact R.mt hmeet4 () (Option.some.inj h)
 rintro p16 rfl
 replace h:=elimL h
 refine Run.sr (X.an ?_)
 cases h
 refine R.f1 Tryz.results112 ?_
 rfl
theorem D1g (b0:A0f)(b1:A0f)(r:Bool)(h:P0o b0 b1=some r):PC Tryz.prog 70 [A0d b0,A0d b1] (bool r):=by
 unfold P0o at h
 refine PC.start Tryz.func70 Tryz.ntmps70 rfl ok70 rfl ?_
 refine Run.sr (X.bx ?_)
 refine X.bx ?_
 refine X.an ?_
 refine Run.seq (Run.sr (X.fl T0r ?_))
 refine X.ld shp9 ?_
 refine X.fl T0r ?_
 refine X.ld shp9 ?_
 refine X.bi ?_
 refine X.nil ?_
 refine R.cd (fun hc1=>?_) (fun hc1=>?_)
 ·replace h:=condT hc1 h
  refine Run.sr (X.an ?_)
  cases h
  refine R.f1 Tryz.results70 ?_
  rfl
 replace h:=condF hc1 h
 refine Run.skip (Run.seq (Run.sr (X.fl T0u ?_)))
 refine X.ld shp3 ?_
 refine X.fl T0u ?_
 refine X.ld shp3 ?_
 refine X.bi ?_
 refine X.nil ?_
 refine R.cd (fun hc2=>?_) (fun hc2=>?_)
 ·replace h:=condT hc2 h
  refine Run.sr (X.an ?_)
  cases h
  refine R.f1 Tryz.results70 ?_
  rfl
 replace h:=condF hc2 h
 refine Run.skip (Run.seq (Run.sr (X.fl Q0e ?_)))
 refine X.ld shp65 ?_
 refine X.fl Q0e ?_
 refine X.ld shp65 ?_
 obtain ⟨v3,hv3,h⟩:=bindE h
 refine X.cp (J1a _ _ _ hv3) ?_
 refine X.un (h:=?_)
 refine X.nil ?_
 refine R.cd (fun hc4=>?_) (fun hc4=>?_)
 ·replace h:=condT hc4 h
  refine Run.sr (X.an ?_)
  cases h
  refine R.f1 Tryz.results70 ?_
  rfl
 replace h:=condF hc4 h
 refine Run.skip (Run.sr (X.an ?_))
 cases h
 refine R.f1 Tryz.results70 ?_
 rfl
theorem B1u (b0:List A0f)(b1:List A0f)(r:Bool)(h:Q0o b0 b1=some r):PC Tryz.prog 31 [.slice (b0.map A0d),.slice (b1.map A0d)] (bool r):=by
 unfold Q0o at h
 refine PC.start Tryz.func31 Tryz.ntmps31 rfl ok31 rfl ?_
 refine Run.sr (X.an ?_)
 refine Run.seq (Run.sr (X.mv ?_))
 refine X.ls elt30 ?_
 refine X.mv ?_
 refine X.ls elt30 ?_
 refine X.bi ?_
 refine X.nil ?_
 refine R.cd (fun hc1=>?_) (fun hc1=>?_)
 ·replace h:=condT hc1 h
  refine Run.sr (X.an ?_)
  cases h
  refine R.f1 Tryz.results31 ?_
  rfl
 replace h:=condF hc1 h
 refine Run.skip (Run.seq (Run.sr (X.an ?_)))
 obtain ⟨o2,ho2,h⟩:=bindE h
 refine R.join2 (β:=Unit) [] [] (fun p16 S=>S) (fun p16 M=>M) (fun p16=>(Sum.inl p16)=o2) ?_ ?_
 ·intro JJ5 hmeet4
  have hup3:=h;clear h;have h:=ho2;clear ho2
  refine Run.block ?_
  refine R.bndS (t:=0) (by rfl) (fun hbd8=>?_)
  replace hbd8:b0.length≤9223372036854775807:=by first | (rw [List.length_map] at hbd8;exact hbd8) | simp
  refine R.lp (β:=Int) [(0,.slice (b0.map A0d)),(1,.slice (b1.map A0d))] [] (fun bb S=>(5,int bb)::S) (fun bb M=>M) (fun n bb=>0≤bb∧bb+n=(b0.length:Int)∧F0y b1 (b0.drop bb.toNat) bb=some o2) b0.length (0:Int) ⟨Int.le_refl _,by simp,h⟩ ?_
  clear h
  rintro JJ8 n8 z9 hag8 ⟨hza8,hzb8,h⟩
  refine Run.seq (Run.sr (X.mv ?_))
  refine X.mv ?_
  refine X.ls elt30 ?_
  refine X.bi ?_
  refine X.nil ?_
  refine R.cd (fun hc12=>?_) (fun hc12=>?_)
  ·obtain ⟨x10,xs11,hd8,hx8,hds8,hlt8⟩:=A0k hza8 hc12
   rw [hd8] at h
   rw [F0y] at h
   refine Run.skip (Run.seq (Run.block (Run.seq (Run.draw (B0m []) mixed (by kernel_rfl) (by kernel_rfl) ?_))))
   refine X.mv ?_
   refine X.mv ?_
   refine X.ix elt30 (A0a hx8).1 (A0c A0d hx8) ?_
   refine X.lc shp67 ?_
   refine X.mv ?_
   refine X.mv ?_
   obtain ⟨v13,hv13,h⟩:=bindE h
   refine X.ix elt30 (A0a hv13).1 (A0c A0d hv13) ?_
   refine X.lc shp67 ?_
   obtain ⟨v14,hv14,h⟩:=bindE h
   refine X.cp (D1g _ _ _ hv14) ?_
   refine X.un (h:=?_)
   refine X.nil ?_
   refine R.cd (fun hc15=>?_) (fun hc15=>?_)
   ·replace h:=condT hc15 h
    refine Run.sr (X.an ?_)
    cases h
    have h:=hup3
    replace h:=elimR h
    cases h
    refine R.f1 Tryz.results31 ?_
    rfl
   replace h:=condF hc15 h
   refine Run.skip (Run.blk (Run.reg (X.mv ?_)))
   refine X.ad ?_
   refine X.an ?_
   exact R.ag hag8 (n8 - 1) (z9+1) (R.n3 (by first | (rw [hds8];exact h) | (dsimp only;rw [hds8];exact h)))
  rw [A0h hza8 hc12] at h
  rw [F0y] at h
  refine Run.exit (by rfl) ?_
  exact R.mt hmeet4 () (Option.some.inj h)
 rintro p16 rfl
 replace h:=elimL h
 refine Run.sr (X.an ?_)
 cases h
 refine R.f1 Tryz.results31 ?_
 rfl
theorem M1c (b0:TLink)(b1:TLink)(r:Bool)(h:Z0b b0 b1=some r):PC Tryz.prog 71 [A0l b0,A0l b1] (bool r):=by
 unfold Z0b at h
 refine PC.start Tryz.func71 Tryz.ntmps71 rfl ok71 rfl ?_
 refine Run.sr (X.bx ?_)
 refine X.bx ?_
 refine X.an ?_
 refine Run.seq (Run.sr (X.fl J0y ?_))
 refine X.ld shp3 ?_
 refine X.fl J0y ?_
 refine X.ld shp3 ?_
 refine X.bi ?_
 refine X.nil ?_
 refine R.cd (fun hc1=>?_) (fun hc1=>?_)
 ·replace h:=condT hc1 h
  refine Run.sr (X.an ?_)
  cases h
  refine R.f1 Tryz.results71 ?_
  rfl
 replace h:=condF hc1 h
 refine Run.skip (Run.seq (Run.sr (X.fl L0o ?_)))
 refine X.ld shp3 ?_
 refine X.fl L0o ?_
 refine X.ld shp3 ?_
 refine X.bi ?_
 refine X.nil ?_
 refine R.cd (fun hc2=>?_) (fun hc2=>?_)
 ·replace h:=condT hc2 h
  refine Run.sr (X.an ?_)
  cases h
  refine R.f1 Tryz.results71 ?_
  rfl
 replace h:=condF hc2 h
 refine Run.skip (Run.seq (Run.sr (X.fl C1h ?_)))
 refine X.ld shp4 ?_
 refine X.fl C1h ?_
 refine X.ld shp4 ?_
 refine X.neqBool Tryz.underlying4 (by rfl) (by rfl) (by rfl) ?_
 refine X.nil ?_
 refine R.cd (fun hc3=>?_) (fun hc3=>?_)
 ·replace h:=condT hc3 h
  refine Run.sr (X.an ?_)
  cases h
  refine R.f1 Tryz.results71 ?_
  rfl
 replace h:=condF hc3 h
 refine Run.skip (Run.seq (Run.sr (X.fl T0l ?_)))
 refine X.ld shp3 ?_
 refine X.fl T0l ?_
 refine X.ld shp3 ?_
 refine X.bi ?_
 refine X.nil ?_
 refine R.cd (fun hc4=>?_) (fun hc4=>?_)
 ·replace h:=condT hc4 h
  refine Run.sr (X.an ?_)
  cases h
  refine R.f1 Tryz.results71 ?_
  rfl
 replace h:=condF hc4 h
 refine Run.skip (Run.sr (X.an ?_))
 cases h
 refine R.f1 Tryz.results71 ?_
 rfl
theorem H1p (b0:List TLink)(b1:List TLink)(r:Bool)(h:Y0r b0 b1=some r):PC Tryz.prog 32 [.slice (b0.map A0l),.slice (b1.map A0l)] (bool r):=by
 unfold Y0r at h
 refine PC.start Tryz.func32 Tryz.ntmps32 rfl ok32 rfl ?_
 refine Run.sr (X.an ?_)
 refine Run.seq (Run.sr (X.mv ?_))
 refine X.ls elt31 ?_
 refine X.mv ?_
 refine X.ls elt31 ?_
 refine X.bi ?_
 refine X.nil ?_
 refine R.cd (fun hc1=>?_) (fun hc1=>?_)
 ·replace h:=condT hc1 h
  refine Run.sr (X.an ?_)
  cases h
  refine R.f1 Tryz.results32 ?_
  rfl
 replace h:=condF hc1 h
 refine Run.skip (Run.seq (Run.sr (X.an ?_)))
 obtain ⟨o2,ho2,h⟩:=bindE h
 refine R.join2 (β:=Unit) [] [] (fun p16 S=>S) (fun p16 M=>M) (fun p16=>(Sum.inl p16)=o2) ?_ ?_
 ·intro JJ5 hmeet4
  have hup3:=h;clear h;have h:=ho2;clear ho2
  refine Run.block ?_
  refine R.bndS (t:=0) (by rfl) (fun hbd8=>?_)
  replace hbd8:b0.length≤9223372036854775807:=by first | (rw [List.length_map] at hbd8;exact hbd8) | simp
  refine R.lp (β:=Int) [(0,.slice (b0.map A0l)),(1,.slice (b1.map A0l))] [] (fun bb S=>(5,int bb)::S) (fun bb M=>M) (fun n bb=>0≤bb∧bb+n=(b0.length:Int)∧K0x b1 (b0.drop bb.toNat) bb=some o2) b0.length (0:Int) ⟨Int.le_refl _,by simp,h⟩ ?_
  clear h
  rintro JJ8 n8 z9 hag8 ⟨hza8,hzb8,h⟩
  refine Run.seq (Run.sr (X.mv ?_))
  refine X.mv ?_
  refine X.ls elt31 ?_
  refine X.bi ?_
  refine X.nil ?_
  refine R.cd (fun hc12=>?_) (fun hc12=>?_)
  ·obtain ⟨x10,xs11,hd8,hx8,hds8,hlt8⟩:=A0k hza8 hc12
   rw [hd8] at h
   rw [K0x] at h
   refine Run.skip (Run.seq (Run.block (Run.seq (Run.draw (B0m []) mixed (by kernel_rfl) (by kernel_rfl) ?_))))
   refine X.mv ?_
   refine X.mv ?_
   refine X.ix elt31 (A0a hx8).1 (A0c A0l hx8) ?_
   refine X.lc shp75 ?_
   refine X.mv ?_
   refine X.mv ?_
   obtain ⟨v13,hv13,h⟩:=bindE h
   refine X.ix elt31 (A0a hv13).1 (A0c A0l hv13) ?_
   refine X.lc shp75 ?_
   obtain ⟨v14,hv14,h⟩:=bindE h
   refine X.cp (M1c _ _ _ hv14) ?_
   refine X.un (h:=?_)
   refine X.nil ?_
   refine R.cd (fun hc15=>?_) (fun hc15=>?_)
   ·replace h:=condT hc15 h
    refine Run.sr (X.an ?_)
    cases h
    have h:=hup3
    replace h:=elimR h
    cases h
    refine R.f1 Tryz.results32 ?_
    rfl
   replace h:=condF hc15 h
   refine Run.skip (Run.blk (Run.reg (X.mv ?_)))
   refine X.ad ?_
   refine X.an ?_
   exact R.ag hag8 (n8 - 1) (z9+1) (R.n3 (by first | (rw [hds8];exact h) | (dsimp only;rw [hds8];exact h)))
  rw [A0h hza8 hc12] at h
  rw [K0x] at h
  refine Run.exit (by rfl) ?_
  exact R.mt hmeet4 () (Option.some.inj h)
 rintro p16 rfl
 replace h:=elimL h
 refine Run.sr (X.an ?_)
 cases h
 refine R.f1 Tryz.results32 ?_
 rfl
theorem K1s (b0:TStep)(b1:TStep)(r:Bool)(h:Y0a b0 b1=some r):PC Tryz.prog 145 [B0e b0,B0e b1] (bool r):=by
 unfold Y0a at h
 refine PC.start Tryz.func145 Tryz.ntmps145 rfl ok145 rfl ?_
 refine Run.sr (X.bx ?_)
 refine X.bx ?_
 refine X.an ?_
 refine Run.seq (Run.sr (X.fl J0w ?_))
 refine X.ld shp3 ?_
 refine X.fl J0w ?_
 refine X.ld shp3 ?_
 refine X.bi ?_
 refine X.nil ?_
 refine R.cd (fun hc1=>?_) (fun hc1=>?_)
 ·replace h:=condT hc1 h
  refine Run.sr (X.an ?_)
  cases h
  refine R.f1 Tryz.results145 ?_
  rfl
 replace h:=condF hc1 h
 refine Run.skip (Run.seq (Run.sr (X.fl T0w ?_)))
 refine X.ld shp3 ?_
 refine X.fl T0w ?_
 refine X.ld shp3 ?_
 refine X.bi ?_
 refine X.nil ?_
 refine R.cd (fun hc2=>?_) (fun hc2=>?_)
 ·replace h:=condT hc2 h
  refine Run.sr (X.an ?_)
  cases h
  refine R.f1 Tryz.results145 ?_
  rfl
 replace h:=condF hc2 h
 refine Run.skip (Run.sr (X.an ?_))
 cases h
 refine R.f1 Tryz.results145 ?_
 rfl
theorem K1l (b0:List TStep)(b1:List TStep)(r:Bool)(h:X0m b0 b1=some r):PC Tryz.prog 113 [.slice (b0.map B0e),.slice (b1.map B0e)] (bool r):=by
 unfold X0m at h
 refine PC.start Tryz.func113 Tryz.ntmps113 rfl ok113 rfl ?_
 refine Run.sr (X.an ?_)
 refine Run.seq (Run.sr (X.mv ?_))
 refine X.ls elt70 ?_
 refine X.mv ?_
 refine X.ls elt70 ?_
 refine X.bi ?_
 refine X.nil ?_
 refine R.cd (fun hc1=>?_) (fun hc1=>?_)
 ·replace h:=condT hc1 h
  refine Run.sr (X.an ?_)
  cases h
  refine R.f1 Tryz.results113 ?_
  rfl
 replace h:=condF hc1 h
 refine Run.skip (Run.seq (Run.sr (X.an ?_)))
 obtain ⟨o2,ho2,h⟩:=bindE h
 refine R.join2 (β:=Unit) [] [] (fun p16 S=>S) (fun p16 M=>M) (fun p16=>(Sum.inl p16)=o2) ?_ ?_
 ·intro JJ5 hmeet4
  have hup3:=h;clear h;have h:=ho2;clear ho2
  refine Run.block ?_
  refine R.bndS (t:=0) (by rfl) (fun hbd8=>?_)
  replace hbd8:b0.length≤9223372036854775807:=by first | (rw [List.length_map] at hbd8;exact hbd8) | simp
  refine R.lp (β:=Int) [(0,.slice (b0.map B0e)),(1,.slice (b1.map B0e))] [] (fun bb S=>(5,int bb)::S) (fun bb M=>M) (fun n bb=>0≤bb∧bb+n=(b0.length:Int)∧L0k b1 (b0.drop bb.toNat) bb=some o2) b0.length (0:Int) ⟨Int.le_refl _,by simp,h⟩ ?_
  clear h
  rintro JJ8 n8 z9 hag8 ⟨hza8,hzb8,h⟩
  refine Run.seq (Run.sr (X.mv ?_))
  refine X.mv ?_
  refine X.ls elt70 ?_
  refine X.bi ?_
  refine X.nil ?_
  refine R.cd (fun hc12=>?_) (fun hc12=>?_)
  ·obtain ⟨x10,xs11,hd8,hx8,hds8,hlt8⟩:=A0k hza8 hc12
   rw [hd8] at h
   rw [L0k] at h
   refine Run.skip (Run.seq (Run.block (Run.seq (Run.draw (B0m []) mixed (by kernel_rfl) (by kernel_rfl) ?_))))
   refine X.mv ?_
   refine X.mv ?_
   refine X.ix elt70 (A0a hx8).1 (A0c B0e hx8) ?_
   refine X.lc S0e ?_
   refine X.mv ?_
   refine X.mv ?_
   obtain ⟨v13,hv13,h⟩:=bindE h
   refine X.ix elt70 (A0a hv13).1 (A0c B0e hv13) ?_
   refine X.lc S0e ?_
   obtain ⟨v14,hv14,h⟩:=bindE h
   refine X.cp (K1s _ _ _ hv14) ?_
   refine X.un (h:=?_)
   refine X.nil ?_
   refine R.cd (fun hc15=>?_) (fun hc15=>?_)
   ·replace h:=condT hc15 h
    refine Run.sr (X.an ?_)
    cases h
    have h:=hup3
    replace h:=elimR h
    cases h
    refine R.f1 Tryz.results113 ?_
    rfl
   replace h:=condF hc15 h
   refine Run.skip (Run.blk (Run.reg (X.mv ?_)))
   refine X.ad ?_
   refine X.an ?_
   exact R.ag hag8 (n8 - 1) (z9+1) (R.n3 (by first | (rw [hds8];exact h) | (dsimp only;rw [hds8];exact h)))
  rw [A0h hza8 hc12] at h
  rw [L0k] at h
  refine Run.exit (by rfl) ?_
  exact R.mt hmeet4 () (Option.some.inj h)
 rintro p16 rfl
 replace h:=elimL h
 refine Run.sr (X.an ?_)
 cases h
 refine R.f1 Tryz.results113 ?_
 rfl
theorem H1z (b0:List (List Int))(b1:List (List Int))(r:Bool)(h:Z0c b0 b1=some r):PC Tryz.prog 114 [.slice (b0.map l_int),.slice (b1.map l_int)] (bool r):=by
 unfold Z0c at h
 refine PC.start Tryz.func114 Tryz.ntmps114 rfl ok114 rfl ?_
 refine Run.sr (X.an ?_)
 refine Run.seq (Run.sr (X.mv ?_))
 refine X.ls elt61 ?_
 refine X.mv ?_
 refine X.ls elt61 ?_
 refine X.bi ?_
 refine X.nil ?_
 refine R.cd (fun hc1=>?_) (fun hc1=>?_)
 ·replace h:=condT hc1 h
  refine Run.sr (X.an ?_)
  cases h
  refine R.f1 Tryz.results114 ?_
  rfl
 replace h:=condF hc1 h
 refine Run.skip (Run.seq (Run.sr (X.an ?_)))
 obtain ⟨o2,ho2,h⟩:=bindE h
 refine R.join2 (β:=Unit) [] [] (fun p16 S=>S) (fun p16 M=>M) (fun p16=>(Sum.inl p16)=o2) ?_ ?_
 ·intro JJ5 hmeet4
  have hup3:=h;clear h;have h:=ho2;clear ho2
  refine Run.block ?_
  refine R.bndS (t:=0) (by rfl) (fun hbd8=>?_)
  replace hbd8:b0.length≤9223372036854775807:=by first | (rw [List.length_map] at hbd8;exact hbd8) | simp
  refine R.lp (β:=Int) [(0,.slice (b0.map l_int)),(1,.slice (b1.map l_int))] [] (fun bb S=>(5,int bb)::S) (fun bb M=>M) (fun n bb=>0≤bb∧bb+n=(b0.length:Int)∧L0j b1 (b0.drop bb.toNat) bb=some o2) b0.length (0:Int) ⟨Int.le_refl _,by simp,h⟩ ?_
  clear h
  rintro JJ8 n8 z9 hag8 ⟨hza8,hzb8,h⟩
  refine Run.seq (Run.sr (X.mv ?_))
  refine X.mv ?_
  refine X.ls elt61 ?_
  refine X.bi ?_
  refine X.nil ?_
  refine R.cd (fun hc12=>?_) (fun hc12=>?_)
  ·obtain ⟨x10,xs11,hd8,hx8,hds8,hlt8⟩:=A0k hza8 hc12
   rw [hd8] at h
   rw [L0j] at h
   refine Run.skip (Run.seq (Run.block (Run.seq (Run.draw (B0m []) mixed (by kernel_rfl) (by kernel_rfl) ?_))))
   refine X.mv ?_
   refine X.mv ?_
   refine X.ix elt61 (A0a hx8).1 (A0c l_int hx8) ?_
   refine X.lc shp25 ?_
   refine X.mv ?_
   refine X.mv ?_
   obtain ⟨v13,hv13,h⟩:=bindE h
   refine X.ix elt61 (A0a hv13).1 (A0c l_int hv13) ?_
   refine X.lc shp25 ?_
   obtain ⟨v14,hv14,h⟩:=bindE h
   refine X.cp (U0f _ _ _ hv14) ?_
   refine X.un (h:=?_)
   refine X.nil ?_
   refine R.cd (fun hc15=>?_) (fun hc15=>?_)
   ·replace h:=condT hc15 h
    refine Run.sr (X.an ?_)
    cases h
    have h:=hup3
    replace h:=elimR h
    cases h
    refine R.f1 Tryz.results114 ?_
    rfl
   replace h:=condF hc15 h
   refine Run.skip (Run.blk (Run.reg (X.mv ?_)))
   refine X.ad ?_
   refine X.an ?_
   exact R.ag hag8 (n8 - 1) (z9+1) (R.n3 (by first | (rw [hds8];exact h) | (dsimp only;rw [hds8];exact h)))
  rw [A0h hza8 hc12] at h
  rw [L0j] at h
  refine Run.exit (by rfl) ?_
  exact R.mt hmeet4 () (Option.some.inj h)
 rintro p16 rfl
 replace h:=elimL h
 refine Run.sr (X.an ?_)
 cases h
 refine R.f1 Tryz.results114 ?_
 rfl
theorem D1q (b0:A0q)(b1:A0q)(r:Bool)(h:P0t b0 b1=some r):PC Tryz.prog 72 [A0e b0,A0e b1] (bool r):=by
 unfold P0t at h
 refine PC.start Tryz.func72 Tryz.ntmps72 rfl ok72 rfl ?_
 refine Run.sr (X.bx ?_)
 refine X.bx ?_
 refine X.an ?_
 refine Run.seq (Run.sr (X.fl X0g ?_))
 refine X.ld shp70 ?_
 refine X.fl X0g ?_
 refine X.ld shp70 ?_
 obtain ⟨v1,hv1,h⟩:=bindE h
 refine X.cp (K1l _ _ _ hv1) ?_
 refine X.un (h:=?_)
 refine X.nil ?_
 refine R.cd (fun hc2=>?_) (fun hc2=>?_)
 ·replace h:=condT hc2 h
  refine Run.sr (X.an ?_)
  cases h
  refine R.f1 Tryz.results72 ?_
  rfl
 replace h:=condF hc2 h
 refine Run.skip (Run.seq (Run.sr (X.fl N0z ?_)))
 refine X.ld shp61 ?_
 refine X.fl N0z ?_
 refine X.ld shp61 ?_
 obtain ⟨v3,hv3,h⟩:=bindE h
 refine X.cp (H1z _ _ _ hv3) ?_
 refine X.un (h:=?_)
 refine X.nil ?_
 refine R.cd (fun hc4=>?_) (fun hc4=>?_)
 ·replace h:=condT hc4 h
  refine Run.sr (X.an ?_)
  cases h
  refine R.f1 Tryz.results72 ?_
  rfl
 replace h:=condF hc4 h
 refine Run.skip (Run.sr (X.an ?_))
 cases h
 refine R.f1 Tryz.results72 ?_
 rfl
theorem B1x (b0:List A0q)(b1:List A0q)(r:Bool)(h:Q0i b0 b1=some r):PC Tryz.prog 33 [.slice (b0.map A0e),.slice (b1.map A0e)] (bool r):=by
 unfold Q0i at h
 refine PC.start Tryz.func33 Tryz.ntmps33 rfl ok33 rfl ?_
 refine Run.sr (X.an ?_)
 refine Run.seq (Run.sr (X.mv ?_))
 refine X.ls elt32 ?_
 refine X.mv ?_
 refine X.ls elt32 ?_
 refine X.bi ?_
 refine X.nil ?_
 refine R.cd (fun hc1=>?_) (fun hc1=>?_)
 ·replace h:=condT hc1 h
  refine Run.sr (X.an ?_)
  cases h
  refine R.f1 Tryz.results33 ?_
  rfl
 replace h:=condF hc1 h
 refine Run.skip (Run.seq (Run.sr (X.an ?_)))
 obtain ⟨o2,ho2,h⟩:=bindE h
 refine R.join2 (β:=Unit) [] [] (fun p16 S=>S) (fun p16 M=>M) (fun p16=>(Sum.inl p16)=o2) ?_ ?_
 ·intro JJ5 hmeet4
  have hup3:=h;clear h;have h:=ho2;clear ho2
  refine Run.block ?_
  refine R.bndS (t:=0) (by rfl) (fun hbd8=>?_)
  replace hbd8:b0.length≤9223372036854775807:=by first | (rw [List.length_map] at hbd8;exact hbd8) | simp
  refine R.lp (β:=Int) [(0,.slice (b0.map A0e)),(1,.slice (b1.map A0e))] [] (fun bb S=>(5,int bb)::S) (fun bb M=>M) (fun n bb=>0≤bb∧bb+n=(b0.length:Int)∧G0c b1 (b0.drop bb.toNat) bb=some o2) b0.length (0:Int) ⟨Int.le_refl _,by simp,h⟩ ?_
  clear h
  rintro JJ8 n8 z9 hag8 ⟨hza8,hzb8,h⟩
  refine Run.seq (Run.sr (X.mv ?_))
  refine X.mv ?_
  refine X.ls elt32 ?_
  refine X.bi ?_
  refine X.nil ?_
  refine R.cd (fun hc12=>?_) (fun hc12=>?_)
  ·obtain ⟨x10,xs11,hd8,hx8,hds8,hlt8⟩:=A0k hza8 hc12
   rw [hd8] at h
   rw [G0c] at h
   refine Run.skip (Run.seq (Run.block (Run.seq (Run.draw (B0m []) mixed (by kernel_rfl) (by kernel_rfl) ?_))))
   refine X.mv ?_
   refine X.mv ?_
   refine X.ix elt32 (A0a hx8).1 (A0c A0e hx8) ?_
   refine X.lc shp72 ?_
   refine X.mv ?_
   refine X.mv ?_
   obtain ⟨v13,hv13,h⟩:=bindE h
   refine X.ix elt32 (A0a hv13).1 (A0c A0e hv13) ?_
   refine X.lc shp72 ?_
   obtain ⟨v14,hv14,h⟩:=bindE h
   refine X.cp (D1q _ _ _ hv14) ?_
   refine X.un (h:=?_)
   refine X.nil ?_
   refine R.cd (fun hc15=>?_) (fun hc15=>?_)
   ·replace h:=condT hc15 h
    refine Run.sr (X.an ?_)
    cases h
    have h:=hup3
    replace h:=elimR h
    cases h
    refine R.f1 Tryz.results33 ?_
    rfl
   replace h:=condF hc15 h
   refine Run.skip (Run.blk (Run.reg (X.mv ?_)))
   refine X.ad ?_
   refine X.an ?_
   exact R.ag hag8 (n8 - 1) (z9+1) (R.n3 (by first | (rw [hds8];exact h) | (dsimp only;rw [hds8];exact h)))
  rw [A0h hza8 hc12] at h
  rw [G0c] at h
  refine Run.exit (by rfl) ?_
  exact R.mt hmeet4 () (Option.some.inj h)
 rintro p16 rfl
 replace h:=elimL h
 refine Run.sr (X.an ?_)
 cases h
 refine R.f1 Tryz.results33 ?_
 rfl
theorem F1l (b0:A0b)(b1:A0b)(r:Bool)(h:R0l b0 b1=some r):PC Tryz.prog 8 [A0n b0,A0n b1] (bool r):=by
 unfold R0l at h
 refine PC.start Tryz.func8 Tryz.ntmps8 rfl ok8 rfl ?_
 refine Run.sr (X.bx ?_)
 refine X.bx ?_
 refine X.an ?_
 refine Run.seq (Run.sr (X.fl W0y ?_))
 refine X.ld shp3 ?_
 refine X.fl W0y ?_
 refine X.ld shp3 ?_
 refine X.bi ?_
 refine X.nil ?_
 refine R.cd (fun hc1=>?_) (fun hc1=>?_)
 ·replace h:=condT hc1 h
  refine Run.sr (X.an ?_)
  cases h
  refine R.f1 Tryz.results8 ?_
  rfl
 replace h:=condF hc1 h
 refine Run.skip (Run.seq (Run.sr (X.fl B0l ?_)))
 refine X.ld shp30 ?_
 refine X.fl B0l ?_
 refine X.ld shp30 ?_
 obtain ⟨v2,hv2,h⟩:=bindE h
 refine X.cp (B1u _ _ _ hv2) ?_
 refine X.un (h:=?_)
 refine X.nil ?_
 refine R.cd (fun hc3=>?_) (fun hc3=>?_)
 ·replace h:=condT hc3 h
  refine Run.sr (X.an ?_)
  cases h
  refine R.f1 Tryz.results8 ?_
  rfl
 replace h:=condF hc3 h
 refine Run.skip (Run.seq (Run.sr (X.fl J0h ?_)))
 refine X.ld shp31 ?_
 refine X.fl J0h ?_
 refine X.ld shp31 ?_
 obtain ⟨v4,hv4,h⟩:=bindE h
 refine X.cp (H1p _ _ _ hv4) ?_
 refine X.un (h:=?_)
 refine X.nil ?_
 refine R.cd (fun hc5=>?_) (fun hc5=>?_)
 ·replace h:=condT hc5 h
  refine Run.sr (X.an ?_)
  cases h
  refine R.f1 Tryz.results8 ?_
  rfl
 replace h:=condF hc5 h
 refine Run.skip (Run.seq (Run.sr (X.fl H0o ?_)))
 refine X.ld shp32 ?_
 refine X.fl H0o ?_
 refine X.ld shp32 ?_
 obtain ⟨v6,hv6,h⟩:=bindE h
 refine X.cp (B1x _ _ _ hv6) ?_
 refine X.un (h:=?_)
 refine X.nil ?_
 refine R.cd (fun hc7=>?_) (fun hc7=>?_)
 ·replace h:=condT hc7 h
  refine Run.sr (X.an ?_)
  cases h
  refine R.f1 Tryz.results8 ?_
  rfl
 replace h:=condF hc7 h
 refine Run.skip (Run.seq (Run.sr (X.fl T0n ?_)))
 refine X.ld shp25 ?_
 refine X.fl T0n ?_
 refine X.ld shp25 ?_
 obtain ⟨v8,hv8,h⟩:=bindE h
 refine X.cp (U0f _ _ _ hv8) ?_
 refine X.un (h:=?_)
 refine X.nil ?_
 refine R.cd (fun hc9=>?_) (fun hc9=>?_)
 ·replace h:=condT hc9 h
  refine Run.sr (X.an ?_)
  cases h
  refine R.f1 Tryz.results8 ?_
  rfl
 replace h:=condF hc9 h
 refine Run.skip (Run.sr (X.an ?_))
 cases h
 refine R.f1 Tryz.results8 ?_
 rfl
theorem w_FnExactFormatBounds_pc (b0:A0b)(r:Bool)(h:w_FnExactFormatBounds b0=some r):PC Tryz.prog 3 [A0n b0] (bool r):=by
 unfold w_FnExactFormatBounds at h
 refine PC.start Tryz.func3 Tryz.ntmps3 rfl ok3 rfl ?_
 refine Run.sr (X.bx ?_)
 refine X.an ?_
 refine Run.sr (X.an ?_)
 refine Run.sr (X.ld shp27 ?_)
 refine X.mv ?_
 obtain ⟨v1,hv1,h⟩:=bindE h
 refine X.cp (F1m _ _ _ hv1) ?_
 refine X.an ?_
 refine Run.seq (Run.sr (X.mv ?_))
 refine X.bi ?_
 refine X.nil ?_
 refine R.cd (fun hc2=>?_) (fun hc2=>?_)
 ·replace h:=condT hc2 h
  refine Run.sr (X.an ?_)
  cases h
  refine R.f1 Tryz.results3 ?_
  rfl
 replace h:=condF hc2 h
 refine Run.skip (Run.sr (X.ld shp27 ?_))
 obtain ⟨v3,hv3,h⟩:=bindE h
 refine X.callA (PC.ofY (ps:=[A0n b0]) (S0q _ _ hv3) (by rfl) (by rfl)) (by rfl) (by rfl) (by rfl) (by trivial) (by rfl) (by rfl) (by rfl) (by rfl) (by rfl) (by rfl) ?_
 obtain ⟨v4,hv4,h⟩:=bindE h
 refine X.cp (A1n _ _ hv4) ?_
 refine X.an ?_
 refine Run.sr (X.ld shp27 ?_)
 obtain ⟨v5,hv5,h⟩:=bindE h
 refine X.callA (PC.ofY (ps:=[A0n b0]) (S0q _ _ hv5) (by rfl) (by rfl)) (by rfl) (by rfl) (by rfl) (by trivial) (by rfl) (by rfl) (by rfl) (by rfl) (by rfl) (by rfl) ?_
 refine X.alloc zer34 (h:=?_)
 refine X.sl shp34 ?_
 refine X.nil (Run.sr (X.ld shp34 ?_))
 obtain ⟨v6,hv6,h⟩:=bindE h
 refine X.cp (A1a _ _ hv6) ?_
 refine X.an ?_
 refine Run.seq (Run.sr (X.mv ?_))
 refine X.mv ?_
 refine X.bi ?_
 refine X.nil ?_
 refine R.cd (fun hc7=>?_) (fun hc7=>?_)
 ·replace h:=condT hc7 h
  refine Run.sr (X.an ?_)
  cases h
  refine R.f1 Tryz.results3 ?_
  rfl
 replace h:=condF hc7 h
 refine Run.skip (Run.seq (Run.seq (Run.draw (B0m [(0,([320],[],[],[])),(1,([64],[],[],[])),(2,([],[1536,1537,1538,1539],[],[])),(3,([1024,1025,1026,1027,1536,1537,1538,1539],[],[],[]))]) mixed (by kernel_rfl) (by kernel_rfl) ?_)))
 refine X.ld shp34 ?_
 refine X.ld shp27 ?_
 obtain ⟨v8,hv8,h⟩:=bindE h
 refine X.callA (PC.ofY (ps:=[A0n b0]) (S0q _ _ hv8) (by rfl) (by rfl)) (by rfl) (by rfl) (by rfl) (by trivial) (by rfl) (by rfl) (by rfl) (by rfl) (by rfl) (by rfl) ?_
 obtain ⟨v9,hv9,h⟩:=bindE h
 refine X.cp (F1l _ _ _ hv9) ?_
 refine X.un (h:=?_)
 refine X.nil ?_
 refine R.cd (fun hc10=>?_) (fun hc10=>?_)
 ·replace h:=condT hc10 h
  refine Run.sr (X.an ?_)
  cases h
  refine R.f1 Tryz.results3 ?_
  rfl
 replace h:=condF hc10 h
 refine Run.skip (Run.sr (X.an ?_))
 cases h
 refine R.f1 Tryz.results3 ?_
 rfl
end Go.Px.YthmahbejodhanaaGreatDoor
