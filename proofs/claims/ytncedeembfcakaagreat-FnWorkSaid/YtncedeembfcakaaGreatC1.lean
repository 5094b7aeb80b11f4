/-
  PROVED: contracts of functions of the program over pure values. No condition beyond those that each theorem names.
-/
import Derived.Test.YtncedeembfcakaaGreatProg
import Derived.Test.YtncedeembfcakaaGreatD1
namespace Go.Px.YtncedeembfcakaaGreat
set_option linter.unusedSimpArgs false
set_option linter.unusedVariables false
open Go.Px Go.Proofs
theorem elt22:eltOf Tryz.prog 22=some (5,1,1):=by kernel_rfl
theorem zer28:G0f Tryz.prog 28=some [.lit (.int .i64 0),.nils,.nils,.nils,.nils]:=by kernel_rfl
theorem shp5:shp Tryz.prog 5=some (false,1):=by kernel_rfl
theorem zer69:G0f Tryz.prog 69=some [.nils,.lit (.int .i64 0),.lit (.int .i64 0)]:=by kernel_rfl
theorem pl69:F0h Tryz.prog 69=some [(0,1),(1,1),(2,1)]:=by kernel_rfl
theorem M0l:C0u Tryz.prog 69 2=some 2:=by kernel_rfl
theorem shp3:shp Tryz.prog 3=some (false,1):=by kernel_rfl
theorem mixed:Tryz.prog.follows .mixedOrders=true:=by kernel_rfl
theorem Y0b:C0u Tryz.prog 69 1=some 1:=by kernel_rfl
theorem C1q:C0u Tryz.prog 69 0=some 0:=by kernel_rfl
theorem shp22:shp Tryz.prog 22=some (false,1):=by kernel_rfl
theorem pl28:F0h Tryz.prog 28=some [(0,1),(1,1),(2,1),(3,1),(4,1)]:=by kernel_rfl
theorem shp28:shp Tryz.prog 28=some (true,5):=by kernel_rfl
theorem T0r:G0f Tryz.prog 120=some [.lit (.int .i64 0),.lit (.int .i64 0)]:=by kernel_rfl
theorem pl120:F0h Tryz.prog 120=some [(0,1),(1,1)]:=by kernel_rfl
theorem elt62:eltOf Tryz.prog 62=some (120,2,16):=by kernel_rfl
theorem H0s:C0u Tryz.prog 120 0=some 0:=by kernel_rfl
theorem zer64:G0f Tryz.prog 64=some [.nils,.nils]:=by kernel_rfl
theorem pl64:F0h Tryz.prog 64=some [(0,1),(1,1)]:=by kernel_rfl
theorem shp64:shp Tryz.prog 64=some (true,2):=by kernel_rfl
theorem elt30:eltOf Tryz.prog 30=some (26,1,24):=by kernel_rfl
theorem zer26:G0f Tryz.prog 26=some [.nils]:=by kernel_rfl
theorem elt26:eltOf Tryz.prog 26=some (3,1,8):=by kernel_rfl
theorem zer3:G0f Tryz.prog 3=some [.lit (.int .i64 0)]:=by kernel_rfl
theorem N0u:C0u Tryz.prog 64 1=some 1:=by kernel_rfl
theorem shp30:shp Tryz.prog 30=some (false,1):=by kernel_rfl
theorem G0s:C0u Tryz.prog 28 3=some 3:=by kernel_rfl
theorem shp25:shp Tryz.prog 25=some (false,1):=by kernel_rfl
theorem elt25:eltOf Tryz.prog 25=some (64,2,48):=by kernel_rfl
theorem M0q:C0u Tryz.prog 28 4=some 4:=by kernel_rfl
theorem shp26:shp Tryz.prog 26=some (false,1):=by kernel_rfl
theorem B0z:C0u Tryz.prog 28 1=some 1:=by kernel_rfl
theorem shp23:shp Tryz.prog 23=some (false,1):=by kernel_rfl
theorem elt23:eltOf Tryz.prog 23=some (50,3,48):=by kernel_rfl
theorem zer50:G0f Tryz.prog 50=some [.lit (.string ByteArray.empty),.lit (.int .i64 0),.nils]:=by kernel_rfl
theorem D1y:eltOf Tryz.prog 142=some (9,1,16):=by kernel_rfl
theorem zer9:G0f Tryz.prog 9=some [.lit (.string ByteArray.empty)]:=by kernel_rfl
theorem shp9:shp Tryz.prog 9=some (false,1):=by kernel_rfl
theorem pl50:F0h Tryz.prog 50=some [(0,1),(1,1),(2,1)]:=by kernel_rfl
theorem shp50:shp Tryz.prog 50=some (true,3):=by kernel_rfl
theorem zer47:G0f Tryz.prog 47=some [.lit (.int .i64 0),.nils,.nils]:=by kernel_rfl
theorem pl47:F0h Tryz.prog 47=some [(0,1),(1,1),(2,1)]:=by kernel_rfl
theorem shp47:shp Tryz.prog 47=some (true,3):=by kernel_rfl
theorem N0n:C0u Tryz.prog 47 1=some 1:=by kernel_rfl
theorem V0d:C0u Tryz.prog 47 2=some 2:=by kernel_rfl
theorem H0v:C0u Tryz.prog 50 2=some 2:=by kernel_rfl
theorem shp48:shp Tryz.prog 48=some (false,1):=by kernel_rfl
theorem elt48:eltOf Tryz.prog 48=some (47,3,56):=by kernel_rfl
theorem W0x:G0f Tryz.prog 101=some [.lit (.int .i64 0),.lit (.int .i64 0),.lit (.bool false),.lit (.int .i64 0)]:=by kernel_rfl
theorem pl101:F0h Tryz.prog 101=some [(0,1),(1,1),(2,1),(3,1)]:=by kernel_rfl
theorem T0p:shp Tryz.prog 101=some (true,4):=by kernel_rfl
theorem Q0i:C0u Tryz.prog 101 1=some 1:=by kernel_rfl
theorem N0r:C0u Tryz.prog 101 0=some 0:=by kernel_rfl
theorem P0n:C0u Tryz.prog 28 2=some 2:=by kernel_rfl
theorem shp24:shp Tryz.prog 24=some (false,1):=by kernel_rfl
theorem elt24:eltOf Tryz.prog 24=some (101,4,32):=by kernel_rfl
theorem zer32:G0f Tryz.prog 32=some [.nils,.nils,.nils]:=by kernel_rfl
theorem V0r:C0u Tryz.prog 28 0=some 0:=by kernel_rfl
theorem R0f:C0u Tryz.prog 47 0=some 0:=by kernel_rfl
theorem T0h:C0u Tryz.prog 50 0=some 0:=by kernel_rfl
theorem X0i:C0u Tryz.prog 50 1=some 1:=by kernel_rfl
theorem N0g:C0u Tryz.prog 64 0=some 0:=by kernel_rfl
theorem shp62:shp Tryz.prog 62=some (false,1):=by kernel_rfl
theorem W0y:shp Tryz.prog 120=some (true,2):=by kernel_rfl
theorem X0u:C0u Tryz.prog 120 1=some 1:=by kernel_rfl
theorem X0r:C0u Tryz.prog 101 3=some 3:=by kernel_rfl
theorem pl32:F0h Tryz.prog 32=some [(0,1),(1,1),(2,1)]:=by kernel_rfl
theorem shp32:shp Tryz.prog 32=some (true,3):=by kernel_rfl
theorem H0a:C0u Tryz.prog 32 0=some 0:=by kernel_rfl
theorem G0b:C0u Tryz.prog 32 1=some 1:=by kernel_rfl
theorem H0n:C0u Tryz.prog 32 2=some 2:=by kernel_rfl
theorem zer74:G0f Tryz.prog 74=some [.lit (.int .i64 0),.lit (.int .i64 0),.lit (.int .i64 0)]:=by kernel_rfl
theorem pl74:F0h Tryz.prog 74=some [(0,1),(1,1),(2,1)]:=by kernel_rfl
theorem U0w:C0u Tryz.prog 74 1=some 1:=by kernel_rfl
theorem E1j:C0u Tryz.prog 74 2=some 2:=by kernel_rfl
theorem E1e:C0u Tryz.prog 74 0=some 0:=by kernel_rfl
theorem zer35:G0f Tryz.prog 35=some [.nils,.nils]:=by kernel_rfl
theorem pl35:F0h Tryz.prog 35=some [(0,1),(1,1)]:=by kernel_rfl
theorem shp35:shp Tryz.prog 35=some (true,2):=by kernel_rfl
theorem F0b:C0u Tryz.prog 35 0=some 0:=by kernel_rfl
theorem N0f:C0u Tryz.prog 35 1=some 1:=by kernel_rfl
theorem ok69:okFn Tryz.prog 69=true:=by kernel_rfl
theorem ok119:okFn Tryz.prog 119=true:=by kernel_rfl
theorem ok106:okFn Tryz.prog 106=true:=by kernel_rfl
theorem ok107:okFn Tryz.prog 107=true:=by kernel_rfl
theorem ok70:okFn Tryz.prog 70=true:=by kernel_rfl
theorem ok34:okFn Tryz.prog 34=true:=by kernel_rfl
theorem ok35:okFn Tryz.prog 35=true:=by kernel_rfl
theorem ok78:okFn Tryz.prog 78=true:=by kernel_rfl
theorem ok76:okFn Tryz.prog 76=true:=by kernel_rfl
theorem ok43:okFn Tryz.prog 43=true:=by kernel_rfl
theorem ok40:okFn Tryz.prog 40=true:=by kernel_rfl
theorem ok80:okFn Tryz.prog 80=true:=by kernel_rfl
theorem ok79:okFn Tryz.prog 79=true:=by kernel_rfl
theorem ok77:okFn Tryz.prog 77=true:=by kernel_rfl
theorem ok45:okFn Tryz.prog 45=true:=by kernel_rfl
theorem ok36:okFn Tryz.prog 36=true:=by kernel_rfl
theorem ok37:okFn Tryz.prog 37=true:=by kernel_rfl
theorem ok71:okFn Tryz.prog 71=true:=by kernel_rfl
theorem D1s:fldAt Tryz.prog 47 0=some (3,0):=by kernel_rfl
theorem ok44:okFn Tryz.prog 44=true:=by kernel_rfl
theorem ok75:okFn Tryz.prog 75=true:=by kernel_rfl
theorem ok73:okFn Tryz.prog 73=true:=by kernel_rfl
theorem ok42:okFn Tryz.prog 42=true:=by kernel_rfl
theorem X0t:fldAt Tryz.prog 47 1=some (26,1):=by kernel_rfl
theorem ok38:okFn Tryz.prog 38=true:=by kernel_rfl
theorem ok10:okFn Tryz.prog 10=true:=by kernel_rfl
theorem ok46:okFn Tryz.prog 46=true:=by kernel_rfl
theorem zer53:G0f Tryz.prog 53=some [.lit (.int .i64 0),.lit (.int .i64 0),.lit (.int .i64 0),.lit (.int .i64 0)]:=by kernel_rfl
theorem pl53:F0h Tryz.prog 53=some [(0,1),(1,1),(2,1),(3,1)]:=by kernel_rfl
theorem shp53:shp Tryz.prog 53=some (true,4):=by kernel_rfl
theorem B1u:C0u Tryz.prog 53 0=some 0:=by kernel_rfl
theorem H0y:C0u Tryz.prog 53 1=some 1:=by kernel_rfl
theorem K0f:C0u Tryz.prog 53 2=some 2:=by kernel_rfl
theorem L0v:C0u Tryz.prog 53 3=some 3:=by kernel_rfl
theorem ok81:okFn Tryz.prog 81=true:=by kernel_rfl
theorem ok82:okFn Tryz.prog 82=true:=by kernel_rfl
theorem ok47:okFn Tryz.prog 47=true:=by kernel_rfl
theorem D1n:C0u Tryz.prog 101 2=some 2:=by kernel_rfl
theorem shp4:shp Tryz.prog 4=some (false,1):=by kernel_rfl
theorem ok83:okFn Tryz.prog 83=true:=by kernel_rfl
theorem ok84:okFn Tryz.prog 84=true:=by kernel_rfl
theorem ok26:okFn Tryz.prog 26=true:=by kernel_rfl
theorem ok108:okFn Tryz.prog 108=true:=by kernel_rfl
theorem ok85:okFn Tryz.prog 85=true:=by kernel_rfl
theorem D1d:fldAt Tryz.prog 47 2=some (26,2):=by kernel_rfl
theorem ok86:okFn Tryz.prog 86=true:=by kernel_rfl
theorem ok48:okFn Tryz.prog 48=true:=by kernel_rfl
theorem ok18:okFn Tryz.prog 18=true:=by kernel_rfl
theorem N0w (b0:List Int)(r:A0m)(h:L0j b0=some r):PCB Tryz.prog 27 [.slice (b0.map e_u8)] [.slice (r.b.map e_u8),int r.i,int r.h]:=by
 unfold L0j at h
 refine PCB.start Tryz.func27 Tryz.ntmps27 rfl (by kernel_rfl) (by rfl) (by rfl) ?_
 refine Run.sr (X.assignU (by rfl) ?_)
 refine X.nil (Run.sr (X.mv ?_))
 refine X.ls elt22 ?_
 refine X.addW (h:=?_)
 refine X.an ?_
 refine Run.seq (Run.sr (X.an ?_))
 obtain ⟨o1,ho1,h⟩:=bindE h
 refine R.join2 (β:=Int) [(0,.slice (b0.map e_u8))] [] (fun p14 S=>(3,int p14)::S) (fun p14 M=>M) (fun p14=>p14=o1) ?_ ?_
 ·intro JJ4 hmeet3
  have hup2:=h;clear h;have h:=ho1;clear ho1
  refine Run.block ?_
  refine R.lp (β:=Int×Int) [(0,.slice (b0.map e_u8))] [] (fun bb S=>(3,int bb.1)::(4,int bb.2)::S) (fun bb M=>M) (fun n bb=>J0b b0 n bb.1 bb.2=some o1) F0 ((W (1950+(b0.length:Int))),0) h ?_
  clear h
  rintro JJ4 n4 ⟨a6,a7⟩ hag4 h
  dsimp only at h
  obtain _ | n4:=n4
  ·exact absurd h (by simp [J0b])
  rw [J0b] at h
  refine Run.seq (Run.seq ?_)
  obtain ⟨e10,he10,h2⟩:=bindE h
  refine R.regG [(0,.slice (b0.map e_u8)),(3,int a6),(4,int a7),(15,bool e10)] [] ?_ ?_
  ·clear h;have h:=he10;clear he10 h2
   refine X.mv ?_
   refine X.mv ?_
   refine X.ls elt22 ?_
   refine X.bi ?_
   refine X.mv ?_
   refine X.iG (fun hb11=>?_) (fun hb11=>?_)
   ·replace h:=condT hb11 h
    refine X.mv ?_
    refine X.gy (X.bi ?_)
    refine X.pT ?_
    cases h
    exact X.eG
   replace h:=condF hb11 h
   refine X.gn (X.pF ?_)
   cases h
   exact X.eG
  replace h:=h2;clear h2
  refine R.cd (fun hc12=>?_) (fun hc12=>?_)
  ·replace h:=condT hc12 h
   refine Run.skip (Run.seq (Run.block (Run.reg (X.mv ?_))))
   refine X.mulW (by rfl) (by rfl) (by rfl) ?_
   refine X.mv ?_
   refine X.mv ?_
   obtain ⟨v13,hv13,h⟩:=bindE h
   refine X.ix elt22 (A0d hv13).1 (A0e e_u8 hv13) ?_
   refine X.lc shp5 ?_
   refine X.conv Tryz.underlying3 (by rw [Tryz.underlying5];rfl) (by rfl) (by rfl) ?_
   refine X.addW (h:=?_)
   refine X.addW (h:=?_)
   refine X.bits (by rfl) (by rfl) (by rfl) (by rfl) ?_
   refine X.an ?_
   refine Run.blk (Run.reg (X.mv ?_))
   refine X.addW (h:=?_)
   refine X.an ?_
   exact hag4 n4 ((IntKind.wrap .i64 (((BitVec.ofInt (IntKind.bits .i64) (W ((W ((W (a6*59))+(IntKind.i64.wrap v13)))+7)) &&& BitVec.ofInt (IntKind.bits .i64) 1073741823).toNat:Nat):Int)),(W (a7+1))) _ _ (by omega) h (by trivial) (by trivial) (by rfl) (by rfl)
  replace h:=condF hc12 h
  refine Run.exit (by rfl) ?_
  exact R.mt hmeet3 a6 (Option.some.inj h)
 rintro p14 rfl
 refine Run.sr (X.mv ?_)
 refine X.mv ?_
 refine X.build zer69 pl69 (by rfl) (by rfl) (by repeat (first | trivial | refine ⟨by first | rfl | simp [setL],?_⟩)) (by rfl) (by rfl) (by rfl) ?_
 refine X.bx ?_
 refine X.an ?_
 cases h
 exact R.finB Tryz.results27 (by rfl) (by rfl)
theorem K0u (b0:A0m)(r:Int×A0m)(h:J0t b0=some r):PCM Tryz.prog 61 [.lptr 63 0] [(63,.blk true [.slice (b0.b.map e_u8),int b0.i,int b0.h])] (int r.1) [(63,.blk true [.slice (r.2.b.map e_u8),int r.2.i,int r.2.h])]:=by
 unfold J0t at h
 refine PCM.start Tryz.func61 Tryz.ntmps61 rfl (by kernel_rfl) rfl (by rfl) (by rfl) (by rfl) (by rfl) (by rfl) ?_
 refine Run.sr (X.an ?_)
 refine Run.sr (X.mv ?_)
 refine X.mv ?_
 refine X.nilChk (by rfl) (by rfl) (by rfl) ?_
 refine X.fl M0l ?_
 refine X.ld shp3 ?_
 refine X.mulW (by rfl) (by rfl) (by rfl) ?_
 refine X.addW (h:=?_)
 refine X.nilChk (by rfl) (by rfl) (by rfl) ?_
 refine X.fl M0l ?_
 refine X.sl shp3 ?_
 refine X.nil (Run.seq (Run.draw2 (B0r [(3,([63],[],[],[])),(8,([63],[],[],[]))]) mixed (by kernel_rfl) (by kernel_rfl) ?_))
 refine X.mv ?_
 refine X.nilChk (by rfl) (by rfl) (by rfl) ?_
 refine X.fl M0l ?_
 refine X.ld shp3 ?_
 refine X.shr (by rfl) (by rfl) (by decide) (by rfl) ?_
 refine X.mv ?_
 refine X.nilChk (by rfl) (by rfl) (by rfl) ?_
 refine X.fl M0l ?_
 refine X.ld shp3 ?_
 refine X.shr (by rfl) (by rfl) (by decide) (by rfl) ?_
 refine X.bits (by rfl) (by rfl) (by rfl) (by rfl) ?_
 refine X.bits (by rfl) (by rfl) (by rfl) (by rfl) ?_
 refine X.an ?_
 refine Run.seq (Run.seq (Run.draw2 (B0r [(3,([63],[],[],[])),(7,([63],[],[],[]))]) mixed (by kernel_rfl) (by kernel_rfl) ?_))
 refine X.mv ?_
 refine X.nilChk (by rfl) (by rfl) (by rfl) ?_
 refine X.fl Y0b ?_
 refine X.ld shp3 ?_
 refine X.mv ?_
 refine X.nilChk (by rfl) (by rfl) (by rfl) ?_
 refine X.fl C1q ?_
 refine X.ld shp22 ?_
 refine X.ls elt22 ?_
 refine X.bi ?_
 refine X.nil ?_
 refine R.cd (fun hc1=>?_) (fun hc1=>?_)
 ·replace h:=condT hc1 h
  refine Run.seq (Run.draw2 (B0r [(4,([63],[],[],[])),(8,([63],[],[],[]))]) mixed (by kernel_rfl) (by kernel_rfl) ?_)
  refine X.mv ?_
  refine X.mv ?_
  refine X.nilChk (by rfl) (by rfl) (by rfl) ?_
  refine X.fl C1q ?_
  refine X.ld shp22 ?_
  refine X.mv ?_
  refine X.nilChk (by rfl) (by rfl) (by rfl) ?_
  refine X.fl Y0b ?_
  refine X.ld shp3 ?_
  obtain ⟨v2,hv2,h⟩:=bindE h
  refine X.ix elt22 (A0d hv2).1 (A0e e_u8 hv2) ?_
  refine X.lc shp5 ?_
  refine X.conv Tryz.underlying3 (by rw [Tryz.underlying5];rfl) (by rfl) (by rfl) ?_
  refine X.addW (h:=?_)
  refine X.bits (by rfl) (by rfl) (by rfl) (by rfl) ?_
  refine X.an ?_
  refine Run.reg (X.mv ?_)
  refine X.mv ?_
  refine X.nilChk (by rfl) (by rfl) (by rfl) ?_
  refine X.fl Y0b ?_
  refine X.ld shp3 ?_
  refine X.addW (h:=?_)
  refine X.nilChk (by rfl) (by rfl) (by rfl) ?_
  refine X.fl Y0b ?_
  refine X.sl shp3 ?_
  refine X.nil (Run.sr (X.mv ?_))
  refine X.an ?_
  cases h
  exact R.finM1 Tryz.results61 (by rfl) (by rfl) (by repeat (first | exact trivial | refine ⟨by rfl,?_⟩)) rfl
 replace h:=condF hc1 h
 refine Run.skip (Run.sr (X.mv ?_))
 refine X.an ?_
 cases h
 exact R.finM1 Tryz.results61 (by rfl) (by rfl) (by repeat (first | exact trivial | refine ⟨by rfl,?_⟩)) rfl
theorem A0v (b0:A0m)(b1:Int)(r:Int×A0m)(h:A0p b0 b1=some r):PCM Tryz.prog 30 [.lptr 63 0,int b1] [(63,.blk true [.slice (b0.b.map e_u8),int b0.i,int b0.h])] (int r.1) [(63,.blk true [.slice (r.2.b.map e_u8),int r.2.i,int r.2.h])]:=by
 unfold A0p at h
 refine PCM.start Tryz.func30 Tryz.ntmps30 rfl (by kernel_rfl) rfl (by rfl) (by rfl) (by rfl) (by rfl) (by rfl) ?_
 refine Run.sr (X.an ?_)
 refine Run.seq (Run.sr (X.mv ?_))
 refine X.bi ?_
 refine X.nil ?_
 refine R.cd (fun hc1=>?_) (fun hc1=>?_)
 ·replace h:=condT hc1 h
  refine Run.sr (X.an ?_)
  cases h
  exact R.finM1 Tryz.results30 (by rfl) (by rfl) (by repeat (first | exact trivial | refine ⟨by rfl,?_⟩)) rfl
 replace h:=condF hc1 h
 refine Run.skip (Run.seq (Run.sr (X.mv ?_)))
 refine X.bi ?_
 refine X.nil ?_
 refine R.cd (fun hc2=>?_) (fun hc2=>?_)
 ·replace h:=condT hc2 h
  refine Run.sr (X.mv ?_)
  obtain ⟨v3,hv3,h⟩:=bindE h
  refine X.callM [(63,63)] (K0u _ _ hv3) (by rfl) (by rfl) (.lptrB 63 (by rfl) (by rfl) .nil) (by rfl) ⟨rfl,rfl,⟨_,by rfl,by constructor⟩,by constructor,trivial⟩ (by rfl) (by rfl) (by rfl) (by rfl) (by rfl) (by rfl) (by rfl) (by rfl) (by rfl) ?_
  refine X.mv ?_
  obtain ⟨v4,hv4,h⟩:=bindE h
  refine X.remN hv4 (by rfl) (by rfl) (by rfl) ?_
  refine X.an ?_
  cases h
  exact R.finM1 Tryz.results30 (by rfl) (by rfl) (by repeat (first | exact trivial | refine ⟨by rfl,?_⟩)) rfl
 replace h:=condF hc2 h
 refine Run.skip (Run.sr (X.mv ?_))
 obtain ⟨v5,hv5,h⟩:=bindE h
 refine X.callM [(63,63)] (K0u _ _ hv5) (by rfl) (by rfl) (.lptrB 63 (by rfl) (by rfl) .nil) (by rfl) ⟨rfl,rfl,⟨_,by rfl,by constructor⟩,by constructor,trivial⟩ (by rfl) (by rfl) (by rfl) (by rfl) (by rfl) (by rfl) (by rfl) (by rfl) (by rfl) ?_
 refine X.an ?_
 refine Run.sr (X.mv ?_)
 obtain ⟨v6,hv6,h⟩:=bindE h
 refine X.callM [(63,63)] (K0u _ _ hv6) (by rfl) (by rfl) (.lptrB 63 (by rfl) (by rfl) .nil) (by rfl) ⟨rfl,rfl,⟨_,by rfl,by constructor⟩,by constructor,trivial⟩ (by rfl) (by rfl) (by rfl) (by rfl) (by rfl) (by rfl) (by rfl) (by rfl) (by rfl) ?_
 refine X.an ?_
 refine Run.sr (X.mv ?_)
 obtain ⟨v7,hv7,h⟩:=bindE h
 refine X.callM [(63,63)] (K0u _ _ hv7) (by rfl) (by rfl) (.lptrB 63 (by rfl) (by rfl) .nil) (by rfl) ⟨rfl,rfl,⟨_,by rfl,by constructor⟩,by constructor,trivial⟩ (by rfl) (by rfl) (by rfl) (by rfl) (by rfl) (by rfl) (by rfl) (by rfl) (by rfl) ?_
 refine X.an ?_
 refine Run.sr (X.mv ?_)
 obtain ⟨v8,hv8,h⟩:=bindE h
 refine X.callM [(63,63)] (K0u _ _ hv8) (by rfl) (by rfl) (.lptrB 63 (by rfl) (by rfl) .nil) (by rfl) ⟨rfl,rfl,⟨_,by rfl,by constructor⟩,by constructor,trivial⟩ (by rfl) (by rfl) (by rfl) (by rfl) (by rfl) (by rfl) (by rfl) (by rfl) (by rfl) ?_
 refine X.an ?_
 refine Run.sr (X.mv ?_)
 refine X.mulW (by rfl) (by rfl) (by rfl) ?_
 refine X.mv ?_
 refine X.mulW (by rfl) (by rfl) (by rfl) ?_
 refine X.addW (h:=?_)
 refine X.mv ?_
 refine X.mulW (by rfl) (by rfl) (by rfl) ?_
 refine X.addW (h:=?_)
 refine X.mv ?_
 refine X.addW (h:=?_)
 refine X.mv ?_
 obtain ⟨v9,hv9,h⟩:=bindE h
 refine X.remN hv9 (by rfl) (by rfl) (by rfl) ?_
 refine X.an ?_
 cases h
 exact R.finM1 Tryz.results30 (by rfl) (by rfl) (by repeat (first | exact trivial | refine ⟨by rfl,?_⟩)) rfl
theorem Y0z (b0:A0m)(r:(List TStep)×A0m)(h:N0a b0=some r):PCM Tryz.prog 55 [.lptr 63 0] [(63,.blk true [.slice (b0.b.map e_u8),int b0.i,int b0.h])] (.fresh false 120 2 (r.1.map C0p)) [(63,.blk true [.slice (r.2.b.map e_u8),int r.2.i,int r.2.h])]:=by
 unfold N0a at h
 refine PCM.start Tryz.func55 Tryz.ntmps55 rfl (by kernel_rfl) rfl (by rfl) (by rfl) (by rfl) (by rfl) (by rfl) ?_
 refine Run.sr (X.an ?_)
 refine Run.sr (X.mv ?_)
 obtain ⟨v1,hv1,h⟩:=bindE h
 refine X.callM [(63,63)] (A0v _ _ _ hv1) (by rfl) (by rfl) (.lptrB 63 (by rfl) (by rfl) (.pureB (by rfl) (by repeat (first | trivial | refine ⟨by first | rfl | simp [setL],?_⟩)) .nil)) (by rfl) ⟨rfl,rfl,⟨_,by rfl,by constructor⟩,by constructor,trivial⟩ (by rfl) (by rfl) (by rfl) (by rfl) (by rfl) (by rfl) (by rfl) (by rfl) (by rfl) ?_
 refine X.addW (h:=?_)
 refine X.build T0r pl120 (by rfl) (by rfl) (by repeat (first | trivial | refine ⟨by first | rfl | simp [setL],?_⟩)) (by rfl) (by rfl) (by rfl) ?_
 refine X.buildSlice false elt62 T0r (by rfl) (by rfl) (by rfl) (by rfl) (by rfl) (by rfl) (by repeat (first | trivial | refine ⟨by first | rfl | simp [setL],?_⟩)) (A0j (by rfl)) (by rfl) (by rfl) (by rfl) ?_
 refine X.an ?_
 refine Run.seq (Run.sr (X.mv ?_))
 obtain ⟨v2,hv2,h⟩:=bindE h
 refine X.callM [(63,63)] (A0v _ _ _ hv2) (by rfl) (by rfl) (.lptrB 63 (by rfl) (by rfl) (.pureB (by rfl) (by repeat (first | trivial | refine ⟨by first | rfl | simp [setL],?_⟩)) .nil)) (by rfl) ⟨rfl,rfl,⟨_,by rfl,by constructor⟩,by constructor,trivial⟩ (by rfl) (by rfl) (by rfl) (by rfl) (by rfl) (by rfl) (by rfl) (by rfl) (by rfl) ?_
 refine X.bi ?_
 refine X.an ?_
 obtain ⟨o3,ho3,h⟩:=bindE h
 refine R.join2 (β:=(List Int)×Int×Int×(List TStep)) [] [] (fun p20 S=>(3,.own 576 (p20.2.2.2.map C0p).length)::S) (fun p20 M=>(63,.blk true [.slice (p20.1.map e_u8),int p20.2.1,int p20.2.2.1])::(576,.obj false 120 2 (p20.2.2.2.map C0p))::M) (fun p20=>p20=o3) ?_ ?_
 ·intro JJ6 hmeet5
  have hup4:=h;clear h;have h:=ho3;clear ho3
  refine Run.block ?_
  refine R.lp (β:=Int×(List Int)×Int×Int×(List TStep)) [(0,.lptr 63 0)] [] (fun bb S=>(3,.own 576 (bb.2.2.2.2.map C0p).length)::(4,int bb.1)::S) (fun bb M=>(63,.blk true [.slice (bb.2.1.map e_u8),int bb.2.2.1,int bb.2.2.2.1])::(576,.obj false 120 2 (bb.2.2.2.2.map C0p))::M) (fun n bb=>H0i n bb.1 bb.2.1 bb.2.2.1 bb.2.2.2.1 bb.2.2.2.2=some o3) F0 ((W (v2.1.tdiv 2)),v2.2.b,v2.2.i,v2.2.h,([(TStep.mk 0 (W (1+v1.1)))]:List TStep)) h ?_
  clear h
  rintro JJ6 n6 ⟨a8,a9,a10,a11,a12⟩ hag6 h
  dsimp only at h
  obtain _ | n6:=n6
  ·exact absurd h (by simp [H0i])
  rw [H0i] at h
  refine Run.seq (Run.sr (X.mv ?_))
  refine X.bi ?_
  refine X.nil ?_
  refine R.cd (fun hc15=>?_) (fun hc15=>?_)
  ·replace h:=condT hc15 h
   refine Run.skip (Run.seq (Run.block (Run.draw2 (B0r [(3,([576],[],[],[])),(5,([576],[],[],[])),(10,([63],[63],[],[])),(13,([63],[63],[],[])),(15,([2048],[2048],[],[])),(16,([576,2048],[576],[],[]))]) mixed (by kernel_rfl) (by kernel_rfl) ?_)))
   refine X.mv ?_
   refine X.mv ?_
   refine X.mv ?_
   refine X.len_o elt62 (by rfl) (by rfl) (by first | rfl | simp [setL] | omega) (by first | exact List.length_map .. | rfl) (by rfl) (by rfl) ?_
   refine X.subW (h:=?_)
   obtain ⟨v16,hv16,h⟩:=bindE h
   refine X.index_o elt62 (by rfl) (by rfl) (by first | rfl | simp [setL] | omega) (by rfl) (A0d hv16).1 (A0e C0p hv16) (by rfl) (by rfl) (by rfl) ?_
   refine X.fieldAddr_c H0s (by rfl) (by rfl) ?_
   refine X.lc shp3 ?_
   refine X.addW (h:=?_)
   refine X.mv ?_
   obtain ⟨v17,hv17,h⟩:=bindE h
   refine X.callM [(63,63)] (A0v _ _ _ hv17) (by rfl) (by rfl) (.lptrB 63 (by rfl) (by rfl) (.pureB (by rfl) (by repeat (first | trivial | refine ⟨by first | rfl | simp [setL],?_⟩)) .nil)) (by rfl) ⟨rfl,rfl,⟨_,by rfl,by constructor⟩,by constructor,trivial⟩ (by rfl) (by rfl) (by rfl) (by rfl) (by rfl) (by rfl) (by rfl) (by rfl) (by rfl) ?_
   refine X.addW (h:=?_)
   refine X.mv ?_
   obtain ⟨v18,hv18,h⟩:=bindE h
   refine X.callM [(63,63)] (A0v _ _ _ hv18) (by rfl) (by rfl) (.lptrB 63 (by rfl) (by rfl) (.pureB (by rfl) (by repeat (first | trivial | refine ⟨by first | rfl | simp [setL],?_⟩)) .nil)) (by rfl) ⟨rfl,rfl,⟨_,by rfl,by constructor⟩,by constructor,trivial⟩ (by rfl) (by rfl) (by rfl) (by rfl) (by rfl) (by rfl) (by rfl) (by rfl) (by rfl) ?_
   refine X.build T0r pl120 (by rfl) (by rfl) (by repeat (first | trivial | refine ⟨by first | rfl | simp [setL],?_⟩)) (by rfl) (by rfl) (by rfl) ?_
   refine X.buildSlice false elt62 T0r (by rfl) (by rfl) (by rfl) (by rfl) (by rfl) (by rfl) (by repeat (first | trivial | refine ⟨by first | rfl | simp [setL],?_⟩)) (A0j (by rfl)) (by rfl) (by rfl) (by rfl) ?_
   obtain ⟨v19,hv19,h⟩:=bindE h
   refine X.append elt62 T0r (by rfl) (by rfl) (by first | rfl | simp [setL] | omega) (by rfl) (.own _ _ _ _ _ _ (A0h (by rfl)) (by first | rfl | simp [setL] | omega)) (A0j (by rfl)) (D0n C0p hv19) (D0o C0p hv19) (by rfl) (by rfl) (by rfl) (by rfl) ?_
   refine X.an ?_
   refine Run.blk (Run.reg (X.mv ?_))
   refine X.subW (h:=?_)
   refine X.an ?_
   exact hag6 n6 ((W (a8 - 1)),v18.2.b,v18.2.i,v18.2.h,v19) _ _ (by omega) h (by repeat (first | trivial | refine ⟨by first | rfl | simp [setL],?_⟩)) (by repeat (first | trivial | refine ⟨by first | rfl | simp [setL],?_⟩)) (by rfl) (by rfl)
  replace h:=condF hc15 h
  refine Run.exit (by rfl) ?_
  exact R.mt hmeet5 (a9,a10,a11,a12) (Option.some.inj h)
 rintro p20 rfl
 refine Run.sr (X.mv ?_)
 refine X.an ?_
 cases h
 exact R.finM1o Tryz.results55 (by rfl) (by rfl) (by first | rfl | simp [setL] | omega) (by rfl) (by repeat (first | exact trivial | refine ⟨by rfl,?_⟩)) rfl
theorem K0n (b0:A0m)(b1:Int)(r:Bool×A0m)(h:H0k b0 b1=some r):PCM Tryz.prog 56 [.lptr 63 0,int b1] [(63,.blk true [.slice (b0.b.map e_u8),int b0.i,int b0.h])] (bool r.1) [(63,.blk true [.slice (r.2.b.map e_u8),int r.2.i,int r.2.h])]:=by
 unfold H0k at h
 refine PCM.start Tryz.func56 Tryz.ntmps56 rfl (by kernel_rfl) rfl (by rfl) (by rfl) (by rfl) (by rfl) (by rfl) ?_
 refine Run.sr (X.an ?_)
 refine Run.sr (X.mv ?_)
 refine X.mv ?_
 obtain ⟨v1,hv1,h⟩:=bindE h
 refine X.callM [(63,63)] (A0v _ _ _ hv1) (by rfl) (by rfl) (.lptrB 63 (by rfl) (by rfl) (.pureB (by rfl) (by repeat (first | trivial | refine ⟨by first | rfl | simp [setL],?_⟩)) .nil)) (by rfl) ⟨rfl,rfl,⟨_,by rfl,by constructor⟩,by constructor,trivial⟩ (by rfl) (by rfl) (by rfl) (by rfl) (by rfl) (by rfl) (by rfl) (by rfl) (by rfl) ?_
 refine X.bi ?_
 refine X.an ?_
 cases h
 exact R.finM1 Tryz.results56 (by rfl) (by rfl) (by repeat (first | exact trivial | refine ⟨by rfl,?_⟩)) rfl
theorem X0k (b0:A0m)(r:(List (List Int))×A0m)(h:M0t b0=some r):PCM Tryz.prog 57 [.lptr 63 0] [(63,.blk true [.slice (b0.b.map e_u8),int b0.i,int b0.h])] (.fresh false 26 1 (r.1.map l_int)) [(63,.blk true [.slice (r.2.b.map e_u8),int r.2.i,int r.2.h])]:=by
 unfold M0t at h
 refine PCM.start Tryz.func57 Tryz.ntmps57 rfl (by kernel_rfl) rfl (by rfl) (by rfl) (by rfl) (by rfl) (by rfl) ?_
 refine Run.sr (X.an ?_)
 refine Run.sr ?_
 refine X.buildSlice false elt30 zer26 (by rfl) (by rfl) (by rfl) (by rfl) (by rfl) (by rfl) (by repeat (first | trivial | refine ⟨by first | rfl | simp [setL],?_⟩)) (A0j (by rfl)) (by rfl) (by rfl) (by rfl) ?_
 refine X.an ?_
 refine Run.seq (Run.sr (X.an ?_))
 obtain ⟨o1,ho1,h⟩:=bindE h
 refine R.join2 (β:=(List Int)×Int×Int×(List (List Int))) [] [] (fun p39 S=>(3,.own 512 (p39.2.2.2.map l_int).length)::S) (fun p39 M=>(63,.blk true [.slice (p39.1.map e_u8),int p39.2.1,int p39.2.2.1])::(512,.obj false 26 1 (p39.2.2.2.map l_int))::M) (fun p39=>p39=o1) ?_ ?_
 ·intro JJ4 hmeet3
  have hup2:=h;clear h;have h:=ho1;clear ho1
  refine Run.block ?_
  refine R.lp (β:=Int×(List Int)×Int×Int×(List (List Int))) [(0,.lptr 63 0)] [] (fun bb S=>(3,.own 512 (bb.2.2.2.2.map l_int).length)::(4,int bb.1)::S) (fun bb M=>(63,.blk true [.slice (bb.2.1.map e_u8),int bb.2.2.1,int bb.2.2.2.1])::(512,.obj false 26 1 (bb.2.2.2.2.map l_int))::M) (fun n bb=>F0p n bb.1 bb.2.1 bb.2.2.1 bb.2.2.2.1 bb.2.2.2.2=some o1) F0 (0,b0.b,b0.i,b0.h,([]:List (List Int))) h ?_
  clear h
  rintro JJ5 n5 ⟨a7,a8,a9,a10,a11⟩ hag5 h
  dsimp only at h
  obtain _ | n5:=n5
  ·exact absurd h (by simp [F0p])
  rw [F0p] at h
  refine Run.seq (Run.sr (X.mv ?_))
  refine X.bi ?_
  refine X.nil ?_
  refine R.cd (fun hc14=>?_) (fun hc14=>?_)
  ·replace h:=condT hc14 h
   refine Run.skip (Run.seq (Run.block (Run.sr ?_)))
   refine X.buildSlice false elt26 zer3 (by rfl) (by rfl) (by rfl) (by rfl) (by rfl) (by rfl) (by repeat (first | trivial | refine ⟨by first | rfl | simp [setL],?_⟩)) (A0j (by rfl)) (by rfl) (by rfl) (by rfl) ?_
   refine X.an ?_
   refine Run.seq (Run.sr (X.an ?_))
   obtain ⟨o15,ho15,h⟩:=bindE h
   refine R.join2 (β:=(List Int)×Int×Int×(List Int)) [(0,.lptr 63 0),(4,int a7)] [(512,.obj false 26 1 (a11.map l_int))] (fun p37 S=>(3,.own 512 (a11.map l_int).length)::(5,.own 832 (p37.2.2.2.map int).length)::S) (fun p37 M=>(63,.blk true [.slice (p37.1.map e_u8),int p37.2.1,int p37.2.2.1])::(832,.obj false 3 1 (p37.2.2.2.map int))::M) (fun p37=>p37=o15) ?_ ?_
   ·intro JJ18 hmeet17
    have hup16:=h;clear h;have h:=ho15;clear ho15
    refine Run.block ?_
    refine R.lp (β:=Int×(List Int)×Int×Int×(List Int)) [(0,.lptr 63 0),(4,int a7)] [(512,.obj false 26 1 (a11.map l_int))] (fun bb S=>(3,.own 512 (a11.map l_int).length)::(5,.own 832 (bb.2.2.2.2.map int).length)::(6,int bb.1)::S) (fun bb M=>(63,.blk true [.slice (bb.2.1.map e_u8),int bb.2.2.1,int bb.2.2.2.1])::(832,.obj false 3 1 (bb.2.2.2.2.map int))::M) (fun n bb=>E0l a7 n bb.1 bb.2.1 bb.2.2.1 bb.2.2.2.1 bb.2.2.2.2=some o15) F0 (0,a8,a9,a10,([]:List Int)) h ?_
    clear h
    rintro JJ19 n19 ⟨a21,a22,a23,a24,a25⟩ hag19 h
    dsimp only at h
    obtain _ | n19:=n19
    ·exact absurd h (by simp [E0l])
    rw [E0l] at h
    refine Run.seq (Run.sr (X.mv ?_))
    refine X.bi ?_
    refine X.nil ?_
    refine R.cd (fun hc28=>?_) (fun hc28=>?_)
    ·replace h:=condT hc28 h
     refine Run.skip (Run.seq (Run.block (Run.sr (X.an ?_))))
     refine Run.seq (Run.sr (X.mv ?_))
     refine X.mv ?_
     refine X.bi ?_
     refine X.nil ?_
     obtain ⟨o29,ho29,h⟩:=bindE h
     refine R.join2 (β:=Int×(List Int)×Int×Int) [(0,.lptr 63 0),(4,int a7),(6,int a21)] [(512,.obj false 26 1 (a11.map l_int)),(832,.obj false 3 1 (a25.map int))] (fun p35 S=>(3,.own 512 (a11.map l_int).length)::(5,.own 832 (a25.map int).length)::(7,int p35.1)::S) (fun p35 M=>(63,.blk true [.slice (p35.2.1.map e_u8),int p35.2.2.1,int p35.2.2.2])::M) (fun p35=>p35=o29) ?_ ?_
     ·intro JJ32 hmeet31
      have hup30:=h;clear h;have h:=ho29;clear ho29
      refine R.cd (fun hc33=>?_) (fun hc33=>?_)
      ·replace h:=condT hc33 h
       refine Run.reg (X.mv ?_)
       obtain ⟨v34,hv34,h⟩:=bindE h
       refine X.callM [(63,63)] (A0v _ _ _ hv34) (by rfl) (by rfl) (.lptrB 63 (by rfl) (by rfl) (.pureB (by rfl) (by repeat (first | trivial | refine ⟨by first | rfl | simp [setL],?_⟩)) .nil)) (by rfl) ⟨rfl,rfl,⟨_,by rfl,by constructor⟩,by constructor,trivial⟩ (by rfl) (by rfl) (by rfl) (by rfl) (by rfl) (by rfl) (by rfl) (by rfl) (by rfl) ?_
       refine X.an ?_
       exact R.mt hmeet31 (v34.1,v34.2.b,v34.2.i,v34.2.h) (Option.some.inj h)
      replace h:=condF hc33 h
      refine Run.skip ?_
      exact R.mt hmeet31 (0,a22,a23,a24) (Option.some.inj h)
     rintro p35 rfl
     refine Run.reg (X.mv ?_)
     refine X.mv ?_
     refine X.buildSlice false elt26 zer3 (by rfl) (by rfl) (by rfl) (by rfl) (by rfl) (by rfl) (by repeat (first | trivial | refine ⟨by first | rfl | simp [setL],?_⟩)) (A0j (by rfl)) (by rfl) (by rfl) (by rfl) ?_
     obtain ⟨v36,hv36,h⟩:=bindE h
     refine X.append elt26 zer3 (by rfl) (by rfl) (by first | rfl | simp [setL] | omega) (by rfl) (.own _ _ _ _ _ _ (A0h (by rfl)) (by first | rfl | simp [setL] | omega)) (A0j (by rfl)) (D0n int hv36) (D0o int hv36) (by rfl) (by rfl) (by rfl) (by rfl) ?_
     refine X.an ?_
     refine Run.blk (Run.reg (X.mv ?_))
     refine X.addW (h:=?_)
     refine X.an ?_
     exact hag19 n19 ((W (a21+1)),p35.2.1,p35.2.2.1,p35.2.2.2,v36) _ _ (by omega) h (by repeat (first | trivial | refine ⟨by first | rfl | simp [setL],?_⟩)) (by repeat (first | trivial | refine ⟨by first | rfl | simp [setL],?_⟩)) (by rfl) (by rfl)
    replace h:=condF hc28 h
    refine Run.exit (by rfl) ?_
    exact R.mt hmeet17 (a22,a23,a24,a25) (Option.some.inj h)
   rintro p37 rfl
   refine Run.reg (X.mv ?_)
   refine X.mv ?_
   refine X.buildSlice false elt30 zer26 (by rfl) (by rfl) (by rfl) (by rfl) (by rfl) (by rfl) (by repeat (first | trivial | refine ⟨by first | rfl | simp [setL],?_⟩)) (A0j (by rfl)) (by rfl) (by rfl) (by rfl) ?_
   obtain ⟨v38,hv38,h⟩:=bindE h
   refine X.append elt30 zer26 (by rfl) (by rfl) (by first | rfl | simp [setL] | omega) (by rfl) (.own _ _ _ _ _ _ (A0h (by rfl)) (by first | rfl | simp [setL] | omega)) (A0j (by rfl)) (D0n l_int hv38) (D0o l_int hv38) (by rfl) (by rfl) (by rfl) (by rfl) ?_
   refine X.an ?_
   refine Run.blk (Run.reg (X.mv ?_))
   refine X.addW (h:=?_)
   refine X.an ?_
   exact hag5 n5 ((W (a7+1)),p37.1,p37.2.1,p37.2.2.1,v38) _ _ (by omega) h (by repeat (first | trivial | refine ⟨by first | rfl | simp [setL],?_⟩)) (by repeat (first | trivial | refine ⟨by first | rfl | simp [setL],?_⟩)) (by rfl) (by rfl)
  replace h:=condF hc14 h
  refine Run.exit (by rfl) ?_
  exact R.mt hmeet3 (a8,a9,a10,a11) (Option.some.inj h)
 rintro p39 rfl
 refine Run.sr (X.mv ?_)
 refine X.an ?_
 cases h
 exact R.finM1o Tryz.results57 (by rfl) (by rfl) (by first | rfl | simp [setL] | omega) (by rfl) (by repeat (first | exact trivial | refine ⟨by rfl,?_⟩)) rfl
theorem Y0o (b0:A0m)(b1:Int)(r:ByteArray×A0m)(h:P0s b0 b1=some r):PCM Tryz.prog 94 [.lptr 63 0,int b1] [(63,.blk true [.slice (b0.b.map e_u8),int b0.i,int b0.h])] (str r.1) [(63,.blk true [.slice (r.2.b.map e_u8),int r.2.i,int r.2.h])]:=by
 unfold P0s at h
 refine PCM.start Tryz.func94 Tryz.ntmps94 rfl (by kernel_rfl) rfl (by rfl) (by rfl) (by rfl) (by rfl) (by rfl) ?_
 refine Run.sr (X.an ?_)
 refine Run.sr ?_
 refine X.buildSlice false D1y zer9 (by rfl) (by rfl) (by rfl) (by rfl) (by rfl) (by rfl) (by repeat (first | trivial | refine ⟨by first | rfl | simp [setL],?_⟩)) (A0j (by rfl)) (by rfl) (by rfl) (by rfl) ?_
 refine X.mv ?_
 refine X.bi ?_
 obtain ⟨v1,hv1,h⟩:=bindE h
 refine X.index_o D1y (by rfl) (by rfl) (by first | rfl | simp [setL] | omega) (by rfl) (A0d hv1).1 (A0e str hv1) (by rfl) (by rfl) (by rfl) ?_
 refine X.lc shp9 ?_
 refine X.an ?_
 cases h
 exact R.finM1 Tryz.results94 (by rfl) (by rfl) (by repeat (first | exact trivial | refine ⟨by rfl,?_⟩)) rfl
theorem Z0i (b0:A0m)(b1:Int)(b2:Int)(b3:Int)(r:A0g×A0m)(h:M0v b0 b1 b2 b3=some r):PCM Tryz.prog 58 [.lptr 63 0,int b1,int b2,int b3] [(63,.blk true [.slice (b0.b.map e_u8),int b0.i,int b0.h])] (.agg [str r.1.Name,int r.1.Family,.fresh false 47 3 (r.1.Modes.map B0o)]) [(63,.blk true [.slice (r.2.b.map e_u8),int r.2.i,int r.2.h])]:=by
 unfold M0v at h
 refine PCM.start Tryz.func58 Tryz.ntmps58 rfl (by kernel_rfl) rfl (by rfl) (by rfl) (by rfl) (by rfl) (by rfl) ?_
 refine Run.sr (X.alloc zer50 (h:=?_))
 refine X.nil (Run.sr (X.mv ?_))
 refine X.mv ?_
 obtain ⟨v1,hv1,h⟩:=bindE h
 refine X.callM [(63,63)] (Y0o _ _ _ hv1) (by rfl) (by rfl) (.lptrB 63 (by rfl) (by rfl) (.pureB (by rfl) (by repeat (first | trivial | refine ⟨by first | rfl | simp [setL],?_⟩)) .nil)) (by rfl) ⟨rfl,rfl,⟨_,by rfl,by constructor⟩,by constructor,trivial⟩ (by rfl) (by rfl) (by rfl) (by rfl) (by rfl) (by rfl) (by rfl) (by rfl) (by rfl) ?_
 refine X.mv ?_
 obtain ⟨v2,hv2,h⟩:=bindE h
 refine X.callM [(63,63)] (A0v _ _ _ hv2) (by rfl) (by rfl) (.lptrB 63 (by rfl) (by rfl) (.pureB (by rfl) (by repeat (first | trivial | refine ⟨by first | rfl | simp [setL],?_⟩)) .nil)) (by rfl) ⟨rfl,rfl,⟨_,by rfl,by constructor⟩,by constructor,trivial⟩ (by rfl) (by rfl) (by rfl) (by rfl) (by rfl) (by rfl) (by rfl) (by rfl) (by rfl) ?_
 refine X.build zer50 pl50 (by rfl) (by rfl) (by repeat (first | trivial | refine ⟨by first | rfl | simp [setL],?_⟩)) (by rfl) (by rfl) (by rfl) ?_
 refine X.alloc zer50 (h:=?_)
 refine X.sl shp50 ?_
 refine X.nil (Run.seq (Run.sr (X.mv ?_)))
 obtain ⟨v3,hv3,h⟩:=bindE h
 refine X.callM [(63,63)] (A0v _ _ _ hv3) (by rfl) (by rfl) (.lptrB 63 (by rfl) (by rfl) (.pureB (by rfl) (by repeat (first | trivial | refine ⟨by first | rfl | simp [setL],?_⟩)) .nil)) (by rfl) ⟨rfl,rfl,⟨_,by rfl,by constructor⟩,by constructor,trivial⟩ (by rfl) (by rfl) (by rfl) (by rfl) (by rfl) (by rfl) (by rfl) (by rfl) (by rfl) ?_
 refine X.bi ?_
 refine X.addW (h:=?_)
 refine X.an ?_
 obtain ⟨o4,ho4,h⟩:=bindE h
 refine R.join2 (β:=(List Int)×Int×Int×(List TMode)) [(8,.lptr 512 0),(9,.lptr 576 0)] [(512,.blk true [str ByteArray.empty,int 0,.nils])] (fun p49 S=>S) (fun p49 M=>(63,.blk true [.slice (p49.1.map e_u8),int p49.2.1,int p49.2.2.1])::(576,.blk true [str v1.1,int v2.1,.own 3712 (p49.2.2.2.map B0o).length])::(3712,.obj false 47 3 (p49.2.2.2.map B0o))::M) (fun p49=>p49=o4) ?_ ?_
 ·intro JJ7 hmeet6
  have hup5:=h;clear h;have h:=ho4;clear ho4
  refine Run.block (R.nilOwnB (m:=576) 2 3712 false 47 3 (by rfl) (by rfl) (by rfl) (by rfl) (by rfl) ?_)
  refine R.lp (β:=Int×(List Int)×Int×Int×(List TMode)) [(0,.lptr 63 0),(2,int b2),(3,int b3),(8,.lptr 512 0),(9,.lptr 576 0)] [(512,.blk true [str ByteArray.empty,int 0,.nils])] (fun bb S=>(10,int bb.1)::S) (fun bb M=>(63,.blk true [.slice (bb.2.1.map e_u8),int bb.2.2.1,int bb.2.2.2.1])::(576,.blk true [str v1.1,int v2.1,.own 3712 (bb.2.2.2.2.map B0o).length])::(3712,.obj false 47 3 (bb.2.2.2.2.map B0o))::M) (fun n bb=>G0g b2 b3 n bb.1 bb.2.1 bb.2.2.1 bb.2.2.2.1 bb.2.2.2.2=some o4) F0 ((W (1+(W (v3.1.tdiv 2)))),v3.2.b,v3.2.i,v3.2.h,([]:List TMode)) h ?_
  clear h
  rintro JJ7 n7 ⟨a9,a10,a11,a12,a13⟩ hag7 h
  dsimp only at h
  obtain _ | n7:=n7
  ·exact absurd h (by simp [G0g])
  rw [G0g] at h
  refine Run.seq (Run.sr (X.mv ?_))
  refine X.bi ?_
  refine X.nil ?_
  refine R.cd (fun hc16=>?_) (fun hc16=>?_)
  ·replace h:=condT hc16 h
   refine Run.skip (Run.seq (Run.block (Run.sr (X.mv ?_))))
   obtain ⟨v17,hv17,h⟩:=bindE h
   refine X.callM [(63,63)] (A0v _ _ _ hv17) (by rfl) (by rfl) (.lptrB 63 (by rfl) (by rfl) (.pureB (by rfl) (by repeat (first | trivial | refine ⟨by first | rfl | simp [setL],?_⟩)) .nil)) (by rfl) ⟨rfl,rfl,⟨_,by rfl,by constructor⟩,by constructor,trivial⟩ (by rfl) (by rfl) (by rfl) (by rfl) (by rfl) (by rfl) (by rfl) (by rfl) (by rfl) ?_
   refine X.addW (h:=?_)
   refine X.build zer47 pl47 (by rfl) (by rfl) (by repeat (first | trivial | refine ⟨by first | rfl | simp [setL],?_⟩)) (by rfl) (by rfl) (by rfl) ?_
   refine X.alloc zer47 (h:=?_)
   refine X.sl shp47 ?_
   refine X.nil (Run.seq ?_)
   obtain ⟨o18,ho18,h⟩:=bindE h
   refine R.join2 (β:=(List Int)×Int×Int×(List Int)) [(0,.lptr 63 0),(2,int b2),(3,int b3),(8,.lptr 512 0),(9,.lptr 576 0),(10,int a9),(11,.lptr 704 0)] [(512,.blk true [str ByteArray.empty,int 0,.nils]),(3712,.obj false 47 3 (a13.map B0o))] (fun p32 S=>S) (fun p32 M=>(63,.blk true [.slice (p32.1.map e_u8),int p32.2.1,int p32.2.2.1])::(576,.blk true [str v1.1,int v2.1,.own 3712 (a13.map B0o).length])::(704,.blk true [int (W (1+v17.1)),.own 2560 (p32.2.2.2.map int).length,.nils])::(2560,.obj false 3 1 (p32.2.2.2.map int))::M) (fun p32=>p32=o18) ?_ ?_
   ·intro JJ21 hmeet20
    have hup19:=h;clear h;have h:=ho18;clear ho18
    refine Run.block (R.nilOwnB (m:=704) 1 2560 false 3 1 (by rfl) (by rfl) (by rfl) (by rfl) (by rfl) ?_)
    refine R.lp (β:=(List Int)×Int×Int×(List Int)) [(0,.lptr 63 0),(2,int b2),(3,int b3),(8,.lptr 512 0),(9,.lptr 576 0),(10,int a9),(11,.lptr 704 0)] [(512,.blk true [str ByteArray.empty,int 0,.nils]),(3712,.obj false 47 3 (a13.map B0o))] (fun bb S=>S) (fun bb M=>(63,.blk true [.slice (bb.1.map e_u8),int bb.2.1,int bb.2.2.1])::(576,.blk true [str v1.1,int v2.1,.own 3712 (a13.map B0o).length])::(704,.blk true [int (W (1+v17.1)),.own 2560 (bb.2.2.2.map int).length,.nils])::(2560,.obj false 3 1 (bb.2.2.2.map int))::M) (fun n bb=>J0l b2 n bb.1 bb.2.1 bb.2.2.1 bb.2.2.2=some o18) F0 (v17.2.b,v17.2.i,v17.2.h,([]:List Int)) h ?_
    clear h
    rintro JJ21 n21 ⟨a23,a24,a25,a26⟩ hag21 h
    dsimp only at h
    obtain _ | n21:=n21
    ·exact absurd h (by simp [J0l])
    rw [J0l] at h
    refine Run.seq (Run.sr (X.fl N0n ?_))
    refine X.ld shp26 ?_
    refine X.len_o elt26 (by rfl) (by rfl) (by first | rfl | simp [setL] | omega) (by first | exact List.length_map .. | rfl) (by rfl) (by rfl) ?_
    refine X.mv ?_
    refine X.bi ?_
    refine X.nil ?_
    refine R.cd (fun hc29=>?_) (fun hc29=>?_)
    ·replace h:=condT hc29 h
     refine Run.skip (Run.block (Run.draw2 (B0r [(1,([704],[],[],[])),(3,([63],[63],[],[])),(4,([2496],[2496],[],[])),(5,([2496,2560],[2560],[],[])),(7,([704,2560],[704],[],[]))]) mixed (by kernel_rfl) (by kernel_rfl) ?_))
     refine X.fl N0n ?_
     refine X.ld shp26 ?_
     refine X.mv ?_
     obtain ⟨v30,hv30,h⟩:=bindE h
     refine X.callM [(63,63)] (A0v _ _ _ hv30) (by rfl) (by rfl) (.lptrB 63 (by rfl) (by rfl) (.pureB (by rfl) (by repeat (first | trivial | refine ⟨by first | rfl | simp [setL],?_⟩)) .nil)) (by rfl) ⟨rfl,rfl,⟨_,by rfl,by constructor⟩,by constructor,trivial⟩ (by rfl) (by rfl) (by rfl) (by rfl) (by rfl) (by rfl) (by rfl) (by rfl) (by rfl) ?_
     refine X.buildSlice false elt26 zer3 (by rfl) (by rfl) (by rfl) (by rfl) (by rfl) (by rfl) (by repeat (first | trivial | refine ⟨by first | rfl | simp [setL],?_⟩)) (A0j (by rfl)) (by rfl) (by rfl) (by rfl) ?_
     obtain ⟨v31,hv31,h⟩:=bindE h
     refine X.append elt26 zer3 (by rfl) (by rfl) (by first | rfl | simp [setL] | omega) (by rfl) (.own _ _ _ _ _ _ (A0h (by rfl)) (by first | rfl | simp [setL] | omega)) (A0j (by rfl)) (D0n int hv31) (D0o int hv31) (by rfl) (by rfl) (by rfl) (by rfl) ?_
     refine X.fl N0n ?_
     refine X.sl shp26 ?_
     refine X.nil (Run.blk ?_)
     exact hag21 n21 (v30.2.b,v30.2.i,v30.2.h,v31) _ _ (by omega) h (by repeat (first | trivial | refine ⟨by first | rfl | simp [setL],?_⟩)) (by repeat (first | trivial | refine ⟨by first | rfl | simp [setL],?_⟩)) (by rfl) (by rfl)
    replace h:=condF hc29 h
    refine Run.exit (by rfl) ?_
    exact R.mt hmeet20 (a23,a24,a25,a26) (Option.some.inj h)
   rintro p32 rfl
   refine Run.seq ?_
   obtain ⟨o33,ho33,h⟩:=bindE h
   refine R.join2 (β:=(List Int)×Int×Int×(List Int)) [(0,.lptr 63 0),(2,int b2),(3,int b3),(8,.lptr 512 0),(9,.lptr 576 0),(10,int a9),(11,.lptr 704 0)] [(512,.blk true [str ByteArray.empty,int 0,.nils]),(3712,.obj false 47 3 (a13.map B0o)),(2560,.obj false 3 1 (p32.2.2.2.map int))] (fun p47 S=>S) (fun p47 M=>(63,.blk true [.slice (p47.1.map e_u8),int p47.2.1,int p47.2.2.1])::(576,.blk true [str v1.1,int v2.1,.own 3712 (a13.map B0o).length])::(704,.blk true [int (W (1+v17.1)),.own 2560 (p32.2.2.2.map int).length,.own 3328 (p47.2.2.2.map int).length])::(3328,.obj false 3 1 (p47.2.2.2.map int))::M) (fun p47=>p47=o33) ?_ ?_
   ·intro JJ36 hmeet35
    have hup34:=h;clear h;have h:=ho33;clear ho33
    refine Run.block (R.nilOwnB (m:=704) 2 3328 false 3 1 (by rfl) (by rfl) (by rfl) (by rfl) (by rfl) ?_)
    refine R.lp (β:=(List Int)×Int×Int×(List Int)) [(0,.lptr 63 0),(2,int b2),(3,int b3),(8,.lptr 512 0),(9,.lptr 576 0),(10,int a9),(11,.lptr 704 0)] [(512,.blk true [str ByteArray.empty,int 0,.nils]),(3712,.obj false 47 3 (a13.map B0o)),(2560,.obj false 3 1 (p32.2.2.2.map int))] (fun bb S=>S) (fun bb M=>(63,.blk true [.slice (bb.1.map e_u8),int bb.2.1,int bb.2.2.1])::(576,.blk true [str v1.1,int v2.1,.own 3712 (a13.map B0o).length])::(704,.blk true [int (W (1+v17.1)),.own 2560 (p32.2.2.2.map int).length,.own 3328 (bb.2.2.2.map int).length])::(3328,.obj false 3 1 (bb.2.2.2.map int))::M) (fun n bb=>J0k b3 n bb.1 bb.2.1 bb.2.2.1 bb.2.2.2=some o33) F0 (p32.1,p32.2.1,p32.2.2.1,([]:List Int)) h ?_
    clear h
    rintro JJ36 n36 ⟨a38,a39,a40,a41⟩ hag36 h
    dsimp only at h
    obtain _ | n36:=n36
    ·exact absurd h (by simp [J0k])
    rw [J0k] at h
    refine Run.seq (Run.sr (X.fl V0d ?_))
    refine X.ld shp26 ?_
    refine X.len_o elt26 (by rfl) (by rfl) (by first | rfl | simp [setL] | omega) (by first | exact List.length_map .. | rfl) (by rfl) (by rfl) ?_
    refine X.mv ?_
    refine X.bi ?_
    refine X.nil ?_
    refine R.cd (fun hc44=>?_) (fun hc44=>?_)
    ·replace h:=condT hc44 h
     refine Run.skip (Run.block (Run.draw2 (B0r [(1,([704],[],[],[])),(3,([63],[63],[],[])),(4,([3264],[3264],[],[])),(5,([3264,3328],[3328],[],[])),(7,([704,3328],[704],[],[]))]) mixed (by kernel_rfl) (by kernel_rfl) ?_))
     refine X.fl V0d ?_
     refine X.ld shp26 ?_
     refine X.mv ?_
     obtain ⟨v45,hv45,h⟩:=bindE h
     refine X.callM [(63,63)] (A0v _ _ _ hv45) (by rfl) (by rfl) (.lptrB 63 (by rfl) (by rfl) (.pureB (by rfl) (by repeat (first | trivial | refine ⟨by first | rfl | simp [setL],?_⟩)) .nil)) (by rfl) ⟨rfl,rfl,⟨_,by rfl,by constructor⟩,by constructor,trivial⟩ (by rfl) (by rfl) (by rfl) (by rfl) (by rfl) (by rfl) (by rfl) (by rfl) (by rfl) ?_
     refine X.buildSlice false elt26 zer3 (by rfl) (by rfl) (by rfl) (by rfl) (by rfl) (by rfl) (by repeat (first | trivial | refine ⟨by first | rfl | simp [setL],?_⟩)) (A0j (by rfl)) (by rfl) (by rfl) (by rfl) ?_
     obtain ⟨v46,hv46,h⟩:=bindE h
     refine X.append elt26 zer3 (by rfl) (by rfl) (by first | rfl | simp [setL] | omega) (by rfl) (.own _ _ _ _ _ _ (A0h (by rfl)) (by first | rfl | simp [setL] | omega)) (A0j (by rfl)) (D0n int hv46) (D0o int hv46) (by rfl) (by rfl) (by rfl) (by rfl) ?_
     refine X.fl V0d ?_
     refine X.sl shp26 ?_
     refine X.nil (Run.blk ?_)
     exact hag36 n36 (v45.2.b,v45.2.i,v45.2.h,v46) _ _ (by omega) h (by repeat (first | trivial | refine ⟨by first | rfl | simp [setL],?_⟩)) (by repeat (first | trivial | refine ⟨by first | rfl | simp [setL],?_⟩)) (by rfl) (by rfl)
    replace h:=condF hc44 h
    refine Run.exit (by rfl) ?_
    exact R.mt hmeet35 (a38,a39,a40,a41) (Option.some.inj h)
   rintro p47 rfl
   refine Run.reg (X.fl H0v ?_)
   refine X.ld shp48 ?_
   refine X.ld shp47 ?_
   refine X.buildSlice false elt48 zer47 (by rfl) (by rfl) (by rfl) (by rfl) (by rfl) (by rfl) (by repeat (first | trivial | refine ⟨by first | rfl | simp [setL],?_⟩)) (A0j (by rfl)) (by rfl) (by rfl) (by rfl) ?_
   obtain ⟨v48,hv48,h⟩:=bindE h
   refine X.append elt48 zer47 (by rfl) (by rfl) (by first | rfl | simp [setL] | omega) (by rfl) (.own _ _ _ _ _ _ (A0h (by rfl)) (by first | rfl | simp [setL] | omega)) (A0j (by rfl)) (D0n B0o hv48) (D0o B0o hv48) (by rfl) (by rfl) (by rfl) (by rfl) ?_
   refine X.fl H0v ?_
   refine X.sl shp48 ?_
   refine X.nil (Run.blk (Run.reg (X.mv ?_)))
   refine X.subW (h:=?_)
   refine X.an ?_
   exact hag7 n7 ((W (a9 - 1)),p47.1,p47.2.1,p47.2.2.1,v48) _ _ (by omega) h (by repeat (first | trivial | refine ⟨by first | rfl | simp [setL],?_⟩)) (by repeat (first | trivial | refine ⟨by first | rfl | simp [setL],?_⟩)) (by rfl) (by rfl)
  replace h:=condF hc16 h
  refine Run.exit (by rfl) ?_
  exact R.mt hmeet6 (a10,a11,a12,a13) (Option.some.inj h)
 rintro p49 rfl
 refine Run.sr (X.ld shp50 ?_)
 refine X.sl shp50 ?_
 refine X.nil ?_
 cases h
 exact R.finMC Tryz.results58 shp50 (by rfl) (by rfl) (by rfl) (by rfl) (by repeat (first | trivial | refine ⟨by first | rfl | simp [setL],?_⟩)) (by rfl) (by repeat (first | exact trivial | refine ⟨by rfl,?_⟩)) rfl
theorem Y0n (b0:A0m)(b1:Int)(r:A0a×A0m)(h:M0x b0 b1=some r):PCM Tryz.prog 28 [.lptr 63 0,int b1] [(63,.blk true [.slice (b0.b.map e_u8),int b0.i,int b0.h])] (.agg [int r.1.Deadline,.fresh false 50 3 (r.1.Activities.map A0b),.fresh false 101 4 (r.1.Links.map A0o),.fresh false 64 2 (r.1.Resources.map A0c),.fresh false 3 1 (r.1.Stocks.map int)]) [(63,.blk true [.slice (r.2.b.map e_u8),int r.2.i,int r.2.h])]:=by
 unfold M0x at h
 refine PCM.start Tryz.func28 Tryz.ntmps28 rfl (by kernel_rfl) rfl (by rfl) (by rfl) (by rfl) (by rfl) (by rfl) ?_
 refine Run.sr (X.alloc zer28 (h:=?_))
 refine X.nil (Run.sr (X.mv ?_))
 obtain ⟨v1,hv1,h⟩:=bindE h
 refine X.callM [(63,63)] (A0v _ _ _ hv1) (by rfl) (by rfl) (.lptrB 63 (by rfl) (by rfl) (.pureB (by rfl) (by repeat (first | trivial | refine ⟨by first | rfl | simp [setL],?_⟩)) .nil)) (by rfl) ⟨rfl,rfl,⟨_,by rfl,by constructor⟩,by constructor,trivial⟩ (by rfl) (by rfl) (by rfl) (by rfl) (by rfl) (by rfl) (by rfl) (by rfl) (by rfl) ?_
 refine X.addW (h:=?_)
 refine X.build zer28 pl28 (by rfl) (by rfl) (by repeat (first | trivial | refine ⟨by first | rfl | simp [setL],?_⟩)) (by rfl) (by rfl) (by rfl) ?_
 refine X.alloc zer28 (h:=?_)
 refine X.sl shp28 ?_
 refine X.nil (Run.seq (Run.sr (X.mv ?_)))
 obtain ⟨v2,hv2,h⟩:=bindE h
 refine X.callM [(63,63)] (A0v _ _ _ hv2) (by rfl) (by rfl) (.lptrB 63 (by rfl) (by rfl) (.pureB (by rfl) (by repeat (first | trivial | refine ⟨by first | rfl | simp [setL],?_⟩)) .nil)) (by rfl) ⟨rfl,rfl,⟨_,by rfl,by constructor⟩,by constructor,trivial⟩ (by rfl) (by rfl) (by rfl) (by rfl) (by rfl) (by rfl) (by rfl) (by rfl) (by rfl) ?_
 refine X.bi ?_
 refine X.addW (h:=?_)
 refine X.an ?_
 obtain ⟨o3,ho3,h⟩:=bindE h
 refine R.join2 (β:=(List Int)×Int×Int×(List B0u)) [(0,.lptr 63 0),(1,int b1),(4,.lptr 256 0),(5,.lptr 320 0)] [(256,.blk true [int 0,.nils,.nils,.nils,.nils])] (fun p26 S=>S) (fun p26 M=>(63,.blk true [.slice (p26.1.map e_u8),int p26.2.1,int p26.2.2.1])::(320,.blk true [int (W (12+v1.1)),.nils,.nils,.own 2368 (p26.2.2.2.map A0c).length,.nils])::(2368,.obj false 64 2 (p26.2.2.2.map A0c))::M) (fun p26=>p26=o3) ?_ ?_
 ·intro JJ6 hmeet5
  have hup4:=h;clear h;have h:=ho3;clear ho3
  refine Run.block (R.nilOwnB (m:=320) 3 2368 false 64 2 (by rfl) (by rfl) (by rfl) (by rfl) (by rfl) ?_)
  refine R.lp (β:=Int×(List Int)×Int×Int×(List B0u)) [(0,.lptr 63 0),(1,int b1),(4,.lptr 256 0),(5,.lptr 320 0)] [(256,.blk true [int 0,.nils,.nils,.nils,.nils])] (fun bb S=>(6,int bb.1)::S) (fun bb M=>(63,.blk true [.slice (bb.2.1.map e_u8),int bb.2.2.1,int bb.2.2.2.1])::(320,.blk true [int (W (12+v1.1)),.nils,.nils,.own 2368 (bb.2.2.2.2.map A0c).length,.nils])::(2368,.obj false 64 2 (bb.2.2.2.2.map A0c))::M) (fun n bb=>F0k n bb.1 bb.2.1 bb.2.2.1 bb.2.2.2.1 bb.2.2.2.2=some o3) F0 ((W (1+(W (v2.1.tdiv 2)))),v2.2.b,v2.2.i,v2.2.h,([]:List B0u)) h ?_
  clear h
  rintro JJ6 n6 ⟨a8,a9,a10,a11,a12⟩ hag6 h
  dsimp only at h
  obtain _ | n6:=n6
  ·exact absurd h (by simp [F0k])
  rw [F0k] at h
  refine Run.seq (Run.sr (X.mv ?_))
  refine X.bi ?_
  refine X.nil ?_
  refine R.cd (fun hc15=>?_) (fun hc15=>?_)
  ·replace h:=condT hc15 h
   refine Run.skip (Run.seq (Run.block (Run.sr (X.mv ?_))))
   obtain ⟨v16,hv16,h⟩:=bindE h
   refine X.callM [(63,63)] (Y0z _ _ hv16) (by rfl) (by rfl) (.lptrB 63 (by rfl) (by rfl) .nil) (by rfl) ⟨rfl,rfl,⟨_,by rfl,by constructor⟩,by constructor,trivial⟩ (by rfl) (by rfl) (by rfl) (by rfl) (by rfl) (by rfl) (by rfl) (by rfl) (by rfl) ?_
   refine X.build zer64 pl64 (by rfl) (by rfl) (by repeat (first | trivial | refine ⟨by first | rfl | simp [setL],?_⟩)) (by rfl) (by rfl) (by rfl) ?_
   refine X.alloc zer64 (h:=?_)
   refine X.sl shp64 ?_
   refine X.nil (Run.seq (Run.sr (X.mv ?_)))
   obtain ⟨v17,hv17,h⟩:=bindE h
   refine X.callM [(63,63)] (K0n _ _ _ hv17) (by rfl) (by rfl) (.lptrB 63 (by rfl) (by rfl) (.pureB (by rfl) (by repeat (first | trivial | refine ⟨by first | rfl | simp [setL],?_⟩)) .nil)) (by rfl) ⟨rfl,rfl,⟨_,by rfl,by constructor⟩,by constructor,trivial⟩ (by rfl) (by rfl) (by rfl) (by rfl) (by rfl) (by rfl) (by rfl) (by rfl) (by rfl) ?_
   refine X.nil ?_
   obtain ⟨o18,ho18,h⟩:=bindE h
   refine R.join2 (β:=(List Int)×Int×Int×(List (List Int))) [(0,.lptr 63 0),(1,int b1),(4,.lptr 256 0),(5,.lptr 320 0),(6,int a8),(7,.lptr 448 0)] [(256,.blk true [int 0,.nils,.nils,.nils,.nils]),(2368,.obj false 64 2 (a12.map A0c)),(1664,.obj false 120 2 (v16.1.map C0p))] (fun p24 S=>S) (fun p24 M=>(63,.blk true [.slice (p24.1.map e_u8),int p24.2.1,int p24.2.2.1])::(320,.blk true [int (W (12+v1.1)),.nils,.nils,.own 2368 (a12.map A0c).length,.nils])::(448,.blk true [.own 1664 (v16.1.map C0p).length,.own 1984 (p24.2.2.2.map l_int).length])::(1984,.obj false 26 1 (p24.2.2.2.map l_int))::M) (fun p24=>p24=o18) ?_ ?_
   ·intro JJ21 hmeet20
    have hup19:=h;clear h;have h:=ho18;clear ho18
    refine R.cd (fun hc22=>?_) (fun hc22=>?_)
    ·replace h:=condT hc22 h
     refine Run.reg (X.mv ?_)
     obtain ⟨v23,hv23,h⟩:=bindE h
     refine X.callM [(63,63)] (X0k _ _ hv23) (by rfl) (by rfl) (.lptrB 63 (by rfl) (by rfl) .nil) (by rfl) ⟨rfl,rfl,⟨_,by rfl,by constructor⟩,by constructor,trivial⟩ (by rfl) (by rfl) (by rfl) (by rfl) (by rfl) (by rfl) (by rfl) (by rfl) (by rfl) ?_
     refine X.fl N0u ?_
     refine X.sl shp30 ?_
     refine X.nil ?_
     exact R.mt hmeet20 (v23.2.b,v23.2.i,v23.2.h,v23.1) (Option.some.inj h)
    replace h:=condF hc22 h
    refine Run.skip (R.nilOwnB (m:=448) 1 1984 false 26 1 (by rfl) (by rfl) (by rfl) (by rfl) (by rfl) ?_)
    exact R.mt hmeet20 (v17.2.b,v17.2.i,v17.2.h,([]:List (List Int))) (Option.some.inj h)
   rintro p24 rfl
   refine Run.reg (X.fl G0s ?_)
   refine X.ld shp25 ?_
   refine X.ld shp64 ?_
   refine X.buildSlice false elt25 zer64 (by rfl) (by rfl) (by rfl) (by rfl) (by rfl) (by rfl) (by repeat (first | trivial | refine ⟨by first | rfl | simp [setL],?_⟩)) (A0j (by rfl)) (by rfl) (by rfl) (by rfl) ?_
   obtain ⟨v25,hv25,h⟩:=bindE h
   refine X.append elt25 zer64 (by rfl) (by rfl) (by first | rfl | simp [setL] | omega) (by rfl) (.own _ _ _ _ _ _ (A0h (by rfl)) (by first | rfl | simp [setL] | omega)) (A0j (by rfl)) (D0n A0c hv25) (D0o A0c hv25) (by rfl) (by rfl) (by rfl) (by rfl) ?_
   refine X.fl G0s ?_
   refine X.sl shp25 ?_
   refine X.nil (Run.blk (Run.reg (X.mv ?_)))
   refine X.subW (h:=?_)
   refine X.an ?_
   exact hag6 n6 ((W (a8 - 1)),p24.1,p24.2.1,p24.2.2.1,v25) _ _ (by omega) h (by repeat (first | trivial | refine ⟨by first | rfl | simp [setL],?_⟩)) (by repeat (first | trivial | refine ⟨by first | rfl | simp [setL],?_⟩)) (by rfl) (by rfl)
  replace h:=condF hc15 h
  refine Run.exit (by rfl) ?_
  exact R.mt hmeet5 (a9,a10,a11,a12) (Option.some.inj h)
 rintro p26 rfl
 refine Run.seq (Run.sr (X.mv ?_))
 obtain ⟨v27,hv27,h⟩:=bindE h
 refine X.callM [(63,63)] (K0n _ _ _ hv27) (by rfl) (by rfl) (.lptrB 63 (by rfl) (by rfl) (.pureB (by rfl) (by repeat (first | trivial | refine ⟨by first | rfl | simp [setL],?_⟩)) .nil)) (by rfl) ⟨rfl,rfl,⟨_,by rfl,by constructor⟩,by constructor,trivial⟩ (by rfl) (by rfl) (by rfl) (by rfl) (by rfl) (by rfl) (by rfl) (by rfl) (by rfl) ?_
 refine X.nil ?_
 obtain ⟨o28,ho28,h⟩:=bindE h
 refine R.join2 (β:=(List Int)×Int×Int×(List Int)) [(0,.lptr 63 0),(1,int b1),(4,.lptr 256 0),(5,.lptr 320 0)] [(256,.blk true [int 0,.nils,.nils,.nils,.nils]),(2368,.obj false 64 2 (p26.2.2.2.map A0c))] (fun p34 S=>S) (fun p34 M=>(63,.blk true [.slice (p34.1.map e_u8),int p34.2.1,int p34.2.2.1])::(320,.blk true [int (W (12+v1.1)),.nils,.nils,.own 2368 (p26.2.2.2.map A0c).length,.own 2752 (p34.2.2.2.map int).length])::(2752,.obj false 3 1 (p34.2.2.2.map int))::M) (fun p34=>p34=o28) ?_ ?_
 ·intro JJ31 hmeet30
  have hup29:=h;clear h;have h:=ho28;clear ho28
  refine R.cd (fun hc32=>?_) (fun hc32=>?_)
  ·replace h:=condT hc32 h
   refine Run.reg (X.mv ?_)
   obtain ⟨v33,hv33,h⟩:=bindE h
   refine X.callM [(63,63)] (A0v _ _ _ hv33) (by rfl) (by rfl) (.lptrB 63 (by rfl) (by rfl) (.pureB (by rfl) (by repeat (first | trivial | refine ⟨by first | rfl | simp [setL],?_⟩)) .nil)) (by rfl) ⟨rfl,rfl,⟨_,by rfl,by constructor⟩,by constructor,trivial⟩ (by rfl) (by rfl) (by rfl) (by rfl) (by rfl) (by rfl) (by rfl) (by rfl) (by rfl) ?_
   refine X.buildSlice false elt26 zer3 (by rfl) (by rfl) (by rfl) (by rfl) (by rfl) (by rfl) (by repeat (first | trivial | refine ⟨by first | rfl | simp [setL],?_⟩)) (A0j (by rfl)) (by rfl) (by rfl) (by rfl) ?_
   refine X.fl M0q ?_
   refine X.sl shp26 ?_
   refine X.nil ?_
   exact R.mt hmeet30 (v33.2.b,v33.2.i,v33.2.h,([v33.1]:List Int)) (Option.some.inj h)
  replace h:=condF hc32 h
  refine Run.skip (R.nilOwnB (m:=320) 4 2752 false 3 1 (by rfl) (by rfl) (by rfl) (by rfl) (by rfl) ?_)
  exact R.mt hmeet30 (v27.2.b,v27.2.i,v27.2.h,([]:List Int)) (Option.some.inj h)
 rintro p34 rfl
 refine Run.seq (Run.sr (X.mv ?_))
 refine X.mv ?_
 obtain ⟨v35,hv35,h⟩:=bindE h
 refine X.callM [(63,63)] (A0v _ _ _ hv35) (by rfl) (by rfl) (.lptrB 63 (by rfl) (by rfl) (.pureB (by rfl) (by repeat (first | trivial | refine ⟨by first | rfl | simp [setL],?_⟩)) .nil)) (by rfl) ⟨rfl,rfl,⟨_,by rfl,by constructor⟩,by constructor,trivial⟩ (by rfl) (by rfl) (by rfl) (by rfl) (by rfl) (by rfl) (by rfl) (by rfl) (by rfl) ?_
 refine X.addW (h:=?_)
 refine X.an ?_
 obtain ⟨o36,ho36,h⟩:=bindE h
 refine R.join2 (β:=(List Int)×Int×Int×(List A0g)) [(0,.lptr 63 0),(4,.lptr 256 0),(5,.lptr 320 0)] [(256,.blk true [int 0,.nils,.nils,.nils,.nils]),(2368,.obj false 64 2 (p26.2.2.2.map A0c)),(2752,.obj false 3 1 (p34.2.2.2.map int))] (fun p51 S=>S) (fun p51 M=>(63,.blk true [.slice (p51.1.map e_u8),int p51.2.1,int p51.2.2.1])::(320,.blk true [int (W (12+v1.1)),.own 4288 (p51.2.2.2.map A0b).length,.nils,.own 2368 (p26.2.2.2.map A0c).length,.own 2752 (p34.2.2.2.map int).length])::(4288,.obj false 50 3 (p51.2.2.2.map A0b))::M) (fun p51=>p51=o36) ?_ ?_
 ·intro JJ39 hmeet38
  have hup37:=h;clear h;have h:=ho36;clear ho36
  refine Run.block (R.nilOwnB (m:=320) 1 4288 false 50 3 (by rfl) (by rfl) (by rfl) (by rfl) (by rfl) ?_)
  refine R.lp (β:=Int×(List Int)×Int×Int×(List A0g)) [(0,.lptr 63 0),(4,.lptr 256 0),(5,.lptr 320 0)] [(256,.blk true [int 0,.nils,.nils,.nils,.nils]),(2368,.obj false 64 2 (p26.2.2.2.map A0c)),(2752,.obj false 3 1 (p34.2.2.2.map int))] (fun bb S=>(8,int bb.1)::S) (fun bb M=>(63,.blk true [.slice (bb.2.1.map e_u8),int bb.2.2.1,int bb.2.2.2.1])::(320,.blk true [int (W (12+v1.1)),.own 4288 (bb.2.2.2.2.map A0b).length,.nils,.own 2368 (p26.2.2.2.map A0c).length,.own 2752 (p34.2.2.2.map int).length])::(4288,.obj false 50 3 (bb.2.2.2.2.map A0b))::M) (fun n bb=>G0i p26 p34 n bb.1 bb.2.1 bb.2.2.1 bb.2.2.2.1 bb.2.2.2.2=some o36) F0 ((W (1+v35.1)),v35.2.b,v35.2.i,v35.2.h,([]:List A0g)) h ?_
  clear h
  rintro JJ39 n39 ⟨a41,a42,a43,a44,a45⟩ hag39 h
  dsimp only at h
  obtain _ | n39:=n39
  ·exact absurd h (by simp [G0i])
  rw [G0i] at h
  refine Run.seq (Run.sr (X.mv ?_))
  refine X.bi ?_
  refine X.nil ?_
  refine R.cd (fun hc48=>?_) (fun hc48=>?_)
  ·replace h:=condT hc48 h
   refine Run.skip (Run.seq (Run.block (Run.draw2 (B0r [(1,([320],[],[],[])),(4,([320],[],[],[])),(5,([4288],[],[],[])),(7,([320],[],[],[])),(8,([2368],[],[],[])),(10,([320],[],[],[])),(11,([2752],[],[],[])),(12,([63],[63,4160],[],[])),(13,([4160,4224],[4224],[],[])),(14,([4224,4288],[4288],[],[])),(16,([320,4288],[320],[],[]))]) mixed (by kernel_rfl) (by kernel_rfl) ?_)))
   refine X.fl B0z ?_
   refine X.ld shp23 ?_
   refine X.mv ?_
   refine X.fl B0z ?_
   refine X.ld shp23 ?_
   refine X.len_o elt23 (by rfl) (by rfl) (by first | rfl | simp [setL] | omega) (by first | exact List.length_map .. | rfl) (by rfl) (by rfl) ?_
   refine X.fl G0s ?_
   refine X.ld shp25 ?_
   refine X.len_o elt25 (by rfl) (by rfl) (by first | rfl | simp [setL] | omega) (by first | exact List.length_map .. | rfl) (by rfl) (by rfl) ?_
   refine X.fl M0q ?_
   refine X.ld shp26 ?_
   refine X.len_o elt26 (by rfl) (by rfl) (by first | rfl | simp [setL] | omega) (by first | exact List.length_map .. | rfl) (by rfl) (by rfl) ?_
   obtain ⟨v49,hv49,h⟩:=bindE h
   refine X.callM [(63,63)] (Z0i _ _ _ _ _ hv49) (by rfl) (by rfl) (.lptrB 63 (by rfl) (by rfl) (.pureB (by rfl) (by repeat (first | trivial | refine ⟨by first | rfl | simp [setL],?_⟩)) (.pureB (by rfl) (by repeat (first | trivial | refine ⟨by first | rfl | simp [setL],?_⟩)) (.pureB (by rfl) (by repeat (first | trivial | refine ⟨by first | rfl | simp [setL],?_⟩)) .nil)))) (by rfl) ⟨rfl,rfl,⟨_,by rfl,by constructor⟩,by constructor,trivial⟩ (by rfl) (by rfl) (by rfl) (by rfl) (by rfl) (by rfl) (by rfl) (by rfl) (by rfl) ?_
   refine X.buildSlice false elt23 zer50 (by rfl) (by rfl) (by rfl) (by rfl) (by rfl) (by rfl) (by repeat (first | trivial | refine ⟨by first | rfl | simp [setL],?_⟩)) (A0j (by rfl)) (by rfl) (by rfl) (by rfl) ?_
   obtain ⟨v50,hv50,h⟩:=bindE h
   refine X.append elt23 zer50 (by rfl) (by rfl) (by first | rfl | simp [setL] | omega) (by rfl) (.own _ _ _ _ _ _ (A0h (by rfl)) (by first | rfl | simp [setL] | omega)) (A0j (by rfl)) (D0n A0b hv50) (D0o A0b hv50) (by rfl) (by rfl) (by rfl) (by rfl) ?_
   refine X.fl B0z ?_
   refine X.sl shp23 ?_
   refine X.nil (Run.blk (Run.reg (X.mv ?_)))
   refine X.subW (h:=?_)
   refine X.an ?_
   exact hag39 n39 ((W (a41 - 1)),v49.2.b,v49.2.i,v49.2.h,v50) _ _ (by omega) h (by repeat (first | trivial | refine ⟨by first | rfl | simp [setL],?_⟩)) (by repeat (first | trivial | refine ⟨by first | rfl | simp [setL],?_⟩)) (by rfl) (by rfl)
  replace h:=condF hc48 h
  refine Run.exit (by rfl) ?_
  exact R.mt hmeet38 (a42,a43,a44,a45) (Option.some.inj h)
 rintro p51 rfl
 refine Run.sr (X.fl B0z ?_)
 refine X.ld shp23 ?_
 refine X.len_o elt23 (by rfl) (by rfl) (by first | rfl | simp [setL] | omega) (by first | exact List.length_map .. | rfl) (by rfl) (by rfl) ?_
 refine X.an ?_
 refine Run.seq (Run.sr (X.mv ?_))
 obtain ⟨v52,hv52,h⟩:=bindE h
 refine X.callM [(63,63)] (A0v _ _ _ hv52) (by rfl) (by rfl) (.lptrB 63 (by rfl) (by rfl) (.pureB (by rfl) (by repeat (first | trivial | refine ⟨by first | rfl | simp [setL],?_⟩)) .nil)) (by rfl) ⟨rfl,rfl,⟨_,by rfl,by constructor⟩,by constructor,trivial⟩ (by rfl) (by rfl) (by rfl) (by rfl) (by rfl) (by rfl) (by rfl) (by rfl) (by rfl) ?_
 refine X.an ?_
 obtain ⟨o53,ho53,h⟩:=bindE h
 refine R.join2 (β:=(List Int)×Int×Int×(List TLink)) [(4,.lptr 256 0),(5,.lptr 320 0)] [(256,.blk true [int 0,.nils,.nils,.nils,.nils]),(4288,.obj false 50 3 (p51.2.2.2.map A0b)),(2368,.obj false 64 2 (p26.2.2.2.map A0c)),(2752,.obj false 3 1 (p34.2.2.2.map int))] (fun p81 S=>S) (fun p81 M=>(63,.blk true [.slice (p81.1.map e_u8),int p81.2.1,int p81.2.2.1])::(320,.blk true [int (W (12+v1.1)),.own 4288 (p51.2.2.2.map A0b).length,.own 7424 (p81.2.2.2.map A0o).length,.own 2368 (p26.2.2.2.map A0c).length,.own 2752 (p34.2.2.2.map int).length])::(7424,.obj false 101 4 (p81.2.2.2.map A0o))::M) (fun p81=>p81=o53) ?_ ?_
 ·intro JJ56 hmeet55
  have hup54:=h;clear h;have h:=ho53;clear ho53
  refine Run.block (R.nilOwnB (m:=320) 2 7424 false 101 4 (by rfl) (by rfl) (by rfl) (by rfl) (by rfl) ?_)
  refine R.lp (β:=Int×(List Int)×Int×Int×(List TLink)) [(0,.lptr 63 0),(4,.lptr 256 0),(5,.lptr 320 0),(9,int (p51.2.2.2.length:Int))] [(256,.blk true [int 0,.nils,.nils,.nils,.nils]),(4288,.obj false 50 3 (p51.2.2.2.map A0b)),(2368,.obj false 64 2 (p26.2.2.2.map A0c)),(2752,.obj false 3 1 (p34.2.2.2.map int))] (fun bb S=>(10,int bb.1)::S) (fun bb M=>(63,.blk true [.slice (bb.2.1.map e_u8),int bb.2.2.1,int bb.2.2.2.1])::(320,.blk true [int (W (12+v1.1)),.own 4288 (p51.2.2.2.map A0b).length,.own 7424 (bb.2.2.2.2.map A0o).length,.own 2368 (p26.2.2.2.map A0c).length,.own 2752 (p34.2.2.2.map int).length])::(7424,.obj false 101 4 (bb.2.2.2.2.map A0o))::M) (fun n bb=>E0n p51 n bb.1 bb.2.1 bb.2.2.1 bb.2.2.2.1 bb.2.2.2.2=some o53) F0 (v52.1,v52.2.b,v52.2.i,v52.2.h,([]:List TLink)) h ?_
  clear h
  rintro JJ56 n56 ⟨a58,a59,a60,a61,a62⟩ hag56 h
  dsimp only at h
  obtain _ | n56:=n56
  ·exact absurd h (by simp [E0n])
  rw [E0n] at h
  refine Run.seq (Run.seq ?_)
  obtain ⟨e65,he65,h2⟩:=bindE h
  refine R.regG [(0,.lptr 63 0),(4,.lptr 256 0),(5,.lptr 320 0),(9,int (p51.2.2.2.length:Int)),(10,int a58),(79,bool e65)] [(63,.blk true [.slice (a59.map e_u8),int a60,int a61]),(256,.blk true [int 0,.nils,.nils,.nils,.nils]),(320,.blk true [int (W (12+v1.1)),.own 4288 (p51.2.2.2.map A0b).length,.own 7424 (a62.map A0o).length,.own 2368 (p26.2.2.2.map A0c).length,.own 2752 (p34.2.2.2.map int).length]),(4288,.obj false 50 3 (p51.2.2.2.map A0b)),(7424,.obj false 101 4 (a62.map A0o)),(2368,.obj false 64 2 (p26.2.2.2.map A0c)),(2752,.obj false 3 1 (p34.2.2.2.map int))] ?_ ?_
  ·clear h;have h:=he65;clear he65 h2
   refine X.mv ?_
   refine X.bi ?_
   refine X.mv ?_
   refine X.iG (fun hb66=>?_) (fun hb66=>?_)
   ·replace h:=condT hb66 h
    refine X.mv ?_
    refine X.gy (X.bi ?_)
    refine X.pT ?_
    cases h
    exact X.eG
   replace h:=condF hb66 h
   refine X.gn (X.pF ?_)
   cases h
   exact X.eG
  replace h:=h2;clear h2
  refine R.cd (fun hc67=>?_) (fun hc67=>?_)
  ·replace h:=condT hc67 h
   refine Run.skip (Run.seq (Run.block (Run.sr (X.mv ?_))))
   refine X.mv ?_
   refine X.subW (h:=?_)
   obtain ⟨v68,hv68,h⟩:=bindE h
   refine X.callM [(63,63)] (A0v _ _ _ hv68) (by rfl) (by rfl) (.lptrB 63 (by rfl) (by rfl) (.pureB (by rfl) (by repeat (first | trivial | refine ⟨by first | rfl | simp [setL],?_⟩)) .nil)) (by rfl) ⟨rfl,rfl,⟨_,by rfl,by constructor⟩,by constructor,trivial⟩ (by rfl) (by rfl) (by rfl) (by rfl) (by rfl) (by rfl) (by rfl) (by rfl) (by rfl) ?_
   refine X.an ?_
   refine Run.sr (X.mv ?_)
   refine X.mv ?_
   refine X.addW (h:=?_)
   refine X.mv ?_
   refine X.mv ?_
   refine X.subW (h:=?_)
   refine X.mv ?_
   refine X.subW (h:=?_)
   obtain ⟨v69,hv69,h⟩:=bindE h
   refine X.callM [(63,63)] (A0v _ _ _ hv69) (by rfl) (by rfl) (.lptrB 63 (by rfl) (by rfl) (.pureB (by rfl) (by repeat (first | trivial | refine ⟨by first | rfl | simp [setL],?_⟩)) .nil)) (by rfl) ⟨rfl,rfl,⟨_,by rfl,by constructor⟩,by constructor,trivial⟩ (by rfl) (by rfl) (by rfl) (by rfl) (by rfl) (by rfl) (by rfl) (by rfl) (by rfl) ?_
   refine X.addW (h:=?_)
   refine X.mv ?_
   obtain ⟨v70,hv70,h⟩:=bindE h
   refine X.callM [(63,63)] (K0n _ _ _ hv70) (by rfl) (by rfl) (.lptrB 63 (by rfl) (by rfl) (.pureB (by rfl) (by repeat (first | trivial | refine ⟨by first | rfl | simp [setL],?_⟩)) .nil)) (by rfl) ⟨rfl,rfl,⟨_,by rfl,by constructor⟩,by constructor,trivial⟩ (by rfl) (by rfl) (by rfl) (by rfl) (by rfl) (by rfl) (by rfl) (by rfl) (by rfl) ?_
   refine X.un (h:=?_)
   refine X.mv ?_
   obtain ⟨v71,hv71,h⟩:=bindE h
   refine X.callM [(63,63)] (A0v _ _ _ hv71) (by rfl) (by rfl) (.lptrB 63 (by rfl) (by rfl) (.pureB (by rfl) (by repeat (first | trivial | refine ⟨by first | rfl | simp [setL],?_⟩)) .nil)) (by rfl) ⟨rfl,rfl,⟨_,by rfl,by constructor⟩,by constructor,trivial⟩ (by rfl) (by rfl) (by rfl) (by rfl) (by rfl) (by rfl) (by rfl) (by rfl) (by rfl) ?_
   refine X.build W0x pl101 (by rfl) (by rfl) (by repeat (first | trivial | refine ⟨by first | rfl | simp [setL],?_⟩)) (by rfl) (by rfl) (by rfl) ?_
   refine X.alloc W0x (h:=?_)
   refine X.sl T0p ?_
   refine X.nil (Run.seq (Run.sr (X.mv ?_)))
   obtain ⟨v72,hv72,h⟩:=bindE h
   refine X.callM [(63,63)] (K0n _ _ _ hv72) (by rfl) (by rfl) (.lptrB 63 (by rfl) (by rfl) (.pureB (by rfl) (by repeat (first | trivial | refine ⟨by first | rfl | simp [setL],?_⟩)) .nil)) (by rfl) ⟨rfl,rfl,⟨_,by rfl,by constructor⟩,by constructor,trivial⟩ (by rfl) (by rfl) (by rfl) (by rfl) (by rfl) (by rfl) (by rfl) (by rfl) (by rfl) ?_
   refine X.nil ?_
   obtain ⟨o73,ho73,h⟩:=bindE h
   refine R.join2 (β:=(List Int)×Int×Int×Int×Int×Bool×Int) [(0,.lptr 63 0),(4,.lptr 256 0),(5,.lptr 320 0),(9,int (p51.2.2.2.length:Int)),(10,int a58),(12,.lptr 768 0)] [(256,.blk true [int 0,.nils,.nils,.nils,.nils]),(4288,.obj false 50 3 (p51.2.2.2.map A0b)),(7424,.obj false 101 4 (a62.map A0o)),(2368,.obj false 64 2 (p26.2.2.2.map A0c)),(2752,.obj false 3 1 (p34.2.2.2.map int))] (fun p79 S=>S) (fun p79 M=>(63,.blk true [.slice (p79.1.map e_u8),int p79.2.1,int p79.2.2.1])::(320,.blk true [int (W (12+v1.1)),.own 4288 (p51.2.2.2.map A0b).length,.own 7424 (a62.map A0o).length,.own 2368 (p26.2.2.2.map A0c).length,.own 2752 (p34.2.2.2.map int).length])::(768,.blk true [int p79.2.2.2.1,int p79.2.2.2.2.1,bool p79.2.2.2.2.2.1,int p79.2.2.2.2.2.2])::M) (fun p79=>p79=o73) ?_ ?_
   ·intro JJ76 hmeet75
    have hup74:=h;clear h;have h:=ho73;clear ho73
    refine R.cd (fun hc77=>?_) (fun hc77=>?_)
    ·replace h:=condT hc77 h
     refine Run.draw2 (B0r [(1,([768],[],[],[])),(3,([768],[],[],[])),(5,([63],[63],[],[])),(8,([768],[768],[],[]))]) mixed (by kernel_rfl) (by kernel_rfl) ?_
     refine X.fl Q0i ?_
     refine X.ld shp3 ?_
     refine X.fl N0r ?_
     refine X.ld shp3 ?_
     refine X.mv ?_
     obtain ⟨v78,hv78,h⟩:=bindE h
     refine X.callM [(63,63)] (A0v _ _ _ hv78) (by rfl) (by rfl) (.lptrB 63 (by rfl) (by rfl) (.pureB (by rfl) (by repeat (first | trivial | refine ⟨by first | rfl | simp [setL],?_⟩)) .nil)) (by rfl) ⟨rfl,rfl,⟨_,by rfl,by constructor⟩,by constructor,trivial⟩ (by rfl) (by rfl) (by rfl) (by rfl) (by rfl) (by rfl) (by rfl) (by rfl) (by rfl) ?_
     refine X.subW (h:=?_)
     refine X.build W0x pl101 (by rfl) (by rfl) (by repeat (first | trivial | refine ⟨by first | rfl | simp [setL],?_⟩)) (by rfl) (by rfl) (by rfl) ?_
     refine X.sl T0p ?_
     refine X.nil ?_
     exact R.mt hmeet75 (v78.2.b,v78.2.i,v78.2.h,(W ((W (v68.1+1))+v69.1)),v68.1,false,(W ((-4) - v78.1))) (Option.some.inj h)
    replace h:=condF hc77 h
    refine Run.skip ?_
    exact R.mt hmeet75 (v72.2.b,v72.2.i,v72.2.h,v68.1,(W ((W (v68.1+1))+v69.1)),(!v70.1),v71.1) (Option.some.inj h)
   rintro p79 rfl
   refine Run.reg (X.fl P0n ?_)
   refine X.ld shp24 ?_
   refine X.ld T0p ?_
   refine X.buildSlice false elt24 W0x (by rfl) (by rfl) (by rfl) (by rfl) (by rfl) (by rfl) (by repeat (first | trivial | refine ⟨by first | rfl | simp [setL],?_⟩)) (A0j (by rfl)) (by rfl) (by rfl) (by rfl) ?_
   obtain ⟨v80,hv80,h⟩:=bindE h
   refine X.append elt24 W0x (by rfl) (by rfl) (by first | rfl | simp [setL] | omega) (by rfl) (.own _ _ _ _ _ _ (A0h (by rfl)) (by first | rfl | simp [setL] | omega)) (A0j (by rfl)) (D0n A0o hv80) (D0o A0o hv80) (by rfl) (by rfl) (by rfl) (by rfl) ?_
   refine X.fl P0n ?_
   refine X.sl shp24 ?_
   refine X.nil (Run.blk (Run.reg (X.mv ?_)))
   refine X.subW (h:=?_)
   refine X.an ?_
   exact hag56 n56 ((W (a58 - 1)),p79.1,p79.2.1,p79.2.2.1,v80) _ _ (by omega) h (by repeat (first | trivial | refine ⟨by first | rfl | simp [setL],?_⟩)) (by repeat (first | trivial | refine ⟨by first | rfl | simp [setL],?_⟩)) (by rfl) (by rfl)
  replace h:=condF hc67 h
  refine Run.exit (by rfl) ?_
  exact R.mt hmeet55 (a59,a60,a61,a62) (Option.some.inj h)
 rintro p81 rfl
 refine Run.sr (X.ld shp28 ?_)
 refine X.sl shp28 ?_
 refine X.nil ?_
 cases h
 exact R.finMC Tryz.results28 shp28 (by rfl) (by rfl) (by rfl) (by rfl) (by repeat (first | trivial | refine ⟨by first | rfl | simp [setL],?_⟩)) (by rfl) (by repeat (first | exact trivial | refine ⟨by rfl,?_⟩)) rfl
theorem P0a (b0:List Int)(r:A0a)(h:G0p b0=some r):PC Tryz.prog 5 [.slice (b0.map e_u8)] (.agg [int r.Deadline,.fresh false 50 3 (r.Activities.map A0b),.fresh false 101 4 (r.Links.map A0o),.fresh false 64 2 (r.Resources.map A0c),.fresh false 3 1 (r.Stocks.map int)]):=by
 unfold G0p at h
 refine PC.start Tryz.func5 Tryz.ntmps5 rfl (by kernel_rfl) rfl ?_
 refine Run.sr (X.alloc zer28 (h:=?_))
 refine X.nil (Run.sr (X.mv ?_))
 obtain ⟨v1,hv1,h⟩:=bindE h
 refine X.callB (N0w _ _ hv1) (by rfl) (by rfl) (by rfl) (by rfl) (by rfl) (by rfl) ?_
 refine X.an ?_
 refine Run.sr (X.mv ?_)
 obtain ⟨v2,hv2,h⟩:=bindE h
 refine X.callM [(63,320)] (Y0n _ _ _ hv2) (by rfl) (by rfl) (.lptrB 63 (by rfl) (by rfl) (.pureB (by rfl) (by repeat (first | trivial | refine ⟨by first | rfl | simp [setL],?_⟩)) .nil)) (by rfl) ⟨rfl,rfl,⟨_,by rfl,by constructor⟩,by constructor,trivial⟩ (by rfl) (by rfl) (by rfl) (by rfl) (by rfl) (by rfl) (by rfl) (by rfl) (by rfl) ?_
 refine X.sl shp28 ?_
 refine X.nil ?_
 cases h
 refine R.finC Tryz.results5 shp28 (by rfl) (by rfl) (by rfl) (by rfl) (by repeat (first | trivial | refine ⟨by first | rfl | simp [setL],?_⟩)) ?_
 rfl
theorem C0k (b0:Int)(b1:Int)(b2:Int)(r:Bool)(h:C0n b0 b1 b2=some r):PC Tryz.prog 95 [int b0,int b1,int b2] (bool r):=by
 unfold C0n at h
 refine PC.start Tryz.func95 Tryz.ntmps95 rfl (by kernel_rfl) rfl ?_
 refine Run.sr (X.an ?_)
 refine Run.seq ?_
 obtain ⟨e1,he1,h2⟩:=bindE h
 refine R.regG [(6,bool e1)] [] ?_ ?_
 ·clear h;have h:=he1;clear he1 h2
  refine X.mv ?_
  refine X.mv ?_
  refine X.bi ?_
  refine X.mv ?_
  refine X.iG (fun hb2=>?_) (fun hb2=>?_)
  ·replace h:=condT hb2 h
   refine X.mv ?_
   refine X.gy (X.mv ?_)
   refine X.gy (X.bi ?_)
   refine X.pT ?_
   refine X.as ?_
   cases h
   exact X.eG
  replace h:=condF hb2 h
  refine X.gn (X.gn (X.pF ?_))
  refine X.as ?_
  cases h
  exact X.eG
 replace h:=h2;clear h2
 cases h
 refine R.f1 Tryz.results95 ?_
 rfl
theorem T0q (b0:List Int)(b1:Int)(r:Bool)(h:H0h b0 b1=some r):PC Tryz.prog 121 [.slice (b0.map int),int b1] (bool r):=by
 unfold H0h at h
 refine PC.start Tryz.func121 Tryz.ntmps121 rfl (by kernel_rfl) rfl ?_
 refine Run.sr (X.an ?_)
 refine Run.seq (Run.sr (X.mv ?_))
 refine X.ls elt26 ?_
 refine X.mn ?_
 obtain ⟨o1,ho1,h⟩:=bindE h
 refine R.join2 (β:=Unit) [(0,.slice (b0.map int)),(1,int b1)] [] (fun p14 S=>S) (fun p14 M=>M) (fun p14=>(Sum.inl p14)=o1) ?_ ?_
 ·intro JJ4 hmeet3
  have hup2:=h;clear h;have h:=ho1;clear ho1
  refine Run.block ?_
  refine R.bndS (t:=0) (by rfl) (fun hbd7=>?_)
  replace hbd7:b0.length≤9223372036854775807:=by first | (rw [List.length_map] at hbd7;exact hbd7) | simp
  refine R.lp (β:=Int) [(0,.slice (b0.map int)),(1,int b1),(7,.slice (b0.map int)),(8,int (b0.length:Int))] [] (fun bb S=>(9,int bb)::S) (fun bb M=>M) (fun n bb=>0≤bb∧bb+n=(b0.length:Int)∧D0m (b0.drop bb.toNat) bb=some o1) b0.length (0:Int) ⟨Int.le_refl _,by simp,h⟩ ?_
  clear h
  rintro JJ7 n7 z8 hag7 ⟨hza7,hzb7,h⟩
  refine Run.sr (X.bi ?_)
  refine X.nil (Run.seq ?_)
  refine R.cd (fun hc11=>?_) (fun hc11=>?_)
  ·obtain ⟨x9,xs10,hd7,hx7,hds7,hlt7⟩:=B0c hza7 hc11
   rw [hd7] at h
   rw [D0m] at h
   refine Run.skip (Run.seq (Run.block (Run.sr (X.ix elt26 (A0d hx7).1 (A0e int hx7) ?_))))
   refine X.lc shp3 ?_
   refine X.an ?_
   refine Run.sr (X.mv ?_)
   obtain ⟨v12,hv12,h⟩:=bindE h
   refine X.cp (C0k _ _ _ _ hv12) ?_
   refine X.un (h:=?_)
   refine X.nil ?_
   refine R.cd (fun hc13=>?_) (fun hc13=>?_)
   ·replace h:=condT hc13 h
    refine Run.sr (X.an ?_)
    cases h
    have h:=hup2
    replace h:=elimR h
    cases h
    refine R.f1 Tryz.results121 ?_
    rfl
   replace h:=condF hc13 h
   refine Run.skip (Run.blk (Run.reg (X.ad ?_)))
   refine X.mn ?_
   exact R.ag hag7 (n7 - 1) (z8+1) (R.n3 (by first | (rw [hds7];exact h) | (dsimp only;rw [hds7];exact h)))
  rw [A0w hza7 hc11] at h
  rw [D0m] at h
  refine Run.exit (by rfl) ?_
  exact R.mt hmeet3 () (Option.some.inj h)
 rintro p14 rfl
 replace h:=elimL h
 refine Run.sr (X.mv ?_)
 refine X.ls elt26 ?_
 refine X.mv ?_
 refine X.bi ?_
 refine X.an ?_
 cases h
 refine R.f1 Tryz.results121 ?_
 rfl
theorem A1d (b0:TMode)(b1:Int)(b2:Int)(r:Bool)(h:J0r b0 b1 b2=some r):PC Tryz.prog 114 [B0o b0,int b1,int b2] (bool r):=by
 unfold J0r at h
 refine PC.start Tryz.func114 Tryz.ntmps114 rfl (by kernel_rfl) rfl ?_
 refine Run.sr (X.bx ?_)
 refine X.an ?_
 refine Run.seq ?_
 obtain ⟨v1,hv1,h⟩:=bindE h
 obtain ⟨e2,he2,h2⟩:=bindE h
 refine R.regG [(6,bool e2)] [] ?_ ?_
 ·clear h;have h:=he2;clear he2 h2
  refine X.fl R0f ?_
  refine X.ld shp3 ?_
  refine X.cp (C0k _ _ _ _ hv1) ?_
  refine X.mv ?_
  refine X.iG (fun hb3=>?_) (fun hb3=>?_)
  ·replace h:=condT hb3 h
   refine X.fl N0n ?_
   refine X.gy (X.ld shp26 ?_)
   refine X.gy (X.mv ?_)
   refine X.gy ?_
   obtain ⟨v4,hv4,h⟩:=bindE h
   refine X.cp (T0q _ _ _ hv4) ?_
   refine X.pT ?_
   refine X.mv ?_
   refine X.iG (fun hb5=>?_) (fun hb5=>?_)
   ·replace h:=condT hb5 h
    refine X.fl V0d ?_
    refine X.gy (X.ld shp26 ?_)
    refine X.gy (X.mv ?_)
    refine X.gy ?_
    obtain ⟨v6,hv6,h⟩:=bindE h
    refine X.cp (T0q _ _ _ hv6) ?_
    refine X.pT ?_
    refine X.as ?_
    cases h
    exact X.eG
   replace h:=condF hb5 h
   refine X.gn (X.gn (X.gn (X.pF ?_)))
   refine X.as ?_
   cases h
   exact X.eG
  replace h:=condF hb3 h
  refine X.gn (X.gn (X.gn (X.pF ?_)))
  refine X.mv ?_
  refine X.gn (X.gn (X.gn (X.gn (X.pF ?_))))
  refine X.as ?_
  cases h
  exact X.eG
 replace h:=h2;clear h2
 cases h
 refine R.f1 Tryz.results114 ?_
 rfl
theorem Z0k (b0:ByteArray)(r:Bool)(h:K0i b0=some r):PC Tryz.prog 115 [str b0] (bool r):=by
 unfold K0i at h
 refine PC.start Tryz.func115 Tryz.ntmps115 rfl (by kernel_rfl) rfl ?_
 refine Run.sr (X.an ?_)
 refine Run.seq (Run.sr (X.an ?_))
 obtain ⟨o1,ho1,h⟩:=bindE h
 refine R.join2 (β:=Unit) [(0,str b0)] [] (fun p19 S=>S) (fun p19 M=>M) (fun p19=>(Sum.inl p19)=o1) ?_ ?_
 ·intro JJ4 hmeet3
  have hup2:=h;clear h;have h:=ho1;clear ho1
  refine Run.block ?_
  refine R.lp (β:=Int) [(0,str b0)] [] (fun bb S=>(3,int bb)::S) (fun bb M=>M) (fun n bb=>E0h b0 n bb=some o1) F0 0 h ?_
  clear h
  rintro JJ5 n5 a7 hag5 h
  obtain _ | n5:=n5
  ·exact absurd h (by simp [E0h])
  rw [E0h] at h
  refine Run.seq (Run.sr (X.mv ?_))
  refine X.mv ?_
  refine X.lenStr Tryz.underlying9 (by rfl) (by rfl) ?_
  refine X.bi ?_
  refine X.nil ?_
  refine R.cd (fun hc10=>?_) (fun hc10=>?_)
  ·replace h:=condT hc10 h
   refine Run.skip (Run.seq (Run.block (Run.seq ?_)))
   obtain ⟨v11,hv11,h⟩:=bindE h
   obtain ⟨e12,he12,h2⟩:=bindE h
   refine R.regG [(0,str b0),(3,int a7),(4,bool e12)] [] ?_ ?_
   ·clear h;have h:=he12;clear he12 h2
    refine X.mv ?_
    refine X.mv ?_
    refine X.indexStr2 hv11 Tryz.underlying9 (by rfl) (by rfl) (by rfl) ?_
    refine X.bi ?_
    refine X.mv ?_
    refine X.iG (fun hb13=>?_) (fun hb13=>?_)
    ·replace h:=condT hb13 h
     refine X.mv ?_
     refine X.gy (X.mv ?_)
     refine X.gy (X.indexStr2 hv11 Tryz.underlying9 (by rfl) (by rfl) (by rfl) ?_)
     refine X.gy (X.bi ?_)
     refine X.pT ?_
     refine X.as ?_
     cases h
     exact X.eG
    replace h:=condF hb13 h
    refine X.gn (X.gn (X.gn (X.pF ?_)))
    refine X.as ?_
    cases h
    exact X.eG
   replace h:=h2;clear h2
   refine Run.seq ?_
   obtain ⟨e14,he14,h2⟩:=bindE h
   refine R.regG [(0,str b0),(3,int a7),(38,bool e14)] [] ?_ ?_
   ·clear h;have h:=he14;clear he14 h2
    refine X.mv ?_
    refine X.un (h:=?_)
    refine X.mv ?_
    refine X.iG (fun hb15=>?_) (fun hb15=>?_)
    ·replace h:=condT hb15 h
     refine X.mv ?_
     refine X.gy (X.bi ?_)
     refine X.gy (X.mv ?_)
     refine X.iG (fun hb16=>?_) (fun hb16=>?_)
     ·replace h:=condF hb16 h
      refine X.mv ?_
      refine X.gy (X.mv ?_)
      refine X.gy (X.indexStr2 hv11 Tryz.underlying9 (by rfl) (by rfl) (by rfl) ?_)
      refine X.gy (X.bi ?_)
      refine X.gy (X.pF ?_)
      refine X.gy (X.mv ?_)
      refine X.iG (fun hb17=>?_) (fun hb17=>?_)
      ·replace h:=condF hb17 h
       refine X.mv ?_
       refine X.gy (X.mv ?_)
       refine X.gy (X.indexStr2 hv11 Tryz.underlying9 (by rfl) (by rfl) (by rfl) ?_)
       refine X.gy (X.bi ?_)
       refine X.gy (X.pF ?_)
       refine X.pT ?_
       cases h
       exact X.eG
      replace h:=condT hb17 h
      refine X.gn (X.gn (X.gn (X.gy (X.pT ?_))))
      refine X.pT ?_
      cases h
      exact X.eG
     replace h:=condT hb16 h
     refine X.gn (X.gn (X.gn (X.gy (X.pT ?_))))
     refine X.gy (X.mv ?_)
     refine X.gn (X.gn (X.gn (X.gn (X.gy (X.pT ?_)))))
     refine X.pT ?_
     cases h
     exact X.eG
    replace h:=condF hb15 h
    refine X.gn (X.gn (X.gU (h:=?_)))
    refine X.gU (h:=?_)
    refine X.gU (h:=?_)
    refine X.gU (h:=?_)
    refine X.gn (X.gn (X.gU (h:=?_)))
    refine X.gU (h:=?_)
    refine X.gU (h:=?_)
    refine X.gU (h:=?_)
    refine X.gn (X.pF ?_)
    cases h
    exact X.eG
   replace h:=h2;clear h2
   refine R.cd (fun hc18=>?_) (fun hc18=>?_)
   ·replace h:=condT hc18 h
    refine Run.sr (X.an ?_)
    cases h
    have h:=hup2
    replace h:=elimR h
    cases h
    refine R.f1 Tryz.results115 ?_
    rfl
   replace h:=condF hc18 h
   refine Run.skip (Run.blk (Run.reg (X.mv ?_)))
   refine X.addW (h:=?_)
   refine X.an ?_
   exact hag5 n5 (W (a7+1)) _ _ (by omega) h (by trivial) (by trivial) (by rfl) (by rfl)
  replace h:=condF hc10 h
  refine Run.exit (by rfl) ?_
  exact R.mt hmeet3 () (Option.some.inj h)
 rintro p19 rfl
 replace h:=elimL h
 refine Run.sr (X.mv ?_)
 refine X.lenStr Tryz.underlying9 (by rfl) (by rfl) ?_
 obtain ⟨v21,hv21,h⟩:=bindE h
 refine X.cp (C0k _ _ _ _ hv21) ?_
 refine X.an ?_
 cases h
 refine R.f1 Tryz.results115 ?_
 rfl
theorem V0f (b0:A0g)(b1:Int)(b2:Int)(r:Bool)(h:C0w b0 b1 b2=some r):PC Tryz.prog 96 [A0b b0,int b1,int b2] (bool r):=by
 unfold C0w at h
 refine PC.start Tryz.func96 Tryz.ntmps96 rfl (by kernel_rfl) rfl ?_
 refine Run.sr (X.bx ?_)
 refine X.an ?_
 refine Run.seq (Run.sr (X.fl H0v ?_))
 refine X.ld shp48 ?_
 refine X.ls elt48 ?_
 refine X.mn ?_
 obtain ⟨o1,ho1,h⟩:=bindE h
 refine R.join2 (β:=Unit) [(3,.lptr 192 0)] [(192,.blk true [str b0.Name,int b0.Family,.slice (b0.Modes.map B0o)])] (fun p14 S=>S) (fun p14 M=>M) (fun p14=>(Sum.inl p14)=o1) ?_ ?_
 ·intro JJ4 hmeet3
  have hup2:=h;clear h;have h:=ho1;clear ho1
  refine Run.block ?_
  refine R.bndS (t:=10) (by rfl) (fun hbd7=>?_)
  replace hbd7:b0.Modes.length≤9223372036854775807:=by first | (rw [List.length_map] at hbd7;exact hbd7) | simp
  refine R.lp (β:=Int) [(1,int b1),(2,int b2),(3,.lptr 192 0),(10,.slice (b0.Modes.map B0o)),(11,int (b0.Modes.length:Int))] [(192,.blk true [str b0.Name,int b0.Family,.slice (b0.Modes.map B0o)])] (fun bb S=>(12,int bb)::S) (fun bb M=>M) (fun n bb=>0≤bb∧bb+n=(b0.Modes.length:Int)∧B0t b1 b2 (b0.Modes.drop bb.toNat) bb=some o1) b0.Modes.length (0:Int) ⟨Int.le_refl _,by simp,h⟩ ?_
  clear h
  rintro JJ7 n7 z8 hag7 ⟨hza7,hzb7,h⟩
  refine Run.sr (X.bi ?_)
  refine X.nil (Run.seq ?_)
  refine R.cd (fun hc11=>?_) (fun hc11=>?_)
  ·obtain ⟨x9,xs10,hd7,hx7,hds7,hlt7⟩:=B0c hza7 hc11
   rw [hd7] at h
   rw [B0t] at h
   refine Run.skip (Run.seq (Run.block (Run.sr (X.ix elt48 (A0d hx7).1 (A0e B0o hx7) ?_))))
   refine X.lc shp47 ?_
   refine X.alloc zer47 (h:=?_)
   refine X.sl shp47 ?_
   refine X.nil (Run.sr (X.ld shp47 ?_))
   refine X.mv ?_
   refine X.mv ?_
   obtain ⟨v12,hv12,h⟩:=bindE h
   refine X.cp (A1d _ _ _ _ hv12) ?_
   refine X.un (h:=?_)
   refine X.nil ?_
   refine R.cd (fun hc13=>?_) (fun hc13=>?_)
   ·replace h:=condT hc13 h
    refine Run.sr (X.an ?_)
    cases h
    have h:=hup2
    replace h:=elimR h
    cases h
    refine R.f1 Tryz.results96 ?_
    rfl
   replace h:=condF hc13 h
   refine Run.skip (Run.blk (Run.reg (X.ad ?_)))
   refine X.mn ?_
   exact R.ag hag7 (n7 - 1) (z8+1) (R.n3 (by first | (rw [hds7];exact h) | (dsimp only;rw [hds7];exact h)))
  rw [A0w hza7 hc11] at h
  rw [B0t] at h
  refine Run.exit (by rfl) ?_
  exact R.mt hmeet3 () (Option.some.inj h)
 rintro p14 rfl
 replace h:=elimL h
 refine Run.seq ?_
 obtain ⟨v16,hv16,h⟩:=bindE h
 obtain ⟨e17,he17,h2⟩:=bindE h
 refine R.regG [(6,bool e17)] [] ?_ ?_
 ·clear h;have h:=he17;clear he17 h2
  refine X.fl T0h ?_
  refine X.ld shp9 ?_
  refine X.cp (Z0k _ _ hv16) ?_
  refine X.mv ?_
  refine X.iG (fun hb18=>?_) (fun hb18=>?_)
  ·replace h:=condT hb18 h
   refine X.fl X0i ?_
   refine X.gy (X.ld shp3 ?_)
   refine X.gy ?_
   obtain ⟨v19,hv19,h⟩:=bindE h
   refine X.cp (C0k _ _ _ _ hv19) ?_
   refine X.pT ?_
   refine X.mv ?_
   refine X.iG (fun hb20=>?_) (fun hb20=>?_)
   ·replace h:=condT hb20 h
    refine X.fl H0v ?_
    refine X.gy (X.ld shp48 ?_)
    refine X.gy (X.ls elt48 ?_)
    refine X.gy ?_
    obtain ⟨v21,hv21,h⟩:=bindE h
    refine X.cp (C0k _ _ _ _ hv21) ?_
    refine X.pT ?_
    refine X.as ?_
    cases h
    exact X.eG
   replace h:=condF hb20 h
   refine X.gn (X.gn (X.gn (X.pF ?_)))
   refine X.as ?_
   cases h
   exact X.eG
  replace h:=condF hb18 h
  refine X.gn (X.gn (X.pF ?_))
  refine X.mv ?_
  refine X.gn (X.gn (X.gn (X.gn (X.pF ?_))))
  refine X.as ?_
  cases h
  exact X.eG
 replace h:=h2;clear h2
 cases h
 refine R.f1 Tryz.results96 ?_
 rfl
theorem S0e (b0:A0a)(b1:ByteArray)(r:Int)(h:C0b b0 b1=some r):PC Tryz.prog 97 [A0u b0,str b1] (int r):=by
 unfold C0b at h
 refine PC.start Tryz.func97 Tryz.ntmps97 rfl (by kernel_rfl) rfl ?_
 refine Run.sr (X.bx ?_)
 refine X.an ?_
 refine Run.seq (Run.sr (X.fl B0z ?_))
 refine X.ld shp23 ?_
 refine X.ls elt23 ?_
 refine X.mn ?_
 obtain ⟨o1,ho1,h⟩:=bindE h
 refine R.join2 (β:=Unit) [] [] (fun p13 S=>S) (fun p13 M=>M) (fun p13=>(Sum.inl p13)=o1) ?_ ?_
 ·intro JJ4 hmeet3
  have hup2:=h;clear h;have h:=ho1;clear ho1
  refine Run.block ?_
  refine R.bndS (t:=8) (by rfl) (fun hbd7=>?_)
  replace hbd7:b0.Activities.length≤9223372036854775807:=by first | (rw [List.length_map] at hbd7;exact hbd7) | simp
  refine R.lp (β:=Int) [(1,str b1),(8,.slice (b0.Activities.map A0b)),(9,int (b0.Activities.length:Int))] [] (fun bb S=>(10,int bb)::S) (fun bb M=>M) (fun n bb=>0≤bb∧bb+n=(b0.Activities.length:Int)∧B0h b1 (b0.Activities.drop bb.toNat) bb=some o1) b0.Activities.length (0:Int) ⟨Int.le_refl _,by simp,h⟩ ?_
  clear h
  rintro JJ7 n7 z8 hag7 ⟨hza7,hzb7,h⟩
  refine Run.sr (X.bi ?_)
  refine X.nil (Run.seq ?_)
  refine R.cd (fun hc11=>?_) (fun hc11=>?_)
  ·obtain ⟨x9,xs10,hd7,hx7,hds7,hlt7⟩:=B0c hza7 hc11
   rw [hd7] at h
   rw [B0h] at h
   refine Run.skip (Run.seq (Run.block (Run.sr (X.mv ?_))))
   refine X.ix elt23 (A0d hx7).1 (A0e A0b hx7) ?_
   refine X.lc shp50 ?_
   refine X.alloc zer50 (h:=?_)
   refine X.as ?_
   refine X.sl shp50 ?_
   refine X.nil (Run.sr (X.fl T0h ?_))
   refine X.ld shp9 ?_
   refine X.mv ?_
   refine X.bi ?_
   refine X.nil ?_
   refine R.cd (fun hc12=>?_) (fun hc12=>?_)
   ·replace h:=condT hc12 h
    refine Run.sr (X.mv ?_)
    refine X.an ?_
    cases h
    have h:=hup2
    replace h:=elimR h
    cases h
    refine R.f1 Tryz.results97 ?_
    rfl
   replace h:=condF hc12 h
   refine Run.skip (Run.blk (Run.reg (X.ad ?_)))
   refine X.mn ?_
   exact R.ag hag7 (n7 - 1) (z8+1) (R.n3 (by first | (rw [hds7];exact h) | (dsimp only;rw [hds7];exact h)))
  rw [A0w hza7 hc11] at h
  rw [B0h] at h
  refine Run.exit (by rfl) ?_
  exact R.mt hmeet3 () (Option.some.inj h)
 rintro p13 rfl
 replace h:=elimL h
 refine Run.sr (X.an ?_)
 cases h
 refine R.f1 Tryz.results97 ?_
 rfl
theorem Z0g (b0:List TStep)(r:Bool)(h:F0q b0=some r):PC Tryz.prog 116 [.slice (b0.map C0p)] (bool r):=by
 unfold F0q at h
 refine PC.start Tryz.func116 Tryz.ntmps116 rfl (by kernel_rfl) rfl ?_
 refine Run.sr (X.an ?_)
 refine Run.seq (Run.sr (X.mv ?_))
 refine X.ls elt62 ?_
 refine X.mn ?_
 obtain ⟨o1,ho1,h⟩:=bindE h
 refine R.join2 (β:=Unit) [(0,.slice (b0.map C0p))] [] (fun p20 S=>S) (fun p20 M=>M) (fun p20=>(Sum.inl p20)=o1) ?_ ?_
 ·intro JJ4 hmeet3
  have hup2:=h;clear h;have h:=ho1;clear ho1
  refine Run.block ?_
  refine R.bndS (t:=0) (by rfl) (fun hbd7=>?_)
  replace hbd7:b0.length≤9223372036854775807:=by first | (rw [List.length_map] at hbd7;exact hbd7) | simp
  refine R.lp (β:=Int) [(0,.slice (b0.map C0p)),(5,.slice (b0.map C0p)),(6,int (b0.length:Int))] [] (fun bb S=>(7,int bb)::S) (fun bb M=>M) (fun n bb=>0≤bb∧bb+n=(b0.length:Int)∧B0x b0 (b0.drop bb.toNat) bb=some o1) b0.length (0:Int) ⟨Int.le_refl _,by simp,h⟩ ?_
  clear h
  rintro JJ7 n7 z8 hag7 ⟨hza7,hzb7,h⟩
  refine Run.sr (X.bi ?_)
  refine X.nil (Run.seq ?_)
  refine R.cd (fun hc11=>?_) (fun hc11=>?_)
  ·obtain ⟨x9,xs10,hd7,hx7,hds7,hlt7⟩:=B0c hza7 hc11
   rw [hd7] at h
   rw [B0x] at h
   refine Run.skip (Run.seq (Run.block (Run.sr (X.mv ?_))))
   refine X.ix elt62 (A0d hx7).1 (A0e C0p hx7) ?_
   refine X.lc W0y ?_
   refine X.alloc T0r (h:=?_)
   refine X.as ?_
   refine X.sl W0y ?_
   refine X.nil (Run.seq ?_)
   obtain ⟨v12,hv12,h⟩:=bindE h
   obtain ⟨e13,he13,h2⟩:=bindE h
   refine R.drawG [(0,.slice (b0.map C0p)),(5,.slice (b0.map C0p)),(6,int (b0.length:Int)),(7,int z8),(36,bool e13)] [] (B0r [(1,([256],[],[],[])),(6,([256],[],[],[])),(21,([256],[],[],[]))]) mixed (by kernel_rfl) (by kernel_rfl) ?_ ?_
   ·clear h;have h:=he13;clear he13 h2
    refine X.fl H0s ?_
    refine X.ld shp3 ?_
    refine X.cp (C0k _ _ _ _ hv12) ?_
    refine X.un (h:=?_)
    refine X.mv ?_
    refine X.iG (fun hb14=>?_) (fun hb14=>?_)
    ·replace h:=condF hb14 h
     refine X.fl X0u ?_
     refine X.gy (X.ld shp3 ?_)
     refine X.gy ?_
     obtain ⟨v15,hv15,h⟩:=bindE h
     refine X.cp (C0k _ _ _ _ hv15) ?_
     refine X.gy (X.un (h:=?_))
     refine X.pF ?_
     refine X.mv ?_
     refine X.iG (fun hb16=>?_) (fun hb16=>?_)
     ·replace h:=condF hb16 h
      refine X.mv ?_
      refine X.gy (X.bi ?_)
      refine X.gy (X.mv ?_)
      refine X.iG (fun hb17=>?_) (fun hb17=>?_)
      ·replace h:=condT hb17 h
       refine X.mv ?_
       refine X.gy (X.mv ?_)
       refine X.gy (X.sub (by rfl) (by rfl) (by omega) (by rfl) ?_)
       refine X.gy ?_
       obtain ⟨v18,hv18,h⟩:=bindE h
       refine X.ix elt62 (A0d hv18).1 (A0e C0p hv18) ?_
       refine X.gy (X.fieldAddr_c H0s (by rfl) (by rfl) ?_)
       refine X.gy (X.lc shp3 ?_)
       refine X.gy (X.fl H0s ?_)
       refine X.gy (X.ld shp3 ?_)
       refine X.gy (X.bi ?_)
       refine X.gy (X.pT ?_)
       refine X.pF ?_
       cases h
       exact X.eG
      replace h:=condF hb17 h
      refine X.gn (X.gn (X.gn (X.gn (X.gn (X.gn (X.gn (X.gn ?_)))))))
      refine X.gy (X.pF ?_)
      refine X.pF ?_
      cases h
      exact X.eG
     replace h:=condT hb16 h
     refine X.gn (X.gn (X.gU (h:=?_)))
     refine X.gU (h:=?_)
     refine X.gU (h:=?_)
     refine X.gU (h:=?_)
     refine X.gU (h:=?_)
     refine X.gU (h:=?_)
     refine X.gU (h:=?_)
     refine X.gU (h:=?_)
     refine X.gU (h:=?_)
     refine X.gn (X.pT ?_)
     cases h
     exact X.eG
    replace h:=condT hb14 h
    refine X.gn (X.gn (X.gn (X.pT ?_)))
    refine X.mv ?_
    refine X.gn (X.gn (X.gn (X.gU (h:=?_))))
    refine X.gU (h:=?_)
    refine X.gU (h:=?_)
    refine X.gU (h:=?_)
    refine X.gU (h:=?_)
    refine X.gU (h:=?_)
    refine X.gU (h:=?_)
    refine X.gU (h:=?_)
    refine X.gU (h:=?_)
    refine X.gn (X.pT ?_)
    cases h
    exact X.eG
   replace h:=h2;clear h2
   refine R.cd (fun hc19=>?_) (fun hc19=>?_)
   ·replace h:=condT hc19 h
    refine Run.sr (X.an ?_)
    cases h
    have h:=hup2
    replace h:=elimR h
    cases h
    refine R.f1 Tryz.results116 ?_
    rfl
   replace h:=condF hc19 h
   refine Run.skip (Run.blk (Run.reg (X.ad ?_)))
   refine X.mn ?_
   exact R.ag hag7 (n7 - 1) (z8+1) (R.n3 (by first | (rw [hds7];exact h) | (dsimp only;rw [hds7];exact h)))
  rw [A0w hza7 hc11] at h
  rw [B0x] at h
  refine Run.exit (by rfl) ?_
  exact R.mt hmeet3 () (Option.some.inj h)
 rintro p20 rfl
 replace h:=elimL h
 refine Run.seq ?_
 obtain ⟨v22,hv22,h⟩:=bindE h
 obtain ⟨e23,he23,h2⟩:=bindE h
 refine R.regG [(2,bool e23)] [] ?_ ?_
 ·clear h;have h:=he23;clear he23 h2
  refine X.mv ?_
  refine X.ls elt62 ?_
  refine X.cp (C0k _ _ _ _ hv22) ?_
  refine X.mv ?_
  refine X.iG (fun hb24=>?_) (fun hb24=>?_)
  ·replace h:=condT hb24 h
   refine X.mv ?_
   refine X.gy ?_
   obtain ⟨v25,hv25,h⟩:=bindE h
   refine X.ix elt62 (A0d hv25).1 (A0e C0p hv25) ?_
   refine X.gy (X.fieldAddr_c H0s (by rfl) (by rfl) ?_)
   refine X.gy (X.lc shp3 ?_)
   refine X.gy (X.bi ?_)
   refine X.pT ?_
   refine X.as ?_
   cases h
   exact X.eG
  replace h:=condF hb24 h
  refine X.gn (X.gn (X.gn (X.gn (X.pF ?_))))
  refine X.as ?_
  cases h
  exact X.eG
 replace h:=h2;clear h2
 cases h
 refine R.f1 Tryz.results116 ?_
 rfl
theorem U0t (b0:B0u)(r:Bool)(h:D0k b0=some r):PC Tryz.prog 98 [A0c b0] (bool r):=by
 unfold D0k at h
 refine PC.start Tryz.func98 Tryz.ntmps98 rfl (by kernel_rfl) rfl ?_
 refine Run.sr (X.bx ?_)
 refine X.an ?_
 refine Run.seq (Run.sr (X.fl N0u ?_))
 refine X.ld shp30 ?_
 refine X.ls elt30 ?_
 refine X.mn ?_
 obtain ⟨o1,ho1,h⟩:=bindE h
 refine R.join2 (β:=Unit) [(1,.lptr 64 0)] [(64,.blk true [.slice (b0.Steps.map C0p),.slice (b0.Setup.map l_int)])] (fun p28 S=>S) (fun p28 M=>M) (fun p28=>(Sum.inl p28)=o1) ?_ ?_
 ·intro JJ4 hmeet3
  have hup2:=h;clear h;have h:=ho1;clear ho1
  refine Run.block ?_
  refine R.bndS (t:=8) (by rfl) (fun hbd7=>?_)
  replace hbd7:b0.Setup.length≤9223372036854775807:=by first | (rw [List.length_map] at hbd7;exact hbd7) | simp
  refine R.lp (β:=Int) [(1,.lptr 64 0),(8,.slice (b0.Setup.map l_int)),(9,int (b0.Setup.length:Int))] [(64,.blk true [.slice (b0.Steps.map C0p),.slice (b0.Setup.map l_int)])] (fun bb S=>(10,int bb)::S) (fun bb M=>M) (fun n bb=>0≤bb∧bb+n=(b0.Setup.length:Int)∧B0e (b0.Setup.drop bb.toNat) bb=some o1) b0.Setup.length (0:Int) ⟨Int.le_refl _,by simp,h⟩ ?_
  clear h
  rintro JJ7 n7 z8 hag7 ⟨hza7,hzb7,h⟩
  refine Run.sr (X.bi ?_)
  refine X.nil (Run.seq ?_)
  refine R.cd (fun hc11=>?_) (fun hc11=>?_)
  ·obtain ⟨x9,xs10,hd7,hx7,hds7,hlt7⟩:=B0c hza7 hc11
   rw [hd7] at h
   rw [B0e] at h
   refine Run.skip (Run.seq (Run.block (Run.sr (X.ix elt30 (A0d hx7).1 (A0e l_int hx7) ?_))))
   refine X.lc shp26 ?_
   refine X.an ?_
   refine Run.seq (Run.sr (X.mv ?_))
   refine X.ls elt26 ?_
   refine X.bi ?_
   refine X.nil ?_
   refine R.cd (fun hc12=>?_) (fun hc12=>?_)
   ·replace h:=condT hc12 h
    refine Run.sr (X.an ?_)
    cases h
    have h:=hup2
    replace h:=elimR h
    cases h
    refine R.f1 Tryz.results98 ?_
    rfl
   replace h:=condF hc12 h
   refine Run.skip (Run.sr (X.mv ?_))
   refine X.ls elt26 ?_
   refine X.mn ?_
   obtain ⟨o13,ho13,h⟩:=bindE h
   refine R.join2 (β:=Unit) [(1,.lptr 64 0),(8,.slice (b0.Setup.map l_int)),(9,int (b0.Setup.length:Int)),(10,int z8)] [(64,.blk true [.slice (b0.Steps.map C0p),.slice (b0.Setup.map l_int)])] (fun p26 S=>S) (fun p26 M=>M) (fun p26=>(Sum.inl p26)=o13) ?_ ?_
   ·intro JJ16 hmeet15
    have hup14:=h;clear h;have h:=ho13;clear ho13
    refine Run.block ?_
    refine R.bndS (t:=4) (by rfl) (fun hbd19=>?_)
    replace hbd19:x9.length≤9223372036854775807:=by first | (rw [List.length_map] at hbd19;exact hbd19) | simp
    refine R.lp (β:=Int) [(1,.lptr 64 0),(8,.slice (b0.Setup.map l_int)),(9,int (b0.Setup.length:Int)),(10,int z8),(17,.slice (x9.map int)),(18,int (x9.length:Int))] [(64,.blk true [.slice (b0.Steps.map C0p),.slice (b0.Setup.map l_int)])] (fun bb S=>(19,int bb)::S) (fun bb M=>M) (fun n bb=>0≤bb∧bb+n=(x9.length:Int)∧B0k (x9.drop bb.toNat) bb=some o13) x9.length (0:Int) ⟨Int.le_refl _,by simp,h⟩ ?_
    clear h
    rintro JJ19 n19 z20 hag19 ⟨hza19,hzb19,h⟩
    refine Run.sr (X.bi ?_)
    refine X.nil (Run.seq ?_)
    refine R.cd (fun hc23=>?_) (fun hc23=>?_)
    ·obtain ⟨x21,xs22,hd19,hx19,hds19,hlt19⟩:=B0c hza19 hc23
     rw [hd19] at h
     rw [B0k] at h
     refine Run.skip (Run.seq (Run.block (Run.sr (X.ix elt26 (A0d hx19).1 (A0e int hx19) ?_))))
     refine X.lc shp3 ?_
     refine X.an ?_
     refine Run.sr (X.mv ?_)
     obtain ⟨v24,hv24,h⟩:=bindE h
     refine X.cp (C0k _ _ _ _ hv24) ?_
     refine X.un (h:=?_)
     refine X.nil ?_
     refine R.cd (fun hc25=>?_) (fun hc25=>?_)
     ·replace h:=condT hc25 h
      refine Run.sr (X.an ?_)
      cases h
      have h:=hup14
      replace h:=elimR h
      cases h
      have h:=hup2
      replace h:=elimR h
      cases h
      refine R.f1 Tryz.results98 ?_
      rfl
     replace h:=condF hc25 h
     refine Run.skip (Run.blk (Run.reg (X.ad ?_)))
     refine X.mn ?_
     exact R.ag hag19 (n19 - 1) (z20+1) (R.n3 (by first | (rw [hds19];exact h) | (dsimp only;rw [hds19];exact h)))
    rw [A0w hza19 hc23] at h
    rw [B0k] at h
    refine Run.exit (by rfl) ?_
    exact R.mt hmeet15 () (Option.some.inj h)
   rintro p26 rfl
   replace h:=elimL h
   refine Run.blk (Run.reg (X.ad ?_))
   refine X.mn ?_
   exact R.ag hag7 (n7 - 1) (z8+1) (R.n3 (by first | (rw [hds7];exact h) | (dsimp only;rw [hds7];exact h)))
  rw [A0w hza7 hc11] at h
  rw [B0e] at h
  refine Run.exit (by rfl) ?_
  exact R.mt hmeet3 () (Option.some.inj h)
 rintro p28 rfl
 replace h:=elimL h
 refine Run.seq ?_
 obtain ⟨v30,hv30,h⟩:=bindE h
 obtain ⟨e31,he31,h2⟩:=bindE h
 refine R.regG [(2,bool e31)] [] ?_ ?_
 ·clear h;have h:=he31;clear he31 h2
  refine X.fl N0g ?_
  refine X.ld shp62 ?_
  refine X.cp (Z0g _ _ hv30) ?_
  refine X.mv ?_
  refine X.iG (fun hb32=>?_) (fun hb32=>?_)
  ·replace h:=condT hb32 h
   refine X.fl N0u ?_
   refine X.gy (X.ld shp30 ?_)
   refine X.gy (X.ls elt30 ?_)
   refine X.gy (X.bi ?_)
   refine X.gy (X.mv ?_)
   refine X.iG (fun hb33=>?_) (fun hb33=>?_)
   ·replace h:=condF hb33 h
    refine X.fl N0u ?_
    refine X.gy (X.ld shp30 ?_)
    refine X.gy (X.ls elt30 ?_)
    refine X.gy (X.bi ?_)
    refine X.gy (X.pF ?_)
    refine X.pT ?_
    refine X.as ?_
    cases h
    exact X.eG
   replace h:=condT hb33 h
   refine X.gn (X.gn (X.gn (X.gy (X.pT ?_))))
   refine X.pT ?_
   refine X.as ?_
   cases h
   exact X.eG
  replace h:=condF hb32 h
  refine X.gn (X.gn (X.gn (X.gn (X.gU (h:=?_)))))
  refine X.gU (h:=?_)
  refine X.gU (h:=?_)
  refine X.gU (h:=?_)
  refine X.gn (X.pF ?_)
  refine X.as ?_
  cases h
  exact X.eG
 replace h:=h2;clear h2
 cases h
 refine R.f1 Tryz.results98 ?_
 rfl
theorem W0i (b0:A0a)(r:Bool)(h:E0v b0=some r):PC Tryz.prog 59 [A0u b0] (bool r):=by
 unfold E0v at h
 refine PC.start Tryz.func59 Tryz.ntmps59 rfl (by kernel_rfl) rfl ?_
 refine Run.sr (X.bx ?_)
 refine X.an ?_
 refine Run.sr (X.fl B0z ?_)
 refine X.ld shp23 ?_
 refine X.ls elt23 ?_
 refine X.an ?_
 refine Run.seq (Run.seq ?_)
 obtain ⟨v1,hv1,h⟩:=bindE h
 obtain ⟨e2,he2,h2⟩:=bindE h
 refine R.regG [(1,.lptr 64 0),(3,int (b0.Activities.length:Int)),(41,bool e2)] [(64,.blk true [int b0.Deadline,.slice (b0.Activities.map A0b),.slice (b0.Links.map A0o),.slice (b0.Resources.map A0c),.slice (b0.Stocks.map int)])] ?_ ?_
 ·clear h;have h:=he2;clear he2 h2
  refine X.fl V0r ?_
  refine X.ld shp3 ?_
  refine X.cp (C0k _ _ _ _ hv1) ?_
  refine X.un (h:=?_)
  refine X.mv ?_
  refine X.iG (fun hb3=>?_) (fun hb3=>?_)
  ·replace h:=condF hb3 h
   refine X.mv ?_
   refine X.gy ?_
   obtain ⟨v4,hv4,h⟩:=bindE h
   refine X.cp (C0k _ _ _ _ hv4) ?_
   refine X.gy (X.un (h:=?_))
   refine X.pF ?_
   refine X.mv ?_
   refine X.iG (fun hb5=>?_) (fun hb5=>?_)
   ·replace h:=condF hb5 h
    refine X.fl G0s ?_
    refine X.gy (X.ld shp25 ?_)
    refine X.gy (X.ls elt25 ?_)
    refine X.gy (X.bi ?_)
    refine X.pF ?_
    refine X.mv ?_
    refine X.iG (fun hb6=>?_) (fun hb6=>?_)
    ·replace h:=condF hb6 h
     refine X.fl M0q ?_
     refine X.gy (X.ld shp26 ?_)
     refine X.gy (X.ls elt26 ?_)
     refine X.gy (X.bi ?_)
     refine X.pF ?_
     refine X.mv ?_
     refine X.iG (fun hb7=>?_) (fun hb7=>?_)
     ·replace h:=condF hb7 h
      refine X.fl P0n ?_
      refine X.gy (X.ld shp24 ?_)
      refine X.gy (X.ls elt24 ?_)
      refine X.gy (X.bi ?_)
      refine X.pF ?_
      cases h
      exact X.eG
     replace h:=condT hb7 h
     refine X.gn (X.gn (X.gn (X.pT ?_)))
     cases h
     exact X.eG
    replace h:=condT hb6 h
    refine X.gn (X.gn (X.gn (X.pT ?_)))
    refine X.mv ?_
    refine X.gn (X.gn (X.gn (X.gn (X.pT ?_))))
    cases h
    exact X.eG
   replace h:=condT hb5 h
   refine X.gn (X.gn (X.gn (X.pT ?_)))
   refine X.mv ?_
   refine X.gn (X.gn (X.gn (X.gn (X.pT ?_))))
   refine X.mv ?_
   refine X.gn (X.gn (X.gn (X.gn (X.pT ?_))))
   cases h
   exact X.eG
  replace h:=condT hb3 h
  refine X.gn (X.gn (X.pT ?_))
  refine X.mv ?_
  refine X.gn (X.gn (X.gn (X.gn (X.pT ?_))))
  refine X.mv ?_
  refine X.gn (X.gn (X.gn (X.gn (X.pT ?_))))
  refine X.mv ?_
  refine X.gn (X.gn (X.gn (X.gn (X.pT ?_))))
  cases h
  exact X.eG
 replace h:=h2;clear h2
 refine R.cd (fun hc8=>?_) (fun hc8=>?_)
 ·replace h:=condT hc8 h
  refine Run.sr (X.an ?_)
  cases h
  refine R.f1 Tryz.results59 ?_
  rfl
 replace h:=condF hc8 h
 refine Run.skip (Run.seq (Run.sr (X.fl B0z ?_)))
 refine X.ld shp23 ?_
 refine X.ls elt23 ?_
 refine X.mn ?_
 obtain ⟨o9,ho9,h⟩:=bindE h
 refine R.join2 (β:=Unit) [(1,.lptr 64 0),(3,int (b0.Activities.length:Int))] [(64,.blk true [int b0.Deadline,.slice (b0.Activities.map A0b),.slice (b0.Links.map A0o),.slice (b0.Resources.map A0c),.slice (b0.Stocks.map int)])] (fun p25 S=>S) (fun p25 M=>M) (fun p25=>(Sum.inl p25)=o9) ?_ ?_
 ·intro JJ12 hmeet11
  have hup10:=h;clear h;have h:=ho9;clear ho9
  refine Run.block ?_
  refine R.bndS (t:=43) (by rfl) (fun hbd15=>?_)
  replace hbd15:b0.Activities.length≤9223372036854775807:=by first | (rw [List.length_map] at hbd15;exact hbd15) | simp
  refine R.lp (β:=Int) [(1,.lptr 64 0),(3,int (b0.Activities.length:Int)),(43,.slice (b0.Activities.map A0b)),(44,int (b0.Activities.length:Int))] [(64,.blk true [int b0.Deadline,.slice (b0.Activities.map A0b),.slice (b0.Links.map A0o),.slice (b0.Resources.map A0c),.slice (b0.Stocks.map int)])] (fun bb S=>(45,int bb)::S) (fun bb M=>M) (fun n bb=>0≤bb∧bb+n=(b0.Activities.length:Int)∧C0g b0 (b0.Activities.drop bb.toNat) bb=some o9) b0.Activities.length (0:Int) ⟨Int.le_refl _,by simp,h⟩ ?_
  clear h
  rintro JJ15 n15 z16 hag15 ⟨hza15,hzb15,h⟩
  refine Run.sr (X.bi ?_)
  refine X.nil (Run.seq ?_)
  refine R.cd (fun hc19=>?_) (fun hc19=>?_)
  ·obtain ⟨x17,xs18,hd15,hx15,hds15,hlt15⟩:=B0c hza15 hc19
   rw [hd15] at h
   rw [C0g] at h
   refine Run.skip (Run.seq (Run.block (Run.sr (X.mv ?_))))
   refine X.ix elt23 (A0d hx15).1 (A0e A0b hx15) ?_
   refine X.lc shp50 ?_
   refine X.alloc zer50 (h:=?_)
   refine X.as ?_
   refine X.sl shp50 ?_
   refine X.nil (Run.seq ?_)
   obtain ⟨v20,hv20,h⟩:=bindE h
   obtain ⟨e21,he21,h2⟩:=bindE h
   refine R.regG [(1,.lptr 64 0),(3,int (b0.Activities.length:Int)),(43,.slice (b0.Activities.map A0b)),(44,int (b0.Activities.length:Int)),(45,int z16),(66,bool e21)] [(64,.blk true [int b0.Deadline,.slice (b0.Activities.map A0b),.slice (b0.Links.map A0o),.slice (b0.Resources.map A0c),.slice (b0.Stocks.map int)])] ?_ ?_
   ·clear h;have h:=he21;clear he21 h2
    refine X.ld shp50 ?_
    refine X.fl G0s ?_
    refine X.ld shp25 ?_
    refine X.ls elt25 ?_
    refine X.fl M0q ?_
    refine X.ld shp26 ?_
    refine X.ls elt26 ?_
    refine X.cp (V0f _ _ _ _ hv20) ?_
    refine X.un (h:=?_)
    refine X.mv ?_
    refine X.iG (fun hb22=>?_) (fun hb22=>?_)
    ·replace h:=condF hb22 h
     refine X.ld shp28 ?_
     refine X.gy (X.fl T0h ?_)
     refine X.gy (X.ld shp9 ?_)
     refine X.gy ?_
     obtain ⟨v23,hv23,h⟩:=bindE h
     refine X.cp (S0e _ _ _ hv23) ?_
     refine X.gy (X.mv ?_)
     refine X.gy (X.bi ?_)
     refine X.pF ?_
     cases h
     exact X.eG
    replace h:=condT hb22 h
    refine X.gn (X.gn (X.gn (X.gn (X.gn (X.pT ?_)))))
    cases h
    exact X.eG
   replace h:=h2;clear h2
   refine R.cd (fun hc24=>?_) (fun hc24=>?_)
   ·replace h:=condT hc24 h
    refine Run.sr (X.an ?_)
    cases h
    have h:=hup10
    replace h:=elimR h
    cases h
    refine R.f1 Tryz.results59 ?_
    rfl
   replace h:=condF hc24 h
   refine Run.skip (Run.blk (Run.reg (X.ad ?_)))
   refine X.mn ?_
   exact R.ag hag15 (n15 - 1) (z16+1) (R.n3 (by first | (rw [hds15];exact h) | (dsimp only;rw [hds15];exact h)))
  rw [A0w hza15 hc19] at h
  rw [C0g] at h
  refine Run.exit (by rfl) ?_
  exact R.mt hmeet11 () (Option.some.inj h)
 rintro p25 rfl
 replace h:=elimL h
 refine Run.seq (Run.sr (X.fl G0s ?_))
 refine X.ld shp25 ?_
 refine X.ls elt25 ?_
 refine X.mn ?_
 obtain ⟨o27,ho27,h⟩:=bindE h
 refine R.join2 (β:=Unit) [(1,.lptr 64 0),(3,int (b0.Activities.length:Int))] [(64,.blk true [int b0.Deadline,.slice (b0.Activities.map A0b),.slice (b0.Links.map A0o),.slice (b0.Resources.map A0c),.slice (b0.Stocks.map int)])] (fun p40 S=>S) (fun p40 M=>M) (fun p40=>(Sum.inl p40)=o27) ?_ ?_
 ·intro JJ30 hmeet29
  have hup28:=h;clear h;have h:=ho27;clear ho27
  refine Run.block ?_
  refine R.bndS (t:=69) (by rfl) (fun hbd33=>?_)
  replace hbd33:b0.Resources.length≤9223372036854775807:=by first | (rw [List.length_map] at hbd33;exact hbd33) | simp
  refine R.lp (β:=Int) [(1,.lptr 64 0),(3,int (b0.Activities.length:Int)),(69,.slice (b0.Resources.map A0c)),(70,int (b0.Resources.length:Int))] [(64,.blk true [int b0.Deadline,.slice (b0.Activities.map A0b),.slice (b0.Links.map A0o),.slice (b0.Resources.map A0c),.slice (b0.Stocks.map int)])] (fun bb S=>(71,int bb)::S) (fun bb M=>M) (fun n bb=>0≤bb∧bb+n=(b0.Resources.length:Int)∧C0i (b0.Resources.drop bb.toNat) bb=some o27) b0.Resources.length (0:Int) ⟨Int.le_refl _,by simp,h⟩ ?_
  clear h
  rintro JJ33 n33 z34 hag33 ⟨hza33,hzb33,h⟩
  refine Run.sr (X.bi ?_)
  refine X.nil (Run.seq ?_)
  refine R.cd (fun hc37=>?_) (fun hc37=>?_)
  ·obtain ⟨x35,xs36,hd33,hx33,hds33,hlt33⟩:=B0c hza33 hc37
   rw [hd33] at h
   rw [C0i] at h
   refine Run.skip (Run.seq (Run.block (Run.sr (X.ix elt25 (A0d hx33).1 (A0e A0c hx33) ?_))))
   refine X.lc shp64 ?_
   refine X.alloc zer64 (h:=?_)
   refine X.sl shp64 ?_
   refine X.nil (Run.sr (X.ld shp64 ?_))
   obtain ⟨v38,hv38,h⟩:=bindE h
   refine X.cp (U0t _ _ hv38) ?_
   refine X.un (h:=?_)
   refine X.nil ?_
   refine R.cd (fun hc39=>?_) (fun hc39=>?_)
   ·replace h:=condT hc39 h
    refine Run.sr (X.an ?_)
    cases h
    have h:=hup28
    replace h:=elimR h
    cases h
    refine R.f1 Tryz.results59 ?_
    rfl
   replace h:=condF hc39 h
   refine Run.skip (Run.blk (Run.reg (X.ad ?_)))
   refine X.mn ?_
   exact R.ag hag33 (n33 - 1) (z34+1) (R.n3 (by first | (rw [hds33];exact h) | (dsimp only;rw [hds33];exact h)))
  rw [A0w hza33 hc37] at h
  rw [C0i] at h
  refine Run.exit (by rfl) ?_
  exact R.mt hmeet29 () (Option.some.inj h)
 rintro p40 rfl
 replace h:=elimL h
 refine Run.seq (Run.sr (X.fl M0q ?_))
 refine X.ld shp26 ?_
 refine X.ls elt26 ?_
 refine X.mn ?_
 obtain ⟨o42,ho42,h⟩:=bindE h
 refine R.join2 (β:=Unit) [(1,.lptr 64 0),(3,int (b0.Activities.length:Int))] [(64,.blk true [int b0.Deadline,.slice (b0.Activities.map A0b),.slice (b0.Links.map A0o),.slice (b0.Resources.map A0c),.slice (b0.Stocks.map int)])] (fun p55 S=>S) (fun p55 M=>M) (fun p55=>(Sum.inl p55)=o42) ?_ ?_
 ·intro JJ45 hmeet44
  have hup43:=h;clear h;have h:=ho42;clear ho42
  refine Run.block ?_
  refine R.bndS (t:=80) (by rfl) (fun hbd48=>?_)
  replace hbd48:b0.Stocks.length≤9223372036854775807:=by first | (rw [List.length_map] at hbd48;exact hbd48) | simp
  refine R.lp (β:=Int) [(1,.lptr 64 0),(3,int (b0.Activities.length:Int)),(80,.slice (b0.Stocks.map int)),(81,int (b0.Stocks.length:Int))] [(64,.blk true [int b0.Deadline,.slice (b0.Activities.map A0b),.slice (b0.Links.map A0o),.slice (b0.Resources.map A0c),.slice (b0.Stocks.map int)])] (fun bb S=>(82,int bb)::S) (fun bb M=>M) (fun n bb=>0≤bb∧bb+n=(b0.Stocks.length:Int)∧C0j (b0.Stocks.drop bb.toNat) bb=some o42) b0.Stocks.length (0:Int) ⟨Int.le_refl _,by simp,h⟩ ?_
  clear h
  rintro JJ48 n48 z49 hag48 ⟨hza48,hzb48,h⟩
  refine Run.sr (X.bi ?_)
  refine X.nil (Run.seq ?_)
  refine R.cd (fun hc52=>?_) (fun hc52=>?_)
  ·obtain ⟨x50,xs51,hd48,hx48,hds48,hlt48⟩:=B0c hza48 hc52
   rw [hd48] at h
   rw [C0j] at h
   refine Run.skip (Run.seq (Run.block (Run.sr (X.ix elt26 (A0d hx48).1 (A0e int hx48) ?_))))
   refine X.lc shp3 ?_
   refine X.an ?_
   refine Run.sr (X.mv ?_)
   obtain ⟨v53,hv53,h⟩:=bindE h
   refine X.cp (C0k _ _ _ _ hv53) ?_
   refine X.un (h:=?_)
   refine X.nil ?_
   refine R.cd (fun hc54=>?_) (fun hc54=>?_)
   ·replace h:=condT hc54 h
    refine Run.sr (X.an ?_)
    cases h
    have h:=hup43
    replace h:=elimR h
    cases h
    refine R.f1 Tryz.results59 ?_
    rfl
   replace h:=condF hc54 h
   refine Run.skip (Run.blk (Run.reg (X.ad ?_)))
   refine X.mn ?_
   exact R.ag hag48 (n48 - 1) (z49+1) (R.n3 (by first | (rw [hds48];exact h) | (dsimp only;rw [hds48];exact h)))
  rw [A0w hza48 hc52] at h
  rw [C0j] at h
  refine Run.exit (by rfl) ?_
  exact R.mt hmeet44 () (Option.some.inj h)
 rintro p55 rfl
 replace h:=elimL h
 refine Run.seq (Run.sr (X.fl P0n ?_))
 refine X.ld shp24 ?_
 refine X.ls elt24 ?_
 refine X.mn ?_
 obtain ⟨o57,ho57,h⟩:=bindE h
 refine R.join2 (β:=Unit) [] [] (fun p76 S=>S) (fun p76 M=>M) (fun p76=>(Sum.inl p76)=o57) ?_ ?_
 ·intro JJ60 hmeet59
  have hup58:=h;clear h;have h:=ho57;clear ho57
  refine Run.block ?_
  refine R.bndS (t:=91) (by rfl) (fun hbd63=>?_)
  replace hbd63:b0.Links.length≤9223372036854775807:=by first | (rw [List.length_map] at hbd63;exact hbd63) | simp
  refine R.lp (β:=Int) [(3,int (b0.Activities.length:Int)),(91,.slice (b0.Links.map A0o)),(92,int (b0.Links.length:Int))] [] (fun bb S=>(93,int bb)::S) (fun bb M=>M) (fun n bb=>0≤bb∧bb+n=(b0.Links.length:Int)∧B0j b0 (b0.Links.drop bb.toNat) bb=some o57) b0.Links.length (0:Int) ⟨Int.le_refl _,by simp,h⟩ ?_
  clear h
  rintro JJ63 n63 z64 hag63 ⟨hza63,hzb63,h⟩
  refine Run.sr (X.bi ?_)
  refine X.nil (Run.seq ?_)
  refine R.cd (fun hc67=>?_) (fun hc67=>?_)
  ·obtain ⟨x65,xs66,hd63,hx63,hds63,hlt63⟩:=B0c hza63 hc67
   rw [hd63] at h
   rw [B0j] at h
   refine Run.skip (Run.seq (Run.block (Run.sr (X.ix elt24 (A0d hx63).1 (A0e A0o hx63) ?_))))
   refine X.lc T0p ?_
   refine X.alloc W0x (h:=?_)
   refine X.sl T0p ?_
   refine X.nil (Run.seq ?_)
   obtain ⟨v68,hv68,h⟩:=bindE h
   obtain ⟨e69,he69,h2⟩:=bindE h
   refine R.regG [(3,int (b0.Activities.length:Int)),(91,.slice (b0.Links.map A0o)),(92,int (b0.Links.length:Int)),(93,int z64),(123,bool e69)] [] ?_ ?_
   ·clear h;have h:=he69;clear he69 h2
    refine X.fl N0r ?_
    refine X.ld shp3 ?_
    refine X.mv ?_
    refine X.subW (h:=?_)
    refine X.cp (C0k _ _ _ _ hv68) ?_
    refine X.un (h:=?_)
    refine X.mv ?_
    refine X.iG (fun hb70=>?_) (fun hb70=>?_)
    ·replace h:=condF hb70 h
     refine X.fl Q0i ?_
     refine X.gy (X.ld shp3 ?_)
     refine X.gy (X.mv ?_)
     refine X.gy (X.subW (h:=?_))
     refine X.gy ?_
     obtain ⟨v71,hv71,h⟩:=bindE h
     refine X.cp (C0k _ _ _ _ hv71) ?_
     refine X.gy (X.un (h:=?_))
     refine X.pF ?_
     refine X.mv ?_
     refine X.iG (fun hb72=>?_) (fun hb72=>?_)
     ·replace h:=condF hb72 h
      refine X.fl N0r ?_
      refine X.gy (X.ld shp3 ?_)
      refine X.gy (X.fl Q0i ?_)
      refine X.gy (X.ld shp3 ?_)
      refine X.gy (X.bi ?_)
      refine X.pF ?_
      refine X.mv ?_
      refine X.iG (fun hb73=>?_) (fun hb73=>?_)
      ·replace h:=condF hb73 h
       refine X.fl X0r ?_
       refine X.gy (X.ld shp3 ?_)
       refine X.gy ?_
       obtain ⟨v74,hv74,h⟩:=bindE h
       refine X.cp (C0k _ _ _ _ hv74) ?_
       refine X.gy (X.un (h:=?_))
       refine X.pF ?_
       cases h
       exact X.eG
      replace h:=condT hb73 h
      refine X.gn (X.gn (X.gn (X.pT ?_)))
      cases h
      exact X.eG
     replace h:=condT hb72 h
     refine X.gn (X.gn (X.gn (X.gn (X.pT ?_))))
     refine X.mv ?_
     refine X.gn (X.gn (X.gn (X.gn (X.pT ?_))))
     cases h
     exact X.eG
    replace h:=condT hb70 h
    refine X.gn (X.gn (X.gn (X.gn (X.gn (X.pT ?_)))))
    refine X.mv ?_
    refine X.gn (X.gn (X.gn (X.gn (X.gn (X.pT ?_)))))
    refine X.mv ?_
    refine X.gn (X.gn (X.gn (X.gn (X.pT ?_))))
    cases h
    exact X.eG
   replace h:=h2;clear h2
   refine R.cd (fun hc75=>?_) (fun hc75=>?_)
   ·replace h:=condT hc75 h
    refine Run.sr (X.an ?_)
    cases h
    have h:=hup58
    replace h:=elimR h
    cases h
    refine R.f1 Tryz.results59 ?_
    rfl
   replace h:=condF hc75 h
   refine Run.skip (Run.blk (Run.reg (X.ad ?_)))
   refine X.mn ?_
   exact R.ag hag63 (n63 - 1) (z64+1) (R.n3 (by first | (rw [hds63];exact h) | (dsimp only;rw [hds63];exact h)))
  rw [A0w hza63 hc67] at h
  rw [B0j] at h
  refine Run.exit (by rfl) ?_
  exact R.mt hmeet59 () (Option.some.inj h)
 rintro p76 rfl
 replace h:=elimL h
 refine Run.sr (X.an ?_)
 cases h
 refine R.f1 Tryz.results59 ?_
 rfl
theorem X0o (b0:Int)(r:List Int)(h:K0h b0=some r):PC Tryz.prog 117 [int b0] (.fresh false 3 1 (r.map int)):=by
 unfold K0h at h
 refine PC.start Tryz.func117 Tryz.ntmps117 rfl (by kernel_rfl) rfl ?_
 refine Run.sr (X.an ?_)
 refine Run.sr ?_
 refine X.buildSlice false elt26 zer3 (by rfl) (by rfl) (by rfl) (by rfl) (by rfl) (by rfl) (by repeat (first | trivial | refine ⟨by first | rfl | simp [setL],?_⟩)) (A0j (by rfl)) (by rfl) (by rfl) (by rfl) ?_
 refine X.an ?_
 refine Run.seq (Run.sr (X.mv ?_))
 obtain ⟨v1,hv1,h⟩:=bindE h
 refine X.cp (C0k _ _ _ _ hv1) ?_
 refine X.un (h:=?_)
 refine X.nil ?_
 refine R.cd (fun hc2=>?_) (fun hc2=>?_)
 ·replace h:=condT hc2 h
  refine Run.sr (X.an ?_)
  cases h
  refine R.fin1n (x:=false) (e:=3) (sz:=1) Tryz.results117 (by rfl) (by decide) ?_
  rfl
 replace h:=condF hc2 h
 refine Run.skip (Run.seq (Run.sr (X.an ?_)))
 obtain ⟨o3,ho3,h⟩:=bindE h
 refine R.join2 (β:=(List Int)) [] [] (fun p15 S=>(3,.own 320 (p15.map int).length)::S) (fun p15 M=>(320,.obj false 3 1 (p15.map int))::M) (fun p15=>p15=o3) ?_ ?_
 ·intro JJ6 hmeet5
  have hup4:=h;clear h;have h:=ho3;clear ho3
  refine Run.block ?_
  refine R.lp (β:=Int×(List Int)) [(0,int b0)] [] (fun bb S=>(3,.own 320 (bb.2.map int).length)::(4,int bb.1)::S) (fun bb M=>(320,.obj false 3 1 (bb.2.map int))::M) (fun n bb=>E0m b0 n bb.1 bb.2=some o3) F0 (0,([]:List Int)) h ?_
  clear h
  rintro JJ7 n7 ⟨a9,a10⟩ hag7 h
  dsimp only at h
  obtain _ | n7:=n7
  ·exact absurd h (by simp [E0m])
  rw [E0m] at h
  refine Run.seq (Run.sr (X.mv ?_))
  refine X.mv ?_
  refine X.bi ?_
  refine X.nil ?_
  refine R.cd (fun hc13=>?_) (fun hc13=>?_)
  ·replace h:=condT hc13 h
   refine Run.skip (Run.seq (Run.block (Run.reg (X.mv ?_))))
   refine X.mv ?_
   refine X.buildSlice false elt26 zer3 (by rfl) (by rfl) (by rfl) (by rfl) (by rfl) (by rfl) (by repeat (first | trivial | refine ⟨by first | rfl | simp [setL],?_⟩)) (A0j (by rfl)) (by rfl) (by rfl) (by rfl) ?_
   obtain ⟨v14,hv14,h⟩:=bindE h
   refine X.append elt26 zer3 (by rfl) (by rfl) (by first | rfl | simp [setL] | omega) (by rfl) (.own _ _ _ _ _ _ (A0h (by rfl)) (by first | rfl | simp [setL] | omega)) (A0j (by rfl)) (D0n int hv14) (D0o int hv14) (by rfl) (by rfl) (by rfl) (by rfl) ?_
   refine X.an ?_
   refine Run.blk (Run.reg (X.mv ?_))
   refine X.addW (h:=?_)
   refine X.an ?_
   exact hag7 n7 ((W (a9+1)),v14) _ _ (by omega) h (by repeat (first | trivial | refine ⟨by first | rfl | simp [setL],?_⟩)) (by repeat (first | trivial | refine ⟨by first | rfl | simp [setL],?_⟩)) (by rfl) (by rfl)
  replace h:=condF hc13 h
  refine Run.exit (by rfl) ?_
  exact R.mt hmeet5 a10 (Option.some.inj h)
 rintro p15 rfl
 refine Run.sr (X.mv ?_)
 refine X.an ?_
 cases h
 refine R.fin1o Tryz.results117 (by rfl) (by rfl) (by first | rfl | simp [setL] | omega) ?_
 rfl
theorem U0c (b0:A0g)(r:List Int)(h:F0i b0=some r):PC Tryz.prog 99 [A0b b0] (.fresh false 3 1 (r.map int)):=by
 unfold F0i at h
 refine PC.start Tryz.func99 Tryz.ntmps99 rfl (by kernel_rfl) rfl ?_
 refine Run.sr (X.bx ?_)
 refine X.an ?_
 refine Run.sr (X.fl H0v ?_)
 refine X.ld shp48 ?_
 refine X.ls elt48 ?_
 obtain ⟨v1,hv1,h⟩:=bindE h
 refine X.callF (X0o _ _ hv1) (by rfl) (by rfl) (by rfl) (by trivial) (by rfl) (by rfl) (by rfl) (by rfl) ?_
 refine X.an ?_
 cases h
 refine R.fin1o Tryz.results99 (by rfl) (by rfl) (by first | rfl | simp [setL] | omega) ?_
 rfl
theorem B1o (b0:A0a)(r:A0f)(h:X0x b0=some r):PC Tryz.prog 60 [A0u b0] (.agg [.fresh false 3 1 (r.MinStart.map int),.fresh false 3 1 (r.MaxStart.map int),.fresh false 26 1 (r.Modes.map l_int)]):=by
 unfold X0x at h
 refine PC.start Tryz.func60 Tryz.ntmps60 rfl (by kernel_rfl) rfl ?_
 refine Run.sr (X.bx ?_)
 refine X.alloc zer32 (h:=?_)
 refine X.nil (Run.sr ?_)
 refine X.build zer32 pl32 (by rfl) (by rfl) (by repeat (first | trivial | refine ⟨by first | rfl | simp [setL],?_⟩)) (by rfl) (by rfl) (by rfl) ?_
 refine X.alloc zer32 (h:=?_)
 refine X.sl shp32 ?_
 refine X.nil (Run.seq (Run.sr (X.fl B0z ?_)))
 refine X.ld shp23 ?_
 refine X.ls elt23 ?_
 refine X.mn ?_
 obtain ⟨o1,ho1,h⟩:=bindE h
 refine R.join2 (β:=(List Int)×(List Int)×(List (List Int))) [(2,.lptr 128 0),(3,.lptr 192 0)] [(128,.blk true [.nils,.nils,.nils])] (fun p19 S=>S) (fun p19 M=>(192,.blk true [.own 1088 (p19.1.map int).length,.own 1600 (p19.2.1.map int).length,.own 2048 (p19.2.2.map l_int).length])::(1088,.obj false 3 1 (p19.1.map int))::(1600,.obj false 3 1 (p19.2.1.map int))::(2048,.obj false 26 1 (p19.2.2.map l_int))::M) (fun p19=>p19=o1) ?_ ?_
 ·intro JJ4 hmeet3
  have hup2:=h;clear h;have h:=ho1;clear ho1
  refine Run.block (R.nilOwnB (m:=192) 0 1088 false 3 1 (by rfl) (by rfl) (by rfl) (by rfl) (by rfl) ?_)
  refine R.nilOwnB (m:=192) 1 1600 false 3 1 (by rfl) (by rfl) (by rfl) (by rfl) (by rfl) ?_
  refine R.nilOwnB (m:=192) 2 2048 false 26 1 (by rfl) (by rfl) (by rfl) (by rfl) (by rfl) ?_
  refine R.bndS (t:=8) (by rfl) (fun hbd7=>?_)
  replace hbd7:b0.Activities.length≤9223372036854775807:=by first | (rw [List.length_map] at hbd7;exact hbd7) | simp
  refine R.lp (β:=Int×(List Int)×(List Int)×(List (List Int))) [(1,.lptr 64 0),(2,.lptr 128 0),(3,.lptr 192 0),(8,.slice (b0.Activities.map A0b)),(9,int (b0.Activities.length:Int))] [(64,.blk true [int b0.Deadline,.slice (b0.Activities.map A0b),.slice (b0.Links.map A0o),.slice (b0.Resources.map A0c),.slice (b0.Stocks.map int)]),(128,.blk true [.nils,.nils,.nils])] (fun bb S=>(10,int bb.1)::S) (fun bb M=>(192,.blk true [.own 1088 (bb.2.1.map int).length,.own 1600 (bb.2.2.1.map int).length,.own 2048 (bb.2.2.2.map l_int).length])::(1088,.obj false 3 1 (bb.2.1.map int))::(1600,.obj false 3 1 (bb.2.2.1.map int))::(2048,.obj false 26 1 (bb.2.2.2.map l_int))::M) (fun n bb=>0≤bb.1∧bb.1+n=(b0.Activities.length:Int)∧J0n b0 (b0.Activities.drop bb.1.toNat) bb.1 bb.2.1 bb.2.2.1 bb.2.2.2=some o1) b0.Activities.length (0,([]:List Int),([]:List Int),([]:List (List Int))) ⟨Int.le_refl _,by simp,h⟩ ?_
  clear h
  rintro JJ7 n7 ⟨z8,a9,a10,a11⟩ hag7 ⟨hza7,hzb7,h⟩
  dsimp only at hza7 hzb7 h
  refine Run.sr (X.bi ?_)
  refine X.nil (Run.seq ?_)
  refine R.cd (fun hc14=>?_) (fun hc14=>?_)
  ·obtain ⟨x12,xs13,hd7,hx7,hds7,hlt7⟩:=B0c hza7 hc14
   rw [hd7] at h
   rw [J0n] at h
   refine Run.skip (Run.seq (Run.block (Run.sr (X.ix elt23 (A0d hx7).1 (A0e A0b hx7) ?_))))
   refine X.lc shp50 ?_
   refine X.alloc zer50 (h:=?_)
   refine X.sl shp50 ?_
   refine X.nil (Run.sr (X.fl H0a ?_))
   refine X.ld shp26 ?_
   refine X.buildSlice false elt26 zer3 (by rfl) (by rfl) (by rfl) (by rfl) (by rfl) (by rfl) (by repeat (first | trivial | refine ⟨by first | rfl | simp [setL],?_⟩)) (A0j (by rfl)) (by rfl) (by rfl) (by rfl) ?_
   obtain ⟨v15,hv15,h⟩:=bindE h
   refine X.append elt26 zer3 (by rfl) (by rfl) (by first | rfl | simp [setL] | omega) (by rfl) (.own _ _ _ _ _ _ (A0h (by rfl)) (by first | rfl | simp [setL] | omega)) (A0j (by rfl)) (D0n int hv15) (D0o int hv15) (by rfl) (by rfl) (by rfl) (by rfl) ?_
   refine X.fl H0a ?_
   refine X.sl shp26 ?_
   refine X.nil (Run.sr (X.fl G0b ?_))
   refine X.ld shp26 ?_
   refine X.fl V0r ?_
   refine X.ld shp3 ?_
   refine X.subW (h:=?_)
   refine X.buildSlice false elt26 zer3 (by rfl) (by rfl) (by rfl) (by rfl) (by rfl) (by rfl) (by repeat (first | trivial | refine ⟨by first | rfl | simp [setL],?_⟩)) (A0j (by rfl)) (by rfl) (by rfl) (by rfl) ?_
   obtain ⟨v16,hv16,h⟩:=bindE h
   refine X.append elt26 zer3 (by rfl) (by rfl) (by first | rfl | simp [setL] | omega) (by rfl) (.own _ _ _ _ _ _ (A0h (by rfl)) (by first | rfl | simp [setL] | omega)) (A0j (by rfl)) (D0n int hv16) (D0o int hv16) (by rfl) (by rfl) (by rfl) (by rfl) ?_
   refine X.fl G0b ?_
   refine X.sl shp26 ?_
   refine X.nil (Run.draw (B0r [(1,([192],[],[],[])),(2,([320],[],[],[])),(3,([],[1920],[],[])),(4,([1920,1984],[1984],[],[])),(5,([1984,2048],[2048],[],[])),(7,([192,2048],[192],[],[]))]) mixed (by kernel_rfl) (by kernel_rfl) ?_)
   refine X.fl H0n ?_
   refine X.ld shp30 ?_
   refine X.ld shp50 ?_
   obtain ⟨v17,hv17,h⟩:=bindE h
   refine X.callF (U0c _ _ hv17) (by rfl) (by rfl) (by rfl) (by trivial) (by rfl) (by rfl) (by rfl) (by rfl) ?_
   refine X.buildSlice false elt30 zer26 (by rfl) (by rfl) (by rfl) (by rfl) (by rfl) (by rfl) (by repeat (first | trivial | refine ⟨by first | rfl | simp [setL],?_⟩)) (A0j (by rfl)) (by rfl) (by rfl) (by rfl) ?_
   obtain ⟨v18,hv18,h⟩:=bindE h
   refine X.append elt30 zer26 (by rfl) (by rfl) (by first | rfl | simp [setL] | omega) (by rfl) (.own _ _ _ _ _ _ (A0h (by rfl)) (by first | rfl | simp [setL] | omega)) (A0j (by rfl)) (D0n l_int hv18) (D0o l_int hv18) (by rfl) (by rfl) (by rfl) (by rfl) ?_
   refine X.fl H0n ?_
   refine X.sl shp30 ?_
   refine X.nil (Run.blk (Run.reg (X.ad ?_)))
   refine X.mn ?_
   exact R.ag hag7 (n7 - 1) (z8+1,v15,v16,v18) (R.n3 (by first | (rw [hds7];exact h) | (dsimp only;rw [hds7];exact h)))
  rw [A0w hza7 hc14] at h
  rw [J0n] at h
  refine Run.exit (by rfl) ?_
  exact R.mt hmeet3 (a9,a10,a11) (Option.some.inj h)
 rintro p19 rfl
 refine Run.sr (X.ld shp32 ?_)
 refine X.sl shp32 ?_
 refine X.nil ?_
 cases h
 refine R.finC Tryz.results60 shp32 (by rfl) (by rfl) (by rfl) (by rfl) (by repeat (first | trivial | refine ⟨by first | rfl | simp [setL],?_⟩)) ?_
 rfl
theorem S0c (b0:A0a)(r:A0f)(h:H0e b0=some r):PC Tryz.prog 29 [A0u b0] (.agg [.fresh false 3 1 (r.MinStart.map int),.fresh false 3 1 (r.MaxStart.map int),.fresh false 26 1 (r.Modes.map l_int)]):=by
 unfold H0e at h
 refine PC.start Tryz.func29 Tryz.ntmps29 rfl (by kernel_rfl) rfl ?_
 refine Run.sr (X.bx ?_)
 refine X.alloc zer32 (h:=?_)
 refine X.nil (Run.seq (Run.sr (X.ld shp28 ?_)))
 obtain ⟨v1,hv1,h⟩:=bindE h
 refine X.cp (W0i _ _ hv1) ?_
 refine X.un (h:=?_)
 refine X.nil ?_
 refine R.cd (fun hc2=>?_) (fun hc2=>?_)
 ·replace h:=condT hc2 h
  refine Run.sr ?_
  refine X.build zer32 pl32 (by rfl) (by rfl) (by repeat (first | trivial | refine ⟨by first | rfl | simp [setL],?_⟩)) (by rfl) (by rfl) (by rfl) ?_
  refine X.sl shp32 ?_
  refine X.nil ?_
  cases h
  refine R.nilOwnB (m:=128) 0 168 false 3 1 (by rfl) (by rfl) (by rfl) (by rfl) (by rfl) ?_
  refine R.nilOwnB (m:=128) 1 169 false 3 1 (by rfl) (by rfl) (by rfl) (by rfl) (by rfl) ?_
  refine R.nilOwnB (m:=128) 2 170 false 26 1 (by rfl) (by rfl) (by rfl) (by rfl) (by rfl) ?_
  refine R.finC Tryz.results29 shp32 (by rfl) (by rfl) (by rfl) (by rfl) (by repeat (first | trivial | refine ⟨by first | rfl | simp [setL],?_⟩)) ?_
  rfl
 replace h:=condF hc2 h
 refine Run.skip (Run.sr (X.ld shp28 ?_))
 obtain ⟨v3,hv3,h⟩:=bindE h
 refine X.callA (B1o _ _ hv3) (by rfl) (by rfl) (by rfl) (by trivial) (by rfl) (by rfl) (by rfl) (by rfl) (by rfl) (by rfl) ?_
 refine X.sl shp32 ?_
 refine X.nil ?_
 cases h
 refine R.finC Tryz.results29 shp32 (by rfl) (by rfl) (by rfl) (by rfl) (by repeat (first | trivial | refine ⟨by first | rfl | simp [setL],?_⟩)) ?_
 rfl
theorem Z0d (b0:A0f)(r:A0f)(h:P0y b0=some r):PC Tryz.prog 62 [D0c b0] (.agg [.fresh true 3 1 (r.MinStart.map int),.fresh true 3 1 (r.MaxStart.map int),.fresh false 26 1 (r.Modes.map l_int)]):=by
 unfold P0y at h
 refine PC.start Tryz.func62 Tryz.ntmps62 rfl (by kernel_rfl) rfl ?_
 refine Run.sr (X.bx ?_)
 refine X.alloc zer32 (h:=?_)
 refine X.nil (Run.seq (Run.draw2 (B0r [(0,([384],[384],[],[])),(2,([64],[],[],[])),(3,([384],[384],[],[])),(4,([640],[640],[],[])),(6,([64],[],[],[])),(7,([640],[640],[],[])),(8,([384,640],[],[],[])),(9,([192],[192],[],[])),(10,([192],[192],[],[]))]) mixed (by kernel_rfl) (by kernel_rfl) ?_))
 refine X.buildSlice true elt26 zer3 (by rfl) (by rfl) (by rfl) (by rfl) (by rfl) (by rfl) (by repeat (first | trivial | refine ⟨by first | rfl | simp [setL],?_⟩)) (A0j (by rfl)) (by rfl) (by rfl) (by rfl) ?_
 refine X.fl H0a ?_
 refine X.ld shp26 ?_
 obtain ⟨v1,hv1,h⟩:=bindE h
 refine X.append elt26 zer3 (by rfl) (by rfl) (by first | rfl | simp [setL] | omega) (by rfl) (.pure _) (by exact V0b (f:=int) (fun _=>rfl)) (D0n int hv1) (D0o int hv1) (by rfl) (by rfl) (by rfl) (by rfl) ?_
 refine X.buildSlice true elt26 zer3 (by rfl) (by rfl) (by rfl) (by rfl) (by rfl) (by rfl) (by repeat (first | trivial | refine ⟨by first | rfl | simp [setL],?_⟩)) (A0j (by rfl)) (by rfl) (by rfl) (by rfl) ?_
 refine X.fl G0b ?_
 refine X.ld shp26 ?_
 obtain ⟨v2,hv2,h⟩:=bindE h
 refine X.append elt26 zer3 (by rfl) (by rfl) (by first | rfl | simp [setL] | omega) (by rfl) (.pure _) (by exact V0b (f:=int) (fun _=>rfl)) (D0n int hv2) (D0o int hv2) (by rfl) (by rfl) (by rfl) (by rfl) ?_
 refine X.build zer32 pl32 (by rfl) (by rfl) (by repeat (first | trivial | refine ⟨by first | rfl | simp [setL],?_⟩)) (by rfl) (by rfl) (by rfl) ?_
 refine X.alloc zer32 (h:=?_)
 refine X.sl shp32 ?_
 refine X.nil (Run.seq (Run.sr (X.fl H0n ?_)))
 refine X.ld shp30 ?_
 refine X.ls elt30 ?_
 refine X.mn ?_
 obtain ⟨o3,ho3,h⟩:=bindE h
 refine R.join2 (β:=(List (List Int))) [(2,.lptr 128 0),(3,.lptr 192 0)] [(128,.blk true [.nils,.nils,.nils]),(384,.obj true 3 1 (v1.map int)),(640,.obj true 3 1 (v2.map int))] (fun p17 S=>S) (fun p17 M=>(192,.blk true [.own 384 (v1.map int).length,.own 640 (v2.map int).length,.own 1792 (p17.map l_int).length])::(1792,.obj false 26 1 (p17.map l_int))::M) (fun p17=>p17=o3) ?_ ?_
 ·intro JJ6 hmeet5
  have hup4:=h;clear h;have h:=ho3;clear ho3
  refine Run.block (R.nilOwnB (m:=192) 2 1792 false 26 1 (by rfl) (by rfl) (by rfl) (by rfl) (by rfl) ?_)
  refine R.bndS (t:=16) (by rfl) (fun hbd9=>?_)
  replace hbd9:b0.Modes.length≤9223372036854775807:=by first | (rw [List.length_map] at hbd9;exact hbd9) | simp
  refine R.lp (β:=Int×(List (List Int))) [(2,.lptr 128 0),(3,.lptr 192 0),(16,.slice (b0.Modes.map l_int)),(17,int (b0.Modes.length:Int))] [(128,.blk true [.nils,.nils,.nils]),(384,.obj true 3 1 (v1.map int)),(640,.obj true 3 1 (v2.map int))] (fun bb S=>(18,int bb.1)::S) (fun bb M=>(192,.blk true [.own 384 (v1.map int).length,.own 640 (v2.map int).length,.own 1792 (bb.2.map l_int).length])::(1792,.obj false 26 1 (bb.2.map l_int))::M) (fun n bb=>0≤bb.1∧bb.1+n=(b0.Modes.length:Int)∧F0o (b0.Modes.drop bb.1.toNat) bb.1 bb.2=some o3) b0.Modes.length (0,([]:List (List Int))) ⟨Int.le_refl _,by simp,h⟩ ?_
  clear h
  rintro JJ9 n9 ⟨z10,a11⟩ hag9 ⟨hza9,hzb9,h⟩
  dsimp only at hza9 hzb9 h
  refine Run.sr (X.bi ?_)
  refine X.nil (Run.seq ?_)
  refine R.cd (fun hc14=>?_) (fun hc14=>?_)
  ·obtain ⟨x12,xs13,hd9,hx9,hds9,hlt9⟩:=B0c hza9 hc14
   rw [hd9] at h
   rw [F0o] at h
   refine Run.skip (Run.seq (Run.block (Run.sr (X.ix elt30 (A0d hx9).1 (A0e l_int hx9) ?_))))
   refine X.lc shp26 ?_
   refine X.an ?_
   refine Run.draw2 (B0r [(1,([192],[],[],[])),(2,([1536],[1536],[],[])),(4,([1536],[1536],[],[])),(5,([1536,1728],[1728],[],[])),(6,([1728,1792],[1792],[],[])),(8,([192,1792],[192],[],[]))]) mixed (by kernel_rfl) (by kernel_rfl) ?_
   refine X.fl H0n ?_
   refine X.ld shp30 ?_
   refine X.buildSlice false elt26 zer3 (by rfl) (by rfl) (by rfl) (by rfl) (by rfl) (by rfl) (by repeat (first | trivial | refine ⟨by first | rfl | simp [setL],?_⟩)) (A0j (by rfl)) (by rfl) (by rfl) (by rfl) ?_
   refine X.mv ?_
   obtain ⟨v15,hv15,h⟩:=bindE h
   refine X.append elt26 zer3 (by rfl) (by rfl) (by first | rfl | simp [setL] | omega) (by rfl) (.pure _) (by exact V0b (f:=int) (fun _=>rfl)) (D0n int hv15) (D0o int hv15) (by rfl) (by rfl) (by rfl) (by rfl) ?_
   refine X.buildSlice false elt30 zer26 (by rfl) (by rfl) (by rfl) (by rfl) (by rfl) (by rfl) (by repeat (first | trivial | refine ⟨by first | rfl | simp [setL],?_⟩)) (A0j (by rfl)) (by rfl) (by rfl) (by rfl) ?_
   obtain ⟨v16,hv16,h⟩:=bindE h
   refine X.append elt30 zer26 (by rfl) (by rfl) (by first | rfl | simp [setL] | omega) (by rfl) (.own _ _ _ _ _ _ (A0h (by rfl)) (by first | rfl | simp [setL] | omega)) (A0j (by rfl)) (D0n l_int hv16) (D0o l_int hv16) (by rfl) (by rfl) (by rfl) (by rfl) ?_
   refine X.fl H0n ?_
   refine X.sl shp30 ?_
   refine X.nil (Run.blk (Run.reg (X.ad ?_)))
   refine X.mn ?_
   exact R.ag hag9 (n9 - 1) (z10+1,v16) (R.n3 (by first | (rw [hds9];exact h) | (dsimp only;rw [hds9];exact h)))
  rw [A0w hza9 hc14] at h
  rw [F0o] at h
  refine Run.exit (by rfl) ?_
  exact R.mt hmeet5 a11 (Option.some.inj h)
 rintro p17 rfl
 refine Run.sr (X.ld shp32 ?_)
 refine X.sl shp32 ?_
 refine X.nil ?_
 cases h
 refine R.finC Tryz.results62 shp32 (by rfl) (by rfl) (by rfl) (by rfl) (by repeat (first | trivial | refine ⟨by first | rfl | simp [setL],?_⟩)) ?_
 rfl
theorem X0v (b0:A0f)(b1:Int)(r:Bool)(h:M0r b0 b1=some r):PC Tryz.prog 63 [D0c b0,int b1] (bool r):=by
 unfold M0r at h
 refine PC.start Tryz.func63 Tryz.ntmps63 rfl (by kernel_rfl) rfl ?_
 refine Run.sr (X.bx ?_)
 refine X.an ?_
 refine Run.seq ?_
 obtain ⟨v1,hv1,h⟩:=bindE h
 obtain ⟨e2,he2,h2⟩:=bindE h
 refine R.regG [(4,bool e2)] [] ?_ ?_
 ·clear h;have h:=he2;clear he2 h2
  refine X.mv ?_
  refine X.fl H0a ?_
  refine X.ld shp26 ?_
  refine X.ls elt26 ?_
  refine X.subW (h:=?_)
  refine X.cp (C0k _ _ _ _ hv1) ?_
  refine X.mv ?_
  refine X.iG (fun hb3=>?_) (fun hb3=>?_)
  ·replace h:=condT hb3 h
   refine X.mv ?_
   refine X.gy (X.fl G0b ?_)
   refine X.gy (X.ld shp26 ?_)
   refine X.gy (X.ls elt26 ?_)
   refine X.gy (X.subW (h:=?_))
   refine X.gy ?_
   obtain ⟨v4,hv4,h⟩:=bindE h
   refine X.cp (C0k _ _ _ _ hv4) ?_
   refine X.pT ?_
   refine X.mv ?_
   refine X.iG (fun hb5=>?_) (fun hb5=>?_)
   ·replace h:=condT hb5 h
    refine X.mv ?_
    refine X.gy (X.fl H0n ?_)
    refine X.gy (X.ld shp30 ?_)
    refine X.gy (X.ls elt30 ?_)
    refine X.gy (X.subW (h:=?_))
    refine X.gy ?_
    obtain ⟨v6,hv6,h⟩:=bindE h
    refine X.cp (C0k _ _ _ _ hv6) ?_
    refine X.pT ?_
    refine X.as ?_
    cases h
    exact X.eG
   replace h:=condF hb5 h
   refine X.gn (X.gn (X.gn (X.gn (X.gn (X.pF ?_)))))
   refine X.as ?_
   cases h
   exact X.eG
  replace h:=condF hb3 h
  refine X.gn (X.gn (X.gn (X.gn (X.gn (X.pF ?_)))))
  refine X.mv ?_
  refine X.gn (X.gn (X.gn (X.gn (X.gn (X.gn (X.pF ?_))))))
  refine X.as ?_
  cases h
  exact X.eG
 replace h:=h2;clear h2
 cases h
 refine R.f1 Tryz.results63 ?_
 rfl
theorem V0k (b0:Int)(b1:Int)(r:Int)(h:Q0t b0 b1=some r):PC Tryz.prog 66 [int b0,int b1] (int r):=by
 unfold Q0t at h
 refine PC.start Tryz.func66 Tryz.ntmps66 rfl (by kernel_rfl) rfl ?_
 refine Run.sr (X.an ?_)
 refine Run.seq (Run.sr (X.mv ?_))
 refine X.mv ?_
 refine X.bi ?_
 refine X.nil ?_
 refine R.cd (fun hc1=>?_) (fun hc1=>?_)
 ·replace h:=condT hc1 h
  refine Run.sr (X.mv ?_)
  refine X.an ?_
  cases h
  refine R.f1 Tryz.results66 ?_
  rfl
 replace h:=condF hc1 h
 refine Run.skip (Run.sr (X.mv ?_))
 refine X.an ?_
 cases h
 refine R.f1 Tryz.results66 ?_
 rfl
theorem V0j (b0:Int)(b1:Int)(r:Int)(h:Q0l b0 b1=some r):PC Tryz.prog 65 [int b0,int b1] (int r):=by
 unfold Q0l at h
 refine PC.start Tryz.func65 Tryz.ntmps65 rfl (by kernel_rfl) rfl ?_
 refine Run.sr (X.an ?_)
 refine Run.seq (Run.sr (X.mv ?_))
 refine X.mv ?_
 refine X.bi ?_
 refine X.nil ?_
 refine R.cd (fun hc1=>?_) (fun hc1=>?_)
 ·replace h:=condT hc1 h
  refine Run.sr (X.mv ?_)
  refine X.an ?_
  cases h
  refine R.f1 Tryz.results65 ?_
  rfl
 replace h:=condF hc1 h
 refine Run.skip (Run.sr (X.mv ?_))
 refine X.an ?_
 cases h
 refine R.f1 Tryz.results65 ?_
 rfl
theorem W0f (b0:Int)(r:Int)(h:K0o b0=some r):PC Tryz.prog 64 [int b0] (int r):=by
 unfold K0o at h
 refine PC.start Tryz.func64 Tryz.ntmps64 rfl (by kernel_rfl) rfl ?_
 refine Run.sr (X.an ?_)
 refine Run.sr (X.mv ?_)
 obtain ⟨v1,hv1,h⟩:=bindE h
 refine X.cp (V0k _ _ _ hv1) ?_
 obtain ⟨v2,hv2,h⟩:=bindE h
 refine X.cp (V0j _ _ _ hv2) ?_
 refine X.an ?_
 cases h
 refine R.f1 Tryz.results64 ?_
 rfl
theorem X0n (b0:A0f)(b1:U0o)(r:A0f)(h:K0e b0 b1=some r):PC Tryz.prog 31 [D0c b0,C1a b1] (.agg [.fresh false 3 1 (r.MinStart.map int),.fresh false 3 1 (r.MaxStart.map int),.fresh false 26 1 (r.Modes.map l_int)]):=by
 unfold K0e at h
 refine PC.start Tryz.func31 Tryz.ntmps31 rfl (by kernel_rfl) rfl ?_
 refine Run.sr (X.bx ?_)
 refine X.bx ?_
 refine X.alloc zer32 (h:=?_)
 refine X.nil (Run.sr (X.ld shp32 ?_))
 obtain ⟨v1,hv1,h⟩:=bindE h
 refine X.callA (Z0d _ _ hv1) (by rfl) (by rfl) (by rfl) (by trivial) (by rfl) (by rfl) (by rfl) (by rfl) (by rfl) (by rfl) ?_
 refine X.alloc zer32 (h:=?_)
 refine X.sl shp32 ?_
 refine X.nil (Run.seq (Run.sr (X.ld shp32 ?_)))
 refine X.fl U0w ?_
 refine X.ld shp3 ?_
 obtain ⟨v2,hv2,h⟩:=bindE h
 refine X.cp (X0v _ _ _ hv2) ?_
 refine X.un (h:=?_)
 refine X.nil ?_
 refine R.cd (fun hc3=>?_) (fun hc3=>?_)
 ·replace h:=condT hc3 h
  refine Run.sr (X.ld shp32 ?_)
  refine X.sl shp32 ?_
  refine X.nil ?_
  cases h
  refine R.pubObj (n:=512) (by rfl) ?_
  refine R.pubObj (n:=513) (by rfl) ?_
  refine R.finC Tryz.results31 shp32 (by rfl) (by rfl) (by rfl) (by rfl) (by repeat (first | trivial | refine ⟨by first | rfl | simp [setL],?_⟩)) ?_
  rfl
 replace h:=condF hc3 h
 refine Run.skip (Run.sr (X.fl E1j ?_))
 refine X.ld shp3 ?_
 obtain ⟨v4,hv4,h⟩:=bindE h
 refine X.cp (W0f _ _ hv4) ?_
 refine X.an ?_
 refine Run.seq (Run.sr (X.fl E1e ?_))
 refine X.ld shp3 ?_
 refine X.nil (Run.block (Run.sr (X.bi ?_)))
 refine X.an ?_
 refine R.cd (fun hc5=>?_) (fun hc5=>?_)
 ·replace h:=condT hc5 h
  refine Run.draw (B0r [(1,([320],[],[],[])),(3,([192],[],[],[])),(5,([128],[],[],[])),(7,([192],[],[],[])),(12,([],[],[512],[])),(13,([512],[],[],[512]))]) mixed (by kernel_rfl) (by kernel_rfl) ?_
  refine X.fl H0a ?_
  refine X.ld shp26 ?_
  refine X.fl U0w ?_
  refine X.ld shp3 ?_
  refine X.fl H0a ?_
  refine X.ld shp26 ?_
  refine X.fl U0w ?_
  refine X.ld shp3 ?_
  obtain ⟨v6,hv6,h⟩:=bindE h
  refine X.ix elt26 (A0d hv6).1 (A0e int hv6) ?_
  refine X.lc shp3 ?_
  refine X.mv ?_
  obtain ⟨v7,hv7,h⟩:=bindE h
  refine X.cp (V0j _ _ _ hv7) ?_
  obtain ⟨v8,hv8,h⟩:=bindE h
  refine X.index_xs elt26 (by rfl) (by rfl) (by first | rfl | simp [setL] | omega) (by rfl) (by exact (Int.toNat_of_nonneg (A0d hv8).1).symm) (by have:=M0b hv8;first | exact this | (rw [List.length_map];exact this)) (by rfl) (by rfl) ?_
  refine X.store_es shp3 (by rfl) (by rfl) (by first | rfl | simp [setL] | omega) (A0e _ hv8) (by rfl) (by rfl) (by repeat (first | trivial | refine ⟨by first | rfl | simp [setL],?_⟩)) (by rfl) (by rfl) (by rfl) (by rfl) (by exact Q0k _ _ _ v7) ?_
  refine X.nil (Run.blk (Run.sr (X.ld shp32 ?_)))
  refine X.sl shp32 ?_
  refine X.nil ?_
  cases h
  refine R.pubObj (n:=512) (by rfl) ?_
  refine R.pubObj (n:=513) (by rfl) ?_
  refine R.finC Tryz.results31 shp32 (by rfl) (by rfl) (by rfl) (by rfl) (by repeat (first | trivial | refine ⟨by first | rfl | simp [setL],?_⟩)) ?_
  rfl
 replace h:=condF hc5 h
 refine Run.sr (X.bi ?_)
 refine X.an ?_
 refine R.cd (fun hc9=>?_) (fun hc9=>?_)
 ·replace h:=condT hc9 h
  refine Run.draw (B0r [(1,([320],[],[],[])),(3,([192],[],[],[])),(5,([128],[],[],[])),(7,([192],[],[],[])),(12,([],[],[513],[])),(13,([513],[],[],[513]))]) mixed (by kernel_rfl) (by kernel_rfl) ?_
  refine X.fl G0b ?_
  refine X.ld shp26 ?_
  refine X.fl U0w ?_
  refine X.ld shp3 ?_
  refine X.fl G0b ?_
  refine X.ld shp26 ?_
  refine X.fl U0w ?_
  refine X.ld shp3 ?_
  obtain ⟨v10,hv10,h⟩:=bindE h
  refine X.ix elt26 (A0d hv10).1 (A0e int hv10) ?_
  refine X.lc shp3 ?_
  refine X.mv ?_
  obtain ⟨v11,hv11,h⟩:=bindE h
  refine X.cp (V0k _ _ _ hv11) ?_
  obtain ⟨v12,hv12,h⟩:=bindE h
  refine X.index_xs elt26 (by rfl) (by rfl) (by first | rfl | simp [setL] | omega) (by rfl) (by exact (Int.toNat_of_nonneg (A0d hv12).1).symm) (by have:=M0b hv12;first | exact this | (rw [List.length_map];exact this)) (by rfl) (by rfl) ?_
  refine X.store_es shp3 (by rfl) (by rfl) (by first | rfl | simp [setL] | omega) (A0e _ hv12) (by rfl) (by rfl) (by repeat (first | trivial | refine ⟨by first | rfl | simp [setL],?_⟩)) (by rfl) (by rfl) (by rfl) (by rfl) (by exact Q0k _ _ _ v11) ?_
  refine X.nil (Run.blk (Run.sr (X.ld shp32 ?_)))
  refine X.sl shp32 ?_
  refine X.nil ?_
  cases h
  refine R.pubObj (n:=512) (by rfl) ?_
  refine R.pubObj (n:=513) (by rfl) ?_
  refine R.finC Tryz.results31 shp32 (by rfl) (by rfl) (by rfl) (by rfl) (by repeat (first | trivial | refine ⟨by first | rfl | simp [setL],?_⟩)) ?_
  rfl
 replace h:=condF hc9 h
 refine Run.sr (X.bi ?_)
 refine X.an ?_
 refine R.cd (fun hc13=>?_) (fun hc13=>?_)
 ·replace h:=condT hc13 h
  exact absurd h (by simp)
 replace h:=condF hc13 h
 refine Run.sr (X.bi ?_)
 refine X.an ?_
 refine R.cd (fun hc17=>?_) (fun hc17=>?_)
 ·replace h:=condT hc17 h
  exact absurd h (by simp)
 replace h:=condF hc17 h
 refine Run.skip (Run.blk (Run.sr (X.ld shp32 ?_)))
 refine X.sl shp32 ?_
 refine X.nil ?_
 cases h
 refine R.pubObj (n:=512) (by rfl) ?_
 refine R.pubObj (n:=513) (by rfl) ?_
 refine R.finC Tryz.results31 shp32 (by rfl) (by rfl) (by rfl) (by rfl) (by repeat (first | trivial | refine ⟨by first | rfl | simp [setL],?_⟩)) ?_
 rfl
theorem U0f (b0:A0f)(r:Bool)(h:C0r b0=some r):PC Tryz.prog 32 [D0c b0] (bool r):=by
 unfold C0r at h
 refine PC.start Tryz.func32 Tryz.ntmps32 rfl (by kernel_rfl) rfl ?_
 refine Run.sr (X.bx ?_)
 refine X.an ?_
 refine Run.seq (Run.sr (X.fl H0a ?_))
 refine X.ld shp26 ?_
 refine X.ls elt26 ?_
 refine X.mn ?_
 obtain ⟨o1,ho1,h⟩:=bindE h
 refine R.join2 (β:=Unit) [(1,.lptr 64 0)] [(64,.blk true [.slice (b0.MinStart.map int),.slice (b0.MaxStart.map int),.slice (b0.Modes.map l_int)])] (fun p16 S=>S) (fun p16 M=>M) (fun p16=>(Sum.inl p16)=o1) ?_ ?_
 ·intro JJ4 hmeet3
  have hup2:=h;clear h;have h:=ho1;clear ho1
  refine Run.block ?_
  refine R.bndS (t:=8) (by rfl) (fun hbd7=>?_)
  replace hbd7:b0.MinStart.length≤9223372036854775807:=by first | (rw [List.length_map] at hbd7;exact hbd7) | simp
  refine R.lp (β:=Int) [(1,.lptr 64 0),(8,.slice (b0.MinStart.map int)),(9,int (b0.MinStart.length:Int))] [(64,.blk true [.slice (b0.MinStart.map int),.slice (b0.MaxStart.map int),.slice (b0.Modes.map l_int)])] (fun bb S=>(10,int bb)::S) (fun bb M=>M) (fun n bb=>0≤bb∧bb+n=(b0.MinStart.length:Int)∧B0v b0 (b0.MinStart.drop bb.toNat) bb=some o1) b0.MinStart.length (0:Int) ⟨Int.le_refl _,by simp,h⟩ ?_
  clear h
  rintro JJ7 n7 z8 hag7 ⟨hza7,hzb7,h⟩
  refine Run.sr (X.bi ?_)
  refine X.nil (Run.seq ?_)
  refine R.cd (fun hc11=>?_) (fun hc11=>?_)
  ·obtain ⟨x9,xs10,hd7,hx7,hds7,hlt7⟩:=B0c hza7 hc11
   rw [hd7] at h
   rw [B0v] at h
   refine Run.skip (Run.seq (Run.block (Run.sr (X.mv ?_))))
   refine X.ix elt26 (A0d hx7).1 (A0e int hx7) ?_
   refine X.lc shp3 ?_
   refine X.as ?_
   refine X.an ?_
   refine Run.seq ?_
   obtain ⟨e12,he12,h2⟩:=bindE h
   refine R.regG [(1,.lptr 64 0),(8,.slice (b0.MinStart.map int)),(9,int (b0.MinStart.length:Int)),(10,int z8),(28,bool e12)] [(64,.blk true [.slice (b0.MinStart.map int),.slice (b0.MaxStart.map int),.slice (b0.Modes.map l_int)])] ?_ ?_
   ·clear h;have h:=he12;clear he12 h2
    refine X.mv ?_
    refine X.fl G0b ?_
    refine X.ld shp26 ?_
    refine X.ls elt26 ?_
    refine X.bi ?_
    refine X.mv ?_
    refine X.iG (fun hb13=>?_) (fun hb13=>?_)
    ·replace h:=condT hb13 h
     refine X.mv ?_
     refine X.gy (X.fl G0b ?_)
     refine X.gy (X.ld shp26 ?_)
     refine X.gy (X.mv ?_)
     refine X.gy ?_
     obtain ⟨v14,hv14,h⟩:=bindE h
     refine X.ix elt26 (A0d hv14).1 (A0e int hv14) ?_
     refine X.gy (X.lc shp3 ?_)
     refine X.gy (X.bi ?_)
     refine X.pT ?_
     cases h
     exact X.eG
    replace h:=condF hb13 h
    refine X.gn (X.gn (X.gn (X.gn (X.gn (X.gn (X.pF ?_))))))
    cases h
    exact X.eG
   replace h:=h2;clear h2
   refine R.cd (fun hc15=>?_) (fun hc15=>?_)
   ·replace h:=condT hc15 h
    refine Run.sr (X.an ?_)
    cases h
    have h:=hup2
    replace h:=elimR h
    cases h
    refine R.f1 Tryz.results32 ?_
    rfl
   replace h:=condF hc15 h
   refine Run.skip (Run.blk (Run.reg (X.ad ?_)))
   refine X.mn ?_
   exact R.ag hag7 (n7 - 1) (z8+1) (R.n3 (by first | (rw [hds7];exact h) | (dsimp only;rw [hds7];exact h)))
  rw [A0w hza7 hc11] at h
  rw [B0v] at h
  refine Run.exit (by rfl) ?_
  exact R.mt hmeet3 () (Option.some.inj h)
 rintro p16 rfl
 replace h:=elimL h
 refine Run.seq (Run.sr (X.fl H0n ?_))
 refine X.ld shp30 ?_
 refine X.ls elt30 ?_
 refine X.mn ?_
 obtain ⟨o18,ho18,h⟩:=bindE h
 refine R.join2 (β:=Unit) [] [] (fun p30 S=>S) (fun p30 M=>M) (fun p30=>(Sum.inl p30)=o18) ?_ ?_
 ·intro JJ21 hmeet20
  have hup19:=h;clear h;have h:=ho18;clear ho18
  refine Run.block ?_
  refine R.bndS (t:=31) (by rfl) (fun hbd24=>?_)
  replace hbd24:b0.Modes.length≤9223372036854775807:=by first | (rw [List.length_map] at hbd24;exact hbd24) | simp
  refine R.lp (β:=Int) [(31,.slice (b0.Modes.map l_int)),(32,int (b0.Modes.length:Int))] [] (fun bb S=>(33,int bb)::S) (fun bb M=>M) (fun n bb=>0≤bb∧bb+n=(b0.Modes.length:Int)∧B0s (b0.Modes.drop bb.toNat) bb=some o18) b0.Modes.length (0:Int) ⟨Int.le_refl _,by simp,h⟩ ?_
  clear h
  rintro JJ24 n24 z25 hag24 ⟨hza24,hzb24,h⟩
  refine Run.sr (X.bi ?_)
  refine X.nil (Run.seq ?_)
  refine R.cd (fun hc28=>?_) (fun hc28=>?_)
  ·obtain ⟨x26,xs27,hd24,hx24,hds24,hlt24⟩:=B0c hza24 hc28
   rw [hd24] at h
   rw [B0s] at h
   refine Run.skip (Run.seq (Run.block (Run.sr (X.ix elt30 (A0d hx24).1 (A0e l_int hx24) ?_))))
   refine X.lc shp26 ?_
   refine X.an ?_
   refine Run.sr (X.mv ?_)
   refine X.ls elt26 ?_
   refine X.bi ?_
   refine X.nil ?_
   refine R.cd (fun hc29=>?_) (fun hc29=>?_)
   ·replace h:=condT hc29 h
    refine Run.sr (X.an ?_)
    cases h
    have h:=hup19
    replace h:=elimR h
    cases h
    refine R.f1 Tryz.results32 ?_
    rfl
   replace h:=condF hc29 h
   refine Run.skip (Run.blk (Run.reg (X.ad ?_)))
   refine X.mn ?_
   exact R.ag hag24 (n24 - 1) (z25+1) (R.n3 (by first | (rw [hds24];exact h) | (dsimp only;rw [hds24];exact h)))
  rw [A0w hza24 hc28] at h
  rw [B0s] at h
  refine Run.exit (by rfl) ?_
  exact R.mt hmeet20 () (Option.some.inj h)
 rintro p30 rfl
 replace h:=elimL h
 refine Run.sr (X.an ?_)
 cases h
 refine R.f1 Tryz.results32 ?_
 rfl
theorem T0v (b0:List Int)(b1:A0a)(r:A0f)(h:M0a b0 b1=some r):PC Tryz.prog 6 [.slice (b0.map e_u8),A0u b1] (D0c r):=by
 unfold M0a at h
 refine PC.start Tryz.func6 Tryz.ntmps6 rfl (by kernel_rfl) rfl ?_
 refine Run.sr (X.bx ?_)
 refine X.alloc zer32 (h:=?_)
 refine X.nil (Run.sr (X.mv ?_))
 obtain ⟨v1,hv1,h⟩:=bindE h
 refine X.callB (N0w _ _ hv1) (by rfl) (by rfl) (by rfl) (by rfl) (by rfl) (by rfl) ?_
 refine X.an ?_
 refine Run.sr (X.mv ?_)
 refine X.mv ?_
 refine X.nilChk (by rfl) (by rfl) (by rfl) ?_
 refine X.fl M0l ?_
 refine X.ld shp3 ?_
 refine X.addW (h:=?_)
 refine X.nilChk (by rfl) (by rfl) (by rfl) ?_
 refine X.fl M0l ?_
 refine X.sl shp3 ?_
 refine X.nil (Run.sr (X.ld shp28 ?_))
 obtain ⟨v2,hv2,h⟩:=bindE h
 refine X.callA (S0c _ _ hv2) (by rfl) (by rfl) (by rfl) (by trivial) (by rfl) (by rfl) (by rfl) (by rfl) (by rfl) (by rfl) ?_
 refine X.alloc zer32 (h:=?_)
 refine X.sl shp32 ?_
 refine X.nil (Run.seq (Run.sr (X.mv ?_)))
 obtain ⟨v3,hv3,h⟩:=bindE h
 refine X.callM [(63,640)] (A0v _ _ _ hv3) (by rfl) (by rfl) (.lptrB 63 (by rfl) (by rfl) (.pureB (by rfl) (by repeat (first | trivial | refine ⟨by first | rfl | simp [setL],?_⟩)) .nil)) (by rfl) ⟨rfl,rfl,⟨_,by rfl,by constructor⟩,by constructor,trivial⟩ (by rfl) (by rfl) (by rfl) (by rfl) (by rfl) (by rfl) (by rfl) (by rfl) (by rfl) ?_
 refine X.an ?_
 obtain ⟨o4,ho4,h⟩:=bindE h
 refine R.join2 (β:=(List Int)×(List Int)×(List (List Int))) [(4,.lptr 256 0),(6,.lptr 384 0)] [(256,.blk true [.nils,.nils,.nils])] (fun p25 S=>S) (fun p25 M=>(384,.blk true [.slice (p25.1.map int),.slice (p25.2.1.map int),.slice (p25.2.2.map l_int)])::M) (fun p25=>p25=o4) ?_ ?_
 ·intro JJ7 hmeet6
  have hup5:=h;clear h;have h:=ho4;clear ho4
  refine Run.block (R.castB (n:=384) [.slice (v2.MinStart.map int),.slice (v2.MaxStart.map int),.slice (v2.Modes.map l_int)] (by rfl) (.cons (.inr (.inr ⟨_,_,_,_,_,rfl,(by rfl),(by first | rfl | simp [setL] | omega),rfl⟩)) (.cons (.inr (.inr ⟨_,_,_,_,_,rfl,(by rfl),(by first | rfl | simp [setL] | omega),rfl⟩)) (.cons (.inr (.inr ⟨_,_,_,_,_,rfl,(by rfl),(by first | rfl | simp [setL] | omega),rfl⟩)) .nil))) ?_)
  refine R.lp (β:=Int×(List Int)×Int×Int×(List Int)×(List Int)×(List (List Int))) [(3,.lptr 192 0),(4,.lptr 256 0),(5,.lptr 640 0),(6,.lptr 384 0)] [(192,.blk true [int b1.Deadline,.slice (b1.Activities.map A0b),.slice (b1.Links.map A0o),.slice (b1.Resources.map A0c),.slice (b1.Stocks.map int)]),(256,.blk true [.nils,.nils,.nils]),(1280,.obj false 3 1 (v2.MinStart.map int)),(1281,.obj false 3 1 (v2.MaxStart.map int)),(1282,.obj false 26 1 (v2.Modes.map l_int))] (fun bb S=>(7,int bb.1)::S) (fun bb M=>(640,.blk true [.slice (bb.2.1.map e_u8),int bb.2.2.1,int bb.2.2.2.1])::(384,.blk true [.slice (bb.2.2.2.2.1.map int),.slice (bb.2.2.2.2.2.1.map int),.slice (bb.2.2.2.2.2.2.map l_int)])::M) (fun n bb=>G0c b1 n bb.1 bb.2.1 bb.2.2.1 bb.2.2.2.1 bb.2.2.2.2.1 bb.2.2.2.2.2.1 bb.2.2.2.2.2.2=some o4) F0 (v3.1,v3.2.b,v3.2.i,v3.2.h,v2.MinStart,v2.MaxStart,v2.Modes) h ?_
  clear h
  rintro JJ7 n7 ⟨a9,a10,a11,a12,a13,a14,a15⟩ hag7 h
  dsimp only at h
  obtain _ | n7:=n7
  ·exact absurd h (by simp [G0c])
  rw [G0c] at h
  refine Run.seq (Run.sr (X.mv ?_))
  refine X.bi ?_
  refine X.nil ?_
  refine R.cd (fun hc18=>?_) (fun hc18=>?_)
  ·replace h:=condT hc18 h
   refine Run.skip (Run.seq (Run.block (Run.seq (Run.draw2 (B0r [(0,([384],[],[],[])),(2,([640],[640],[],[])),(6,([192],[],[],[])),(8,([640],[640],[],[])),(11,([192],[],[],[])),(12,([640],[640],[],[])),(14,([],[2624,2625,2626],[],[])),(15,([512],[512],[],[])),(16,([512],[512],[],[]))]) mixed (by kernel_rfl) (by kernel_rfl) ?_))))
   refine X.ld shp32 ?_
   refine X.mv ?_
   obtain ⟨v19,hv19,h⟩:=bindE h
   refine X.callM [(63,640)] (A0v _ _ _ hv19) (by rfl) (by rfl) (.lptrB 63 (by rfl) (by rfl) (.pureB (by rfl) (by repeat (first | trivial | refine ⟨by first | rfl | simp [setL],?_⟩)) .nil)) (by rfl) ⟨rfl,rfl,⟨_,by rfl,by constructor⟩,by constructor,trivial⟩ (by rfl) (by rfl) (by rfl) (by rfl) (by rfl) (by rfl) (by rfl) (by rfl) (by rfl) ?_
   refine X.addW (h:=?_)
   refine X.mv ?_
   refine X.fl B0z ?_
   refine X.ld shp23 ?_
   refine X.ls elt23 ?_
   obtain ⟨v20,hv20,h⟩:=bindE h
   refine X.callM [(63,640)] (A0v _ _ _ hv20) (by rfl) (by rfl) (.lptrB 63 (by rfl) (by rfl) (.pureB (by rfl) (by repeat (first | trivial | refine ⟨by first | rfl | simp [setL],?_⟩)) .nil)) (by rfl) ⟨rfl,rfl,⟨_,by rfl,by constructor⟩,by constructor,trivial⟩ (by rfl) (by rfl) (by rfl) (by rfl) (by rfl) (by rfl) (by rfl) (by rfl) (by rfl) ?_
   refine X.mv ?_
   refine X.fl V0r ?_
   refine X.ld shp3 ?_
   obtain ⟨v21,hv21,h⟩:=bindE h
   refine X.callM [(63,640)] (A0v _ _ _ hv21) (by rfl) (by rfl) (.lptrB 63 (by rfl) (by rfl) (.pureB (by rfl) (by repeat (first | trivial | refine ⟨by first | rfl | simp [setL],?_⟩)) .nil)) (by rfl) ⟨rfl,rfl,⟨_,by rfl,by constructor⟩,by constructor,trivial⟩ (by rfl) (by rfl) (by rfl) (by rfl) (by rfl) (by rfl) (by rfl) (by rfl) (by rfl) ?_
   refine X.build zer74 pl74 (by rfl) (by rfl) (by repeat (first | trivial | refine ⟨by first | rfl | simp [setL],?_⟩)) (by rfl) (by rfl) (by rfl) ?_
   obtain ⟨v22,hv22,h⟩:=bindE h
   refine X.callA (X0n _ _ _ hv22) (by rfl) (by rfl) (by rfl) (by trivial) (by rfl) (by rfl) (by rfl) (by rfl) (by rfl) (by rfl) ?_
   refine X.alloc zer32 (h:=?_)
   refine X.sl shp32 ?_
   refine X.nil (Run.sr (X.ld shp32 ?_))
   obtain ⟨v23,hv23,h⟩:=bindE h
   refine X.cp (U0f _ _ hv23) ?_
   refine X.un (h:=?_)
   refine X.nil ?_
   refine R.cd (fun hc24=>?_) (fun hc24=>?_)
   ·replace h:=condT hc24 h
    refine Run.reg (X.ld shp32 ?_)
    refine X.sl shp32 ?_
    refine X.nil (Run.blk (Run.reg (X.mv ?_)))
    refine X.subW (h:=?_)
    refine X.an ?_
    refine R.castB (n:=384) [.slice (v22.MinStart.map int),.slice (v22.MaxStart.map int),.slice (v22.Modes.map l_int)] (by rfl) (.cons (.inr (.inr ⟨_,_,_,_,_,rfl,(by rfl),(by first | rfl | simp [setL] | omega),rfl⟩)) (.cons (.inr (.inr ⟨_,_,_,_,_,rfl,(by rfl),(by first | rfl | simp [setL] | omega),rfl⟩)) (.cons (.inr (.inr ⟨_,_,_,_,_,rfl,(by rfl),(by first | rfl | simp [setL] | omega),rfl⟩)) .nil))) ?_
    exact hag7 n7 ((W (a9 - 1)),v21.2.b,v21.2.i,v21.2.h,v22.MinStart,v22.MaxStart,v22.Modes) _ _ (by omega) h (by repeat (first | trivial | refine ⟨by first | rfl | simp [setL],?_⟩)) (by repeat (first | trivial | refine ⟨by first | rfl | simp [setL],?_⟩)) (by rfl) (by rfl)
   replace h:=condF hc24 h
   refine Run.skip (Run.blk (Run.reg (X.mv ?_)))
   refine X.subW (h:=?_)
   refine X.an ?_
   exact hag7 n7 ((W (a9 - 1)),v21.2.b,v21.2.i,v21.2.h,a13,a14,a15) _ _ (by omega) h (by repeat (first | trivial | refine ⟨by first | rfl | simp [setL],?_⟩)) (by repeat (first | trivial | refine ⟨by first | rfl | simp [setL],?_⟩)) (by rfl) (by rfl)
  replace h:=condF hc18 h
  refine Run.exit (by rfl) ?_
  exact R.mt hmeet6 (a13,a14,a15) (Option.some.inj h)
 rintro p25 rfl
 refine Run.sr (X.ld shp32 ?_)
 refine X.sl shp32 ?_
 refine X.nil ?_
 cases h
 refine R.finC Tryz.results6 shp32 (by rfl) (by rfl) (by rfl) (by rfl) (by repeat (first | trivial | refine ⟨by first | rfl | simp [setL],?_⟩)) ?_
 rfl
theorem Y0m (b0:A0m)(b1:A0a)(r:A0l×A0m)(h:S0x b0 b1=some r):PCM Tryz.prog 33 [.lptr 63 0,A0u b1] [(63,.blk true [.slice (b0.b.map e_u8),int b0.i,int b0.h])] (.agg [.fresh true 3 1 (r.1.Starts.map int),.fresh true 3 1 (r.1.Modes.map int)]) [(63,.blk true [.slice (r.2.b.map e_u8),int r.2.i,int r.2.h])]:=by
 unfold S0x at h
 refine PCM.start Tryz.func33 Tryz.ntmps33 rfl (by kernel_rfl) rfl (by rfl) (by rfl) (by rfl) (by rfl) (by rfl) ?_
 refine Run.sr (X.bx ?_)
 refine X.alloc zer35 (h:=?_)
 refine X.nil (Run.sr ?_)
 refine X.build zer35 pl35 (by rfl) (by rfl) (by repeat (first | trivial | refine ⟨by first | rfl | simp [setL],?_⟩)) (by rfl) (by rfl) (by rfl) ?_
 refine X.alloc zer35 (h:=?_)
 refine X.sl shp35 ?_
 refine X.nil (Run.sr (X.an ?_))
 refine Run.seq (Run.sr (X.fl B0z ?_))
 refine X.ld shp23 ?_
 refine X.ls elt23 ?_
 refine X.mn ?_
 obtain ⟨o1,ho1,h⟩:=bindE h
 refine R.join2 (β:=(List Int)×Int×Int×(List Int)×(List Int)) [(4,.lptr 256 0),(5,.lptr 320 0)] [(256,.blk true [.nils,.nils])] (fun p30 S=>S) (fun p30 M=>(63,.blk true [.slice (p30.1.map e_u8),int p30.2.1,int p30.2.2.1])::(320,.blk true [.own 1728 (p30.2.2.2.1.map int).length,.own 2368 (p30.2.2.2.2.map int).length])::(1728,.obj true 3 1 (p30.2.2.2.1.map int))::(2368,.obj true 3 1 (p30.2.2.2.2.map int))::M) (fun p30=>p30=o1) ?_ ?_
 ·intro JJ4 hmeet3
  have hup2:=h;clear h;have h:=ho1;clear ho1
  refine Run.block (R.nilOwnB (m:=320) 0 1728 true 3 1 (by rfl) (by rfl) (by rfl) (by rfl) (by rfl) ?_)
  refine R.nilOwnB (m:=320) 1 2368 true 3 1 (by rfl) (by rfl) (by rfl) (by rfl) (by rfl) ?_
  refine R.bndS (t:=12) (by rfl) (fun hbd7=>?_)
  replace hbd7:b1.Activities.length≤9223372036854775807:=by first | (rw [List.length_map] at hbd7;exact hbd7) | simp
  refine R.lp (β:=Int×Int×(List Int)×Int×Int×(List Int)×(List Int)) [(0,.lptr 63 0),(4,.lptr 256 0),(5,.lptr 320 0),(12,.slice (b1.Activities.map A0b)),(13,int (b1.Activities.length:Int))] [(256,.blk true [.nils,.nils])] (fun bb S=>(6,int bb.2.1)::(14,int bb.1)::S) (fun bb M=>(63,.blk true [.slice (bb.2.2.1.map e_u8),int bb.2.2.2.1,int bb.2.2.2.2.1])::(320,.blk true [.own 1728 (bb.2.2.2.2.2.1.map int).length,.own 2368 (bb.2.2.2.2.2.2.map int).length])::(1728,.obj true 3 1 (bb.2.2.2.2.2.1.map int))::(2368,.obj true 3 1 (bb.2.2.2.2.2.2.map int))::M) (fun n bb=>0≤bb.1∧bb.1+n=(b1.Activities.length:Int)∧G0h (b1.Activities.drop bb.1.toNat) bb.1 bb.2.1 bb.2.2.1 bb.2.2.2.1 bb.2.2.2.2.1 bb.2.2.2.2.2.1 bb.2.2.2.2.2.2=some o1) b1.Activities.length (0,0,b0.b,b0.i,b0.h,([]:List Int),([]:List Int)) ⟨Int.le_refl _,by simp,h⟩ ?_
  clear h
  rintro JJ7 n7 ⟨z8,a9,a10,a11,a12,a13,a14⟩ hag7 ⟨hza7,hzb7,h⟩
  dsimp only at hza7 hzb7 h
  refine Run.sr (X.bi ?_)
  refine X.nil (Run.seq ?_)
  refine R.cd (fun hc17=>?_) (fun hc17=>?_)
  ·obtain ⟨x15,xs16,hd7,hx7,hds7,hlt7⟩:=B0c hza7 hc17
   rw [hd7] at h
   rw [G0h] at h
   refine Run.skip (Run.seq (Run.block (Run.sr (X.ix elt23 (A0d hx7).1 (A0e A0b hx7) ?_))))
   refine X.lc shp50 ?_
   refine X.alloc zer50 (h:=?_)
   refine X.sl shp50 ?_
   refine X.nil (Run.sr (X.mv ?_))
   refine X.an ?_
   refine Run.seq (Run.sr (X.mv ?_))
   obtain ⟨v18,hv18,h⟩:=bindE h
   refine X.callM [(63,63)] (K0n _ _ _ hv18) (by rfl) (by rfl) (.lptrB 63 (by rfl) (by rfl) (.pureB (by rfl) (by repeat (first | trivial | refine ⟨by first | rfl | simp [setL],?_⟩)) .nil)) (by rfl) ⟨rfl,rfl,⟨_,by rfl,by constructor⟩,by constructor,trivial⟩ (by rfl) (by rfl) (by rfl) (by rfl) (by rfl) (by rfl) (by rfl) (by rfl) (by rfl) ?_
   refine X.nil ?_
   obtain ⟨o19,ho19,h⟩:=bindE h
   refine R.join2 (β:=Int×(List Int)×Int×Int) [(0,.lptr 63 0),(4,.lptr 256 0),(5,.lptr 320 0),(6,int a9),(8,.lptr 512 0),(12,.slice (b1.Activities.map A0b)),(13,int (b1.Activities.length:Int)),(14,int z8)] [(256,.blk true [.nils,.nils]),(1728,.obj true 3 1 (a13.map int)),(2368,.obj true 3 1 (a14.map int)),(512,.blk true [str x15.Name,int x15.Family,.slice (x15.Modes.map B0o)])] (fun p25 S=>(9,int p25.1)::S) (fun p25 M=>(63,.blk true [.slice (p25.2.1.map e_u8),int p25.2.2.1,int p25.2.2.2])::(320,.blk true [.own 1728 (a13.map int).length,.own 2368 (a14.map int).length])::M) (fun p25=>p25=o19) ?_ ?_
   ·intro JJ22 hmeet21
    have hup20:=h;clear h;have h:=ho19;clear ho19
    refine R.cd (fun hc23=>?_) (fun hc23=>?_)
    ·replace h:=condT hc23 h
     refine Run.reg (X.mv ?_)
     obtain ⟨v24,hv24,h⟩:=bindE h
     refine X.callM [(63,63)] (A0v _ _ _ hv24) (by rfl) (by rfl) (.lptrB 63 (by rfl) (by rfl) (.pureB (by rfl) (by repeat (first | trivial | refine ⟨by first | rfl | simp [setL],?_⟩)) .nil)) (by rfl) ⟨rfl,rfl,⟨_,by rfl,by constructor⟩,by constructor,trivial⟩ (by rfl) (by rfl) (by rfl) (by rfl) (by rfl) (by rfl) (by rfl) (by rfl) (by rfl) ?_
     refine X.an ?_
     exact R.mt hmeet21 (v24.1,v24.2.b,v24.2.i,v24.2.h) (Option.some.inj h)
    replace h:=condF hc23 h
    refine Run.skip ?_
    exact R.mt hmeet21 (a9,v18.2.b,v18.2.i,v18.2.h) (Option.some.inj h)
   rintro p25 rfl
   refine Run.sr (X.fl F0b ?_)
   refine X.ld shp26 ?_
   refine X.mv ?_
   refine X.buildSlice true elt26 zer3 (by rfl) (by rfl) (by rfl) (by rfl) (by rfl) (by rfl) (by repeat (first | trivial | refine ⟨by first | rfl | simp [setL],?_⟩)) (A0j (by rfl)) (by rfl) (by rfl) (by rfl) ?_
   obtain ⟨v26,hv26,h⟩:=bindE h
   refine X.append elt26 zer3 (by rfl) (by rfl) (by first | rfl | simp [setL] | omega) (by rfl) (.own _ _ _ _ _ _ (A0h (by rfl)) (by first | rfl | simp [setL] | omega)) (A0j (by rfl)) (D0n int hv26) (D0o int hv26) (by rfl) (by rfl) (by rfl) (by rfl) ?_
   refine X.fl F0b ?_
   refine X.sl shp26 ?_
   refine X.nil (Run.seq (Run.draw2 (B0r [(1,([320],[],[],[])),(4,([512],[],[],[])),(6,([63],[63],[],[])),(7,([2304],[2304],[],[])),(8,([2304,2368],[2368],[],[])),(10,([320,2368],[320],[],[]))]) mixed (by kernel_rfl) (by kernel_rfl) ?_))
   refine X.fl N0f ?_
   refine X.ld shp26 ?_
   refine X.mv ?_
   refine X.fl H0v ?_
   refine X.ld shp48 ?_
   refine X.ls elt48 ?_
   obtain ⟨v27,hv27,h⟩:=bindE h
   refine X.callM [(63,63)] (A0v _ _ _ hv27) (by rfl) (by rfl) (.lptrB 63 (by rfl) (by rfl) (.pureB (by rfl) (by repeat (first | trivial | refine ⟨by first | rfl | simp [setL],?_⟩)) .nil)) (by rfl) ⟨rfl,rfl,⟨_,by rfl,by constructor⟩,by constructor,trivial⟩ (by rfl) (by rfl) (by rfl) (by rfl) (by rfl) (by rfl) (by rfl) (by rfl) (by rfl) ?_
   refine X.buildSlice true elt26 zer3 (by rfl) (by rfl) (by rfl) (by rfl) (by rfl) (by rfl) (by repeat (first | trivial | refine ⟨by first | rfl | simp [setL],?_⟩)) (A0j (by rfl)) (by rfl) (by rfl) (by rfl) ?_
   obtain ⟨v28,hv28,h⟩:=bindE h
   refine X.append elt26 zer3 (by rfl) (by rfl) (by first | rfl | simp [setL] | omega) (by rfl) (.own _ _ _ _ _ _ (A0h (by rfl)) (by first | rfl | simp [setL] | omega)) (A0j (by rfl)) (D0n int hv28) (D0o int hv28) (by rfl) (by rfl) (by rfl) (by rfl) ?_
   refine X.fl N0f ?_
   refine X.sl shp26 ?_
   refine X.nil (Run.reg (X.mv ?_))
   refine X.mv ?_
   obtain ⟨v29,hv29,h⟩:=bindE h
   refine X.callM [(63,63)] (A0v _ _ _ hv29) (by rfl) (by rfl) (.lptrB 63 (by rfl) (by rfl) (.pureB (by rfl) (by repeat (first | trivial | refine ⟨by first | rfl | simp [setL],?_⟩)) .nil)) (by rfl) ⟨rfl,rfl,⟨_,by rfl,by constructor⟩,by constructor,trivial⟩ (by rfl) (by rfl) (by rfl) (by rfl) (by rfl) (by rfl) (by rfl) (by rfl) (by rfl) ?_
   refine X.addW (h:=?_)
   refine X.an ?_
   refine Run.blk (Run.reg (X.ad ?_))
   refine X.mn ?_
   exact R.ag hag7 (n7 - 1) (z8+1,(W (a9+v29.1)),v29.2.b,v29.2.i,v29.2.h,v26,v28) (R.n3 (by first | (rw [hds7];exact h) | (dsimp only;rw [hds7];exact h)))
  rw [A0w hza7 hc17] at h
  rw [G0h] at h
  refine Run.exit (by rfl) ?_
  exact R.mt hmeet3 (a10,a11,a12,a13,a14) (Option.some.inj h)
 rintro p30 rfl
 refine Run.sr (X.ld shp35 ?_)
 refine X.sl shp35 ?_
 refine X.nil ?_
 cases h
 exact R.finMC Tryz.results33 shp35 (by rfl) (by rfl) (by rfl) (by rfl) (by repeat (first | trivial | refine ⟨by first | rfl | simp [setL],?_⟩)) (by rfl) (by repeat (first | exact trivial | refine ⟨by rfl,?_⟩)) rfl
theorem R0a (b0:List Int)(b1:A0a)(r:A0l)(h:H0x b0 b1=some r):PC Tryz.prog 7 [.slice (b0.map e_u8),A0u b1] (.agg [.fresh true 3 1 (r.Starts.map int),.fresh true 3 1 (r.Modes.map int)]):=by
 unfold H0x at h
 refine PC.start Tryz.func7 Tryz.ntmps7 rfl (by kernel_rfl) rfl ?_
 refine Run.sr (X.bx ?_)
 refine X.alloc zer35 (h:=?_)
 refine X.nil (Run.sr (X.mv ?_))
 obtain ⟨v1,hv1,h⟩:=bindE h
 refine X.callB (N0w _ _ hv1) (by rfl) (by rfl) (by rfl) (by rfl) (by rfl) (by rfl) ?_
 refine X.an ?_
 refine Run.sr (X.mv ?_)
 refine X.mv ?_
 refine X.nilChk (by rfl) (by rfl) (by rfl) ?_
 refine X.fl M0l ?_
 refine X.ld shp3 ?_
 refine X.addW (h:=?_)
 refine X.nilChk (by rfl) (by rfl) (by rfl) ?_
 refine X.fl M0l ?_
 refine X.sl shp3 ?_
 refine X.nil (Run.sr (X.mv ?_))
 refine X.ld shp28 ?_
 obtain ⟨v2,hv2,h⟩:=bindE h
 refine X.callM [(63,448)] (Y0m _ _ _ hv2) (by rfl) (by rfl) (.lptrB 63 (by rfl) (by rfl) (.pureB (by rfl) (by repeat (first | trivial | refine ⟨by first | rfl | simp [setL],?_⟩)) .nil)) (by rfl) ⟨rfl,rfl,⟨_,by rfl,by constructor⟩,by constructor,trivial⟩ (by rfl) (by rfl) (by rfl) (by rfl) (by rfl) (by rfl) (by rfl) (by rfl) (by rfl) ?_
 refine X.sl shp35 ?_
 refine X.nil ?_
 cases h
 refine R.finC Tryz.results7 shp35 (by rfl) (by rfl) (by rfl) (by rfl) (by repeat (first | trivial | refine ⟨by first | rfl | simp [setL],?_⟩)) ?_
 rfl
theorem R0i (b0:List Int)(b1:Int)(r:Int)(h:G0x b0 b1=some r):PC Tryz.prog 72 [.slice (b0.map int),int b1] (int r):=by
 unfold G0x at h
 refine PC.start Tryz.func72 Tryz.ntmps72 rfl (by kernel_rfl) rfl ?_
 refine Run.sr (X.an ?_)
 refine Run.seq (Run.sr (X.mv ?_))
 refine X.ls elt26 ?_
 refine X.mn ?_
 obtain ⟨o1,ho1,h⟩:=bindE h
 refine R.join2 (β:=Unit) [] [] (fun p13 S=>S) (fun p13 M=>M) (fun p13=>(Sum.inl p13)=o1) ?_ ?_
 ·intro JJ4 hmeet3
  have hup2:=h;clear h;have h:=ho1;clear ho1
  refine Run.block ?_
  refine R.bndS (t:=0) (by rfl) (fun hbd7=>?_)
  replace hbd7:b0.length≤9223372036854775807:=by first | (rw [List.length_map] at hbd7;exact hbd7) | simp
  refine R.lp (β:=Int) [(0,.slice (b0.map int)),(1,int b1),(7,int (b0.length:Int))] [] (fun bb S=>(8,int bb)::S) (fun bb M=>M) (fun n bb=>0≤bb∧bb+n=(b0.length:Int)∧B0q b1 (b0.drop bb.toNat) bb=some o1) b0.length (0:Int) ⟨Int.le_refl _,by simp,h⟩ ?_
  clear h
  rintro JJ7 n7 z8 hag7 ⟨hza7,hzb7,h⟩
  refine Run.sr (X.bi ?_)
  refine X.nil (Run.seq ?_)
  refine R.cd (fun hc11=>?_) (fun hc11=>?_)
  ·obtain ⟨x9,xs10,hd7,hx7,hds7,hlt7⟩:=B0c hza7 hc11
   rw [hd7] at h
   rw [B0q] at h
   refine Run.skip (Run.seq (Run.block (Run.sr (X.mv ?_))))
   refine X.an ?_
   refine Run.sr (X.mv ?_)
   refine X.mv ?_
   refine X.mv ?_
   refine X.ix elt26 (A0d hx7).1 (A0e int hx7) ?_
   refine X.lc shp3 ?_
   refine X.bi ?_
   refine X.nil ?_
   refine R.cd (fun hc12=>?_) (fun hc12=>?_)
   ·replace h:=condT hc12 h
    refine Run.sr (X.mv ?_)
    refine X.an ?_
    cases h
    have h:=hup2
    replace h:=elimR h
    cases h
    refine R.f1 Tryz.results72 ?_
    rfl
   replace h:=condF hc12 h
   refine Run.skip (Run.blk (Run.reg (X.ad ?_)))
   refine X.mn ?_
   exact R.ag hag7 (n7 - 1) (z8+1) (R.n3 (by first | (rw [hds7];exact h) | (dsimp only;rw [hds7];exact h)))
  rw [A0w hza7 hc11] at h
  rw [B0q] at h
  refine Run.exit (by rfl) ?_
  exact R.mt hmeet3 () (Option.some.inj h)
 rintro p13 rfl
 replace h:=elimL h
 refine Run.sr (X.an ?_)
 cases h
 refine R.f1 Tryz.results72 ?_
 rfl
theorem P0l (b0:List Int)(b1:Int)(r:Bool)(h:E0x b0 b1=some r):PC Tryz.prog 41 [.slice (b0.map int),int b1] (bool r):=by
 unfold E0x at h
 refine PC.start Tryz.func41 Tryz.ntmps41 rfl (by kernel_rfl) rfl ?_
 refine Run.sr (X.an ?_)
 refine Run.sr (X.mv ?_)
 refine X.mv ?_
 obtain ⟨v1,hv1,h⟩:=bindE h
 refine X.cp (R0i _ _ _ hv1) ?_
 refine X.bi ?_
 refine X.an ?_
 cases h
 refine R.f1 Tryz.results41 ?_
 rfl
theorem N0m (b0:List Int)(b1:Int)(r:Bool)(h:L0i b0 b1=some r):PC Tryz.prog 12 [.slice (b0.map int),int b1] (bool r):=by
 unfold L0i at h
 refine PC.start Tryz.func12 Tryz.ntmps12 rfl (by kernel_rfl) rfl ?_
 refine Run.sr (X.an ?_)
 refine Run.sr (X.mv ?_)
 refine X.mv ?_
 obtain ⟨v1,hv1,h⟩:=bindE h
 refine X.cp (P0l _ _ _ hv1) ?_
 refine X.an ?_
 cases h
 refine R.f1 Tryz.results12 ?_
 rfl
theorem S0y (b0:A0f)(b1:A0l)(r:Bool)(h:L0m b0 b1=some r):PC Tryz.prog 8 [D0c b0,D0j b1] (bool r):=by
 unfold L0m at h
 refine PC.start Tryz.func8 Tryz.ntmps8 rfl (by kernel_rfl) rfl ?_
 refine Run.sr (X.bx ?_)
 refine X.bx ?_
 refine X.an ?_
 refine Run.sr (X.fl F0b ?_)
 refine X.ld shp26 ?_
 refine X.ls elt26 ?_
 refine X.an ?_
 refine Run.seq (Run.seq ?_)
 obtain ⟨e1,he1,h2⟩:=bindE h
 refine R.regG [(2,.lptr 128 0),(3,.lptr 192 0),(36,bool e1)] [(128,.blk true [.slice (b0.MinStart.map int),.slice (b0.MaxStart.map int),.slice (b0.Modes.map l_int)]),(192,.blk true [.slice (b1.Starts.map int),.slice (b1.Modes.map int)])] ?_ ?_
 ·clear h;have h:=he1;clear he1 h2
  refine X.fl N0f ?_
  refine X.ld shp26 ?_
  refine X.ls elt26 ?_
  refine X.mv ?_
  refine X.bi ?_
  refine X.mv ?_
  refine X.iG (fun hb2=>?_) (fun hb2=>?_)
  ·replace h:=condF hb2 h
   refine X.fl H0a ?_
   refine X.gy (X.ld shp26 ?_)
   refine X.gy (X.ls elt26 ?_)
   refine X.gy (X.mv ?_)
   refine X.gy (X.bi ?_)
   refine X.pF ?_
   refine X.mv ?_
   refine X.iG (fun hb3=>?_) (fun hb3=>?_)
   ·replace h:=condF hb3 h
    refine X.fl G0b ?_
    refine X.gy (X.ld shp26 ?_)
    refine X.gy (X.ls elt26 ?_)
    refine X.gy (X.mv ?_)
    refine X.gy (X.bi ?_)
    refine X.pF ?_
    refine X.mv ?_
    refine X.iG (fun hb4=>?_) (fun hb4=>?_)
    ·replace h:=condF hb4 h
     refine X.fl H0n ?_
     refine X.gy (X.ld shp30 ?_)
     refine X.gy (X.ls elt30 ?_)
     refine X.gy (X.mv ?_)
     refine X.gy (X.bi ?_)
     refine X.pF ?_
     cases h
     exact X.eG
    replace h:=condT hb4 h
    refine X.gn (X.gn (X.gn (X.gn (X.pT ?_))))
    cases h
    exact X.eG
   replace h:=condT hb3 h
   refine X.gn (X.gn (X.gn (X.gn (X.pT ?_))))
   refine X.mv ?_
   refine X.gn (X.gn (X.gn (X.gn (X.gn (X.pT ?_)))))
   cases h
   exact X.eG
  replace h:=condT hb2 h
  refine X.gn (X.gn (X.gn (X.gn (X.pT ?_))))
  refine X.mv ?_
  refine X.gn (X.gn (X.gn (X.gn (X.gn (X.pT ?_)))))
  refine X.mv ?_
  refine X.gn (X.gn (X.gn (X.gn (X.gn (X.pT ?_)))))
  cases h
  exact X.eG
 replace h:=h2;clear h2
 refine R.cd (fun hc5=>?_) (fun hc5=>?_)
 ·replace h:=condT hc5 h
  refine Run.sr (X.an ?_)
  cases h
  refine R.f1 Tryz.results8 ?_
  rfl
 replace h:=condF hc5 h
 refine Run.skip (Run.seq (Run.sr (X.fl F0b ?_)))
 refine X.ld shp26 ?_
 refine X.ls elt26 ?_
 refine X.mn ?_
 obtain ⟨o6,ho6,h⟩:=bindE h
 refine R.join2 (β:=Unit) [] [] (fun p26 S=>S) (fun p26 M=>M) (fun p26=>(Sum.inl p26)=o6) ?_ ?_
 ·intro JJ9 hmeet8
  have hup7:=h;clear h;have h:=ho6;clear ho6
  refine Run.block ?_
  refine R.bndS (t:=38) (by rfl) (fun hbd12=>?_)
  replace hbd12:b1.Starts.length≤9223372036854775807:=by first | (rw [List.length_map] at hbd12;exact hbd12) | simp
  refine R.lp (β:=Int) [(2,.lptr 128 0),(3,.lptr 192 0),(38,.slice (b1.Starts.map int)),(39,int (b1.Starts.length:Int))] [(128,.blk true [.slice (b0.MinStart.map int),.slice (b0.MaxStart.map int),.slice (b0.Modes.map l_int)]),(192,.blk true [.slice (b1.Starts.map int),.slice (b1.Modes.map int)])] (fun bb S=>(40,int bb)::S) (fun bb M=>M) (fun n bb=>0≤bb∧bb+n=(b1.Starts.length:Int)∧F0n b0 b1 (b1.Starts.drop bb.toNat) bb=some o6) b1.Starts.length (0:Int) ⟨Int.le_refl _,by simp,h⟩ ?_
  clear h
  rintro JJ12 n12 z13 hag12 ⟨hza12,hzb12,h⟩
  refine Run.sr (X.bi ?_)
  refine X.nil (Run.seq ?_)
  refine R.cd (fun hc16=>?_) (fun hc16=>?_)
  ·obtain ⟨x14,xs15,hd12,hx12,hds12,hlt12⟩:=B0c hza12 hc16
   rw [hd12] at h
   rw [F0n] at h
   refine Run.skip (Run.seq (Run.block (Run.sr (X.mv ?_))))
   refine X.ix elt26 (A0d hx12).1 (A0e int hx12) ?_
   refine X.lc shp3 ?_
   refine X.as ?_
   refine X.an ?_
   refine Run.seq ?_
   obtain ⟨v17,hv17,h⟩:=bindE h
   obtain ⟨e18,he18,h2⟩:=bindE h
   refine R.drawG [(2,.lptr 128 0),(3,.lptr 192 0),(38,.slice (b1.Starts.map int)),(39,int (b1.Starts.length:Int)),(40,int z13),(74,bool e18)] [(128,.blk true [.slice (b0.MinStart.map int),.slice (b0.MaxStart.map int),.slice (b0.Modes.map l_int)]),(192,.blk true [.slice (b1.Starts.map int),.slice (b1.Modes.map int)])] (B0r [(2,([128],[],[],[])),(10,([128],[],[],[])),(18,([128],[],[],[])),(23,([192],[],[],[]))]) mixed (by kernel_rfl) (by kernel_rfl) ?_ ?_
   ·clear h;have h:=he18;clear he18 h2
    refine X.mv ?_
    refine X.fl H0a ?_
    refine X.ld shp26 ?_
    refine X.mv ?_
    refine X.ix elt26 (A0d hv17).1 (A0e int hv17) ?_
    refine X.lc shp3 ?_
    refine X.bi ?_
    refine X.mv ?_
    refine X.iG (fun hb19=>?_) (fun hb19=>?_)
    ·replace h:=condF hb19 h
     refine X.mv ?_
     refine X.gy (X.fl G0b ?_)
     refine X.gy (X.ld shp26 ?_)
     refine X.gy (X.mv ?_)
     refine X.gy ?_
     obtain ⟨v20,hv20,h⟩:=bindE h
     refine X.ix elt26 (A0d hv20).1 (A0e int hv20) ?_
     refine X.gy (X.lc shp3 ?_)
     refine X.gy (X.bi ?_)
     refine X.pF ?_
     refine X.mv ?_
     refine X.iG (fun hb21=>?_) (fun hb21=>?_)
     ·replace h:=condF hb21 h
      refine X.fl H0n ?_
      refine X.gy (X.ld shp30 ?_)
      refine X.gy (X.mv ?_)
      refine X.gy ?_
      obtain ⟨v22,hv22,h⟩:=bindE h
      refine X.ix elt30 (A0d hv22).1 (A0e l_int hv22) ?_
      refine X.gy (X.lc shp26 ?_)
      refine X.gy (X.fl N0f ?_)
      refine X.gy (X.ld shp26 ?_)
      refine X.gy (X.mv ?_)
      refine X.gy ?_
      obtain ⟨v23,hv23,h⟩:=bindE h
      refine X.ix elt26 (A0d hv23).1 (A0e int hv23) ?_
      refine X.gy (X.lc shp3 ?_)
      refine X.gy ?_
      obtain ⟨v24,hv24,h⟩:=bindE h
      refine X.cp (N0m _ _ _ hv24) ?_
      refine X.gy (X.un (h:=?_))
      refine X.pF ?_
      cases h
      exact X.eG
     replace h:=condT hb21 h
     refine X.gn (X.gn (X.gn (X.gn (X.gn (X.gn (X.gn (X.gn ?_)))))))
     refine X.gn (X.gn (X.gn (X.pT ?_)))
     cases h
     exact X.eG
    replace h:=condT hb19 h
    refine X.gn (X.gn (X.gn (X.gn (X.gn (X.gn (X.pT ?_))))))
    refine X.mv ?_
    refine X.gn (X.gn (X.gn (X.gn (X.gn (X.gn (X.gn (X.gn ?_)))))))
    refine X.gn (X.gn (X.gn (X.gn (X.pT ?_))))
    cases h
    exact X.eG
   replace h:=h2;clear h2
   refine R.cd (fun hc25=>?_) (fun hc25=>?_)
   ·replace h:=condT hc25 h
    refine Run.sr (X.an ?_)
    cases h
    have h:=hup7
    replace h:=elimR h
    cases h
    refine R.f1 Tryz.results8 ?_
    rfl
   replace h:=condF hc25 h
   refine Run.skip (Run.blk (Run.reg (X.ad ?_)))
   refine X.mn ?_
   exact R.ag hag12 (n12 - 1) (z13+1) (R.n3 (by first | (rw [hds12];exact h) | (dsimp only;rw [hds12];exact h)))
  rw [A0w hza12 hc16] at h
  rw [F0n] at h
  refine Run.exit (by rfl) ?_
  exact R.mt hmeet8 () (Option.some.inj h)
 rintro p26 rfl
 replace h:=elimL h
 refine Run.sr (X.an ?_)
 cases h
 refine R.f1 Tryz.results8 ?_
 rfl
theorem B0m (b0:Int)(b1:Int)(b2:Int)(r:Bool)(h:C0s b0 b1 b2=some r):PC Tryz.prog 50 [int b0,int b1,int b2] (bool r):=by
 unfold C0s at h
 refine PC.start Tryz.func50 Tryz.ntmps50 rfl (by kernel_rfl) rfl ?_
 refine Run.sr (X.an ?_)
 refine Run.seq ?_
 obtain ⟨e1,he1,h2⟩:=bindE h
 refine R.regG [(6,bool e1)] [] ?_ ?_
 ·clear h;have h:=he1;clear he1 h2
  refine X.mv ?_
  refine X.mv ?_
  refine X.bi ?_
  refine X.mv ?_
  refine X.iG (fun hb2=>?_) (fun hb2=>?_)
  ·replace h:=condT hb2 h
   refine X.mv ?_
   refine X.gy (X.mv ?_)
   refine X.gy (X.bi ?_)
   refine X.pT ?_
   refine X.as ?_
   cases h
   exact X.eG
  replace h:=condF hb2 h
  refine X.gn (X.gn (X.pF ?_))
  refine X.as ?_
  cases h
  exact X.eG
 replace h:=h2;clear h2
 cases h
 refine R.f1 Tryz.results50 ?_
 rfl
theorem S0o (b0:Int)(r:Bool)(h:L0p b0=some r):PC Tryz.prog 93 [int b0] (bool r):=by
 unfold L0p at h
 refine PC.start Tryz.func93 Tryz.ntmps93 rfl (by kernel_rfl) rfl ?_
 refine Run.sr (X.an ?_)
 refine Run.sr (X.mv ?_)
 obtain ⟨v1,hv1,h⟩:=bindE h
 refine X.cp (B0m _ _ _ _ hv1) ?_
 refine X.an ?_
 cases h
 refine R.f1 Tryz.results93 ?_
 rfl
theorem Q0a (b0:List Int)(b1:Int)(r:Bool)(h:J0m b0 b1=some r):PC Tryz.prog 120 [.slice (b0.map int),int b1] (bool r):=by
 unfold J0m at h
 refine PC.start Tryz.func120 Tryz.ntmps120 rfl (by kernel_rfl) rfl ?_
 refine Run.sr (X.an ?_)
 refine Run.seq (Run.sr (X.mv ?_))
 refine X.ls elt26 ?_
 refine X.mn ?_
 obtain ⟨o1,ho1,h⟩:=bindE h
 refine R.join2 (β:=Unit) [(0,.slice (b0.map int)),(1,int b1)] [] (fun p14 S=>S) (fun p14 M=>M) (fun p14=>(Sum.inl p14)=o1) ?_ ?_
 ·intro JJ4 hmeet3
  have hup2:=h;clear h;have h:=ho1;clear ho1
  refine Run.block ?_
  refine R.bndS (t:=0) (by rfl) (fun hbd7=>?_)
  replace hbd7:b0.length≤9223372036854775807:=by first | (rw [List.length_map] at hbd7;exact hbd7) | simp
  refine R.lp (β:=Int) [(0,.slice (b0.map int)),(1,int b1),(7,.slice (b0.map int)),(8,int (b0.length:Int))] [] (fun bb S=>(9,int bb)::S) (fun bb M=>M) (fun n bb=>0≤bb∧bb+n=(b0.length:Int)∧E0z (b0.drop bb.toNat) bb=some o1) b0.length (0:Int) ⟨Int.le_refl _,by simp,h⟩ ?_
  clear h
  rintro JJ7 n7 z8 hag7 ⟨hza7,hzb7,h⟩
  refine Run.sr (X.bi ?_)
  refine X.nil (Run.seq ?_)
  refine R.cd (fun hc11=>?_) (fun hc11=>?_)
  ·obtain ⟨x9,xs10,hd7,hx7,hds7,hlt7⟩:=B0c hza7 hc11
   rw [hd7] at h
   rw [E0z] at h
   refine Run.skip (Run.seq (Run.block (Run.sr (X.ix elt26 (A0d hx7).1 (A0e int hx7) ?_))))
   refine X.lc shp3 ?_
   refine X.an ?_
   refine Run.sr (X.mv ?_)
   obtain ⟨v12,hv12,h⟩:=bindE h
   refine X.cp (S0o _ _ hv12) ?_
   refine X.un (h:=?_)
   refine X.nil ?_
   refine R.cd (fun hc13=>?_) (fun hc13=>?_)
   ·replace h:=condT hc13 h
    refine Run.sr (X.an ?_)
    cases h
    have h:=hup2
    replace h:=elimR h
    cases h
    refine R.f1 Tryz.results120 ?_
    rfl
   replace h:=condF hc13 h
   refine Run.skip (Run.blk (Run.reg (X.ad ?_)))
   refine X.mn ?_
   exact R.ag hag7 (n7 - 1) (z8+1) (R.n3 (by first | (rw [hds7];exact h) | (dsimp only;rw [hds7];exact h)))
  rw [A0w hza7 hc11] at h
  rw [E0z] at h
  refine Run.exit (by rfl) ?_
  exact R.mt hmeet3 () (Option.some.inj h)
 rintro p14 rfl
 replace h:=elimL h
 refine Run.sr (X.mv ?_)
 refine X.ls elt26 ?_
 refine X.mv ?_
 refine X.bi ?_
 refine X.an ?_
 cases h
 refine R.f1 Tryz.results120 ?_
 rfl
theorem Z0o (b0:TMode)(b1:Int)(b2:Int)(r:Bool)(h:S0p b0 b1 b2=some r):PC Tryz.prog 109 [B0o b0,int b1,int b2] (bool r):=by
 unfold S0p at h
 refine PC.start Tryz.func109 Tryz.ntmps109 rfl (by kernel_rfl) rfl ?_
 refine Run.sr (X.bx ?_)
 refine X.an ?_
 refine Run.seq ?_
 obtain ⟨v1,hv1,h⟩:=bindE h
 obtain ⟨e2,he2,h2⟩:=bindE h
 refine R.regG [(6,bool e2)] [] ?_ ?_
 ·clear h;have h:=he2;clear he2 h2
  refine X.fl R0f ?_
  refine X.ld shp3 ?_
  refine X.cp (B0m _ _ _ _ hv1) ?_
  refine X.mv ?_
  refine X.iG (fun hb3=>?_) (fun hb3=>?_)
  ·replace h:=condT hb3 h
   refine X.fl N0n ?_
   refine X.gy (X.ld shp26 ?_)
   refine X.gy (X.mv ?_)
   refine X.gy ?_
   obtain ⟨v4,hv4,h⟩:=bindE h
   refine X.cp (Q0a _ _ _ hv4) ?_
   refine X.pT ?_
   refine X.mv ?_
   refine X.iG (fun hb5=>?_) (fun hb5=>?_)
   ·replace h:=condT hb5 h
    refine X.fl V0d ?_
    refine X.gy (X.ld shp26 ?_)
    refine X.gy (X.mv ?_)
    refine X.gy ?_
    obtain ⟨v6,hv6,h⟩:=bindE h
    refine X.cp (Q0a _ _ _ hv6) ?_
    refine X.pT ?_
    refine X.as ?_
    cases h
    exact X.eG
   replace h:=condF hb5 h
   refine X.gn (X.gn (X.gn (X.pF ?_)))
   refine X.as ?_
   cases h
   exact X.eG
  replace h:=condF hb3 h
  refine X.gn (X.gn (X.gn (X.pF ?_)))
  refine X.mv ?_
  refine X.gn (X.gn (X.gn (X.gn (X.pF ?_))))
  refine X.as ?_
  cases h
  exact X.eG
 replace h:=h2;clear h2
 cases h
 refine R.f1 Tryz.results109 ?_
 rfl
theorem Z0n (b0:ByteArray)(r:Bool)(h:S0g b0=some r):PC Tryz.prog 110 [str b0] (bool r):=by
 unfold S0g at h
 refine PC.start Tryz.func110 Tryz.ntmps110 rfl (by kernel_rfl) rfl ?_
 refine Run.sr (X.an ?_)
 refine Run.seq (Run.sr (X.mv ?_))
 refine X.lenStr Tryz.underlying9 (by rfl) (by rfl) ?_
 refine X.mn ?_
 obtain ⟨o1,ho1,h⟩:=bindE h
 refine R.join2 (β:=Unit) [(0,str b0)] [] (fun p19 S=>S) (fun p19 M=>M) (fun p19=>(Sum.inl p19)=o1) ?_ ?_
 ·intro JJ4 hmeet3
  have hup2:=h;clear h;have h:=ho1;clear ho1
  refine Run.block ?_
  refine R.lp (β:=Int) [(0,str b0),(6,int (b0.size:Int))] [] (fun bb S=>(7,int bb)::S) (fun bb M=>M) (fun n bb=>J0d b0 n bb=some o1) F0 0 h ?_
  clear h
  rintro JJ5 n5 a7 hag5 h
  obtain _ | n5:=n5
  ·exact absurd h (by simp [J0d])
  rw [J0d] at h
  refine Run.sr (X.bi ?_)
  refine X.nil (Run.seq ?_)
  refine R.cd (fun hc10=>?_) (fun hc10=>?_)
  ·replace h:=condT hc10 h
   refine Run.skip (Run.seq (Run.block (Run.sr (X.mv ?_))))
   refine X.an ?_
   refine Run.seq ?_
   obtain ⟨v11,hv11,h⟩:=bindE h
   obtain ⟨e12,he12,h2⟩:=bindE h
   refine R.regG [(0,str b0),(3,int a7),(4,bool e12),(6,int (b0.size:Int)),(7,int a7)] [] ?_ ?_
   ·clear h;have h:=he12;clear he12 h2
    refine X.mv ?_
    refine X.mv ?_
    refine X.indexStr2 hv11 Tryz.underlying9 (by rfl) (by rfl) (by rfl) ?_
    refine X.bi ?_
    refine X.mv ?_
    refine X.iG (fun hb13=>?_) (fun hb13=>?_)
    ·replace h:=condT hb13 h
     refine X.mv ?_
     refine X.gy (X.mv ?_)
     refine X.gy (X.indexStr2 hv11 Tryz.underlying9 (by rfl) (by rfl) (by rfl) ?_)
     refine X.gy (X.bi ?_)
     refine X.pT ?_
     refine X.as ?_
     cases h
     exact X.eG
    replace h:=condF hb13 h
    refine X.gn (X.gn (X.gn (X.pF ?_)))
    refine X.as ?_
    cases h
    exact X.eG
   replace h:=h2;clear h2
   refine Run.seq ?_
   obtain ⟨e14,he14,h2⟩:=bindE h
   refine R.regG [(0,str b0),(6,int (b0.size:Int)),(7,int a7),(37,bool e14)] [] ?_ ?_
   ·clear h;have h:=he14;clear he14 h2
    refine X.mv ?_
    refine X.un (h:=?_)
    refine X.mv ?_
    refine X.iG (fun hb15=>?_) (fun hb15=>?_)
    ·replace h:=condT hb15 h
     refine X.mv ?_
     refine X.gy (X.bi ?_)
     refine X.gy (X.mv ?_)
     refine X.iG (fun hb16=>?_) (fun hb16=>?_)
     ·replace h:=condF hb16 h
      refine X.mv ?_
      refine X.gy (X.mv ?_)
      refine X.gy (X.indexStr2 hv11 Tryz.underlying9 (by rfl) (by rfl) (by rfl) ?_)
      refine X.gy (X.bi ?_)
      refine X.gy (X.pF ?_)
      refine X.gy (X.mv ?_)
      refine X.iG (fun hb17=>?_) (fun hb17=>?_)
      ·replace h:=condF hb17 h
       refine X.mv ?_
       refine X.gy (X.mv ?_)
       refine X.gy (X.indexStr2 hv11 Tryz.underlying9 (by rfl) (by rfl) (by rfl) ?_)
       refine X.gy (X.bi ?_)
       refine X.gy (X.pF ?_)
       refine X.pT ?_
       cases h
       exact X.eG
      replace h:=condT hb17 h
      refine X.gn (X.gn (X.gn (X.gy (X.pT ?_))))
      refine X.pT ?_
      cases h
      exact X.eG
     replace h:=condT hb16 h
     refine X.gn (X.gn (X.gn (X.gy (X.pT ?_))))
     refine X.gy (X.mv ?_)
     refine X.gn (X.gn (X.gn (X.gn (X.gy (X.pT ?_)))))
     refine X.pT ?_
     cases h
     exact X.eG
    replace h:=condF hb15 h
    refine X.gn (X.gn (X.gU (h:=?_)))
    refine X.gU (h:=?_)
    refine X.gU (h:=?_)
    refine X.gU (h:=?_)
    refine X.gn (X.gn (X.gU (h:=?_)))
    refine X.gU (h:=?_)
    refine X.gU (h:=?_)
    refine X.gU (h:=?_)
    refine X.gn (X.pF ?_)
    cases h
    exact X.eG
   replace h:=h2;clear h2
   refine R.cd (fun hc18=>?_) (fun hc18=>?_)
   ·replace h:=condT hc18 h
    refine Run.sr (X.an ?_)
    cases h
    have h:=hup2
    replace h:=elimR h
    cases h
    refine R.f1 Tryz.results110 ?_
    rfl
   replace h:=condF hc18 h
   refine Run.skip (Run.blk (Run.reg (X.addW (h:=?_))))
   refine X.mn ?_
   exact hag5 n5 (W (a7+1)) _ _ (by omega) h (by trivial) (by trivial) (by rfl) (by rfl)
  replace h:=condF hc10 h
  refine Run.exit (by rfl) ?_
  exact R.mt hmeet3 () (Option.some.inj h)
 rintro p19 rfl
 replace h:=elimL h
 refine Run.sr (X.mv ?_)
 refine X.lenStr Tryz.underlying9 (by rfl) (by rfl) ?_
 obtain ⟨v21,hv21,h⟩:=bindE h
 refine X.cp (B0m _ _ _ _ hv21) ?_
 refine X.an ?_
 cases h
 refine R.f1 Tryz.results110 ?_
 rfl
theorem U0x (b0:A0g)(b1:Int)(b2:Int)(r:Bool)(h:K0q b0 b1 b2=some r):PC Tryz.prog 87 [A0b b0,int b1,int b2] (bool r):=by
 unfold K0q at h
 refine PC.start Tryz.func87 Tryz.ntmps87 rfl (by kernel_rfl) rfl ?_
 refine Run.sr (X.bx ?_)
 refine X.an ?_
 refine Run.seq (Run.sr (X.fl H0v ?_))
 refine X.ld shp48 ?_
 refine X.ls elt48 ?_
 refine X.mn ?_
 obtain ⟨o1,ho1,h⟩:=bindE h
 refine R.join2 (β:=Unit) [(3,.lptr 192 0)] [(192,.blk true [str b0.Name,int b0.Family,.slice (b0.Modes.map B0o)])] (fun p14 S=>S) (fun p14 M=>M) (fun p14=>(Sum.inl p14)=o1) ?_ ?_
 ·intro JJ4 hmeet3
  have hup2:=h;clear h;have h:=ho1;clear ho1
  refine Run.block ?_
  refine R.bndS (t:=10) (by rfl) (fun hbd7=>?_)
  replace hbd7:b0.Modes.length≤9223372036854775807:=by first | (rw [List.length_map] at hbd7;exact hbd7) | simp
  refine R.lp (β:=Int) [(1,int b1),(2,int b2),(3,.lptr 192 0),(10,.slice (b0.Modes.map B0o)),(11,int (b0.Modes.length:Int))] [(192,.blk true [str b0.Name,int b0.Family,.slice (b0.Modes.map B0o)])] (fun bb S=>(12,int bb)::S) (fun bb M=>M) (fun n bb=>0≤bb∧bb+n=(b0.Modes.length:Int)∧E0y b1 b2 (b0.Modes.drop bb.toNat) bb=some o1) b0.Modes.length (0:Int) ⟨Int.le_refl _,by simp,h⟩ ?_
  clear h
  rintro JJ7 n7 z8 hag7 ⟨hza7,hzb7,h⟩
  refine Run.sr (X.bi ?_)
  refine X.nil (Run.seq ?_)
  refine R.cd (fun hc11=>?_) (fun hc11=>?_)
  ·obtain ⟨x9,xs10,hd7,hx7,hds7,hlt7⟩:=B0c hza7 hc11
   rw [hd7] at h
   rw [E0y] at h
   refine Run.skip (Run.seq (Run.block (Run.sr (X.ix elt48 (A0d hx7).1 (A0e B0o hx7) ?_))))
   refine X.lc shp47 ?_
   refine X.alloc zer47 (h:=?_)
   refine X.sl shp47 ?_
   refine X.nil (Run.sr (X.ld shp47 ?_))
   refine X.mv ?_
   refine X.mv ?_
   obtain ⟨v12,hv12,h⟩:=bindE h
   refine X.cp (Z0o _ _ _ _ hv12) ?_
   refine X.un (h:=?_)
   refine X.nil ?_
   refine R.cd (fun hc13=>?_) (fun hc13=>?_)
   ·replace h:=condT hc13 h
    refine Run.sr (X.an ?_)
    cases h
    have h:=hup2
    replace h:=elimR h
    cases h
    refine R.f1 Tryz.results87 ?_
    rfl
   replace h:=condF hc13 h
   refine Run.skip (Run.blk (Run.reg (X.ad ?_)))
   refine X.mn ?_
   exact R.ag hag7 (n7 - 1) (z8+1) (R.n3 (by first | (rw [hds7];exact h) | (dsimp only;rw [hds7];exact h)))
  rw [A0w hza7 hc11] at h
  rw [E0y] at h
  refine Run.exit (by rfl) ?_
  exact R.mt hmeet3 () (Option.some.inj h)
 rintro p14 rfl
 replace h:=elimL h
 refine Run.seq ?_
 obtain ⟨v16,hv16,h⟩:=bindE h
 obtain ⟨e17,he17,h2⟩:=bindE h
 refine R.regG [(6,bool e17)] [] ?_ ?_
 ·clear h;have h:=he17;clear he17 h2
  refine X.fl T0h ?_
  refine X.ld shp9 ?_
  refine X.cp (Z0n _ _ hv16) ?_
  refine X.mv ?_
  refine X.iG (fun hb18=>?_) (fun hb18=>?_)
  ·replace h:=condT hb18 h
   refine X.fl X0i ?_
   refine X.gy (X.ld shp3 ?_)
   refine X.gy ?_
   obtain ⟨v19,hv19,h⟩:=bindE h
   refine X.cp (B0m _ _ _ _ hv19) ?_
   refine X.pT ?_
   refine X.mv ?_
   refine X.iG (fun hb20=>?_) (fun hb20=>?_)
   ·replace h:=condT hb20 h
    refine X.fl H0v ?_
    refine X.gy (X.ld shp48 ?_)
    refine X.gy (X.ls elt48 ?_)
    refine X.gy ?_
    obtain ⟨v21,hv21,h⟩:=bindE h
    refine X.cp (B0m _ _ _ _ hv21) ?_
    refine X.pT ?_
    refine X.as ?_
    cases h
    exact X.eG
   replace h:=condF hb20 h
   refine X.gn (X.gn (X.gn (X.pF ?_)))
   refine X.as ?_
   cases h
   exact X.eG
  replace h:=condF hb18 h
  refine X.gn (X.gn (X.pF ?_))
  refine X.mv ?_
  refine X.gn (X.gn (X.gn (X.gn (X.pF ?_))))
  refine X.as ?_
  cases h
  exact X.eG
 replace h:=h2;clear h2
 cases h
 refine R.f1 Tryz.results87 ?_
 rfl
theorem Q0c (b0:A0g)(c1:ByteArray)(r:Bool)(h:F0f b0 c1=some r):PC Tryz.prog 112 [A0b b0,.cptr (str c1:PV).cells 0] (bool r):=by
 unfold F0f at h
 refine PC.start Tryz.func112 Tryz.ntmps112 rfl (by kernel_rfl) rfl ?_
 refine Run.sr (X.bx ?_)
 refine X.an ?_
 refine Run.sr (X.fl T0h ?_)
 refine X.ld shp9 ?_
 refine X.lc shp9 ?_
 refine X.bi ?_
 refine X.an ?_
 cases h
 refine R.f1 Tryz.results112 ?_
 rfl
theorem L0f (b0:List A0g)(g1:A0g→Option Bool)(g1id:Nat)(g1c:List PV)(hg1:∀(x0:A0g) v,g1 x0=some v→PC Tryz.prog g1id ([A0b x0] ++ g1c) (bool v))(r:Int)(h:D0u b0 g1=some r):PC Tryz.prog 111 [.slice (b0.map A0b),.fn g1id g1c] (int r):=by
 unfold D0u at h
 refine PC.start Tryz.func111 Tryz.ntmps111 rfl (by kernel_rfl) rfl ?_
 refine Run.sr (X.an ?_)
 refine Run.seq (Run.sr (X.mv ?_))
 refine X.ls elt23 ?_
 refine X.mn ?_
 obtain ⟨o1,ho1,h⟩:=bindE h
 refine R.join2 (β:=Unit) [] [] (fun p14 S=>S) (fun p14 M=>M) (fun p14=>(Sum.inl p14)=o1) ?_ ?_
 ·intro JJ4 hmeet3
  have hup2:=h;clear h;have h:=ho1;clear ho1
  refine Run.block ?_
  refine R.bndS (t:=0) (by rfl) (fun hbd7=>?_)
  replace hbd7:b0.length≤9223372036854775807:=by first | (rw [List.length_map] at hbd7;exact hbd7) | simp
  refine R.lp (β:=Int) [(0,.slice (b0.map A0b)),(1,.fn g1id g1c),(7,int (b0.length:Int))] [] (fun bb S=>(8,int bb)::S) (fun bb M=>M) (fun n bb=>0≤bb∧bb+n=(b0.length:Int)∧B0g g1 (b0.drop bb.toNat) bb=some o1) b0.length (0:Int) ⟨Int.le_refl _,by simp,h⟩ ?_
  clear h
  rintro JJ7 n7 z8 hag7 ⟨hza7,hzb7,h⟩
  refine Run.sr (X.bi ?_)
  refine X.nil (Run.seq ?_)
  refine R.cd (fun hc11=>?_) (fun hc11=>?_)
  ·obtain ⟨x9,xs10,hd7,hx7,hds7,hlt7⟩:=B0c hza7 hc11
   rw [hd7] at h
   rw [B0g] at h
   refine Run.skip (Run.seq (Run.block (Run.sr (X.mv ?_))))
   refine X.an ?_
   refine Run.sr (X.mv ?_)
   refine X.mv ?_
   refine X.mv ?_
   refine X.ix elt23 (A0d hx7).1 (A0e A0b hx7) ?_
   refine X.lc shp50 ?_
   obtain ⟨v12,hv12,h⟩:=bindE h
   refine X.cp (hg1 _ _ hv12) ?_
   refine X.nil ?_
   refine R.cd (fun hc13=>?_) (fun hc13=>?_)
   ·replace h:=condT hc13 h
    refine Run.sr (X.mv ?_)
    refine X.an ?_
    cases h
    have h:=hup2
    replace h:=elimR h
    cases h
    refine R.f1 Tryz.results111 ?_
    rfl
   replace h:=condF hc13 h
   refine Run.skip (Run.blk (Run.reg (X.ad ?_)))
   refine X.mn ?_
   exact R.ag hag7 (n7 - 1) (z8+1) (R.n3 (by first | (rw [hds7];exact h) | (dsimp only;rw [hds7];exact h)))
  rw [A0w hza7 hc11] at h
  rw [B0g] at h
  refine Run.exit (by rfl) ?_
  exact R.mt hmeet3 () (Option.some.inj h)
 rintro p14 rfl
 replace h:=elimL h
 refine Run.sr (X.an ?_)
 cases h
 refine R.f1 Tryz.results111 ?_
 rfl
theorem R0u (b0:A0a)(b1:ByteArray)(r:Int)(h:H0g b0 b1=some r):PC Tryz.prog 88 [A0u b0,str b1] (int r):=by
 unfold H0g at h
 refine PC.start Tryz.func88 Tryz.ntmps88 rfl (by kernel_rfl) rfl ?_
 refine Run.sr (X.bx ?_)
 refine X.bx ?_
 refine X.an ?_
 refine Run.seq ?_
 refine R.pubBlk (n:=192) (by rfl) (by rfl) (by repeat (first | trivial | refine ⟨by first | rfl | simp [setL],?_⟩)) ?_
 refine Run.reg (X.fl B0z ?_)
 refine X.ld shp23 ?_
 refine X.makeFunc (by rfl) (by rfl) (by repeat (first | trivial | refine ⟨by first | rfl | simp [setL],?_⟩)) (by rfl) (by rfl) ?_
 obtain ⟨v1,hv1,h⟩:=bindE h
 refine X.cp (L0f _ (fun x0=>F0f x0 b1) _ _ (fun x0 v hv=>Q0c _ _ _ hv) _ hv1) ?_
 refine X.an ?_
 cases h
 refine R.f1 Tryz.results88 ?_
 rfl
theorem E0t (b0:Int)(r:Bool)(h:G0r b0=some r):PC Tryz.prog 51 [int b0] (bool r):=by
 unfold G0r at h
 refine PC.start Tryz.func51 Tryz.ntmps51 rfl (by kernel_rfl) rfl ?_
 refine Run.sr (X.an ?_)
 refine Run.sr (X.mv ?_)
 obtain ⟨v1,hv1,h⟩:=bindE h
 refine X.cp (B0m _ _ _ _ hv1) ?_
 refine X.an ?_
 cases h
 refine R.f1 Tryz.results51 ?_
 rfl
theorem T0u (b0:List TStep)(r:Bool)(h:K0l b0=some r):PC Tryz.prog 54 [.slice (b0.map C0p)] (bool r):=by
 unfold K0l at h
 refine PC.start Tryz.func54 Tryz.ntmps54 rfl (by kernel_rfl) rfl ?_
 refine Run.sr (X.an ?_)
 refine Run.seq (Run.sr (X.mv ?_))
 refine X.ls elt62 ?_
 refine X.mn ?_
 obtain ⟨o1,ho1,h⟩:=bindE h
 refine R.join2 (β:=Unit) [(0,.slice (b0.map C0p))] [] (fun p24 S=>S) (fun p24 M=>M) (fun p24=>(Sum.inl p24)=o1) ?_ ?_
 ·intro JJ4 hmeet3
  have hup2:=h;clear h;have h:=ho1;clear ho1
  refine Run.block ?_
  refine R.bndS (t:=0) (by rfl) (fun hbd7=>?_)
  replace hbd7:b0.length≤9223372036854775807:=by first | (rw [List.length_map] at hbd7;exact hbd7) | simp
  refine R.lp (β:=Int) [(0,.slice (b0.map C0p)),(5,.slice (b0.map C0p)),(6,int (b0.length:Int))] [] (fun bb S=>(7,int bb)::S) (fun bb M=>M) (fun n bb=>0≤bb∧bb+n=(b0.length:Int)∧E0c b0 (b0.drop bb.toNat) bb=some o1) b0.length (0:Int) ⟨Int.le_refl _,by simp,h⟩ ?_
  clear h
  rintro JJ7 n7 z8 hag7 ⟨hza7,hzb7,h⟩
  refine Run.sr (X.bi ?_)
  refine X.nil (Run.seq ?_)
  refine R.cd (fun hc11=>?_) (fun hc11=>?_)
  ·obtain ⟨x9,xs10,hd7,hx7,hds7,hlt7⟩:=B0c hza7 hc11
   rw [hd7] at h
   rw [E0c] at h
   refine Run.skip (Run.seq (Run.block (Run.sr (X.mv ?_))))
   refine X.ix elt62 (A0d hx7).1 (A0e C0p hx7) ?_
   refine X.lc W0y ?_
   refine X.alloc T0r (h:=?_)
   refine X.as ?_
   refine X.sl W0y ?_
   refine X.nil (Run.seq ?_)
   obtain ⟨v12,hv12,h⟩:=bindE h
   obtain ⟨e13,he13,h2⟩:=bindE h
   refine R.drawG [(0,.slice (b0.map C0p)),(5,.slice (b0.map C0p)),(6,int (b0.length:Int)),(7,int z8),(45,bool e13)] [] (B0r [(1,([256],[],[],[])),(6,([256],[],[],[])),(15,([256],[],[],[])),(24,([256],[],[],[]))]) mixed (by kernel_rfl) (by kernel_rfl) ?_ ?_
   ·clear h;have h:=he13;clear he13 h2
    refine X.fl H0s ?_
    refine X.ld shp3 ?_
    refine X.cp (E0t _ _ hv12) ?_
    refine X.un (h:=?_)
    refine X.mv ?_
    refine X.iG (fun hb14=>?_) (fun hb14=>?_)
    ·replace h:=condF hb14 h
     refine X.fl X0u ?_
     refine X.gy (X.ld shp3 ?_)
     refine X.gy ?_
     obtain ⟨v15,hv15,h⟩:=bindE h
     refine X.cp (S0o _ _ hv15) ?_
     refine X.gy (X.un (h:=?_))
     refine X.pF ?_
     refine X.mv ?_
     refine X.iG (fun hb16=>?_) (fun hb16=>?_)
     ·replace h:=condF hb16 h
      refine X.mv ?_
      refine X.gy (X.bi ?_)
      refine X.gy (X.mv ?_)
      refine X.iG (fun hb17=>?_) (fun hb17=>?_)
      ·replace h:=condT hb17 h
       refine X.fl H0s ?_
       refine X.gy (X.ld shp3 ?_)
       refine X.gy (X.bi ?_)
       refine X.gy (X.pT ?_)
       refine X.pF ?_
       refine X.mv ?_
       refine X.iG (fun hb18=>?_) (fun hb18=>?_)
       ·replace h:=condF hb18 h
        refine X.mv ?_
        refine X.gy (X.bi ?_)
        refine X.gy (X.mv ?_)
        refine X.iG (fun hb19=>?_) (fun hb19=>?_)
        ·replace h:=condT hb19 h
         refine X.fl H0s ?_
         refine X.gy (X.ld shp3 ?_)
         refine X.gy (X.mv ?_)
         refine X.gy (X.mv ?_)
         refine X.gy (X.sub (by rfl) (by rfl) (by omega) (by rfl) ?_)
         refine X.gy ?_
         obtain ⟨v20,hv20,h⟩:=bindE h
         refine X.ix elt62 (A0d hv20).1 (A0e C0p hv20) ?_
         refine X.gy (X.fieldAddr_c H0s (by rfl) (by rfl) ?_)
         refine X.gy (X.lc shp3 ?_)
         refine X.gy (X.bi ?_)
         refine X.gy (X.pT ?_)
         refine X.pF ?_
         cases h
         exact X.eG
        replace h:=condF hb19 h
        refine X.gn (X.gn (X.gn (X.gn (X.gn (X.gn (X.gn (X.gn ?_)))))))
        refine X.gy (X.pF ?_)
        refine X.pF ?_
        cases h
        exact X.eG
       replace h:=condT hb18 h
       refine X.gn (X.gn (X.gU (h:=?_)))
       refine X.gU (h:=?_)
       refine X.gU (h:=?_)
       refine X.gU (h:=?_)
       refine X.gU (h:=?_)
       refine X.gU (h:=?_)
       refine X.gU (h:=?_)
       refine X.gU (h:=?_)
       refine X.gU (h:=?_)
       refine X.gn (X.pT ?_)
       cases h
       exact X.eG
      replace h:=condF hb17 h
      refine X.gn (X.gn (X.gy (X.pF ?_)))
      refine X.pF ?_
      refine X.mv ?_
      refine X.gy (X.mv ?_)
      refine X.gy (X.bi ?_)
      refine X.gy (X.mv ?_)
      refine X.iG (fun hb21=>?_) (fun hb21=>?_)
      ·replace h:=condT hb21 h
       refine X.fl H0s ?_
       refine X.gy (X.ld shp3 ?_)
       refine X.gy (X.mv ?_)
       refine X.gy (X.mv ?_)
       refine X.gy (X.sub (by rfl) (by rfl) (by omega) (by rfl) ?_)
       refine X.gy ?_
       obtain ⟨v22,hv22,h⟩:=bindE h
       refine X.ix elt62 (A0d hv22).1 (A0e C0p hv22) ?_
       refine X.gy (X.fieldAddr_c H0s (by rfl) (by rfl) ?_)
       refine X.gy (X.lc shp3 ?_)
       refine X.gy (X.bi ?_)
       refine X.gy (X.pT ?_)
       refine X.pF ?_
       cases h
       exact X.eG
      replace h:=condF hb21 h
      refine X.gn (X.gn (X.gn (X.gn (X.gn (X.gn (X.gn (X.gn ?_)))))))
      refine X.gy (X.pF ?_)
      refine X.pF ?_
      cases h
      exact X.eG
     replace h:=condT hb16 h
     refine X.gn (X.gn (X.gU (h:=?_)))
     refine X.gU (h:=?_)
     refine X.gU (h:=?_)
     refine X.gn (X.pT ?_)
     refine X.mv ?_
     refine X.gn (X.gn (X.gn (X.gU (h:=?_))))
     refine X.gU (h:=?_)
     refine X.gU (h:=?_)
     refine X.gU (h:=?_)
     refine X.gU (h:=?_)
     refine X.gU (h:=?_)
     refine X.gU (h:=?_)
     refine X.gU (h:=?_)
     refine X.gU (h:=?_)
     refine X.gn (X.pT ?_)
     cases h
     exact X.eG
    replace h:=condT hb14 h
    refine X.gn (X.gn (X.gn (X.pT ?_)))
    refine X.mv ?_
    refine X.gn (X.gn (X.gn (X.gU (h:=?_))))
    refine X.gU (h:=?_)
    refine X.gU (h:=?_)
    refine X.gn (X.pT ?_)
    refine X.mv ?_
    refine X.gn (X.gn (X.gn (X.gU (h:=?_))))
    refine X.gU (h:=?_)
    refine X.gU (h:=?_)
    refine X.gU (h:=?_)
    refine X.gU (h:=?_)
    refine X.gU (h:=?_)
    refine X.gU (h:=?_)
    refine X.gU (h:=?_)
    refine X.gU (h:=?_)
    refine X.gn (X.pT ?_)
    cases h
    exact X.eG
   replace h:=h2;clear h2
   refine R.cd (fun hc23=>?_) (fun hc23=>?_)
   ·replace h:=condT hc23 h
    refine Run.sr (X.an ?_)
    cases h
    have h:=hup2
    replace h:=elimR h
    cases h
    refine R.f1 Tryz.results54 ?_
    rfl
   replace h:=condF hc23 h
   refine Run.skip (Run.blk (Run.reg (X.ad ?_)))
   refine X.mn ?_
   exact R.ag hag7 (n7 - 1) (z8+1) (R.n3 (by first | (rw [hds7];exact h) | (dsimp only;rw [hds7];exact h)))
  rw [A0w hza7 hc11] at h
  rw [E0c] at h
  refine Run.exit (by rfl) ?_
  exact R.mt hmeet3 () (Option.some.inj h)
 rintro p24 rfl
 replace h:=elimL h
 refine Run.sr (X.mv ?_)
 refine X.ls elt62 ?_
 obtain ⟨v26,hv26,h⟩:=bindE h
 refine X.cp (B0m _ _ _ _ hv26) ?_
 refine X.an ?_
 cases h
 refine R.f1 Tryz.results54 ?_
 rfl
theorem W0h (b0:B0u)(r:Bool)(h:K0m b0=some r):PC Tryz.prog 89 [A0c b0] (bool r):=by
 unfold K0m at h
 refine PC.start Tryz.func89 Tryz.ntmps89 rfl (by kernel_rfl) rfl ?_
 refine Run.sr (X.bx ?_)
 refine X.an ?_
 refine Run.seq (Run.sr (X.fl N0u ?_))
 refine X.ld shp30 ?_
 refine X.ls elt30 ?_
 refine X.mn ?_
 obtain ⟨o1,ho1,h⟩:=bindE h
 refine R.join2 (β:=Unit) [(1,.lptr 64 0)] [(64,.blk true [.slice (b0.Steps.map C0p),.slice (b0.Setup.map l_int)])] (fun p28 S=>S) (fun p28 M=>M) (fun p28=>(Sum.inl p28)=o1) ?_ ?_
 ·intro JJ4 hmeet3
  have hup2:=h;clear h;have h:=ho1;clear ho1
  refine Run.block ?_
  refine R.bndS (t:=8) (by rfl) (fun hbd7=>?_)
  replace hbd7:b0.Setup.length≤9223372036854775807:=by first | (rw [List.length_map] at hbd7;exact hbd7) | simp
  refine R.lp (β:=Int) [(1,.lptr 64 0),(8,.slice (b0.Setup.map l_int)),(9,int (b0.Setup.length:Int))] [(64,.blk true [.slice (b0.Steps.map C0p),.slice (b0.Setup.map l_int)])] (fun bb S=>(10,int bb)::S) (fun bb M=>M) (fun n bb=>0≤bb∧bb+n=(b0.Setup.length:Int)∧E0r (b0.Setup.drop bb.toNat) bb=some o1) b0.Setup.length (0:Int) ⟨Int.le_refl _,by simp,h⟩ ?_
  clear h
  rintro JJ7 n7 z8 hag7 ⟨hza7,hzb7,h⟩
  refine Run.sr (X.bi ?_)
  refine X.nil (Run.seq ?_)
  refine R.cd (fun hc11=>?_) (fun hc11=>?_)
  ·obtain ⟨x9,xs10,hd7,hx7,hds7,hlt7⟩:=B0c hza7 hc11
   rw [hd7] at h
   rw [E0r] at h
   refine Run.skip (Run.seq (Run.block (Run.sr (X.ix elt30 (A0d hx7).1 (A0e l_int hx7) ?_))))
   refine X.lc shp26 ?_
   refine X.an ?_
   refine Run.seq (Run.sr (X.mv ?_))
   refine X.ls elt26 ?_
   refine X.bi ?_
   refine X.nil ?_
   refine R.cd (fun hc12=>?_) (fun hc12=>?_)
   ·replace h:=condT hc12 h
    refine Run.sr (X.an ?_)
    cases h
    have h:=hup2
    replace h:=elimR h
    cases h
    refine R.f1 Tryz.results89 ?_
    rfl
   replace h:=condF hc12 h
   refine Run.skip (Run.sr (X.mv ?_))
   refine X.ls elt26 ?_
   refine X.mn ?_
   obtain ⟨o13,ho13,h⟩:=bindE h
   refine R.join2 (β:=Unit) [(1,.lptr 64 0),(8,.slice (b0.Setup.map l_int)),(9,int (b0.Setup.length:Int)),(10,int z8)] [(64,.blk true [.slice (b0.Steps.map C0p),.slice (b0.Setup.map l_int)])] (fun p26 S=>S) (fun p26 M=>M) (fun p26=>(Sum.inl p26)=o13) ?_ ?_
   ·intro JJ16 hmeet15
    have hup14:=h;clear h;have h:=ho13;clear ho13
    refine Run.block ?_
    refine R.bndS (t:=4) (by rfl) (fun hbd19=>?_)
    replace hbd19:x9.length≤9223372036854775807:=by first | (rw [List.length_map] at hbd19;exact hbd19) | simp
    refine R.lp (β:=Int) [(1,.lptr 64 0),(8,.slice (b0.Setup.map l_int)),(9,int (b0.Setup.length:Int)),(10,int z8),(17,.slice (x9.map int)),(18,int (x9.length:Int))] [(64,.blk true [.slice (b0.Steps.map C0p),.slice (b0.Setup.map l_int)])] (fun bb S=>(19,int bb)::S) (fun bb M=>M) (fun n bb=>0≤bb∧bb+n=(x9.length:Int)∧E0u (x9.drop bb.toNat) bb=some o13) x9.length (0:Int) ⟨Int.le_refl _,by simp,h⟩ ?_
    clear h
    rintro JJ19 n19 z20 hag19 ⟨hza19,hzb19,h⟩
    refine Run.sr (X.bi ?_)
    refine X.nil (Run.seq ?_)
    refine R.cd (fun hc23=>?_) (fun hc23=>?_)
    ·obtain ⟨x21,xs22,hd19,hx19,hds19,hlt19⟩:=B0c hza19 hc23
     rw [hd19] at h
     rw [E0u] at h
     refine Run.skip (Run.seq (Run.block (Run.sr (X.ix elt26 (A0d hx19).1 (A0e int hx19) ?_))))
     refine X.lc shp3 ?_
     refine X.an ?_
     refine Run.sr (X.mv ?_)
     obtain ⟨v24,hv24,h⟩:=bindE h
     refine X.cp (B0m _ _ _ _ hv24) ?_
     refine X.un (h:=?_)
     refine X.nil ?_
     refine R.cd (fun hc25=>?_) (fun hc25=>?_)
     ·replace h:=condT hc25 h
      refine Run.sr (X.an ?_)
      cases h
      have h:=hup14
      replace h:=elimR h
      cases h
      have h:=hup2
      replace h:=elimR h
      cases h
      refine R.f1 Tryz.results89 ?_
      rfl
     replace h:=condF hc25 h
     refine Run.skip (Run.blk (Run.reg (X.ad ?_)))
     refine X.mn ?_
     exact R.ag hag19 (n19 - 1) (z20+1) (R.n3 (by first | (rw [hds19];exact h) | (dsimp only;rw [hds19];exact h)))
    rw [A0w hza19 hc23] at h
    rw [E0u] at h
    refine Run.exit (by rfl) ?_
    exact R.mt hmeet15 () (Option.some.inj h)
   rintro p26 rfl
   replace h:=elimL h
   refine Run.blk (Run.reg (X.ad ?_))
   refine X.mn ?_
   exact R.ag hag7 (n7 - 1) (z8+1) (R.n3 (by first | (rw [hds7];exact h) | (dsimp only;rw [hds7];exact h)))
  rw [A0w hza7 hc11] at h
  rw [E0r] at h
  refine Run.exit (by rfl) ?_
  exact R.mt hmeet3 () (Option.some.inj h)
 rintro p28 rfl
 replace h:=elimL h
 refine Run.seq ?_
 obtain ⟨v30,hv30,h⟩:=bindE h
 obtain ⟨e31,he31,h2⟩:=bindE h
 refine R.regG [(2,bool e31)] [] ?_ ?_
 ·clear h;have h:=he31;clear he31 h2
  refine X.fl N0g ?_
  refine X.ld shp62 ?_
  refine X.cp (T0u _ _ hv30) ?_
  refine X.mv ?_
  refine X.iG (fun hb32=>?_) (fun hb32=>?_)
  ·replace h:=condT hb32 h
   refine X.fl N0u ?_
   refine X.gy (X.ld shp30 ?_)
   refine X.gy (X.ls elt30 ?_)
   refine X.gy (X.bi ?_)
   refine X.gy (X.mv ?_)
   refine X.iG (fun hb33=>?_) (fun hb33=>?_)
   ·replace h:=condF hb33 h
    refine X.fl N0u ?_
    refine X.gy (X.ld shp30 ?_)
    refine X.gy (X.ls elt30 ?_)
    refine X.gy (X.bi ?_)
    refine X.gy (X.pF ?_)
    refine X.pT ?_
    refine X.as ?_
    cases h
    exact X.eG
   replace h:=condT hb33 h
   refine X.gn (X.gn (X.gn (X.gy (X.pT ?_))))
   refine X.pT ?_
   refine X.as ?_
   cases h
   exact X.eG
  replace h:=condF hb32 h
  refine X.gn (X.gn (X.gn (X.gn (X.gU (h:=?_)))))
  refine X.gU (h:=?_)
  refine X.gU (h:=?_)
  refine X.gU (h:=?_)
  refine X.gn (X.pF ?_)
  refine X.as ?_
  cases h
  exact X.eG
 replace h:=h2;clear h2
 cases h
 refine R.f1 Tryz.results89 ?_
 rfl
theorem A0z (b0:A0a)(b1:Int)(r:Bool)(h:A0q b0 b1=some r):PC Tryz.prog 39 [A0u b0,int b1] (bool r):=by
 unfold A0q at h
 refine PC.start Tryz.func39 Tryz.ntmps39 rfl (by kernel_rfl) rfl ?_
 refine Run.sr (X.bx ?_)
 refine X.an ?_
 refine Run.sr (X.mv ?_)
 refine X.fl B0z ?_
 refine X.ld shp23 ?_
 refine X.ls elt23 ?_
 refine X.subW (h:=?_)
 obtain ⟨v1,hv1,h⟩:=bindE h
 refine X.cp (B0m _ _ _ _ hv1) ?_
 refine X.an ?_
 cases h
 refine R.f1 Tryz.results39 ?_
 rfl
theorem R0n (b0:A0a)(b1:TLink)(r:Bool)(h:H0r b0 b1=some r):PC Tryz.prog 92 [A0u b0,A0o b1] (bool r):=by
 unfold H0r at h
 refine PC.start Tryz.func92 Tryz.ntmps92 rfl (by kernel_rfl) rfl ?_
 refine Run.sr (X.bx ?_)
 refine X.bx ?_
 refine X.an ?_
 refine Run.seq ?_
 obtain ⟨v1,hv1,h⟩:=bindE h
 obtain ⟨e2,he2,h2⟩:=bindE h
 refine R.regG [(4,bool e2)] [] ?_ ?_
 ·clear h;have h:=he2;clear he2 h2
  refine X.ld shp28 ?_
  refine X.fl N0r ?_
  refine X.ld shp3 ?_
  refine X.cp (A0z _ _ _ hv1) ?_
  refine X.mv ?_
  refine X.iG (fun hb3=>?_) (fun hb3=>?_)
  ·replace h:=condT hb3 h
   refine X.ld shp28 ?_
   refine X.gy (X.fl Q0i ?_)
   refine X.gy (X.ld shp3 ?_)
   refine X.gy ?_
   obtain ⟨v4,hv4,h⟩:=bindE h
   refine X.cp (A0z _ _ _ hv4) ?_
   refine X.pT ?_
   refine X.mv ?_
   refine X.iG (fun hb5=>?_) (fun hb5=>?_)
   ·replace h:=condT hb5 h
    refine X.fl N0r ?_
    refine X.gy (X.ld shp3 ?_)
    refine X.gy (X.fl Q0i ?_)
    refine X.gy (X.ld shp3 ?_)
    refine X.gy (X.bi ?_)
    refine X.pT ?_
    refine X.mv ?_
    refine X.iG (fun hb6=>?_) (fun hb6=>?_)
    ·replace h:=condT hb6 h
     refine X.fl X0r ?_
     refine X.gy (X.ld shp3 ?_)
     refine X.gy ?_
     obtain ⟨v7,hv7,h⟩:=bindE h
     refine X.cp (B0m _ _ _ _ hv7) ?_
     refine X.pT ?_
     refine X.as ?_
     cases h
     exact X.eG
    replace h:=condF hb6 h
    refine X.gn (X.gn (X.pF ?_))
    refine X.as ?_
    cases h
    exact X.eG
   replace h:=condF hb5 h
   refine X.gn (X.gn (X.gn (X.gn (X.pF ?_))))
   refine X.mv ?_
   refine X.gn (X.gn (X.gn (X.pF ?_)))
   refine X.as ?_
   cases h
   exact X.eG
  replace h:=condF hb3 h
  refine X.gn (X.gn (X.gn (X.pF ?_)))
  refine X.mv ?_
  refine X.gn (X.gn (X.gn (X.gn (X.gn (X.pF ?_)))))
  refine X.mv ?_
  refine X.gn (X.gn (X.gn (X.pF ?_)))
  refine X.as ?_
  cases h
  exact X.eG
 replace h:=h2;clear h2
 cases h
 refine R.f1 Tryz.results92 ?_
 rfl
theorem T0f (b0:TLink)(c1:A0a)(r:Bool)(h:B0n b0 c1=some r):PC Tryz.prog 91 [A0o b0,.cptr (A0u c1:PV).cells 0] (bool r):=by
 unfold B0n at h
 refine PC.start Tryz.func91 Tryz.ntmps91 rfl (by kernel_rfl) rfl ?_
 refine Run.sr (X.bx ?_)
 refine X.an ?_
 refine Run.sr (X.lc shp28 ?_)
 refine X.ld T0p ?_
 obtain ⟨v1,hv1,h⟩:=bindE h
 refine X.cp (R0n _ _ _ hv1) ?_
 refine X.un (h:=?_)
 refine X.an ?_
 cases h
 refine R.f1 Tryz.results91 ?_
 rfl
theorem M0s (b0:List TLink)(g1:TLink→Option Bool)(g1id:Nat)(g1c:List PV)(hg1:∀(x0:TLink) v,g1 x0=some v→PC Tryz.prog g1id ([A0o x0] ++ g1c) (bool v))(r:Int)(h:D0z b0 g1=some r):PC Tryz.prog 113 [.slice (b0.map A0o),.fn g1id g1c] (int r):=by
 unfold D0z at h
 refine PC.start Tryz.func113 Tryz.ntmps113 rfl (by kernel_rfl) rfl ?_
 refine Run.sr (X.an ?_)
 refine Run.seq (Run.sr (X.mv ?_))
 refine X.ls elt24 ?_
 refine X.mn ?_
 obtain ⟨o1,ho1,h⟩:=bindE h
 refine R.join2 (β:=Unit) [] [] (fun p14 S=>S) (fun p14 M=>M) (fun p14=>(Sum.inl p14)=o1) ?_ ?_
 ·intro JJ4 hmeet3
  have hup2:=h;clear h;have h:=ho1;clear ho1
  refine Run.block ?_
  refine R.bndS (t:=0) (by rfl) (fun hbd7=>?_)
  replace hbd7:b0.length≤9223372036854775807:=by first | (rw [List.length_map] at hbd7;exact hbd7) | simp
  refine R.lp (β:=Int) [(0,.slice (b0.map A0o)),(1,.fn g1id g1c),(7,int (b0.length:Int))] [] (fun bb S=>(8,int bb)::S) (fun bb M=>M) (fun n bb=>0≤bb∧bb+n=(b0.length:Int)∧B0i g1 (b0.drop bb.toNat) bb=some o1) b0.length (0:Int) ⟨Int.le_refl _,by simp,h⟩ ?_
  clear h
  rintro JJ7 n7 z8 hag7 ⟨hza7,hzb7,h⟩
  refine Run.sr (X.bi ?_)
  refine X.nil (Run.seq ?_)
  refine R.cd (fun hc11=>?_) (fun hc11=>?_)
  ·obtain ⟨x9,xs10,hd7,hx7,hds7,hlt7⟩:=B0c hza7 hc11
   rw [hd7] at h
   rw [B0i] at h
   refine Run.skip (Run.seq (Run.block (Run.sr (X.mv ?_))))
   refine X.an ?_
   refine Run.sr (X.mv ?_)
   refine X.mv ?_
   refine X.mv ?_
   refine X.ix elt24 (A0d hx7).1 (A0e A0o hx7) ?_
   refine X.lc T0p ?_
   obtain ⟨v12,hv12,h⟩:=bindE h
   refine X.cp (hg1 _ _ hv12) ?_
   refine X.nil ?_
   refine R.cd (fun hc13=>?_) (fun hc13=>?_)
   ·replace h:=condT hc13 h
    refine Run.sr (X.mv ?_)
    refine X.an ?_
    cases h
    have h:=hup2
    replace h:=elimR h
    cases h
    refine R.f1 Tryz.results113 ?_
    rfl
   replace h:=condF hc13 h
   refine Run.skip (Run.blk (Run.reg (X.ad ?_)))
   refine X.mn ?_
   exact R.ag hag7 (n7 - 1) (z8+1) (R.n3 (by first | (rw [hds7];exact h) | (dsimp only;rw [hds7];exact h)))
  rw [A0w hza7 hc11] at h
  rw [B0i] at h
  refine Run.exit (by rfl) ?_
  exact R.mt hmeet3 () (Option.some.inj h)
 rintro p14 rfl
 replace h:=elimL h
 refine Run.sr (X.an ?_)
 cases h
 refine R.f1 Tryz.results113 ?_
 rfl
theorem L0u (b0:List TLink)(g1:TLink→Option Bool)(g1id:Nat)(g1c:List PV)(hg1:∀(x0:TLink) v,g1 x0=some v→PC Tryz.prog g1id ([A0o x0] ++ g1c) (bool v))(r:Bool)(h:C0a b0 g1=some r):PC Tryz.prog 90 [.slice (b0.map A0o),.fn g1id g1c] (bool r):=by
 unfold C0a at h
 refine PC.start Tryz.func90 Tryz.ntmps90 rfl (by kernel_rfl) rfl ?_
 refine Run.sr (X.an ?_)
 refine Run.sr (X.mv ?_)
 refine X.mv ?_
 obtain ⟨v1,hv1,h⟩:=bindE h
 refine X.cp (M0s _ g1 _ _ hg1 _ hv1) ?_
 refine X.bi ?_
 refine X.an ?_
 cases h
 refine R.f1 Tryz.results90 ?_
 rfl
theorem H0p (b0:A0a)(r:Bool)(h:G0q b0=some r):PC Tryz.prog 53 [A0u b0] (bool r):=by
 unfold G0q at h
 refine PC.start Tryz.func53 Tryz.ntmps53 rfl (by kernel_rfl) rfl ?_
 refine Run.sr (X.bx ?_)
 refine X.an ?_
 refine Run.seq (Run.seq ?_)
 obtain ⟨v1,hv1,h⟩:=bindE h
 obtain ⟨e2,he2,h2⟩:=bindE h
 refine R.regG [(1,.lptr 64 0),(37,bool e2)] [(64,.blk true [int b0.Deadline,.slice (b0.Activities.map A0b),.slice (b0.Links.map A0o),.slice (b0.Resources.map A0c),.slice (b0.Stocks.map int)])] ?_ ?_
 ·clear h;have h:=he2;clear he2 h2
  refine X.fl V0r ?_
  refine X.ld shp3 ?_
  refine X.cp (B0m _ _ _ _ hv1) ?_
  refine X.un (h:=?_)
  refine X.mv ?_
  refine X.iG (fun hb3=>?_) (fun hb3=>?_)
  ·replace h:=condF hb3 h
   refine X.fl B0z ?_
   refine X.gy (X.ld shp23 ?_)
   refine X.gy (X.ls elt23 ?_)
   refine X.gy ?_
   obtain ⟨v4,hv4,h⟩:=bindE h
   refine X.cp (B0m _ _ _ _ hv4) ?_
   refine X.gy (X.un (h:=?_))
   refine X.pF ?_
   refine X.mv ?_
   refine X.iG (fun hb5=>?_) (fun hb5=>?_)
   ·replace h:=condF hb5 h
    refine X.fl G0s ?_
    refine X.gy (X.ld shp25 ?_)
    refine X.gy (X.ls elt25 ?_)
    refine X.gy (X.bi ?_)
    refine X.pF ?_
    refine X.mv ?_
    refine X.iG (fun hb6=>?_) (fun hb6=>?_)
    ·replace h:=condF hb6 h
     refine X.fl M0q ?_
     refine X.gy (X.ld shp26 ?_)
     refine X.gy (X.ls elt26 ?_)
     refine X.gy (X.bi ?_)
     refine X.pF ?_
     refine X.mv ?_
     refine X.iG (fun hb7=>?_) (fun hb7=>?_)
     ·replace h:=condF hb7 h
      refine X.fl P0n ?_
      refine X.gy (X.ld shp24 ?_)
      refine X.gy (X.ls elt24 ?_)
      refine X.gy (X.bi ?_)
      refine X.pF ?_
      cases h
      exact X.eG
     replace h:=condT hb7 h
     refine X.gn (X.gn (X.gn (X.pT ?_)))
     cases h
     exact X.eG
    replace h:=condT hb6 h
    refine X.gn (X.gn (X.gn (X.pT ?_)))
    refine X.mv ?_
    refine X.gn (X.gn (X.gn (X.gn (X.pT ?_))))
    cases h
    exact X.eG
   replace h:=condT hb5 h
   refine X.gn (X.gn (X.gn (X.pT ?_)))
   refine X.mv ?_
   refine X.gn (X.gn (X.gn (X.gn (X.pT ?_))))
   refine X.mv ?_
   refine X.gn (X.gn (X.gn (X.gn (X.pT ?_))))
   cases h
   exact X.eG
  replace h:=condT hb3 h
  refine X.gn (X.gn (X.gn (X.gn (X.pT ?_))))
  refine X.mv ?_
  refine X.gn (X.gn (X.gn (X.gn (X.pT ?_))))
  refine X.mv ?_
  refine X.gn (X.gn (X.gn (X.gn (X.pT ?_))))
  refine X.mv ?_
  refine X.gn (X.gn (X.gn (X.gn (X.pT ?_))))
  cases h
  exact X.eG
 replace h:=h2;clear h2
 refine R.cd (fun hc8=>?_) (fun hc8=>?_)
 ·replace h:=condT hc8 h
  refine Run.sr (X.an ?_)
  cases h
  refine R.f1 Tryz.results53 ?_
  rfl
 replace h:=condF hc8 h
 refine Run.skip (Run.seq (Run.sr (X.fl B0z ?_)))
 refine X.ld shp23 ?_
 refine X.ls elt23 ?_
 refine X.mn ?_
 obtain ⟨o9,ho9,h⟩:=bindE h
 refine R.join2 (β:=Unit) [(1,.lptr 64 0)] [(64,.blk true [int b0.Deadline,.slice (b0.Activities.map A0b),.slice (b0.Links.map A0o),.slice (b0.Resources.map A0c),.slice (b0.Stocks.map int)])] (fun p25 S=>S) (fun p25 M=>M) (fun p25=>(Sum.inl p25)=o9) ?_ ?_
 ·intro JJ12 hmeet11
  have hup10:=h;clear h;have h:=ho9;clear ho9
  refine Run.block ?_
  refine R.bndS (t:=39) (by rfl) (fun hbd15=>?_)
  replace hbd15:b0.Activities.length≤9223372036854775807:=by first | (rw [List.length_map] at hbd15;exact hbd15) | simp
  refine R.lp (β:=Int) [(1,.lptr 64 0),(39,.slice (b0.Activities.map A0b)),(40,int (b0.Activities.length:Int))] [(64,.blk true [int b0.Deadline,.slice (b0.Activities.map A0b),.slice (b0.Links.map A0o),.slice (b0.Resources.map A0c),.slice (b0.Stocks.map int)])] (fun bb S=>(41,int bb)::S) (fun bb M=>M) (fun n bb=>0≤bb∧bb+n=(b0.Activities.length:Int)∧F0v b0 (b0.Activities.drop bb.toNat) bb=some o9) b0.Activities.length (0:Int) ⟨Int.le_refl _,by simp,h⟩ ?_
  clear h
  rintro JJ15 n15 z16 hag15 ⟨hza15,hzb15,h⟩
  refine Run.sr (X.bi ?_)
  refine X.nil (Run.seq ?_)
  refine R.cd (fun hc19=>?_) (fun hc19=>?_)
  ·obtain ⟨x17,xs18,hd15,hx15,hds15,hlt15⟩:=B0c hza15 hc19
   rw [hd15] at h
   rw [F0v] at h
   refine Run.skip (Run.seq (Run.block (Run.sr (X.mv ?_))))
   refine X.ix elt23 (A0d hx15).1 (A0e A0b hx15) ?_
   refine X.lc shp50 ?_
   refine X.alloc zer50 (h:=?_)
   refine X.as ?_
   refine X.sl shp50 ?_
   refine X.nil (Run.seq ?_)
   obtain ⟨v20,hv20,h⟩:=bindE h
   obtain ⟨e21,he21,h2⟩:=bindE h
   refine R.regG [(1,.lptr 64 0),(39,.slice (b0.Activities.map A0b)),(40,int (b0.Activities.length:Int)),(41,int z16),(62,bool e21)] [(64,.blk true [int b0.Deadline,.slice (b0.Activities.map A0b),.slice (b0.Links.map A0o),.slice (b0.Resources.map A0c),.slice (b0.Stocks.map int)])] ?_ ?_
   ·clear h;have h:=he21;clear he21 h2
    refine X.ld shp50 ?_
    refine X.fl G0s ?_
    refine X.ld shp25 ?_
    refine X.ls elt25 ?_
    refine X.fl M0q ?_
    refine X.ld shp26 ?_
    refine X.ls elt26 ?_
    refine X.cp (U0x _ _ _ _ hv20) ?_
    refine X.un (h:=?_)
    refine X.mv ?_
    refine X.iG (fun hb22=>?_) (fun hb22=>?_)
    ·replace h:=condF hb22 h
     refine X.ld shp28 ?_
     refine X.gy (X.fl T0h ?_)
     refine X.gy (X.ld shp9 ?_)
     refine X.gy ?_
     obtain ⟨v23,hv23,h⟩:=bindE h
     refine X.cp (R0u _ _ _ hv23) ?_
     refine X.gy (X.mv ?_)
     refine X.gy (X.bi ?_)
     refine X.pF ?_
     cases h
     exact X.eG
    replace h:=condT hb22 h
    refine X.gn (X.gn (X.gn (X.gn (X.gn (X.pT ?_)))))
    cases h
    exact X.eG
   replace h:=h2;clear h2
   refine R.cd (fun hc24=>?_) (fun hc24=>?_)
   ·replace h:=condT hc24 h
    refine Run.sr (X.an ?_)
    cases h
    have h:=hup10
    replace h:=elimR h
    cases h
    refine R.f1 Tryz.results53 ?_
    rfl
   replace h:=condF hc24 h
   refine Run.skip (Run.blk (Run.reg (X.ad ?_)))
   refine X.mn ?_
   exact R.ag hag15 (n15 - 1) (z16+1) (R.n3 (by first | (rw [hds15];exact h) | (dsimp only;rw [hds15];exact h)))
  rw [A0w hza15 hc19] at h
  rw [F0v] at h
  refine Run.exit (by rfl) ?_
  exact R.mt hmeet11 () (Option.some.inj h)
 rintro p25 rfl
 replace h:=elimL h
 refine Run.seq (Run.sr (X.fl G0s ?_))
 refine X.ld shp25 ?_
 refine X.ls elt25 ?_
 refine X.mn ?_
 obtain ⟨o27,ho27,h⟩:=bindE h
 refine R.join2 (β:=Unit) [(1,.lptr 64 0)] [(64,.blk true [int b0.Deadline,.slice (b0.Activities.map A0b),.slice (b0.Links.map A0o),.slice (b0.Resources.map A0c),.slice (b0.Stocks.map int)])] (fun p40 S=>S) (fun p40 M=>M) (fun p40=>(Sum.inl p40)=o27) ?_ ?_
 ·intro JJ30 hmeet29
  have hup28:=h;clear h;have h:=ho27;clear ho27
  refine Run.block ?_
  refine R.bndS (t:=65) (by rfl) (fun hbd33=>?_)
  replace hbd33:b0.Resources.length≤9223372036854775807:=by first | (rw [List.length_map] at hbd33;exact hbd33) | simp
  refine R.lp (β:=Int) [(1,.lptr 64 0),(65,.slice (b0.Resources.map A0c)),(66,int (b0.Resources.length:Int))] [(64,.blk true [int b0.Deadline,.slice (b0.Activities.map A0b),.slice (b0.Links.map A0o),.slice (b0.Resources.map A0c),.slice (b0.Stocks.map int)])] (fun bb S=>(67,int bb)::S) (fun bb M=>M) (fun n bb=>0≤bb∧bb+n=(b0.Resources.length:Int)∧F0r (b0.Resources.drop bb.toNat) bb=some o27) b0.Resources.length (0:Int) ⟨Int.le_refl _,by simp,h⟩ ?_
  clear h
  rintro JJ33 n33 z34 hag33 ⟨hza33,hzb33,h⟩
  refine Run.sr (X.bi ?_)
  refine X.nil (Run.seq ?_)
  refine R.cd (fun hc37=>?_) (fun hc37=>?_)
  ·obtain ⟨x35,xs36,hd33,hx33,hds33,hlt33⟩:=B0c hza33 hc37
   rw [hd33] at h
   rw [F0r] at h
   refine Run.skip (Run.seq (Run.block (Run.sr (X.ix elt25 (A0d hx33).1 (A0e A0c hx33) ?_))))
   refine X.lc shp64 ?_
   refine X.alloc zer64 (h:=?_)
   refine X.sl shp64 ?_
   refine X.nil (Run.sr (X.ld shp64 ?_))
   obtain ⟨v38,hv38,h⟩:=bindE h
   refine X.cp (W0h _ _ hv38) ?_
   refine X.un (h:=?_)
   refine X.nil ?_
   refine R.cd (fun hc39=>?_) (fun hc39=>?_)
   ·replace h:=condT hc39 h
    refine Run.sr (X.an ?_)
    cases h
    have h:=hup28
    replace h:=elimR h
    cases h
    refine R.f1 Tryz.results53 ?_
    rfl
   replace h:=condF hc39 h
   refine Run.skip (Run.blk (Run.reg (X.ad ?_)))
   refine X.mn ?_
   exact R.ag hag33 (n33 - 1) (z34+1) (R.n3 (by first | (rw [hds33];exact h) | (dsimp only;rw [hds33];exact h)))
  rw [A0w hza33 hc37] at h
  rw [F0r] at h
  refine Run.exit (by rfl) ?_
  exact R.mt hmeet29 () (Option.some.inj h)
 rintro p40 rfl
 replace h:=elimL h
 refine Run.seq (Run.sr (X.fl M0q ?_))
 refine X.ld shp26 ?_
 refine X.ls elt26 ?_
 refine X.mn ?_
 obtain ⟨o42,ho42,h⟩:=bindE h
 refine R.join2 (β:=Unit) [(1,.lptr 64 0)] [(64,.blk true [int b0.Deadline,.slice (b0.Activities.map A0b),.slice (b0.Links.map A0o),.slice (b0.Resources.map A0c),.slice (b0.Stocks.map int)])] (fun p55 S=>S) (fun p55 M=>M) (fun p55=>(Sum.inl p55)=o42) ?_ ?_
 ·intro JJ45 hmeet44
  have hup43:=h;clear h;have h:=ho42;clear ho42
  refine Run.block ?_
  refine R.bndS (t:=76) (by rfl) (fun hbd48=>?_)
  replace hbd48:b0.Stocks.length≤9223372036854775807:=by first | (rw [List.length_map] at hbd48;exact hbd48) | simp
  refine R.lp (β:=Int) [(1,.lptr 64 0),(76,.slice (b0.Stocks.map int)),(77,int (b0.Stocks.length:Int))] [(64,.blk true [int b0.Deadline,.slice (b0.Activities.map A0b),.slice (b0.Links.map A0o),.slice (b0.Resources.map A0c),.slice (b0.Stocks.map int)])] (fun bb S=>(78,int bb)::S) (fun bb M=>M) (fun n bb=>0≤bb∧bb+n=(b0.Stocks.length:Int)∧F0s (b0.Stocks.drop bb.toNat) bb=some o42) b0.Stocks.length (0:Int) ⟨Int.le_refl _,by simp,h⟩ ?_
  clear h
  rintro JJ48 n48 z49 hag48 ⟨hza48,hzb48,h⟩
  refine Run.sr (X.bi ?_)
  refine X.nil (Run.seq ?_)
  refine R.cd (fun hc52=>?_) (fun hc52=>?_)
  ·obtain ⟨x50,xs51,hd48,hx48,hds48,hlt48⟩:=B0c hza48 hc52
   rw [hd48] at h
   rw [F0s] at h
   refine Run.skip (Run.seq (Run.block (Run.sr (X.ix elt26 (A0d hx48).1 (A0e int hx48) ?_))))
   refine X.lc shp3 ?_
   refine X.an ?_
   refine Run.sr (X.mv ?_)
   obtain ⟨v53,hv53,h⟩:=bindE h
   refine X.cp (B0m _ _ _ _ hv53) ?_
   refine X.un (h:=?_)
   refine X.nil ?_
   refine R.cd (fun hc54=>?_) (fun hc54=>?_)
   ·replace h:=condT hc54 h
    refine Run.sr (X.an ?_)
    cases h
    have h:=hup43
    replace h:=elimR h
    cases h
    refine R.f1 Tryz.results53 ?_
    rfl
   replace h:=condF hc54 h
   refine Run.skip (Run.blk (Run.reg (X.ad ?_)))
   refine X.mn ?_
   exact R.ag hag48 (n48 - 1) (z49+1) (R.n3 (by first | (rw [hds48];exact h) | (dsimp only;rw [hds48];exact h)))
  rw [A0w hza48 hc52] at h
  rw [F0s] at h
  refine Run.exit (by rfl) ?_
  exact R.mt hmeet44 () (Option.some.inj h)
 rintro p55 rfl
 replace h:=elimL h
 refine Run.seq ?_
 refine R.pubBlk (n:=64) (by rfl) (by rfl) (by repeat (first | trivial | refine ⟨by first | rfl | simp [setL],?_⟩)) ?_
 refine Run.reg (X.fl P0n ?_)
 refine X.ld shp24 ?_
 refine X.makeFunc (by rfl) (by rfl) (by repeat (first | trivial | refine ⟨by first | rfl | simp [setL],?_⟩)) (by rfl) (by rfl) ?_
 obtain ⟨v57,hv57,h⟩:=bindE h
 refine X.cp (L0u _ (fun x0=>B0n x0 b0) _ _ (fun x0 v hv=>T0f _ _ _ hv) _ hv57) ?_
 refine X.un (h:=?_)
 refine X.an ?_
 cases h
 refine R.f1 Tryz.results53 ?_
 rfl
theorem T0t (b0:Int)(r:Bool)(h:N0b b0=some r):PC Tryz.prog 102 [int b0] (bool r):=by
 unfold N0b at h
 refine PC.start Tryz.func102 Tryz.ntmps102 rfl (by kernel_rfl) rfl ?_
 refine Run.sr (X.an ?_)
 refine Run.sr (X.mv ?_)
 obtain ⟨v1,hv1,h⟩:=bindE h
 refine X.cp (B0m _ _ _ _ hv1) ?_
 refine X.an ?_
 cases h
 refine R.f1 Tryz.results102 ?_
 rfl
theorem B1m (b0:List Int)(r:Bool)(h:V0n b0=some r):PC Tryz.prog 103 [.slice (b0.map int)] (bool r):=by
 unfold V0n at h
 refine PC.start Tryz.func103 Tryz.ntmps103 rfl (by kernel_rfl) rfl ?_
 refine Run.sr (X.an ?_)
 refine Run.seq (Run.sr (X.an ?_))
 obtain ⟨o1,ho1,h⟩:=bindE h
 refine R.join2 (β:=Unit) [] [] (fun p13 S=>S) (fun p13 M=>M) (fun p13=>(Sum.inl p13)=o1) ?_ ?_
 ·intro JJ4 hmeet3
  have hup2:=h;clear h;have h:=ho1;clear ho1
  refine Run.block ?_
  refine R.lp (β:=Int) [(0,.slice (b0.map int))] [] (fun bb S=>(3,int bb)::S) (fun bb M=>M) (fun n bb=>J0j b0 n bb=some o1) F0 1 h ?_
  clear h
  rintro JJ4 n4 a6 hag4 h
  obtain _ | n4:=n4
  ·exact absurd h (by simp [J0j])
  rw [J0j] at h
  refine Run.seq (Run.sr (X.mv ?_))
  refine X.mv ?_
  refine X.ls elt26 ?_
  refine X.bi ?_
  refine X.nil ?_
  refine R.cd (fun hc9=>?_) (fun hc9=>?_)
  ·replace h:=condT hc9 h
   refine Run.skip (Run.seq (Run.block (Run.seq (Run.draw (B0r []) mixed (by kernel_rfl) (by kernel_rfl) ?_))))
   refine X.mv ?_
   refine X.mv ?_
   obtain ⟨v10,hv10,h⟩:=bindE h
   refine X.ix elt26 (A0d hv10).1 (A0e int hv10) ?_
   refine X.lc shp3 ?_
   refine X.mv ?_
   refine X.mv ?_
   refine X.subW (h:=?_)
   obtain ⟨v11,hv11,h⟩:=bindE h
   refine X.ix elt26 (A0d hv11).1 (A0e int hv11) ?_
   refine X.lc shp3 ?_
   refine X.bi ?_
   refine X.nil ?_
   refine R.cd (fun hc12=>?_) (fun hc12=>?_)
   ·replace h:=condT hc12 h
    refine Run.sr (X.an ?_)
    cases h
    have h:=hup2
    replace h:=elimR h
    cases h
    refine R.f1 Tryz.results103 ?_
    rfl
   replace h:=condF hc12 h
   refine Run.skip (Run.blk (Run.reg (X.mv ?_)))
   refine X.addW (h:=?_)
   refine X.an ?_
   exact hag4 n4 (W (a6+1)) _ _ (by omega) h (by trivial) (by trivial) (by rfl) (by rfl)
  replace h:=condF hc9 h
  refine Run.exit (by rfl) ?_
  exact R.mt hmeet3 () (Option.some.inj h)
 rintro p13 rfl
 replace h:=elimL h
 refine Run.sr (X.an ?_)
 cases h
 refine R.f1 Tryz.results103 ?_
 rfl
theorem R0t (b0:Int)(r:List Int)(h:K0d b0=some r):PC Tryz.prog 74 [int b0] (.fresh false 3 1 (r.map int)):=by
 unfold K0d at h
 refine PC.start Tryz.func74 Tryz.ntmps74 rfl (by kernel_rfl) rfl ?_
 refine Run.sr (X.an ?_)
 refine Run.seq (Run.sr (X.mv ?_))
 obtain ⟨v1,hv1,h⟩:=bindE h
 refine X.cp (B0m _ _ _ _ hv1) ?_
 refine X.un (h:=?_)
 refine X.nil ?_
 refine R.cd (fun hc2=>?_) (fun hc2=>?_)
 ·replace h:=condT hc2 h
  refine Run.sr (X.an ?_)
  cases h
  refine R.fin1n (x:=false) (e:=3) (sz:=1) Tryz.results74 (by rfl) (by decide) ?_
  rfl
 replace h:=condF hc2 h
 refine Run.skip (Run.sr ?_)
 refine X.buildSlice false elt26 zer3 (by rfl) (by rfl) (by rfl) (by rfl) (by rfl) (by rfl) (by repeat (first | trivial | refine ⟨by first | rfl | simp [setL],?_⟩)) (A0j (by rfl)) (by rfl) (by rfl) (by rfl) ?_
 refine X.an ?_
 refine Run.seq (Run.sr (X.mv ?_))
 refine X.mn ?_
 obtain ⟨o3,ho3,h⟩:=bindE h
 refine R.join2 (β:=(List Int)) [] [] (fun p15 S=>(3,.own 512 (p15.map int).length)::S) (fun p15 M=>(512,.obj false 3 1 (p15.map int))::M) (fun p15=>p15=o3) ?_ ?_
 ·intro JJ6 hmeet5
  have hup4:=h;clear h;have h:=ho3;clear ho3
  refine Run.block ?_
  refine R.lp (β:=Int×(List Int)) [(9,int b0)] [] (fun bb S=>(3,.own 512 (bb.2.map int).length)::(10,int bb.1)::S) (fun bb M=>(512,.obj false 3 1 (bb.2.map int))::M) (fun n bb=>G0k b0 n bb.1 bb.2=some o3) F0 (0,([]:List Int)) h ?_
  clear h
  rintro JJ7 n7 ⟨a9,a10⟩ hag7 h
  dsimp only at h
  obtain _ | n7:=n7
  ·exact absurd h (by simp [G0k])
  rw [G0k] at h
  refine Run.sr (X.bi ?_)
  refine X.nil (Run.seq ?_)
  refine R.cd (fun hc13=>?_) (fun hc13=>?_)
  ·replace h:=condT hc13 h
   refine Run.skip (Run.seq (Run.block (Run.sr (X.mv ?_))))
   refine X.an ?_
   refine Run.reg (X.mv ?_)
   refine X.mv ?_
   refine X.buildSlice false elt26 zer3 (by rfl) (by rfl) (by rfl) (by rfl) (by rfl) (by rfl) (by repeat (first | trivial | refine ⟨by first | rfl | simp [setL],?_⟩)) (A0j (by rfl)) (by rfl) (by rfl) (by rfl) ?_
   obtain ⟨v14,hv14,h⟩:=bindE h
   refine X.append elt26 zer3 (by rfl) (by rfl) (by first | rfl | simp [setL] | omega) (by rfl) (.own _ _ _ _ _ _ (A0h (by rfl)) (by first | rfl | simp [setL] | omega)) (A0j (by rfl)) (D0n int hv14) (D0o int hv14) (by rfl) (by rfl) (by rfl) (by rfl) ?_
   refine X.an ?_
   refine Run.blk (Run.reg (X.addW (h:=?_)))
   refine X.mn ?_
   exact hag7 n7 ((W (a9+1)),v14) _ _ (by omega) h (by repeat (first | trivial | refine ⟨by first | rfl | simp [setL],?_⟩)) (by repeat (first | trivial | refine ⟨by first | rfl | simp [setL],?_⟩)) (by rfl) (by rfl)
  replace h:=condF hc13 h
  refine Run.exit (by rfl) ?_
  exact R.mt hmeet5 a10 (Option.some.inj h)
 rintro p15 rfl
 refine Run.sr (X.mv ?_)
 refine X.an ?_
 cases h
 refine R.fin1o Tryz.results74 (by rfl) (by rfl) (by first | rfl | simp [setL] | omega) ?_
 rfl
theorem U0d (b0:A0g)(r:List Int)(h:J0p b0=some r):PC Tryz.prog 105 [A0b b0] (.fresh false 3 1 (r.map int)):=by
 unfold J0p at h
 refine PC.start Tryz.func105 Tryz.ntmps105 rfl (by kernel_rfl) rfl ?_
 refine Run.sr (X.bx ?_)
 refine X.an ?_
 refine Run.sr (X.fl H0v ?_)
 refine X.ld shp48 ?_
 refine X.ls elt48 ?_
 obtain ⟨v1,hv1,h⟩:=bindE h
 refine X.callF (R0t _ _ hv1) (by rfl) (by rfl) (by rfl) (by trivial) (by rfl) (by rfl) (by rfl) (by rfl) ?_
 refine X.an ?_
 cases h
 refine R.fin1o Tryz.results105 (by rfl) (by rfl) (by first | rfl | simp [setL] | omega) ?_
 rfl
theorem W0l (b0:List Int)(b1:List Int)(r:Bool)(h:M0h b0 b1=some r):PC Tryz.prog 104 [.slice (b0.map int),.slice (b1.map int)] (bool r):=by
 unfold M0h at h
 refine PC.start Tryz.func104 Tryz.ntmps104 rfl (by kernel_rfl) rfl ?_
 refine Run.sr (X.an ?_)
 refine Run.seq (Run.sr (X.mv ?_))
 refine X.ls elt26 ?_
 refine X.mn ?_
 obtain ⟨o1,ho1,h⟩:=bindE h
 refine R.join2 (β:=Unit) [] [] (fun p14 S=>S) (fun p14 M=>M) (fun p14=>(Sum.inl p14)=o1) ?_ ?_
 ·intro JJ4 hmeet3
  have hup2:=h;clear h;have h:=ho1;clear ho1
  refine Run.block ?_
  refine R.bndS (t:=0) (by rfl) (fun hbd7=>?_)
  replace hbd7:b0.length≤9223372036854775807:=by first | (rw [List.length_map] at hbd7;exact hbd7) | simp
  refine R.lp (β:=Int) [(1,.slice (b1.map int)),(7,.slice (b0.map int)),(8,int (b0.length:Int))] [] (fun bb S=>(9,int bb)::S) (fun bb M=>M) (fun n bb=>0≤bb∧bb+n=(b0.length:Int)∧F0t b1 (b0.drop bb.toNat) bb=some o1) b0.length (0:Int) ⟨Int.le_refl _,by simp,h⟩ ?_
  clear h
  rintro JJ7 n7 z8 hag7 ⟨hza7,hzb7,h⟩
  refine Run.sr (X.bi ?_)
  refine X.nil (Run.seq ?_)
  refine R.cd (fun hc11=>?_) (fun hc11=>?_)
  ·obtain ⟨x9,xs10,hd7,hx7,hds7,hlt7⟩:=B0c hza7 hc11
   rw [hd7] at h
   rw [F0t] at h
   refine Run.skip (Run.seq (Run.block (Run.sr (X.ix elt26 (A0d hx7).1 (A0e int hx7) ?_))))
   refine X.lc shp3 ?_
   refine X.an ?_
   refine Run.sr (X.mv ?_)
   refine X.mv ?_
   obtain ⟨v12,hv12,h⟩:=bindE h
   refine X.cp (N0m _ _ _ hv12) ?_
   refine X.un (h:=?_)
   refine X.nil ?_
   refine R.cd (fun hc13=>?_) (fun hc13=>?_)
   ·replace h:=condT hc13 h
    refine Run.sr (X.an ?_)
    cases h
    have h:=hup2
    replace h:=elimR h
    cases h
    refine R.f1 Tryz.results104 ?_
    rfl
   replace h:=condF hc13 h
   refine Run.skip (Run.blk (Run.reg (X.ad ?_)))
   refine X.mn ?_
   exact R.ag hag7 (n7 - 1) (z8+1) (R.n3 (by first | (rw [hds7];exact h) | (dsimp only;rw [hds7];exact h)))
  rw [A0w hza7 hc11] at h
  rw [F0t] at h
  refine Run.exit (by rfl) ?_
  exact R.mt hmeet3 () (Option.some.inj h)
 rintro p14 rfl
 replace h:=elimL h
 refine Run.sr (X.an ?_)
 cases h
 refine R.f1 Tryz.results104 ?_
 rfl
end Go.Px.YtncedeembfcakaaGreat
