/-
  PROVED: contracts of functions of the program over pure values. No condition beyond those that each theorem names.
-/
import Derived.Test.YthmahbejodhanaaGreatDoorProg
import Derived.Test.YthmahbejodhanaaGreatDoorD2
import Derived.Test.YthmahbejodhanaaGreatDoorS
namespace Go.Px.YthmahbejodhanaaGreatDoor
set_option linter.unusedSimpArgs false
set_option linter.unusedVariables false
open Go.Px Go.Proofs
theorem shp27:shp Tryz.prog 27=some (true,5):=by kernel_rfl
theorem Q1s:C0p Tryz.prog 27 1=some 1:=by kernel_rfl
theorem shp22:shp Tryz.prog 22=some (false,1):=by kernel_rfl
theorem elt22:eltOf Tryz.prog 22=some (58,3,48):=by kernel_rfl
theorem shp58:shp Tryz.prog 58=some (true,3):=by kernel_rfl
theorem P1v:C0p Tryz.prog 58 0=some 0:=by kernel_rfl
theorem shp9:shp Tryz.prog 9=some (false,1):=by kernel_rfl
theorem P1j:C0p Tryz.prog 58 2=some 2:=by kernel_rfl
theorem shp56:shp Tryz.prog 56=some (false,1):=by kernel_rfl
theorem elt56:eltOf Tryz.prog 56=some (139,3,56):=by kernel_rfl
theorem S1a:shp Tryz.prog 139=some (true,3):=by kernel_rfl
theorem M1q:C0p Tryz.prog 139 1=some 1:=by kernel_rfl
theorem shp25:shp Tryz.prog 25=some (false,1):=by kernel_rfl
theorem elt25:eltOf Tryz.prog 25=some (3,1,8):=by kernel_rfl
theorem M1l:C0p Tryz.prog 139 2=some 2:=by kernel_rfl
theorem Q1t:C0p Tryz.prog 27 2=some 2:=by kernel_rfl
theorem shp23:shp Tryz.prog 23=some (false,1):=by kernel_rfl
theorem elt23:eltOf Tryz.prog 23=some (89,4,32):=by kernel_rfl
theorem P1d:C0p Tryz.prog 27 3=some 3:=by kernel_rfl
theorem shp24:shp Tryz.prog 24=some (false,1):=by kernel_rfl
theorem elt24:eltOf Tryz.prog 24=some (63,2,48):=by kernel_rfl
theorem shp63:shp Tryz.prog 63=some (true,2):=by kernel_rfl
theorem Q1i:C0p Tryz.prog 63 0=some 0:=by kernel_rfl
theorem shp60:shp Tryz.prog 60=some (false,1):=by kernel_rfl
theorem elt60:eltOf Tryz.prog 60=some (149,2,16):=by kernel_rfl
theorem Q1m:C0p Tryz.prog 63 1=some 1:=by kernel_rfl
theorem shp61:shp Tryz.prog 61=some (false,1):=by kernel_rfl
theorem elt61:eltOf Tryz.prog 61=some (25,1,24):=by kernel_rfl
theorem P1x:C0p Tryz.prog 27 4=some 4:=by kernel_rfl
theorem zer34:F0b Tryz.prog 34=some [.lit (.int .i64 0),.nils,.nils,.nils,.nils]:=by kernel_rfl
theorem T1b:C0p Tryz.prog 27 0=some 0:=by kernel_rfl
theorem shp3:shp Tryz.prog 3=some (false,1):=by kernel_rfl
theorem W0y:C0p Tryz.prog 34 0=some 0:=by kernel_rfl
theorem elt30:eltOf Tryz.prog 30=some (67,3,48):=by kernel_rfl
theorem zer67:F0b Tryz.prog 67=some [.lit (.string ByteArray.empty),.lit (.int .i64 0),.nils]:=by kernel_rfl
theorem T0r:C0p Tryz.prog 67 0=some 0:=by kernel_rfl
theorem S1x:C0p Tryz.prog 58 1=some 1:=by kernel_rfl
theorem T0u:C0p Tryz.prog 67 1=some 1:=by kernel_rfl
theorem elt65:eltOf Tryz.prog 65=some (111,3,56):=by kernel_rfl
theorem S0x:F0b Tryz.prog 111=some [.lit (.int .i64 0),.nils,.nils]:=by kernel_rfl
theorem R1d:C0p Tryz.prog 139 0=some 0:=by kernel_rfl
theorem N0k:C0p Tryz.prog 111 0=some 0:=by kernel_rfl
theorem zer3:F0b Tryz.prog 3=some [.lit (.int .i64 0)]:=by kernel_rfl
theorem S0d:C0p Tryz.prog 111 1=some 1:=by kernel_rfl
theorem V0q:C0p Tryz.prog 111 2=some 2:=by kernel_rfl
theorem K0p:shp Tryz.prog 111=some (true,3):=by kernel_rfl
theorem Q0e:C0p Tryz.prog 67 2=some 2:=by kernel_rfl
theorem shp65:shp Tryz.prog 65=some (false,1):=by kernel_rfl
theorem shp67:shp Tryz.prog 67=some (true,3):=by kernel_rfl
theorem B0l:C0p Tryz.prog 34 1=some 1:=by kernel_rfl
theorem shp30:shp Tryz.prog 30=some (false,1):=by kernel_rfl
theorem elt31:eltOf Tryz.prog 31=some (75,4,32):=by kernel_rfl
theorem zer75:F0b Tryz.prog 75=some [.lit (.int .i64 0),.lit (.int .i64 0),.lit (.bool false),.lit (.int .i64 0)]:=by kernel_rfl
theorem shp89:shp Tryz.prog 89=some (true,4):=by kernel_rfl
theorem S1q:C0p Tryz.prog 89 0=some 0:=by kernel_rfl
theorem J0y:C0p Tryz.prog 75 0=some 0:=by kernel_rfl
theorem T1a:C0p Tryz.prog 89 1=some 1:=by kernel_rfl
theorem L0o:C0p Tryz.prog 75 1=some 1:=by kernel_rfl
theorem T1c:C0p Tryz.prog 89 2=some 2:=by kernel_rfl
theorem shp4:shp Tryz.prog 4=some (false,1):=by kernel_rfl
theorem C1h:C0p Tryz.prog 75 2=some 2:=by kernel_rfl
theorem S1v:C0p Tryz.prog 89 3=some 3:=by kernel_rfl
theorem T0l:C0p Tryz.prog 75 3=some 3:=by kernel_rfl
theorem shp75:shp Tryz.prog 75=some (true,4):=by kernel_rfl
theorem J0h:C0p Tryz.prog 34 2=some 2:=by kernel_rfl
theorem shp31:shp Tryz.prog 31=some (false,1):=by kernel_rfl
theorem elt32:eltOf Tryz.prog 32=some (72,2,48):=by kernel_rfl
theorem zer72:F0b Tryz.prog 72=some [.nils,.nils]:=by kernel_rfl
theorem elt70:eltOf Tryz.prog 70=some (142,2,16):=by kernel_rfl
theorem D1x:F0b Tryz.prog 142=some [.lit (.int .i64 0),.lit (.int .i64 0)]:=by kernel_rfl
theorem T1q:shp Tryz.prog 149=some (true,2):=by kernel_rfl
theorem R1e:C0p Tryz.prog 149 0=some 0:=by kernel_rfl
theorem J0w:C0p Tryz.prog 142 0=some 0:=by kernel_rfl
theorem R1g:C0p Tryz.prog 149 1=some 1:=by kernel_rfl
theorem T0w:C0p Tryz.prog 142 1=some 1:=by kernel_rfl
theorem S0e:shp Tryz.prog 142=some (true,2):=by kernel_rfl
theorem X0g:C0p Tryz.prog 72 0=some 0:=by kernel_rfl
theorem shp70:shp Tryz.prog 70=some (false,1):=by kernel_rfl
theorem zer25:F0b Tryz.prog 25=some [.nils]:=by kernel_rfl
theorem N0z:C0p Tryz.prog 72 1=some 1:=by kernel_rfl
theorem shp72:shp Tryz.prog 72=some (true,2):=by kernel_rfl
theorem H0o:C0p Tryz.prog 34 3=some 3:=by kernel_rfl
theorem shp32:shp Tryz.prog 32=some (false,1):=by kernel_rfl
theorem T0n:C0p Tryz.prog 34 4=some 4:=by kernel_rfl
theorem shp34:shp Tryz.prog 34=some (true,5):=by kernel_rfl
theorem mixed:Tryz.prog.follows .mixedOrders=true:=by kernel_rfl
theorem elt76:eltOf Tryz.prog 76=some (5,1,1):=by kernel_rfl
theorem zer5:F0b Tryz.prog 5=some [.lit (.int .u8 0)]:=by kernel_rfl
theorem zer85:F0b Tryz.prog 85=some [.nils,.nils,.nils]:=by kernel_rfl
theorem pl85:Z0i Tryz.prog 85=some [(0,1),(1,1),(2,1)]:=by kernel_rfl
theorem shp85:shp Tryz.prog 85=some (true,3):=by kernel_rfl
theorem L0p:C0p Tryz.prog 85 0=some 0:=by kernel_rfl
theorem P0y:C0p Tryz.prog 85 1=some 1:=by kernel_rfl
theorem M0o:C0p Tryz.prog 85 2=some 2:=by kernel_rfl
theorem ok123:okFn Tryz.prog 123=true:=by kernel_rfl
theorem ok150:okFn Tryz.prog 150=true:=by kernel_rfl
theorem ok124:okFn Tryz.prog 124=true:=by kernel_rfl
theorem ok84:okFn Tryz.prog 84=true:=by kernel_rfl
theorem ok85:okFn Tryz.prog 85=true:=by kernel_rfl
theorem ok86:okFn Tryz.prog 86=true:=by kernel_rfl
theorem ok47:okFn Tryz.prog 47=true:=by kernel_rfl
theorem ok18:okFn Tryz.prog 18=true:=by kernel_rfl
theorem ok19:okFn Tryz.prog 19=true:=by kernel_rfl
theorem elt46:eltOf Tryz.prog 46=some (9,1,16):=by kernel_rfl
theorem zer9:F0b Tryz.prog 9=some [.lit (.string ByteArray.empty)]:=by kernel_rfl
theorem ok14:okFn Tryz.prog 14=true:=by kernel_rfl
theorem ok5:okFn Tryz.prog 5=true:=by kernel_rfl
theorem ok52:okFn Tryz.prog 52=true:=by kernel_rfl
theorem ok128:okFn Tryz.prog 128=true:=by kernel_rfl
theorem ok127:okFn Tryz.prog 127=true:=by kernel_rfl
theorem ok90:okFn Tryz.prog 90=true:=by kernel_rfl
theorem ok91:okFn Tryz.prog 91=true:=by kernel_rfl
theorem ok53:okFn Tryz.prog 53=true:=by kernel_rfl
theorem ok93:okFn Tryz.prog 93=true:=by kernel_rfl
theorem ok92:okFn Tryz.prog 92=true:=by kernel_rfl
theorem ok54:okFn Tryz.prog 54=true:=by kernel_rfl
theorem ok104:okFn Tryz.prog 104=true:=by kernel_rfl
theorem ok94:okFn Tryz.prog 94=true:=by kernel_rfl
theorem ok55:okFn Tryz.prog 55=true:=by kernel_rfl
theorem ok96:okFn Tryz.prog 96=true:=by kernel_rfl
theorem ok58:okFn Tryz.prog 58=true:=by kernel_rfl
theorem ok57:okFn Tryz.prog 57=true:=by kernel_rfl
theorem ok95:okFn Tryz.prog 95=true:=by kernel_rfl
theorem ok56:okFn Tryz.prog 56=true:=by kernel_rfl
theorem ok24:okFn Tryz.prog 24=true:=by kernel_rfl
theorem ok103:okFn Tryz.prog 103=true:=by kernel_rfl
theorem ok62:okFn Tryz.prog 62=true:=by kernel_rfl
theorem ok167:okFn Tryz.prog 167=true:=by kernel_rfl
theorem ok153:okFn Tryz.prog 153=true:=by kernel_rfl
theorem ok132:okFn Tryz.prog 132=true:=by kernel_rfl
theorem ok100:okFn Tryz.prog 100=true:=by kernel_rfl
theorem ok98:okFn Tryz.prog 98=true:=by kernel_rfl
theorem ok152:okFn Tryz.prog 152=true:=by kernel_rfl
theorem ok131:okFn Tryz.prog 131=true:=by kernel_rfl
theorem ok166:okFn Tryz.prog 166=true:=by kernel_rfl
theorem ok151:okFn Tryz.prog 151=true:=by kernel_rfl
theorem ok129:okFn Tryz.prog 129=true:=by kernel_rfl
theorem A1t:eltOf Tryz.prog 150=some (151,1,24):=by kernel_rfl
theorem T1t:F0b Tryz.prog 151=some [.nils]:=by kernel_rfl
theorem zer61:F0b Tryz.prog 61=some [.nils]:=by kernel_rfl
theorem T1s:F0b Tryz.prog 150=some [.nils]:=by kernel_rfl
theorem B1c:shp Tryz.prog 150=some (false,1):=by kernel_rfl
theorem D1h:eltOf Tryz.prog 151=some (4,1,1):=by kernel_rfl
theorem zer4:F0b Tryz.prog 4=some [.lit (.bool false)]:=by kernel_rfl
theorem C1k:shp Tryz.prog 151=some (false,1):=by kernel_rfl
theorem ok130:okFn Tryz.prog 130=true:=by kernel_rfl
theorem ok97:okFn Tryz.prog 97=true:=by kernel_rfl
theorem ok59:okFn Tryz.prog 59=true:=by kernel_rfl
theorem ok60:okFn Tryz.prog 60=true:=by kernel_rfl
theorem ok25:okFn Tryz.prog 25=true:=by kernel_rfl
theorem ok102:okFn Tryz.prog 102=true:=by kernel_rfl
theorem ok101:okFn Tryz.prog 101=true:=by kernel_rfl
theorem ok99:okFn Tryz.prog 99=true:=by kernel_rfl
theorem ok61:okFn Tryz.prog 61=true:=by kernel_rfl
theorem ok105:okFn Tryz.prog 105=true:=by kernel_rfl
theorem ok63:okFn Tryz.prog 63=true:=by kernel_rfl
theorem ok26:okFn Tryz.prog 26=true:=by kernel_rfl
theorem ok65:okFn Tryz.prog 65=true:=by kernel_rfl
theorem ok178:okFn Tryz.prog 178=true:=by kernel_rfl
theorem ok179:okFn Tryz.prog 179=true:=by kernel_rfl
theorem ok180:okFn Tryz.prog 180=true:=by kernel_rfl
theorem ok168:okFn Tryz.prog 168=true:=by kernel_rfl
theorem ok186:okFn Tryz.prog 186=true:=by kernel_rfl
theorem ok181:okFn Tryz.prog 181=true:=by kernel_rfl
theorem ok182:okFn Tryz.prog 182=true:=by kernel_rfl
theorem ok169:okFn Tryz.prog 169=true:=by kernel_rfl
theorem ok154:okFn Tryz.prog 154=true:=by kernel_rfl
theorem ok155:okFn Tryz.prog 155=true:=by kernel_rfl
theorem ok140:okFn Tryz.prog 140=true:=by kernel_rfl
theorem ok133:okFn Tryz.prog 133=true:=by kernel_rfl
theorem ok170:okFn Tryz.prog 170=true:=by kernel_rfl
theorem ok156:okFn Tryz.prog 156=true:=by kernel_rfl
theorem ok136:okFn Tryz.prog 136=true:=by kernel_rfl
theorem ok135:okFn Tryz.prog 135=true:=by kernel_rfl
theorem ok134:okFn Tryz.prog 134=true:=by kernel_rfl
theorem ok158:okFn Tryz.prog 158=true:=by kernel_rfl
theorem ok139:okFn Tryz.prog 139=true:=by kernel_rfl
theorem ok138:okFn Tryz.prog 138=true:=by kernel_rfl
theorem ok171:okFn Tryz.prog 171=true:=by kernel_rfl
theorem ok187:okFn Tryz.prog 187=true:=by kernel_rfl
theorem ok183:okFn Tryz.prog 183=true:=by kernel_rfl
theorem ok172:okFn Tryz.prog 172=true:=by kernel_rfl
theorem ok157:okFn Tryz.prog 157=true:=by kernel_rfl
theorem ok137:okFn Tryz.prog 137=true:=by kernel_rfl
theorem ok106:okFn Tryz.prog 106=true:=by kernel_rfl
theorem ok107:okFn Tryz.prog 107=true:=by kernel_rfl
theorem ok108:okFn Tryz.prog 108=true:=by kernel_rfl
theorem ok64:okFn Tryz.prog 64=true:=by kernel_rfl
theorem ok27:okFn Tryz.prog 27=true:=by kernel_rfl
theorem ok28:okFn Tryz.prog 28=true:=by kernel_rfl
theorem ok66:okFn Tryz.prog 66=true:=by kernel_rfl
theorem ok29:okFn Tryz.prog 29=true:=by kernel_rfl
theorem ok30:okFn Tryz.prog 30=true:=by kernel_rfl
theorem ok7:okFn Tryz.prog 7=true:=by kernel_rfl
theorem ok34:okFn Tryz.prog 34=true:=by kernel_rfl
theorem ok144:okFn Tryz.prog 144=true:=by kernel_rfl
theorem ok112:okFn Tryz.prog 112=true:=by kernel_rfl
theorem ok70:okFn Tryz.prog 70=true:=by kernel_rfl
theorem ok31:okFn Tryz.prog 31=true:=by kernel_rfl
theorem ok71:okFn Tryz.prog 71=true:=by kernel_rfl
theorem ok32:okFn Tryz.prog 32=true:=by kernel_rfl
theorem ok145:okFn Tryz.prog 145=true:=by kernel_rfl
theorem ok113:okFn Tryz.prog 113=true:=by kernel_rfl
theorem ok114:okFn Tryz.prog 114=true:=by kernel_rfl
theorem ok72:okFn Tryz.prog 72=true:=by kernel_rfl
theorem ok33:okFn Tryz.prog 33=true:=by kernel_rfl
theorem ok8:okFn Tryz.prog 8=true:=by kernel_rfl
theorem ok3:okFn Tryz.prog 3=true:=by kernel_rfl
theorem T0i (b0:List Int)(b1:Int)(r:Int)(h:S0h b0 b1=some r):PC Tryz.prog 12 [.slice (b0.map int),int b1] (int r):=by
 unfold S0h at h
 refine PC.start Tryz.func12 Tryz.ntmps12 rfl (by kernel_rfl) rfl ?_
 refine Run.sr (X.an ?_)
 refine Run.sr (X.mv ?_)
 refine X.mv ?_
 refine X.ls elt25 ?_
 refine X.subW (h:=?_)
 refine X.an ?_
 refine Run.seq (Run.sr (X.mv ?_))
 refine X.bi ?_
 refine X.nil ?_
 refine R.cd (fun hc1=>?_) (fun hc1=>?_)
 ·replace h:=condT hc1 h
  refine Run.sr (X.an ?_)
  cases h
  refine R.f1 Tryz.results12 ?_
  rfl
 replace h:=condF hc1 h
 refine Run.skip (Run.sr (X.mv ?_))
 refine X.an ?_
 cases h
 refine R.f1 Tryz.results12 ?_
 rfl
theorem K1o (b0:TMode)(b1:Int)(r:Int)(h:V0x b0 b1=some r):PC Tryz.prog 115 [B0f b0,int b1] (int r):=by
 unfold V0x at h
 refine PC.start Tryz.func115 Tryz.ntmps115 rfl (by kernel_rfl) rfl ?_
 refine Run.sr (X.bx ?_)
 refine X.an ?_
 refine Run.sr (X.fl M1q ?_)
 refine X.ld shp25 ?_
 refine X.mv ?_
 obtain ⟨v1,hv1,h⟩:=bindE h
 refine X.cp (T0i _ _ _ hv1) ?_
 refine X.an ?_
 refine Run.seq (Run.sr (X.mv ?_))
 refine X.bi ?_
 refine X.nil ?_
 refine R.cd (fun hc2=>?_) (fun hc2=>?_)
 ·replace h:=condT hc2 h
  refine Run.sr (X.an ?_)
  cases h
  refine R.f1 Tryz.results115 ?_
  rfl
 replace h:=condF hc2 h
 refine Run.skip (Run.sr (X.fl M1l ?_))
 refine X.ld shp25 ?_
 refine X.mv ?_
 obtain ⟨v3,hv3,h⟩:=bindE h
 refine X.cp (T0i _ _ _ hv3) ?_
 refine X.an ?_
 refine Run.seq (Run.sr (X.mv ?_))
 refine X.bi ?_
 refine X.nil ?_
 refine R.cd (fun hc4=>?_) (fun hc4=>?_)
 ·replace h:=condT hc4 h
  refine Run.sr (X.an ?_)
  cases h
  refine R.f1 Tryz.results115 ?_
  rfl
 replace h:=condF hc4 h
 refine Run.skip (Run.sr (X.mv ?_))
 refine X.an ?_
 cases h
 refine R.f1 Tryz.results115 ?_
 rfl
theorem H1r (b0:List TMode)(b1:Int)(r:Int)(h:Y0d b0 b1=some r):PC Tryz.prog 73 [.slice (b0.map B0f),int b1] (int r):=by
 unfold Y0d at h
 refine PC.start Tryz.func73 Tryz.ntmps73 rfl (by kernel_rfl) rfl ?_
 refine Run.sr (X.an ?_)
 refine Run.sr (X.mv ?_)
 refine X.mv ?_
 refine X.ls elt56 ?_
 refine X.subW (h:=?_)
 refine X.an ?_
 refine Run.seq (Run.sr (X.mv ?_))
 refine X.bi ?_
 refine X.nil ?_
 refine R.cd (fun hc1=>?_) (fun hc1=>?_)
 ·replace h:=condT hc1 h
  refine Run.sr (X.an ?_)
  cases h
  refine R.f1 Tryz.results73 ?_
  rfl
 replace h:=condF hc1 h
 refine Run.skip (Run.seq (Run.sr (X.an ?_)))
 obtain ⟨o2,ho2,h⟩:=bindE h
 refine R.join2 (β:=Int) [] [] (fun p16 S=>(1,int p16)::S) (fun p16 M=>M) (fun p16=>(Sum.inl p16)=o2) ?_ ?_
 ·intro JJ5 hmeet4
  have hup3:=h;clear h;have h:=ho2;clear ho2
  refine Run.block ?_
  refine R.bndS (t:=0) (by rfl) (fun hbd8=>?_)
  replace hbd8:b0.length≤9223372036854775807:=by first | (rw [List.length_map] at hbd8;exact hbd8) | simp
  refine R.lp (β:=Int×Int) [(0,.slice (b0.map B0f))] [] (fun bb S=>(1,int bb.2)::(5,int bb.1)::S) (fun bb M=>M) (fun n bb=>0≤bb.1∧bb.1+n=(b0.length:Int)∧M0w (b0.drop bb.1.toNat) bb.1 bb.2=some o2) b0.length (0,(W (b1 - (b0.length:Int)))) ⟨Int.le_refl _,by simp,h⟩ ?_
  clear h
  rintro JJ8 n8 ⟨z9,a10⟩ hag8 ⟨hza8,hzb8,h⟩
  dsimp only at hza8 hzb8 h
  refine Run.seq (Run.sr (X.mv ?_))
  refine X.mv ?_
  refine X.ls elt56 ?_
  refine X.bi ?_
  refine X.nil ?_
  refine R.cd (fun hc13=>?_) (fun hc13=>?_)
  ·obtain ⟨x11,xs12,hd8,hx8,hds8,hlt8⟩:=A0k hza8 hc13
   rw [hd8] at h
   rw [M0w] at h
   refine Run.skip (Run.seq (Run.block (Run.sr (X.mv ?_))))
   refine X.mv ?_
   refine X.ix elt56 (A0a hx8).1 (A0c B0f hx8) ?_
   refine X.lc S1a ?_
   refine X.mv ?_
   obtain ⟨v14,hv14,h⟩:=bindE h
   refine X.cp (K1o _ _ _ hv14) ?_
   refine X.an ?_
   refine Run.sr (X.mv ?_)
   refine X.bi ?_
   refine X.nil ?_
   refine R.cd (fun hc15=>?_) (fun hc15=>?_)
   ·replace h:=condT hc15 h
    refine Run.sr (X.an ?_)
    cases h
    have h:=hup3
    replace h:=elimR h
    cases h
    refine R.f1 Tryz.results73 ?_
    rfl
   replace h:=condF hc15 h
   refine Run.skip (Run.blk (Run.reg (X.mv ?_)))
   refine X.ad ?_
   refine X.an ?_
   exact R.ag hag8 (n8 - 1) (z9+1,v14) (R.n3 (by first | (rw [hds8];exact h) | (dsimp only;rw [hds8];exact h)))
  rw [A0h hza8 hc13] at h
  rw [M0w] at h
  refine Run.exit (by rfl) ?_
  exact R.mt hmeet4 a10 (Option.some.inj h)
 rintro p16 rfl
 replace h:=elimL h
 refine Run.sr (X.mv ?_)
 refine X.an ?_
 cases h
 refine R.f1 Tryz.results73 ?_
 rfl
theorem E1i (b0:A0f)(b1:Int)(r:Int)(h:N0b b0 b1=some r):PC Tryz.prog 35 [A0d b0,int b1] (int r):=by
 unfold N0b at h
 refine PC.start Tryz.func35 Tryz.ntmps35 rfl (by kernel_rfl) rfl ?_
 refine Run.sr (X.bx ?_)
 refine X.an ?_
 refine Run.sr (X.mv ?_)
 refine X.fl P1v ?_
 refine X.ld shp9 ?_
 refine X.lenStr Tryz.underlying9 (by rfl) (by rfl) ?_
 refine X.subW (h:=?_)
 refine X.an ?_
 refine Run.seq (Run.sr (X.mv ?_))
 refine X.bi ?_
 refine X.nil ?_
 refine R.cd (fun hc1=>?_) (fun hc1=>?_)
 ·replace h:=condT hc1 h
  refine Run.sr (X.an ?_)
  cases h
  refine R.f1 Tryz.results35 ?_
  rfl
 replace h:=condF hc1 h
 refine Run.skip (Run.sr (X.fl P1j ?_))
 refine X.ld shp56 ?_
 refine X.mv ?_
 obtain ⟨v2,hv2,h⟩:=bindE h
 refine X.cp (H1r _ _ _ hv2) ?_
 refine X.an ?_
 refine Run.seq (Run.sr (X.mv ?_))
 refine X.bi ?_
 refine X.nil ?_
 refine R.cd (fun hc3=>?_) (fun hc3=>?_)
 ·replace h:=condT hc3 h
  refine Run.sr (X.an ?_)
  cases h
  refine R.f1 Tryz.results35 ?_
  rfl
 replace h:=condF hc3 h
 refine Run.skip (Run.sr (X.mv ?_))
 refine X.an ?_
 cases h
 refine R.f1 Tryz.results35 ?_
 rfl
theorem B1s (b0:List A0f)(b1:Int)(r:Int)(h:Q0t b0 b1=some r):PC Tryz.prog 9 [.slice (b0.map A0d),int b1] (int r):=by
 unfold Q0t at h
 refine PC.start Tryz.func9 Tryz.ntmps9 rfl (by kernel_rfl) rfl ?_
 refine Run.sr (X.an ?_)
 refine Run.sr (X.mv ?_)
 refine X.mv ?_
 refine X.ls elt22 ?_
 refine X.subW (h:=?_)
 refine X.an ?_
 refine Run.seq (Run.sr (X.mv ?_))
 refine X.bi ?_
 refine X.nil ?_
 refine R.cd (fun hc1=>?_) (fun hc1=>?_)
 ·replace h:=condT hc1 h
  refine Run.sr (X.an ?_)
  cases h
  refine R.f1 Tryz.results9 ?_
  rfl
 replace h:=condF hc1 h
 refine Run.skip (Run.seq (Run.sr (X.an ?_)))
 obtain ⟨o2,ho2,h⟩:=bindE h
 refine R.join2 (β:=Int) [] [] (fun p16 S=>(1,int p16)::S) (fun p16 M=>M) (fun p16=>(Sum.inl p16)=o2) ?_ ?_
 ·intro JJ5 hmeet4
  have hup3:=h;clear h;have h:=ho2;clear ho2
  refine Run.block ?_
  refine R.bndS (t:=0) (by rfl) (fun hbd8=>?_)
  replace hbd8:b0.length≤9223372036854775807:=by first | (rw [List.length_map] at hbd8;exact hbd8) | simp
  refine R.lp (β:=Int×Int) [(0,.slice (b0.map A0d))] [] (fun bb S=>(1,int bb.2)::(5,int bb.1)::S) (fun bb M=>M) (fun n bb=>0≤bb.1∧bb.1+n=(b0.length:Int)∧H0d (b0.drop bb.1.toNat) bb.1 bb.2=some o2) b0.length (0,(W (b1 - (b0.length:Int)))) ⟨Int.le_refl _,by simp,h⟩ ?_
  clear h
  rintro JJ8 n8 ⟨z9,a10⟩ hag8 ⟨hza8,hzb8,h⟩
  dsimp only at hza8 hzb8 h
  refine Run.seq (Run.sr (X.mv ?_))
  refine X.mv ?_
  refine X.ls elt22 ?_
  refine X.bi ?_
  refine X.nil ?_
  refine R.cd (fun hc13=>?_) (fun hc13=>?_)
  ·obtain ⟨x11,xs12,hd8,hx8,hds8,hlt8⟩:=A0k hza8 hc13
   rw [hd8] at h
   rw [H0d] at h
   refine Run.skip (Run.seq (Run.block (Run.sr (X.mv ?_))))
   refine X.mv ?_
   refine X.ix elt22 (A0a hx8).1 (A0c A0d hx8) ?_
   refine X.lc shp58 ?_
   refine X.mv ?_
   obtain ⟨v14,hv14,h⟩:=bindE h
   refine X.cp (E1i _ _ _ hv14) ?_
   refine X.an ?_
   refine Run.sr (X.mv ?_)
   refine X.bi ?_
   refine X.nil ?_
   refine R.cd (fun hc15=>?_) (fun hc15=>?_)
   ·replace h:=condT hc15 h
    refine Run.sr (X.an ?_)
    cases h
    have h:=hup3
    replace h:=elimR h
    cases h
    refine R.f1 Tryz.results9 ?_
    rfl
   replace h:=condF hc15 h
   refine Run.skip (Run.blk (Run.reg (X.mv ?_)))
   refine X.ad ?_
   refine X.an ?_
   exact R.ag hag8 (n8 - 1) (z9+1,v14) (R.n3 (by first | (rw [hds8];exact h) | (dsimp only;rw [hds8];exact h)))
  rw [A0h hza8 hc13] at h
  rw [H0d] at h
  refine Run.exit (by rfl) ?_
  exact R.mt hmeet4 a10 (Option.some.inj h)
 rintro p16 rfl
 replace h:=elimL h
 refine Run.sr (X.mv ?_)
 refine X.an ?_
 cases h
 refine R.f1 Tryz.results9 ?_
 rfl
theorem J1i (b0:List TLink)(b1:Int)(r:Int)(h:Z0l b0 b1=some r):PC Tryz.prog 10 [.slice (b0.map A0l),int b1] (int r):=by
 unfold Z0l at h
 refine PC.start Tryz.func10 Tryz.ntmps10 rfl (by kernel_rfl) rfl ?_
 refine Run.sr (X.an ?_)
 refine Run.sr (X.mv ?_)
 refine X.mv ?_
 refine X.ls elt23 ?_
 refine X.subW (h:=?_)
 refine X.an ?_
 refine Run.seq (Run.sr (X.mv ?_))
 refine X.bi ?_
 refine X.nil ?_
 refine R.cd (fun hc1=>?_) (fun hc1=>?_)
 ·replace h:=condT hc1 h
  refine Run.sr (X.an ?_)
  cases h
  refine R.f1 Tryz.results10 ?_
  rfl
 replace h:=condF hc1 h
 refine Run.skip (Run.sr (X.mv ?_))
 refine X.an ?_
 cases h
 refine R.f1 Tryz.results10 ?_
 rfl
theorem K1i (b0:List TStep)(b1:Int)(r:Int)(h:Y0b b0 b1=some r):PC Tryz.prog 74 [.slice (b0.map B0e),int b1] (int r):=by
 unfold Y0b at h
 refine PC.start Tryz.func74 Tryz.ntmps74 rfl (by kernel_rfl) rfl ?_
 refine Run.sr (X.an ?_)
 refine Run.sr (X.mv ?_)
 refine X.mv ?_
 refine X.ls elt60 ?_
 refine X.subW (h:=?_)
 refine X.an ?_
 refine Run.seq (Run.sr (X.mv ?_))
 refine X.bi ?_
 refine X.nil ?_
 refine R.cd (fun hc1=>?_) (fun hc1=>?_)
 ·replace h:=condT hc1 h
  refine Run.sr (X.an ?_)
  cases h
  refine R.f1 Tryz.results74 ?_
  rfl
 replace h:=condF hc1 h
 refine Run.skip (Run.sr (X.mv ?_))
 refine X.an ?_
 cases h
 refine R.f1 Tryz.results74 ?_
 rfl
theorem J1v (b0:List (List Int))(b1:Int)(r:Int)(h:Y0j b0 b1=some r):PC Tryz.prog 75 [.slice (b0.map l_int),int b1] (int r):=by
 unfold Y0j at h
 refine PC.start Tryz.func75 Tryz.ntmps75 rfl (by kernel_rfl) rfl ?_
 refine Run.sr (X.an ?_)
 refine Run.sr (X.mv ?_)
 refine X.mv ?_
 refine X.ls elt61 ?_
 refine X.subW (h:=?_)
 refine X.an ?_
 refine Run.seq (Run.sr (X.mv ?_))
 refine X.bi ?_
 refine X.nil ?_
 refine R.cd (fun hc1=>?_) (fun hc1=>?_)
 ·replace h:=condT hc1 h
  refine Run.sr (X.an ?_)
  cases h
  refine R.f1 Tryz.results75 ?_
  rfl
 replace h:=condF hc1 h
 refine Run.skip (Run.seq (Run.sr (X.an ?_)))
 obtain ⟨o2,ho2,h⟩:=bindE h
 refine R.join2 (β:=Int) [] [] (fun p16 S=>(1,int p16)::S) (fun p16 M=>M) (fun p16=>(Sum.inl p16)=o2) ?_ ?_
 ·intro JJ5 hmeet4
  have hup3:=h;clear h;have h:=ho2;clear ho2
  refine Run.block ?_
  refine R.bndS (t:=0) (by rfl) (fun hbd8=>?_)
  replace hbd8:b0.length≤9223372036854775807:=by first | (rw [List.length_map] at hbd8;exact hbd8) | simp
  refine R.lp (β:=Int×Int) [(0,.slice (b0.map l_int))] [] (fun bb S=>(1,int bb.2)::(5,int bb.1)::S) (fun bb M=>M) (fun n bb=>0≤bb.1∧bb.1+n=(b0.length:Int)∧M0v (b0.drop bb.1.toNat) bb.1 bb.2=some o2) b0.length (0,(W (b1 - (b0.length:Int)))) ⟨Int.le_refl _,by simp,h⟩ ?_
  clear h
  rintro JJ8 n8 ⟨z9,a10⟩ hag8 ⟨hza8,hzb8,h⟩
  dsimp only at hza8 hzb8 h
  refine Run.seq (Run.sr (X.mv ?_))
  refine X.mv ?_
  refine X.ls elt61 ?_
  refine X.bi ?_
  refine X.nil ?_
  refine R.cd (fun hc13=>?_) (fun hc13=>?_)
  ·obtain ⟨x11,xs12,hd8,hx8,hds8,hlt8⟩:=A0k hza8 hc13
   rw [hd8] at h
   rw [M0v] at h
   refine Run.skip (Run.seq (Run.block (Run.sr (X.mv ?_))))
   refine X.mv ?_
   refine X.ix elt61 (A0a hx8).1 (A0c l_int hx8) ?_
   refine X.lc shp25 ?_
   refine X.mv ?_
   obtain ⟨v14,hv14,h⟩:=bindE h
   refine X.cp (T0i _ _ _ hv14) ?_
   refine X.an ?_
   refine Run.sr (X.mv ?_)
   refine X.bi ?_
   refine X.nil ?_
   refine R.cd (fun hc15=>?_) (fun hc15=>?_)
   ·replace h:=condT hc15 h
    refine Run.sr (X.an ?_)
    cases h
    have h:=hup3
    replace h:=elimR h
    cases h
    refine R.f1 Tryz.results75 ?_
    rfl
   replace h:=condF hc15 h
   refine Run.skip (Run.blk (Run.reg (X.mv ?_)))
   refine X.ad ?_
   refine X.an ?_
   exact R.ag hag8 (n8 - 1) (z9+1,v14) (R.n3 (by first | (rw [hds8];exact h) | (dsimp only;rw [hds8];exact h)))
  rw [A0h hza8 hc13] at h
  rw [M0v] at h
  refine Run.exit (by rfl) ?_
  exact R.mt hmeet4 a10 (Option.some.inj h)
 rintro p16 rfl
 replace h:=elimL h
 refine Run.sr (X.mv ?_)
 refine X.an ?_
 cases h
 refine R.f1 Tryz.results75 ?_
 rfl
theorem C1x (b0:A0q)(b1:Int)(r:Int)(h:M0z b0 b1=some r):PC Tryz.prog 36 [A0e b0,int b1] (int r):=by
 unfold M0z at h
 refine PC.start Tryz.func36 Tryz.ntmps36 rfl (by kernel_rfl) rfl ?_
 refine Run.sr (X.bx ?_)
 refine X.an ?_
 refine Run.sr (X.fl Q1i ?_)
 refine X.ld shp60 ?_
 refine X.mv ?_
 obtain ⟨v1,hv1,h⟩:=bindE h
 refine X.cp (K1i _ _ _ hv1) ?_
 refine X.an ?_
 refine Run.seq (Run.sr (X.mv ?_))
 refine X.bi ?_
 refine X.nil ?_
 refine R.cd (fun hc2=>?_) (fun hc2=>?_)
 ·replace h:=condT hc2 h
  refine Run.sr (X.an ?_)
  cases h
  refine R.f1 Tryz.results36 ?_
  rfl
 replace h:=condF hc2 h
 refine Run.skip (Run.sr (X.fl Q1m ?_))
 refine X.ld shp61 ?_
 refine X.mv ?_
 obtain ⟨v3,hv3,h⟩:=bindE h
 refine X.cp (J1v _ _ _ hv3) ?_
 refine X.an ?_
 refine Run.seq (Run.sr (X.mv ?_))
 refine X.bi ?_
 refine X.nil ?_
 refine R.cd (fun hc4=>?_) (fun hc4=>?_)
 ·replace h:=condT hc4 h
  refine Run.sr (X.an ?_)
  cases h
  refine R.f1 Tryz.results36 ?_
  rfl
 replace h:=condF hc4 h
 refine Run.skip (Run.sr (X.mv ?_))
 refine X.an ?_
 cases h
 refine R.f1 Tryz.results36 ?_
 rfl
theorem B1z (b0:List A0q)(b1:Int)(r:Int)(h:Q0s b0 b1=some r):PC Tryz.prog 11 [.slice (b0.map A0e),int b1] (int r):=by
 unfold Q0s at h
 refine PC.start Tryz.func11 Tryz.ntmps11 rfl (by kernel_rfl) rfl ?_
 refine Run.sr (X.an ?_)
 refine Run.sr (X.mv ?_)
 refine X.mv ?_
 refine X.ls elt24 ?_
 refine X.subW (h:=?_)
 refine X.an ?_
 refine Run.seq (Run.sr (X.mv ?_))
 refine X.bi ?_
 refine X.nil ?_
 refine R.cd (fun hc1=>?_) (fun hc1=>?_)
 ·replace h:=condT hc1 h
  refine Run.sr (X.an ?_)
  cases h
  refine R.f1 Tryz.results11 ?_
  rfl
 replace h:=condF hc1 h
 refine Run.skip (Run.seq (Run.sr (X.an ?_)))
 obtain ⟨o2,ho2,h⟩:=bindE h
 refine R.join2 (β:=Int) [] [] (fun p16 S=>(1,int p16)::S) (fun p16 M=>M) (fun p16=>(Sum.inl p16)=o2) ?_ ?_
 ·intro JJ5 hmeet4
  have hup3:=h;clear h;have h:=ho2;clear ho2
  refine Run.block ?_
  refine R.bndS (t:=0) (by rfl) (fun hbd8=>?_)
  replace hbd8:b0.length≤9223372036854775807:=by first | (rw [List.length_map] at hbd8;exact hbd8) | simp
  refine R.lp (β:=Int×Int) [(0,.slice (b0.map A0e))] [] (fun bb S=>(1,int bb.2)::(5,int bb.1)::S) (fun bb M=>M) (fun n bb=>0≤bb.1∧bb.1+n=(b0.length:Int)∧H0c (b0.drop bb.1.toNat) bb.1 bb.2=some o2) b0.length (0,(W (b1 - (b0.length:Int)))) ⟨Int.le_refl _,by simp,h⟩ ?_
  clear h
  rintro JJ8 n8 ⟨z9,a10⟩ hag8 ⟨hza8,hzb8,h⟩
  dsimp only at hza8 hzb8 h
  refine Run.seq (Run.sr (X.mv ?_))
  refine X.mv ?_
  refine X.ls elt24 ?_
  refine X.bi ?_
  refine X.nil ?_
  refine R.cd (fun hc13=>?_) (fun hc13=>?_)
  ·obtain ⟨x11,xs12,hd8,hx8,hds8,hlt8⟩:=A0k hza8 hc13
   rw [hd8] at h
   rw [H0c] at h
   refine Run.skip (Run.seq (Run.block (Run.sr (X.mv ?_))))
   refine X.mv ?_
   refine X.ix elt24 (A0a hx8).1 (A0c A0e hx8) ?_
   refine X.lc shp63 ?_
   refine X.mv ?_
   obtain ⟨v14,hv14,h⟩:=bindE h
   refine X.cp (C1x _ _ _ hv14) ?_
   refine X.an ?_
   refine Run.sr (X.mv ?_)
   refine X.bi ?_
   refine X.nil ?_
   refine R.cd (fun hc15=>?_) (fun hc15=>?_)
   ·replace h:=condT hc15 h
    refine Run.sr (X.an ?_)
    cases h
    have h:=hup3
    replace h:=elimR h
    cases h
    refine R.f1 Tryz.results11 ?_
    rfl
   replace h:=condF hc15 h
   refine Run.skip (Run.blk (Run.reg (X.mv ?_)))
   refine X.ad ?_
   refine X.an ?_
   exact R.ag hag8 (n8 - 1) (z9+1,v14) (R.n3 (by first | (rw [hds8];exact h) | (dsimp only;rw [hds8];exact h)))
  rw [A0h hza8 hc13] at h
  rw [H0c] at h
  refine Run.exit (by rfl) ?_
  exact R.mt hmeet4 a10 (Option.some.inj h)
 rintro p16 rfl
 replace h:=elimL h
 refine Run.sr (X.mv ?_)
 refine X.an ?_
 cases h
 refine R.f1 Tryz.results11 ?_
 rfl
theorem F1m (b0:A0b)(b1:Int)(r:Int)(h:R0g b0 b1=some r):PC Tryz.prog 4 [A0n b0,int b1] (int r):=by
 unfold R0g at h
 refine PC.start Tryz.func4 Tryz.ntmps4 rfl (by kernel_rfl) rfl ?_
 refine Run.sr (X.bx ?_)
 refine X.an ?_
 refine Run.sr (X.fl Q1s ?_)
 refine X.ld shp22 ?_
 refine X.mv ?_
 obtain ⟨v1,hv1,h⟩:=bindE h
 refine X.cp (B1s _ _ _ hv1) ?_
 refine X.an ?_
 refine Run.seq (Run.sr (X.mv ?_))
 refine X.bi ?_
 refine X.nil ?_
 refine R.cd (fun hc2=>?_) (fun hc2=>?_)
 ·replace h:=condT hc2 h
  refine Run.sr (X.an ?_)
  cases h
  refine R.f1 Tryz.results4 ?_
  rfl
 replace h:=condF hc2 h
 refine Run.skip (Run.sr (X.fl Q1t ?_))
 refine X.ld shp23 ?_
 refine X.mv ?_
 obtain ⟨v3,hv3,h⟩:=bindE h
 refine X.cp (J1i _ _ _ hv3) ?_
 refine X.an ?_
 refine Run.seq (Run.sr (X.mv ?_))
 refine X.bi ?_
 refine X.nil ?_
 refine R.cd (fun hc4=>?_) (fun hc4=>?_)
 ·replace h:=condT hc4 h
  refine Run.sr (X.an ?_)
  cases h
  refine R.f1 Tryz.results4 ?_
  rfl
 replace h:=condF hc4 h
 refine Run.skip (Run.sr (X.fl P1d ?_))
 refine X.ld shp24 ?_
 refine X.mv ?_
 obtain ⟨v5,hv5,h⟩:=bindE h
 refine X.cp (B1z _ _ _ hv5) ?_
 refine X.an ?_
 refine Run.seq (Run.sr (X.mv ?_))
 refine X.bi ?_
 refine X.nil ?_
 refine R.cd (fun hc6=>?_) (fun hc6=>?_)
 ·replace h:=condT hc6 h
  refine Run.sr (X.an ?_)
  cases h
  refine R.f1 Tryz.results4 ?_
  rfl
 replace h:=condF hc6 h
 refine Run.skip (Run.sr (X.fl P1x ?_))
 refine X.ld shp25 ?_
 refine X.mv ?_
 obtain ⟨v7,hv7,h⟩:=bindE h
 refine X.cp (T0i _ _ _ hv7) ?_
 refine X.an ?_
 refine Run.seq (Run.sr (X.mv ?_))
 refine X.bi ?_
 refine X.nil ?_
 refine R.cd (fun hc8=>?_) (fun hc8=>?_)
 ·replace h:=condT hc8 h
  refine Run.sr (X.an ?_)
  cases h
  refine R.f1 Tryz.results4 ?_
  rfl
 replace h:=condF hc8 h
 refine Run.skip (Run.sr (X.mv ?_))
 refine X.an ?_
 cases h
 refine R.f1 Tryz.results4 ?_
 rfl
theorem U0j (b0:List Int)(r:List Int)(h:T0v b0=some r):PCM Tryz.prog 23 [.yng 63 (.slice (b0.map int))] [(63,.yreg false false)] (.fresh false 3 1 (r.map int)) [(63,.yreg false false)]:=by
 unfold T0v at h
 refine PCM.start Tryz.func23 Tryz.ntmps23 rfl (by kernel_rfl) rfl (by rfl) (by rfl) (by rfl) (by rfl) (by rfl) ?_
 refine Run.sr (X.an ?_)
 refine Run.sr (X.mv ?_)
 refine X.lenY false 63 elt25 (by rfl) (by exact List.length_map ..) (by rfl) ?_
 obtain ⟨v1,hv1,h⟩:=bindE h
 refine X.makeSlice2 int hv1 elt25 zer3 (by rfl) (by rfl) (by rfl) (by simp [PV.plain]) (by rfl) (by rfl) (by rfl) (by rfl) (by rfl) (by rfl) ?_
 refine X.an ?_
 refine Run.seq (Run.sr (X.an ?_))
 obtain ⟨o2,ho2,h⟩:=bindE h
 refine R.join2 (β:=(List Int)) [] [(63,.yreg false false)] (fun p15 S=>(3,.own 448 (p15.map int).length)::S) (fun p15 M=>(448,.obj true 3 1 (p15.map int))::M) (fun p15=>p15=o2) ?_ ?_
 ·intro JJ5 hmeet4
  have hup3:=h;clear h;have h:=ho2;clear ho2
  refine Run.block ?_
  refine R.bndY false 63 (t:=0) (by rfl) (fun hbd8=>?_)
  replace hbd8:b0.length≤9223372036854775807:=by first | (rw [List.length_map] at hbd8;exact hbd8) | simp
  refine R.lp (β:=Int×(List Int)) [(0,.yng 63 (.slice (b0.map int)))] [(63,.yreg false false)] (fun bb S=>(3,.own 448 (bb.2.map int).length)::(4,int bb.1)::S) (fun bb M=>(448,.obj true 3 1 (bb.2.map int))::M) (fun n bb=>0≤bb.1∧bb.1+n=(b0.length:Int)∧M0t (b0.drop bb.1.toNat) bb.1 bb.2=some o2) b0.length (0,v1) ⟨Int.le_refl _,by simp,h⟩ ?_
  clear h
  rintro JJ8 n8 ⟨z9,a10⟩ hag8 ⟨hza8,hzb8,h⟩
  dsimp only at hza8 hzb8 h
  refine Run.seq (Run.sr (X.mv ?_))
  refine X.mv ?_
  refine X.lenY false 63 elt25 (by rfl) (by exact List.length_map ..) (by rfl) ?_
  refine X.bi ?_
  refine X.nil ?_
  refine R.cd (fun hc13=>?_) (fun hc13=>?_)
  ·obtain ⟨x11,xs12,hd8,hx8,hds8,hlt8⟩:=A0k hza8 hc13
   rw [hd8] at h
   rw [M0t] at h
   refine Run.skip (Run.seq (Run.block (Run.reg (X.mv ?_))))
   refine X.mv ?_
   refine X.mv ?_
   refine X.mv ?_
   refine X.indexY false 63 elt25 (by rfl) (by rfl) (A0a hx8).1 (A0c int hx8) (by rfl) (by rfl) ?_
   refine X.loadY false 63 shp3 (by rfl) (by rfl) (by rfl) (by rfl) ?_
   obtain ⟨v14,hv14,h⟩:=bindE h
   refine X.index_xs elt25 (by rfl) (by rfl) (by first | rfl | simp [setL] | omega) (by rfl) (by exact (Int.toNat_of_nonneg (A0a hv14).1).symm) (by have:=A0t hv14;first | exact this | (rw [List.length_map];exact this)) (by rfl) (by rfl) ?_
   refine X.store_es shp3 (by rfl) (by rfl) (by first | rfl | simp [setL] | omega) (A0c _ hv14) (by rfl) (by rfl) (by repeat (first | trivial | refine ⟨by first | rfl | simp [setL],?_⟩)) (by rfl) (by rfl) (by rfl) (by rfl) (by exact D0e _ _ _ x11) ?_
   refine X.nil (Run.blk (Run.reg (X.mv ?_)))
   refine X.ad ?_
   refine X.an ?_
   refine R.castS (t:=3) (.own 448 ((setL a10 z9 x11).map int).length) (by rfl) (.inl (by first | rfl | simp [setL])) ?_
   exact R.ag hag8 (n8 - 1) (z9+1,(setL a10 z9 x11)) (R.n3 (by first | (rw [hds8];exact h) | (dsimp only;rw [hds8];exact h)))
  rw [A0h hza8 hc13] at h
  rw [M0t] at h
  refine Run.exit (by rfl) ?_
  exact R.mt hmeet4 a10 (Option.some.inj h)
 rintro p15 rfl
 refine Run.sr (X.mv ?_)
 refine X.an ?_
 cases h
 refine R.pubObj (n:=448) (by rfl) ?_
 exact R.finM1o Tryz.results23 (by rfl) (by rfl) (by first | rfl | simp [setL] | omega) (by rfl) (by repeat (first | exact trivial | refine ⟨by rfl,?_⟩)) rfl
theorem K1z (b0:TMode)(r:TMode)(h:Y0k b0=some r):PCM Tryz.prog 125 [.agg [int b0.Duration,.yng 63 (.slice (b0.Usage.map int)),.yng 63 (.slice (b0.Consumption.map int))]] [(63,.yreg false false)] (.agg [int r.Duration,.fresh false 3 1 (r.Usage.map int),.fresh false 3 1 (r.Consumption.map int)]) [(63,.yreg false false)]:=by
 unfold Y0k at h
 refine PCM.start Tryz.func125 Tryz.ntmps125 rfl (by kernel_rfl) rfl (by rfl) (by rfl) (by rfl) (by rfl) (by rfl) ?_
 refine Run.sr (X.bx ?_)
 refine X.alloc S0x (h:=?_)
 refine X.nil (Run.sr (X.alloc S0x (h:=?_)))
 refine X.nil (Run.sr (X.fl R1d ?_))
 refine X.ld shp3 ?_
 refine X.fl N0k ?_
 refine X.sl shp3 ?_
 refine X.nil (Run.sr (X.fl M1q ?_))
 refine X.ld shp25 ?_
 obtain ⟨v1,hv1,h⟩:=bindE h
 refine X.callM [(63,63)] (U0j _ _ hv1) (by rfl) (by rfl) (.yngB 63 (by rfl) (by rfl) .nil) (by rfl) ⟨rfl,rfl,⟨_,by rfl,by constructor⟩,by constructor,trivial⟩ (by rfl) (by rfl) (by rfl) (by rfl) (by rfl) (by rfl) (by rfl) (by rfl) (by rfl) ?_
 refine X.fl S0d ?_
 refine X.sl shp25 ?_
 refine X.nil (Run.sr (X.fl M1l ?_))
 refine X.ld shp25 ?_
 obtain ⟨v2,hv2,h⟩:=bindE h
 refine X.callM [(63,63)] (U0j _ _ hv2) (by rfl) (by rfl) (.yngB 63 (by rfl) (by rfl) .nil) (by rfl) ⟨rfl,rfl,⟨_,by rfl,by constructor⟩,by constructor,trivial⟩ (by rfl) (by rfl) (by rfl) (by rfl) (by rfl) (by rfl) (by rfl) (by rfl) (by rfl) ?_
 refine X.fl V0q ?_
 refine X.sl shp25 ?_
 refine X.nil (Run.sr (X.ld K0p ?_))
 refine X.sl K0p ?_
 refine X.nil ?_
 cases h
 exact R.finMC Tryz.results125 K0p (by rfl) (by rfl) (by rfl) (by rfl) (by repeat (first | trivial | refine ⟨by first | rfl | simp [setL],?_⟩)) (by rfl) (by repeat (first | exact trivial | refine ⟨by rfl,?_⟩)) rfl
theorem J1g (b0:List TMode)(r:List TMode)(h:Z0d b0=some r):PCM Tryz.prog 87 [.yng 63 (.slice (b0.map B0f))] [(63,.yreg false false)] (.fresh false 111 3 (r.map B0f)) [(63,.yreg false false)]:=by
 unfold Z0d at h
 refine PCM.start Tryz.func87 Tryz.ntmps87 rfl (by kernel_rfl) rfl (by rfl) (by rfl) (by rfl) (by rfl) (by rfl) ?_
 refine Run.sr (X.an ?_)
 refine Run.sr (X.mv ?_)
 refine X.lenY false 63 elt56 (by rfl) (by exact List.length_map ..) (by rfl) ?_
 obtain ⟨v1,hv1,h⟩:=bindE h
 refine X.makeSlice2 B0f hv1 elt65 S0x (by rfl) (by rfl) (by rfl) (by simp [PV.plain]) (by rfl) (by rfl) (by rfl) (by rfl) (by rfl) (by rfl) ?_
 refine X.an ?_
 refine Run.seq (Run.sr (X.an ?_))
 obtain ⟨o2,ho2,h⟩:=bindE h
 refine R.join2 (β:=(List TMode)) [] [(63,.yreg false false)] (fun p16 S=>(3,.own 448 (p16.map B0f).length)::S) (fun p16 M=>(448,.obj true 111 3 (p16.map B0f))::M) (fun p16=>p16=o2) ?_ ?_
 ·intro JJ5 hmeet4
  have hup3:=h;clear h;have h:=ho2;clear ho2
  refine Run.block ?_
  refine R.bndY false 63 (t:=0) (by rfl) (fun hbd8=>?_)
  replace hbd8:b0.length≤9223372036854775807:=by first | (rw [List.length_map] at hbd8;exact hbd8) | simp
  refine R.lp (β:=Int×(List TMode)) [(0,.yng 63 (.slice (b0.map B0f)))] [(63,.yreg false false)] (fun bb S=>(3,.own 448 (bb.2.map B0f).length)::(4,int bb.1)::S) (fun bb M=>(448,.obj true 111 3 (bb.2.map B0f))::M) (fun n bb=>0≤bb.1∧bb.1+n=(b0.length:Int)∧K0q (b0.drop bb.1.toNat) bb.1 bb.2=some o2) b0.length (0,v1) ⟨Int.le_refl _,by simp,h⟩ ?_
  clear h
  rintro JJ8 n8 ⟨z9,a10⟩ hag8 ⟨hza8,hzb8,h⟩
  dsimp only at hza8 hzb8 h
  refine Run.seq (Run.sr (X.mv ?_))
  refine X.mv ?_
  refine X.lenY false 63 elt56 (by rfl) (by exact List.length_map ..) (by rfl) ?_
  refine X.bi ?_
  refine X.nil ?_
  refine R.cd (fun hc13=>?_) (fun hc13=>?_)
  ·obtain ⟨x11,xs12,hd8,hx8,hds8,hlt8⟩:=A0k hza8 hc13
   rw [hd8] at h
   rw [K0q] at h
   refine Run.skip (Run.seq (Run.block (Run.reg (X.mv ?_))))
   refine X.mv ?_
   refine X.mv ?_
   refine X.mv ?_
   refine X.indexY false 63 elt56 (by rfl) (by rfl) (A0a hx8).1 (A0c B0f hx8) (by rfl) (by rfl) ?_
   refine X.loadY false 63 S1a (by rfl) (by rfl) (by rfl) (by rfl) ?_
   obtain ⟨v14,hv14,h⟩:=bindE h
   refine X.callM [(63,63)] (K1z _ _ hv14) (by rfl) (by rfl) (.agg _ _ _ _ _ _ (.pureB (by rfl) (by repeat (first | trivial | refine ⟨by first | rfl | simp [setL],?_⟩)) (.yngB 63 (by rfl) (by rfl) (.yngB 63 (by rfl) (by rfl) .nil))) .nil) (by rfl) ⟨rfl,rfl,⟨_,by rfl,by constructor⟩,by constructor,trivial⟩ (by rfl) (by rfl) (by rfl) (by rfl) (by rfl) (by rfl) (by rfl) (by rfl) (by rfl) ?_
   obtain ⟨v15,hv15,h⟩:=bindE h
   refine X.index_xs elt65 (by rfl) (by rfl) (by first | rfl | simp [setL] | omega) (by rfl) (by exact (Int.toNat_of_nonneg (A0a hv15).1).symm) (by have:=A0t hv15;first | exact this | (rw [List.length_map];exact this)) (by rfl) (by rfl) ?_
   refine X.store_es K0p (by rfl) (by rfl) (by first | rfl | simp [setL] | omega) (A0c _ hv15) (by rfl) (by rfl) (by repeat (first | trivial | refine ⟨by first | rfl | simp [setL],?_⟩)) (by rfl) (by rfl) (by rfl) (by rfl) (by exact D0e _ _ _ v14) ?_
   refine X.nil (Run.blk (Run.reg (X.mv ?_)))
   refine X.ad ?_
   refine X.an ?_
   refine R.castS (t:=3) (.own 448 ((setL a10 z9 v14).map B0f).length) (by rfl) (.inl (by first | rfl | simp [setL])) ?_
   exact R.ag hag8 (n8 - 1) (z9+1,(setL a10 z9 v14)) (R.n3 (by first | (rw [hds8];exact h) | (dsimp only;rw [hds8];exact h)))
  rw [A0h hza8 hc13] at h
  rw [K0q] at h
  refine Run.exit (by rfl) ?_
  exact R.mt hmeet4 a10 (Option.some.inj h)
 rintro p16 rfl
 refine Run.sr (X.mv ?_)
 refine X.an ?_
 cases h
 refine R.pubObj (n:=448) (by rfl) ?_
 exact R.finM1o Tryz.results87 (by rfl) (by rfl) (by first | rfl | simp [setL] | omega) (by rfl) (by repeat (first | exact trivial | refine ⟨by rfl,?_⟩)) rfl
theorem C1n (b0:A0f)(r:A0f)(h:P0i b0=some r):PCM Tryz.prog 49 [.agg [str b0.Name,int b0.Family,.yng 63 (.slice (b0.Modes.map B0f))]] [(63,.yreg false false)] (.agg [str r.Name,int r.Family,.fresh false 111 3 (r.Modes.map B0f)]) [(63,.yreg false false)]:=by
 unfold P0i at h
 refine PCM.start Tryz.func49 Tryz.ntmps49 rfl (by kernel_rfl) rfl (by rfl) (by rfl) (by rfl) (by rfl) (by rfl) ?_
 refine Run.sr (X.bx ?_)
 refine X.alloc zer67 (h:=?_)
 refine X.nil (Run.sr (X.alloc zer67 (h:=?_)))
 refine X.nil (Run.sr (X.fl P1v ?_))
 refine X.ld shp9 ?_
 refine X.fl T0r ?_
 refine X.sl shp9 ?_
 refine X.nil (Run.sr (X.fl S1x ?_))
 refine X.ld shp3 ?_
 refine X.fl T0u ?_
 refine X.sl shp3 ?_
 refine X.nil (Run.sr (X.fl P1j ?_))
 refine X.ld shp56 ?_
 obtain ⟨v1,hv1,h⟩:=bindE h
 refine X.callM [(63,63)] (J1g _ _ hv1) (by rfl) (by rfl) (.yngB 63 (by rfl) (by rfl) .nil) (by rfl) ⟨rfl,rfl,⟨_,by rfl,by constructor⟩,by constructor,trivial⟩ (by rfl) (by rfl) (by rfl) (by rfl) (by rfl) (by rfl) (by rfl) (by rfl) (by rfl) ?_
 refine X.fl Q0e ?_
 refine X.sl shp65 ?_
 refine X.nil (Run.sr (X.ld shp67 ?_))
 refine X.sl shp67 ?_
 refine X.nil ?_
 cases h
 exact R.finMC Tryz.results49 shp67 (by rfl) (by rfl) (by rfl) (by rfl) (by repeat (first | trivial | refine ⟨by first | rfl | simp [setL],?_⟩)) (by rfl) (by repeat (first | exact trivial | refine ⟨by rfl,?_⟩)) rfl
theorem B1g (b0:List A0f)(r:List A0f)(h:Q0p b0=some r):PCM Tryz.prog 20 [.yng 63 (.slice (b0.map A0d))] [(63,.yreg false false)] (.fresh false 67 3 (r.map A0d)) [(63,.yreg false false)]:=by
 unfold Q0p at h
 refine PCM.start Tryz.func20 Tryz.ntmps20 rfl (by kernel_rfl) rfl (by rfl) (by rfl) (by rfl) (by rfl) (by rfl) ?_
 refine Run.sr (X.an ?_)
 refine Run.sr (X.mv ?_)
 refine X.lenY false 63 elt22 (by rfl) (by exact List.length_map ..) (by rfl) ?_
 obtain ⟨v1,hv1,h⟩:=bindE h
 refine X.makeSlice2 A0d hv1 elt30 zer67 (by rfl) (by rfl) (by rfl) (by simp [PV.plain]) (by rfl) (by rfl) (by rfl) (by rfl) (by rfl) (by rfl) ?_
 refine X.an ?_
 refine Run.seq (Run.sr (X.an ?_))
 obtain ⟨o2,ho2,h⟩:=bindE h
 refine R.join2 (β:=(List A0f)) [] [(63,.yreg false false)] (fun p16 S=>(3,.own 448 (p16.map A0d).length)::S) (fun p16 M=>(448,.obj true 67 3 (p16.map A0d))::M) (fun p16=>p16=o2) ?_ ?_
 ·intro JJ5 hmeet4
  have hup3:=h;clear h;have h:=ho2;clear ho2
  refine Run.block ?_
  refine R.bndY false 63 (t:=0) (by rfl) (fun hbd8=>?_)
  replace hbd8:b0.length≤9223372036854775807:=by first | (rw [List.length_map] at hbd8;exact hbd8) | simp
  refine R.lp (β:=Int×(List A0f)) [(0,.yng 63 (.slice (b0.map A0d)))] [(63,.yreg false false)] (fun bb S=>(3,.own 448 (bb.2.map A0d).length)::(4,int bb.1)::S) (fun bb M=>(448,.obj true 67 3 (bb.2.map A0d))::M) (fun n bb=>0≤bb.1∧bb.1+n=(b0.length:Int)∧G0d (b0.drop bb.1.toNat) bb.1 bb.2=some o2) b0.length (0,v1) ⟨Int.le_refl _,by simp,h⟩ ?_
  clear h
  rintro JJ8 n8 ⟨z9,a10⟩ hag8 ⟨hza8,hzb8,h⟩
  dsimp only at hza8 hzb8 h
  refine Run.seq (Run.sr (X.mv ?_))
  refine X.mv ?_
  refine X.lenY false 63 elt22 (by rfl) (by exact List.length_map ..) (by rfl) ?_
  refine X.bi ?_
  refine X.nil ?_
  refine R.cd (fun hc13=>?_) (fun hc13=>?_)
  ·obtain ⟨x11,xs12,hd8,hx8,hds8,hlt8⟩:=A0k hza8 hc13
   rw [hd8] at h
   rw [G0d] at h
   refine Run.skip (Run.seq (Run.block (Run.reg (X.mv ?_))))
   refine X.mv ?_
   refine X.mv ?_
   refine X.mv ?_
   refine X.indexY false 63 elt22 (by rfl) (by rfl) (A0a hx8).1 (A0c A0d hx8) (by rfl) (by rfl) ?_
   refine X.loadY false 63 shp58 (by rfl) (by rfl) (by rfl) (by rfl) ?_
   obtain ⟨v14,hv14,h⟩:=bindE h
   refine X.callM [(63,63)] (C1n _ _ hv14) (by rfl) (by rfl) (.agg _ _ _ _ _ _ (.pureB (by rfl) (by repeat (first | trivial | refine ⟨by first | rfl | simp [setL],?_⟩)) (.pureB (by rfl) (by repeat (first | trivial | refine ⟨by first | rfl | simp [setL],?_⟩)) (.yngB 63 (by rfl) (by rfl) .nil))) .nil) (by rfl) ⟨rfl,rfl,⟨_,by rfl,by constructor⟩,by constructor,trivial⟩ (by rfl) (by rfl) (by rfl) (by rfl) (by rfl) (by rfl) (by rfl) (by rfl) (by rfl) ?_
   obtain ⟨v15,hv15,h⟩:=bindE h
   refine X.index_xs elt30 (by rfl) (by rfl) (by first | rfl | simp [setL] | omega) (by rfl) (by exact (Int.toNat_of_nonneg (A0a hv15).1).symm) (by have:=A0t hv15;first | exact this | (rw [List.length_map];exact this)) (by rfl) (by rfl) ?_
   refine X.store_es shp67 (by rfl) (by rfl) (by first | rfl | simp [setL] | omega) (A0c _ hv15) (by rfl) (by rfl) (by repeat (first | trivial | refine ⟨by first | rfl | simp [setL],?_⟩)) (by rfl) (by rfl) (by rfl) (by rfl) (by exact D0e _ _ _ v14) ?_
   refine X.nil (Run.blk (Run.reg (X.mv ?_)))
   refine X.ad ?_
   refine X.an ?_
   refine R.castS (t:=3) (.own 448 ((setL a10 z9 v14).map A0d).length) (by rfl) (.inl (by first | rfl | simp [setL])) ?_
   exact R.ag hag8 (n8 - 1) (z9+1,(setL a10 z9 v14)) (R.n3 (by first | (rw [hds8];exact h) | (dsimp only;rw [hds8];exact h)))
  rw [A0h hza8 hc13] at h
  rw [G0d] at h
  refine Run.exit (by rfl) ?_
  exact R.mt hmeet4 a10 (Option.some.inj h)
 rintro p16 rfl
 refine Run.sr (X.mv ?_)
 refine X.an ?_
 cases h
 refine R.pubObj (n:=448) (by rfl) ?_
 exact R.finM1o Tryz.results20 (by rfl) (by rfl) (by first | rfl | simp [setL] | omega) (by rfl) (by repeat (first | exact trivial | refine ⟨by rfl,?_⟩)) rfl
theorem L1w (b0:TLink)(r:TLink)(h:Y0f b0=some r):PC Tryz.prog 50 [A0l b0] (A0l r):=by
 unfold Y0f at h
 refine PC.start Tryz.func50 Tryz.ntmps50 rfl (by kernel_rfl) rfl ?_
 refine Run.sr (X.bx ?_)
 refine X.alloc zer75 (h:=?_)
 refine X.nil (Run.sr (X.alloc zer75 (h:=?_)))
 refine X.nil (Run.sr (X.fl S1q ?_))
 refine X.ld shp3 ?_
 refine X.fl J0y ?_
 refine X.sl shp3 ?_
 refine X.nil (Run.sr (X.fl T1a ?_))
 refine X.ld shp3 ?_
 refine X.fl L0o ?_
 refine X.sl shp3 ?_
 refine X.nil (Run.sr (X.fl T1c ?_))
 refine X.ld shp4 ?_
 refine X.fl C1h ?_
 refine X.sl shp4 ?_
 refine X.nil (Run.sr (X.fl S1v ?_))
 refine X.ld shp3 ?_
 refine X.fl T0l ?_
 refine X.sl shp3 ?_
 refine X.nil (Run.sr (X.ld shp75 ?_))
 refine X.sl shp75 ?_
 refine X.nil ?_
 cases h
 refine R.finC Tryz.results50 shp75 (by rfl) (by rfl) (by rfl) (by rfl) (by repeat (first | trivial | refine ⟨by first | rfl | simp [setL],?_⟩)) ?_
 rfl
theorem K1k (b0:List TLink)(r:List TLink)(h:X0u b0=some r):PCM Tryz.prog 21 [.yng 63 (.slice (b0.map A0l))] [(63,.yreg false false)] (.fresh false 75 4 (r.map A0l)) [(63,.yreg false false)]:=by
 unfold X0u at h
 refine PCM.start Tryz.func21 Tryz.ntmps21 rfl (by kernel_rfl) rfl (by rfl) (by rfl) (by rfl) (by rfl) (by rfl) ?_
 refine Run.sr (X.an ?_)
 refine Run.sr (X.mv ?_)
 refine X.lenY false 63 elt23 (by rfl) (by exact List.length_map ..) (by rfl) ?_
 obtain ⟨v1,hv1,h⟩:=bindE h
 refine X.makeSlice2 A0l hv1 elt31 zer75 (by rfl) (by rfl) (by rfl) (by simp [PV.plain]) (by rfl) (by rfl) (by rfl) (by rfl) (by rfl) (by rfl) ?_
 refine X.an ?_
 refine Run.seq (Run.sr (X.an ?_))
 obtain ⟨o2,ho2,h⟩:=bindE h
 refine R.join2 (β:=(List TLink)) [] [(63,.yreg false false)] (fun p16 S=>(3,.own 448 (p16.map A0l).length)::S) (fun p16 M=>(448,.obj true 75 4 (p16.map A0l))::M) (fun p16=>p16=o2) ?_ ?_
 ·intro JJ5 hmeet4
  have hup3:=h;clear h;have h:=ho2;clear ho2
  refine Run.block ?_
  refine R.bndY false 63 (t:=0) (by rfl) (fun hbd8=>?_)
  replace hbd8:b0.length≤9223372036854775807:=by first | (rw [List.length_map] at hbd8;exact hbd8) | simp
  refine R.lp (β:=Int×(List TLink)) [(0,.yng 63 (.slice (b0.map A0l)))] [(63,.yreg false false)] (fun bb S=>(3,.own 448 (bb.2.map A0l).length)::(4,int bb.1)::S) (fun bb M=>(448,.obj true 75 4 (bb.2.map A0l))::M) (fun n bb=>0≤bb.1∧bb.1+n=(b0.length:Int)∧K0s (b0.drop bb.1.toNat) bb.1 bb.2=some o2) b0.length (0,v1) ⟨Int.le_refl _,by simp,h⟩ ?_
  clear h
  rintro JJ8 n8 ⟨z9,a10⟩ hag8 ⟨hza8,hzb8,h⟩
  dsimp only at hza8 hzb8 h
  refine Run.seq (Run.sr (X.mv ?_))
  refine X.mv ?_
  refine X.lenY false 63 elt23 (by rfl) (by exact List.length_map ..) (by rfl) ?_
  refine X.bi ?_
  refine X.nil ?_
  refine R.cd (fun hc13=>?_) (fun hc13=>?_)
  ·obtain ⟨x11,xs12,hd8,hx8,hds8,hlt8⟩:=A0k hza8 hc13
   rw [hd8] at h
   rw [K0s] at h
   refine Run.skip (Run.seq (Run.block (Run.reg (X.mv ?_))))
   refine X.mv ?_
   refine X.mv ?_
   refine X.mv ?_
   refine X.indexY false 63 elt23 (by rfl) (by rfl) (A0a hx8).1 (A0c A0l hx8) (by rfl) (by rfl) ?_
   refine X.loadY false 63 shp89 (by rfl) (by rfl) (by rfl) (by rfl) ?_
   obtain ⟨v14,hv14,h⟩:=bindE h
   refine X.callA (L1w _ _ hv14) (by rfl) (by rfl) (by rfl) (by trivial) (by rfl) (by rfl) (by rfl) (by rfl) (by rfl) (by rfl) ?_
   obtain ⟨v15,hv15,h⟩:=bindE h
   refine X.index_xs elt31 (by rfl) (by rfl) (by first | rfl | simp [setL] | omega) (by rfl) (by exact (Int.toNat_of_nonneg (A0a hv15).1).symm) (by have:=A0t hv15;first | exact this | (rw [List.length_map];exact this)) (by rfl) (by rfl) ?_
   refine X.store_es shp75 (by rfl) (by rfl) (by first | rfl | simp [setL] | omega) (A0c _ hv15) (by rfl) (by rfl) (by repeat (first | trivial | refine ⟨by first | rfl | simp [setL],?_⟩)) (by rfl) (by rfl) (by rfl) (by rfl) (by exact D0e _ _ _ v14) ?_
   refine X.nil (Run.blk (Run.reg (X.mv ?_)))
   refine X.ad ?_
   refine X.an ?_
   refine R.castS (t:=3) (.own 448 ((setL a10 z9 v14).map A0l).length) (by rfl) (.inl (by first | rfl | simp [setL])) ?_
   exact R.ag hag8 (n8 - 1) (z9+1,(setL a10 z9 v14)) (R.n3 (by first | (rw [hds8];exact h) | (dsimp only;rw [hds8];exact h)))
  rw [A0h hza8 hc13] at h
  rw [K0s] at h
  refine Run.exit (by rfl) ?_
  exact R.mt hmeet4 a10 (Option.some.inj h)
 rintro p16 rfl
 refine Run.sr (X.mv ?_)
 refine X.an ?_
 cases h
 refine R.pubObj (n:=448) (by rfl) ?_
 exact R.finM1o Tryz.results21 (by rfl) (by rfl) (by first | rfl | simp [setL] | omega) (by rfl) (by repeat (first | exact trivial | refine ⟨by rfl,?_⟩)) rfl
theorem L1j (b0:TStep)(r:TStep)(h:Z0t b0=some r):PC Tryz.prog 126 [B0e b0] (B0e r):=by
 unfold Z0t at h
 refine PC.start Tryz.func126 Tryz.ntmps126 rfl (by kernel_rfl) rfl ?_
 refine Run.sr (X.bx ?_)
 refine X.alloc D1x (h:=?_)
 refine X.nil (Run.sr (X.alloc D1x (h:=?_)))
 refine X.nil (Run.sr (X.fl R1e ?_))
 refine X.ld shp3 ?_
 refine X.fl J0w ?_
 refine X.sl shp3 ?_
 refine X.nil (Run.sr (X.fl R1g ?_))
 refine X.ld shp3 ?_
 refine X.fl T0w ?_
 refine X.sl shp3 ?_
 refine X.nil (Run.sr (X.ld S0e ?_))
 refine X.sl S0e ?_
 refine X.nil ?_
 cases h
 refine R.finC Tryz.results126 S0e (by rfl) (by rfl) (by rfl) (by rfl) (by repeat (first | trivial | refine ⟨by first | rfl | simp [setL],?_⟩)) ?_
 rfl
theorem K1g (b0:List TStep)(r:List TStep)(h:X0s b0=some r):PCM Tryz.prog 88 [.yng 63 (.slice (b0.map B0e))] [(63,.yreg false false)] (.fresh false 142 2 (r.map B0e)) [(63,.yreg false false)]:=by
 unfold X0s at h
 refine PCM.start Tryz.func88 Tryz.ntmps88 rfl (by kernel_rfl) rfl (by rfl) (by rfl) (by rfl) (by rfl) (by rfl) ?_
 refine Run.sr (X.an ?_)
 refine Run.sr (X.mv ?_)
 refine X.lenY false 63 elt60 (by rfl) (by exact List.length_map ..) (by rfl) ?_
 obtain ⟨v1,hv1,h⟩:=bindE h
 refine X.makeSlice2 B0e hv1 elt70 D1x (by rfl) (by rfl) (by rfl) (by simp [PV.plain]) (by rfl) (by rfl) (by rfl) (by rfl) (by rfl) (by rfl) ?_
 refine X.an ?_
 refine Run.seq (Run.sr (X.an ?_))
 obtain ⟨o2,ho2,h⟩:=bindE h
 refine R.join2 (β:=(List TStep)) [] [(63,.yreg false false)] (fun p16 S=>(3,.own 448 (p16.map B0e).length)::S) (fun p16 M=>(448,.obj true 142 2 (p16.map B0e))::M) (fun p16=>p16=o2) ?_ ?_
 ·intro JJ5 hmeet4
  have hup3:=h;clear h;have h:=ho2;clear ho2
  refine Run.block ?_
  refine R.bndY false 63 (t:=0) (by rfl) (fun hbd8=>?_)
  replace hbd8:b0.length≤9223372036854775807:=by first | (rw [List.length_map] at hbd8;exact hbd8) | simp
  refine R.lp (β:=Int×(List TStep)) [(0,.yng 63 (.slice (b0.map B0e)))] [(63,.yreg false false)] (fun bb S=>(3,.own 448 (bb.2.map B0e).length)::(4,int bb.1)::S) (fun bb M=>(448,.obj true 142 2 (bb.2.map B0e))::M) (fun n bb=>0≤bb.1∧bb.1+n=(b0.length:Int)∧K0t (b0.drop bb.1.toNat) bb.1 bb.2=some o2) b0.length (0,v1) ⟨Int.le_refl _,by simp,h⟩ ?_
  clear h
  rintro JJ8 n8 ⟨z9,a10⟩ hag8 ⟨hza8,hzb8,h⟩
  dsimp only at hza8 hzb8 h
  refine Run.seq (Run.sr (X.mv ?_))
  refine X.mv ?_
  refine X.lenY false 63 elt60 (by rfl) (by exact List.length_map ..) (by rfl) ?_
  refine X.bi ?_
  refine X.nil ?_
  refine R.cd (fun hc13=>?_) (fun hc13=>?_)
  ·obtain ⟨x11,xs12,hd8,hx8,hds8,hlt8⟩:=A0k hza8 hc13
   rw [hd8] at h
   rw [K0t] at h
   refine Run.skip (Run.seq (Run.block (Run.reg (X.mv ?_))))
   refine X.mv ?_
   refine X.mv ?_
   refine X.mv ?_
   refine X.indexY false 63 elt60 (by rfl) (by rfl) (A0a hx8).1 (A0c B0e hx8) (by rfl) (by rfl) ?_
   refine X.loadY false 63 T1q (by rfl) (by rfl) (by rfl) (by rfl) ?_
   obtain ⟨v14,hv14,h⟩:=bindE h
   refine X.callA (L1j _ _ hv14) (by rfl) (by rfl) (by rfl) (by trivial) (by rfl) (by rfl) (by rfl) (by rfl) (by rfl) (by rfl) ?_
   obtain ⟨v15,hv15,h⟩:=bindE h
   refine X.index_xs elt70 (by rfl) (by rfl) (by first | rfl | simp [setL] | omega) (by rfl) (by exact (Int.toNat_of_nonneg (A0a hv15).1).symm) (by have:=A0t hv15;first | exact this | (rw [List.length_map];exact this)) (by rfl) (by rfl) ?_
   refine X.store_es S0e (by rfl) (by rfl) (by first | rfl | simp [setL] | omega) (A0c _ hv15) (by rfl) (by rfl) (by repeat (first | trivial | refine ⟨by first | rfl | simp [setL],?_⟩)) (by rfl) (by rfl) (by rfl) (by rfl) (by exact D0e _ _ _ v14) ?_
   refine X.nil (Run.blk (Run.reg (X.mv ?_)))
   refine X.ad ?_
   refine X.an ?_
   refine R.castS (t:=3) (.own 448 ((setL a10 z9 v14).map B0e).length) (by rfl) (.inl (by first | rfl | simp [setL])) ?_
   exact R.ag hag8 (n8 - 1) (z9+1,(setL a10 z9 v14)) (R.n3 (by first | (rw [hds8];exact h) | (dsimp only;rw [hds8];exact h)))
  rw [A0h hza8 hc13] at h
  rw [K0t] at h
  refine Run.exit (by rfl) ?_
  exact R.mt hmeet4 a10 (Option.some.inj h)
 rintro p16 rfl
 refine Run.sr (X.mv ?_)
 refine X.an ?_
 cases h
 refine R.pubObj (n:=448) (by rfl) ?_
 exact R.finM1o Tryz.results88 (by rfl) (by rfl) (by first | rfl | simp [setL] | omega) (by rfl) (by repeat (first | exact trivial | refine ⟨by rfl,?_⟩)) rfl
theorem H1k (b0:List (List Int))(r:List (List Int))(h:X0q b0=some r):PCM Tryz.prog 89 [.yng 63 (.slice (b0.map l_int))] [(63,.yreg false false)] (.fresh false 25 1 (r.map l_int)) [(63,.yreg false false)]:=by
 unfold X0q at h
 refine PCM.start Tryz.func89 Tryz.ntmps89 rfl (by kernel_rfl) rfl (by rfl) (by rfl) (by rfl) (by rfl) (by rfl) ?_
 refine Run.sr (X.an ?_)
 refine Run.sr (X.mv ?_)
 refine X.lenY false 63 elt61 (by rfl) (by exact List.length_map ..) (by rfl) ?_
 obtain ⟨v1,hv1,h⟩:=bindE h
 refine X.makeSlice2 l_int hv1 elt61 zer25 (by rfl) (by rfl) (by rfl) (by simp [PV.plain]) (by rfl) (by rfl) (by rfl) (by rfl) (by rfl) (by rfl) ?_
 refine X.an ?_
 refine Run.seq (Run.sr (X.an ?_))
 obtain ⟨o2,ho2,h⟩:=bindE h
 refine R.join2 (β:=(List (List Int))) [] [(63,.yreg false false)] (fun p16 S=>(3,.own 448 (p16.map l_int).length)::S) (fun p16 M=>(448,.obj true 25 1 (p16.map l_int))::M) (fun p16=>p16=o2) ?_ ?_
 ·intro JJ5 hmeet4
  have hup3:=h;clear h;have h:=ho2;clear ho2
  refine Run.block ?_
  refine R.bndY false 63 (t:=0) (by rfl) (fun hbd8=>?_)
  replace hbd8:b0.length≤9223372036854775807:=by first | (rw [List.length_map] at hbd8;exact hbd8) | simp
  refine R.lp (β:=Int×(List (List Int))) [(0,.yng 63 (.slice (b0.map l_int)))] [(63,.yreg false false)] (fun bb S=>(3,.own 448 (bb.2.map l_int).length)::(4,int bb.1)::S) (fun bb M=>(448,.obj true 25 1 (bb.2.map l_int))::M) (fun n bb=>0≤bb.1∧bb.1+n=(b0.length:Int)∧L0f (b0.drop bb.1.toNat) bb.1 bb.2=some o2) b0.length (0,v1) ⟨Int.le_refl _,by simp,h⟩ ?_
  clear h
  rintro JJ8 n8 ⟨z9,a10⟩ hag8 ⟨hza8,hzb8,h⟩
  dsimp only at hza8 hzb8 h
  refine Run.seq (Run.sr (X.mv ?_))
  refine X.mv ?_
  refine X.lenY false 63 elt61 (by rfl) (by exact List.length_map ..) (by rfl) ?_
  refine X.bi ?_
  refine X.nil ?_
  refine R.cd (fun hc13=>?_) (fun hc13=>?_)
  ·obtain ⟨x11,xs12,hd8,hx8,hds8,hlt8⟩:=A0k hza8 hc13
   rw [hd8] at h
   rw [L0f] at h
   refine Run.skip (Run.seq (Run.block (Run.reg (X.mv ?_))))
   refine X.mv ?_
   refine X.mv ?_
   refine X.mv ?_
   refine X.indexY false 63 elt61 (by rfl) (by rfl) (A0a hx8).1 (A0c l_int hx8) (by rfl) (by rfl) ?_
   refine X.loadY false 63 shp25 (by rfl) (by rfl) (by rfl) (by rfl) ?_
   obtain ⟨v14,hv14,h⟩:=bindE h
   refine X.callM [(63,63)] (U0j _ _ hv14) (by rfl) (by rfl) (.yngB 63 (by rfl) (by rfl) .nil) (by rfl) ⟨rfl,rfl,⟨_,by rfl,by constructor⟩,by constructor,trivial⟩ (by rfl) (by rfl) (by rfl) (by rfl) (by rfl) (by rfl) (by rfl) (by rfl) (by rfl) ?_
   obtain ⟨v15,hv15,h⟩:=bindE h
   refine X.index_xs elt61 (by rfl) (by rfl) (by first | rfl | simp [setL] | omega) (by rfl) (by exact (Int.toNat_of_nonneg (A0a hv15).1).symm) (by have:=A0t hv15;first | exact this | (rw [List.length_map];exact this)) (by rfl) (by rfl) ?_
   refine X.store_es shp25 (by rfl) (by rfl) (by first | rfl | simp [setL] | omega) (A0c _ hv15) (by rfl) (by rfl) (by repeat (first | trivial | refine ⟨by first | rfl | simp [setL],?_⟩)) (by rfl) (by rfl) (by rfl) (by rfl) (by exact D0e _ _ _ v14) ?_
   refine X.nil (Run.blk (Run.reg (X.mv ?_)))
   refine X.ad ?_
   refine X.an ?_
   refine R.castS (t:=3) (.own 448 ((setL a10 z9 v14).map l_int).length) (by rfl) (.inl (by first | rfl | simp [setL])) ?_
   exact R.ag hag8 (n8 - 1) (z9+1,(setL a10 z9 v14)) (R.n3 (by first | (rw [hds8];exact h) | (dsimp only;rw [hds8];exact h)))
  rw [A0h hza8 hc13] at h
  rw [L0f] at h
  refine Run.exit (by rfl) ?_
  exact R.mt hmeet4 a10 (Option.some.inj h)
 rintro p16 rfl
 refine Run.sr (X.mv ?_)
 refine X.an ?_
 cases h
 refine R.pubObj (n:=448) (by rfl) ?_
 exact R.finM1o Tryz.results89 (by rfl) (by rfl) (by first | rfl | simp [setL] | omega) (by rfl) (by repeat (first | exact trivial | refine ⟨by rfl,?_⟩)) rfl
theorem C1t (b0:A0q)(r:A0q)(h:P0k b0=some r):PCM Tryz.prog 51 [.agg [.yng 63 (.slice (b0.Steps.map B0e)),.yng 63 (.slice (b0.Setup.map l_int))]] [(63,.yreg false false)] (.agg [.fresh false 142 2 (r.Steps.map B0e),.fresh false 25 1 (r.Setup.map l_int)]) [(63,.yreg false false)]:=by
 unfold P0k at h
 refine PCM.start Tryz.func51 Tryz.ntmps51 rfl (by kernel_rfl) rfl (by rfl) (by rfl) (by rfl) (by rfl) (by rfl) ?_
 refine Run.sr (X.bx ?_)
 refine X.alloc zer72 (h:=?_)
 refine X.nil (Run.sr (X.alloc zer72 (h:=?_)))
 refine X.nil (Run.sr (X.fl Q1i ?_))
 refine X.ld shp60 ?_
 obtain ⟨v1,hv1,h⟩:=bindE h
 refine X.callM [(63,63)] (K1g _ _ hv1) (by rfl) (by rfl) (.yngB 63 (by rfl) (by rfl) .nil) (by rfl) ⟨rfl,rfl,⟨_,by rfl,by constructor⟩,by constructor,trivial⟩ (by rfl) (by rfl) (by rfl) (by rfl) (by rfl) (by rfl) (by rfl) (by rfl) (by rfl) ?_
 refine X.fl X0g ?_
 refine X.sl shp70 ?_
 refine X.nil (Run.sr (X.fl Q1m ?_))
 refine X.ld shp61 ?_
 obtain ⟨v2,hv2,h⟩:=bindE h
 refine X.callM [(63,63)] (H1k _ _ hv2) (by rfl) (by rfl) (.yngB 63 (by rfl) (by rfl) .nil) (by rfl) ⟨rfl,rfl,⟨_,by rfl,by constructor⟩,by constructor,trivial⟩ (by rfl) (by rfl) (by rfl) (by rfl) (by rfl) (by rfl) (by rfl) (by rfl) (by rfl) ?_
 refine X.fl N0z ?_
 refine X.sl shp61 ?_
 refine X.nil (Run.sr (X.ld shp72 ?_))
 refine X.sl shp72 ?_
 refine X.nil ?_
 cases h
 exact R.finMC Tryz.results51 shp72 (by rfl) (by rfl) (by rfl) (by rfl) (by repeat (first | trivial | refine ⟨by first | rfl | simp [setL],?_⟩)) (by rfl) (by repeat (first | exact trivial | refine ⟨by rfl,?_⟩)) rfl
theorem B1r (b0:List A0q)(r:List A0q)(h:Q0r b0=some r):PCM Tryz.prog 22 [.yng 63 (.slice (b0.map A0e))] [(63,.yreg false false)] (.fresh false 72 2 (r.map A0e)) [(63,.yreg false false)]:=by
 unfold Q0r at h
 refine PCM.start Tryz.func22 Tryz.ntmps22 rfl (by kernel_rfl) rfl (by rfl) (by rfl) (by rfl) (by rfl) (by rfl) ?_
 refine Run.sr (X.an ?_)
 refine Run.sr (X.mv ?_)
 refine X.lenY false 63 elt24 (by rfl) (by exact List.length_map ..) (by rfl) ?_
 obtain ⟨v1,hv1,h⟩:=bindE h
 refine X.makeSlice2 A0e hv1 elt32 zer72 (by rfl) (by rfl) (by rfl) (by simp [PV.plain]) (by rfl) (by rfl) (by rfl) (by rfl) (by rfl) (by rfl) ?_
 refine X.an ?_
 refine Run.seq (Run.sr (X.an ?_))
 obtain ⟨o2,ho2,h⟩:=bindE h
 refine R.join2 (β:=(List A0q)) [] [(63,.yreg false false)] (fun p16 S=>(3,.own 448 (p16.map A0e).length)::S) (fun p16 M=>(448,.obj true 72 2 (p16.map A0e))::M) (fun p16=>p16=o2) ?_ ?_
 ·intro JJ5 hmeet4
  have hup3:=h;clear h;have h:=ho2;clear ho2
  refine Run.block ?_
  refine R.bndY false 63 (t:=0) (by rfl) (fun hbd8=>?_)
  replace hbd8:b0.length≤9223372036854775807:=by first | (rw [List.length_map] at hbd8;exact hbd8) | simp
  refine R.lp (β:=Int×(List A0q)) [(0,.yng 63 (.slice (b0.map A0e)))] [(63,.yreg false false)] (fun bb S=>(3,.own 448 (bb.2.map A0e).length)::(4,int bb.1)::S) (fun bb M=>(448,.obj true 72 2 (bb.2.map A0e))::M) (fun n bb=>0≤bb.1∧bb.1+n=(b0.length:Int)∧F0z (b0.drop bb.1.toNat) bb.1 bb.2=some o2) b0.length (0,v1) ⟨Int.le_refl _,by simp,h⟩ ?_
  clear h
  rintro JJ8 n8 ⟨z9,a10⟩ hag8 ⟨hza8,hzb8,h⟩
  dsimp only at hza8 hzb8 h
  refine Run.seq (Run.sr (X.mv ?_))
  refine X.mv ?_
  refine X.lenY false 63 elt24 (by rfl) (by exact List.length_map ..) (by rfl) ?_
  refine X.bi ?_
  refine X.nil ?_
  refine R.cd (fun hc13=>?_) (fun hc13=>?_)
  ·obtain ⟨x11,xs12,hd8,hx8,hds8,hlt8⟩:=A0k hza8 hc13
   rw [hd8] at h
   rw [F0z] at h
   refine Run.skip (Run.seq (Run.block (Run.reg (X.mv ?_))))
   refine X.mv ?_
   refine X.mv ?_
   refine X.mv ?_
   refine X.indexY false 63 elt24 (by rfl) (by rfl) (A0a hx8).1 (A0c A0e hx8) (by rfl) (by rfl) ?_
   refine X.loadY false 63 shp63 (by rfl) (by rfl) (by rfl) (by rfl) ?_
   obtain ⟨v14,hv14,h⟩:=bindE h
   refine X.callM [(63,63)] (C1t _ _ hv14) (by rfl) (by rfl) (.agg _ _ _ _ _ _ (.yngB 63 (by rfl) (by rfl) (.yngB 63 (by rfl) (by rfl) .nil)) .nil) (by rfl) ⟨rfl,rfl,⟨_,by rfl,by constructor⟩,by constructor,trivial⟩ (by rfl) (by rfl) (by rfl) (by rfl) (by rfl) (by rfl) (by rfl) (by rfl) (by rfl) ?_
   obtain ⟨v15,hv15,h⟩:=bindE h
   refine X.index_xs elt32 (by rfl) (by rfl) (by first | rfl | simp [setL] | omega) (by rfl) (by exact (Int.toNat_of_nonneg (A0a hv15).1).symm) (by have:=A0t hv15;first | exact this | (rw [List.length_map];exact this)) (by rfl) (by rfl) ?_
   refine X.store_es shp72 (by rfl) (by rfl) (by first | rfl | simp [setL] | omega) (A0c _ hv15) (by rfl) (by rfl) (by repeat (first | trivial | refine ⟨by first | rfl | simp [setL],?_⟩)) (by rfl) (by rfl) (by rfl) (by rfl) (by exact D0e _ _ _ v14) ?_
   refine X.nil (Run.blk (Run.reg (X.mv ?_)))
   refine X.ad ?_
   refine X.an ?_
   refine R.castS (t:=3) (.own 448 ((setL a10 z9 v14).map A0e).length) (by rfl) (.inl (by first | rfl | simp [setL])) ?_
   exact R.ag hag8 (n8 - 1) (z9+1,(setL a10 z9 v14)) (R.n3 (by first | (rw [hds8];exact h) | (dsimp only;rw [hds8];exact h)))
  rw [A0h hza8 hc13] at h
  rw [F0z] at h
  refine Run.exit (by rfl) ?_
  exact R.mt hmeet4 a10 (Option.some.inj h)
 rintro p16 rfl
 refine Run.sr (X.mv ?_)
 refine X.an ?_
 cases h
 refine R.pubObj (n:=448) (by rfl) ?_
 exact R.finM1o Tryz.results22 (by rfl) (by rfl) (by first | rfl | simp [setL] | omega) (by rfl) (by repeat (first | exact trivial | refine ⟨by rfl,?_⟩)) rfl
theorem S0q (b0:A0b)(r:A0b)(h:M0r b0=some r):PCM Tryz.prog 6 [.agg [int b0.Deadline,.yng 63 (.slice (b0.Activities.map A0d)),.yng 63 (.slice (b0.Links.map A0l)),.yng 63 (.slice (b0.Resources.map A0e)),.yng 63 (.slice (b0.Stocks.map int))]] [(63,.yreg false false)] (.agg [int r.Deadline,.fresh false 67 3 (r.Activities.map A0d),.fresh false 75 4 (r.Links.map A0l),.fresh false 72 2 (r.Resources.map A0e),.fresh false 3 1 (r.Stocks.map int)]) [(63,.yreg false false)]:=by
 unfold M0r at h
 refine PCM.start Tryz.func6 Tryz.ntmps6 rfl (by kernel_rfl) rfl (by rfl) (by rfl) (by rfl) (by rfl) (by rfl) ?_
 refine Run.sr (X.bx ?_)
 refine X.alloc zer34 (h:=?_)
 refine X.nil (Run.sr (X.alloc zer34 (h:=?_)))
 refine X.nil (Run.sr (X.fl T1b ?_))
 refine X.ld shp3 ?_
 refine X.fl W0y ?_
 refine X.sl shp3 ?_
 refine X.nil (Run.sr (X.fl Q1s ?_))
 refine X.ld shp22 ?_
 obtain ⟨v1,hv1,h⟩:=bindE h
 refine X.callM [(63,63)] (B1g _ _ hv1) (by rfl) (by rfl) (.yngB 63 (by rfl) (by rfl) .nil) (by rfl) ⟨rfl,rfl,⟨_,by rfl,by constructor⟩,by constructor,trivial⟩ (by rfl) (by rfl) (by rfl) (by rfl) (by rfl) (by rfl) (by rfl) (by rfl) (by rfl) ?_
 refine X.fl B0l ?_
 refine X.sl shp30 ?_
 refine X.nil (Run.sr (X.fl Q1t ?_))
 refine X.ld shp23 ?_
 obtain ⟨v2,hv2,h⟩:=bindE h
 refine X.callM [(63,63)] (K1k _ _ hv2) (by rfl) (by rfl) (.yngB 63 (by rfl) (by rfl) .nil) (by rfl) ⟨rfl,rfl,⟨_,by rfl,by constructor⟩,by constructor,trivial⟩ (by rfl) (by rfl) (by rfl) (by rfl) (by rfl) (by rfl) (by rfl) (by rfl) (by rfl) ?_
 refine X.fl J0h ?_
 refine X.sl shp31 ?_
 refine X.nil (Run.sr (X.fl P1d ?_))
 refine X.ld shp24 ?_
 obtain ⟨v3,hv3,h⟩:=bindE h
 refine X.callM [(63,63)] (B1r _ _ hv3) (by rfl) (by rfl) (.yngB 63 (by rfl) (by rfl) .nil) (by rfl) ⟨rfl,rfl,⟨_,by rfl,by constructor⟩,by constructor,trivial⟩ (by rfl) (by rfl) (by rfl) (by rfl) (by rfl) (by rfl) (by rfl) (by rfl) (by rfl) ?_
 refine X.fl H0o ?_
 refine X.sl shp32 ?_
 refine X.nil (Run.sr (X.fl P1x ?_))
 refine X.ld shp25 ?_
 obtain ⟨v4,hv4,h⟩:=bindE h
 refine X.callM [(63,63)] (U0j _ _ hv4) (by rfl) (by rfl) (.yngB 63 (by rfl) (by rfl) .nil) (by rfl) ⟨rfl,rfl,⟨_,by rfl,by constructor⟩,by constructor,trivial⟩ (by rfl) (by rfl) (by rfl) (by rfl) (by rfl) (by rfl) (by rfl) (by rfl) (by rfl) ?_
 refine X.fl T0n ?_
 refine X.sl shp25 ?_
 refine X.nil (Run.sr (X.ld shp34 ?_))
 refine X.sl shp34 ?_
 refine X.nil ?_
 cases h
 exact R.finMC Tryz.results6 shp34 (by rfl) (by rfl) (by rfl) (by rfl) (by repeat (first | trivial | refine ⟨by first | rfl | simp [setL],?_⟩)) (by rfl) (by repeat (first | exact trivial | refine ⟨by rfl,?_⟩)) rfl
theorem B0u (b0:Int)(b1:Int)(b2:Int)(r:Bool)(h:C0v b0 b1 b2=some r):PC Tryz.prog 37 [int b0,int b1,int b2] (bool r):=by
 unfold C0v at h
 refine PC.start Tryz.func37 Tryz.ntmps37 rfl (by kernel_rfl) rfl ?_
 refine Run.sr (X.an ?_)
 refine Run.seq ?_
 obtain ⟨e1,he1,h2⟩:=bindE h
 refine R.regG [(6,bool e1)] [] ?_ ?_
 ·clear h;have h:=he1;clear he1 h2
  refine X.mv ?_
  refine X.mv ?_
  refine X.bi ?_
  refine X.mv ?_
  refine X.iG (fun hb2=>?_) (fun hb2=>?_)
  ·replace h:=condT hb2 h
   refine X.mv ?_
   refine X.gy (X.mv ?_)
   refine X.gy (X.bi ?_)
   refine X.pT ?_
   refine X.as ?_
   cases h
   exact X.eG
  replace h:=condF hb2 h
  refine X.gn (X.gn (X.pF ?_))
  refine X.as ?_
  cases h
  exact X.eG
 replace h:=h2;clear h2
 cases h
 refine R.f1 Tryz.results37 ?_
 rfl
theorem B1a (b0:List Int)(b1:Int)(r:Bool)(h:N0h b0 b1=some r):PC Tryz.prog 116 [.slice (b0.map int),int b1] (bool r):=by
 unfold N0h at h
 refine PC.start Tryz.func116 Tryz.ntmps116 rfl (by kernel_rfl) rfl ?_
 refine Run.sr (X.an ?_)
 refine Run.seq (Run.sr (X.mv ?_))
 refine X.ls elt25 ?_
 refine X.mn ?_
 obtain ⟨o1,ho1,h⟩:=bindE h
 refine R.join2 (β:=Unit) [(0,.slice (b0.map int)),(1,int b1)] [] (fun p14 S=>S) (fun p14 M=>M) (fun p14=>(Sum.inl p14)=o1) ?_ ?_
 ·intro JJ4 hmeet3
  have hup2:=h;clear h;have h:=ho1;clear ho1
  refine Run.block ?_
  refine R.bndS (t:=0) (by rfl) (fun hbd7=>?_)
  replace hbd7:b0.length≤9223372036854775807:=by first | (rw [List.length_map] at hbd7;exact hbd7) | simp
  refine R.lp (β:=Int) [(0,.slice (b0.map int)),(1,int b1),(7,.slice (b0.map int)),(8,int (b0.length:Int))] [] (fun bb S=>(9,int bb)::S) (fun bb M=>M) (fun n bb=>0≤bb∧bb+n=(b0.length:Int)∧H0k (b0.drop bb.toNat) bb=some o1) b0.length (0:Int) ⟨Int.le_refl _,by simp,h⟩ ?_
  clear h
  rintro JJ7 n7 z8 hag7 ⟨hza7,hzb7,h⟩
  refine Run.sr (X.bi ?_)
  refine X.nil (Run.seq ?_)
  refine R.cd (fun hc11=>?_) (fun hc11=>?_)
  ·obtain ⟨x9,xs10,hd7,hx7,hds7,hlt7⟩:=A0k hza7 hc11
   rw [hd7] at h
   rw [H0k] at h
   refine Run.skip (Run.seq (Run.block (Run.sr (X.ix elt25 (A0a hx7).1 (A0c int hx7) ?_))))
   refine X.lc shp3 ?_
   refine X.an ?_
   refine Run.sr (X.mv ?_)
   obtain ⟨v12,hv12,h⟩:=bindE h
   refine X.cp (B0u _ _ _ _ hv12) ?_
   refine X.un (h:=?_)
   refine X.nil ?_
   refine R.cd (fun hc13=>?_) (fun hc13=>?_)
   ·replace h:=condT hc13 h
    refine Run.sr (X.an ?_)
    cases h
    have h:=hup2
    replace h:=elimR h
    cases h
    refine R.f1 Tryz.results116 ?_
    rfl
   replace h:=condF hc13 h
   refine Run.skip (Run.blk (Run.reg (X.ad ?_)))
   refine X.mn ?_
   exact R.ag hag7 (n7 - 1) (z8+1) (R.n3 (by first | (rw [hds7];exact h) | (dsimp only;rw [hds7];exact h)))
  rw [A0h hza7 hc11] at h
  rw [H0k] at h
  refine Run.exit (by rfl) ?_
  exact R.mt hmeet3 () (Option.some.inj h)
 rintro p14 rfl
 replace h:=elimL h
 refine Run.sr (X.mv ?_)
 refine X.ls elt25 ?_
 refine X.mv ?_
 refine X.bi ?_
 refine X.an ?_
 cases h
 refine R.f1 Tryz.results116 ?_
 rfl
theorem L1c (b0:TMode)(b1:Int)(b2:Int)(r:Bool)(h:Q0l b0 b1 b2=some r):PC Tryz.prog 76 [B0f b0,int b1,int b2] (bool r):=by
 unfold Q0l at h
 refine PC.start Tryz.func76 Tryz.ntmps76 rfl (by kernel_rfl) rfl ?_
 refine Run.sr (X.bx ?_)
 refine X.an ?_
 refine Run.seq ?_
 obtain ⟨v1,hv1,h⟩:=bindE h
 obtain ⟨e2,he2,h2⟩:=bindE h
 refine R.regG [(6,bool e2)] [] ?_ ?_
 ·clear h;have h:=he2;clear he2 h2
  refine X.fl N0k ?_
  refine X.ld shp3 ?_
  refine X.cp (B0u _ _ _ _ hv1) ?_
  refine X.mv ?_
  refine X.iG (fun hb3=>?_) (fun hb3=>?_)
  ·replace h:=condT hb3 h
   refine X.fl S0d ?_
   refine X.gy (X.ld shp25 ?_)
   refine X.gy (X.mv ?_)
   refine X.gy ?_
   obtain ⟨v4,hv4,h⟩:=bindE h
   refine X.cp (B1a _ _ _ hv4) ?_
   refine X.pT ?_
   refine X.mv ?_
   refine X.iG (fun hb5=>?_) (fun hb5=>?_)
   ·replace h:=condT hb5 h
    refine X.fl V0q ?_
    refine X.gy (X.ld shp25 ?_)
    refine X.gy (X.mv ?_)
    refine X.gy ?_
    obtain ⟨v6,hv6,h⟩:=bindE h
    refine X.cp (B1a _ _ _ hv6) ?_
    refine X.pT ?_
    refine X.as ?_
    cases h
    exact X.eG
   replace h:=condF hb5 h
   refine X.gn (X.gn (X.gn (X.pF ?_)))
   refine X.as ?_
   cases h
   exact X.eG
  replace h:=condF hb3 h
  refine X.gn (X.gn (X.gn (X.pF ?_)))
  refine X.mv ?_
  refine X.gn (X.gn (X.gn (X.gn (X.pF ?_))))
  refine X.as ?_
  cases h
  exact X.eG
 replace h:=h2;clear h2
 cases h
 refine R.f1 Tryz.results76 ?_
 rfl
theorem L1f (b0:ByteArray)(r:Bool)(h:S0g b0=some r):PC Tryz.prog 77 [str b0] (bool r):=by
 unfold S0g at h
 refine PC.start Tryz.func77 Tryz.ntmps77 rfl (by kernel_rfl) rfl ?_
 refine Run.sr (X.an ?_)
 refine Run.seq (Run.sr (X.an ?_))
 obtain ⟨o1,ho1,h⟩:=bindE h
 refine R.join2 (β:=Unit) [(0,str b0)] [] (fun p19 S=>S) (fun p19 M=>M) (fun p19=>(Sum.inl p19)=o1) ?_ ?_
 ·intro JJ4 hmeet3
  have hup2:=h;clear h;have h:=ho1;clear ho1
  refine Run.block ?_
  refine R.lp (β:=Int) [(0,str b0)] [] (fun bb S=>(3,int bb)::S) (fun bb M=>M) (fun n bb=>G0t b0 n bb=some o1) F0 0 h ?_
  clear h
  rintro JJ5 n5 a7 hag5 h
  obtain _ | n5:=n5
  ·exact absurd h (by simp [G0t])
  rw [G0t] at h
  refine Run.seq (Run.sr (X.mv ?_))
  refine X.mv ?_
  refine X.lenStr Tryz.underlying9 (by rfl) (by rfl) ?_
  refine X.bi ?_
  refine X.nil ?_
  refine R.cd (fun hc10=>?_) (fun hc10=>?_)
  ·replace h:=condT hc10 h
   refine Run.skip (Run.seq (Run.block (Run.seq ?_)))
   obtain ⟨v11,hv11,h⟩:=bindE h
   obtain ⟨e12,he12,h2⟩:=bindE h
   refine R.regG [(0,str b0),(3,int a7),(4,bool e12)] [] ?_ ?_
   ·clear h;have h:=he12;clear he12 h2
    refine X.mv ?_
    refine X.mv ?_
    refine X.indexStr2 hv11 Tryz.underlying9 (by rfl) (by rfl) (by rfl) ?_
    refine X.bi ?_
    refine X.mv ?_
    refine X.iG (fun hb13=>?_) (fun hb13=>?_)
    ·replace h:=condT hb13 h
     refine X.mv ?_
     refine X.gy (X.mv ?_)
     refine X.gy (X.indexStr2 hv11 Tryz.underlying9 (by rfl) (by rfl) (by rfl) ?_)
     refine X.gy (X.bi ?_)
     refine X.pT ?_
     refine X.as ?_
     cases h
     exact X.eG
    replace h:=condF hb13 h
    refine X.gn (X.gn (X.gn (X.pF ?_)))
    refine X.as ?_
    cases h
    exact X.eG
   replace h:=h2;clear h2
   refine Run.seq ?_
   obtain ⟨e14,he14,h2⟩:=bindE h
   refine R.regG [(0,str b0),(3,int a7),(38,bool e14)] [] ?_ ?_
   ·clear h;have h:=he14;clear he14 h2
    refine X.mv ?_
    refine X.un (h:=?_)
    refine X.mv ?_
    refine X.iG (fun hb15=>?_) (fun hb15=>?_)
    ·replace h:=condT hb15 h
     refine X.mv ?_
     refine X.gy (X.bi ?_)
     refine X.gy (X.mv ?_)
     refine X.iG (fun hb16=>?_) (fun hb16=>?_)
     ·replace h:=condF hb16 h
      refine X.mv ?_
      refine X.gy (X.mv ?_)
      refine X.gy (X.indexStr2 hv11 Tryz.underlying9 (by rfl) (by rfl) (by rfl) ?_)
      refine X.gy (X.bi ?_)
      refine X.gy (X.pF ?_)
      refine X.gy (X.mv ?_)
      refine X.iG (fun hb17=>?_) (fun hb17=>?_)
      ·replace h:=condF hb17 h
       refine X.mv ?_
       refine X.gy (X.mv ?_)
       refine X.gy (X.indexStr2 hv11 Tryz.underlying9 (by rfl) (by rfl) (by rfl) ?_)
       refine X.gy (X.bi ?_)
       refine X.gy (X.pF ?_)
       refine X.pT ?_
       cases h
       exact X.eG
      replace h:=condT hb17 h
      refine X.gn (X.gn (X.gn (X.gy (X.pT ?_))))
      refine X.pT ?_
      cases h
      exact X.eG
     replace h:=condT hb16 h
     refine X.gn (X.gn (X.gn (X.gy (X.pT ?_))))
     refine X.gy (X.mv ?_)
     refine X.gn (X.gn (X.gn (X.gn (X.gy (X.pT ?_)))))
     refine X.pT ?_
     cases h
     exact X.eG
    replace h:=condF hb15 h
    refine X.gn (X.gn (X.gU (h:=?_)))
    refine X.gU (h:=?_)
    refine X.gU (h:=?_)
    refine X.gU (h:=?_)
    refine X.gn (X.gn (X.gU (h:=?_)))
    refine X.gU (h:=?_)
    refine X.gU (h:=?_)
    refine X.gU (h:=?_)
    refine X.gn (X.pF ?_)
    cases h
    exact X.eG
   replace h:=h2;clear h2
   refine R.cd (fun hc18=>?_) (fun hc18=>?_)
   ·replace h:=condT hc18 h
    refine Run.sr (X.an ?_)
    cases h
    have h:=hup2
    replace h:=elimR h
    cases h
    refine R.f1 Tryz.results77 ?_
    rfl
   replace h:=condF hc18 h
   refine Run.skip (Run.blk (Run.reg (X.mv ?_)))
   refine X.addW (h:=?_)
   refine X.an ?_
   exact hag5 n5 (W (a7+1)) _ _ (by omega) h (by trivial) (by trivial) (by rfl) (by rfl)
  replace h:=condF hc10 h
  refine Run.exit (by rfl) ?_
  exact R.mt hmeet3 () (Option.some.inj h)
 rintro p19 rfl
 replace h:=elimL h
 refine Run.sr (X.mv ?_)
 refine X.lenStr Tryz.underlying9 (by rfl) (by rfl) ?_
 obtain ⟨v21,hv21,h⟩:=bindE h
 refine X.cp (B0u _ _ _ _ hv21) ?_
 refine X.an ?_
 cases h
 refine R.f1 Tryz.results77 ?_
 rfl
theorem D1n (b0:A0f)(b1:Int)(b2:Int)(r:Bool)(h:F0q b0 b1 b2=some r):PC Tryz.prog 38 [A0d b0,int b1,int b2] (bool r):=by
 unfold F0q at h
 refine PC.start Tryz.func38 Tryz.ntmps38 rfl (by kernel_rfl) rfl ?_
 refine Run.sr (X.bx ?_)
 refine X.an ?_
 refine Run.seq (Run.sr (X.fl Q0e ?_))
 refine X.ld shp65 ?_
 refine X.ls elt65 ?_
 refine X.mn ?_
 obtain ⟨o1,ho1,h⟩:=bindE h
 refine R.join2 (β:=Unit) [(3,.lptr 192 0)] [(192,.blk true [str b0.Name,int b0.Family,.slice (b0.Modes.map B0f)])] (fun p14 S=>S) (fun p14 M=>M) (fun p14=>(Sum.inl p14)=o1) ?_ ?_
 ·intro JJ4 hmeet3
  have hup2:=h;clear h;have h:=ho1;clear ho1
  refine Run.block ?_
  refine R.bndS (t:=10) (by rfl) (fun hbd7=>?_)
  replace hbd7:b0.Modes.length≤9223372036854775807:=by first | (rw [List.length_map] at hbd7;exact hbd7) | simp
  refine R.lp (β:=Int) [(1,int b1),(2,int b2),(3,.lptr 192 0),(10,.slice (b0.Modes.map B0f)),(11,int (b0.Modes.length:Int))] [(192,.blk true [str b0.Name,int b0.Family,.slice (b0.Modes.map B0f)])] (fun bb S=>(12,int bb)::S) (fun bb M=>M) (fun n bb=>0≤bb∧bb+n=(b0.Modes.length:Int)∧E0f b1 b2 (b0.Modes.drop bb.toNat) bb=some o1) b0.Modes.length (0:Int) ⟨Int.le_refl _,by simp,h⟩ ?_
  clear h
  rintro JJ7 n7 z8 hag7 ⟨hza7,hzb7,h⟩
  refine Run.sr (X.bi ?_)
  refine X.nil (Run.seq ?_)
  refine R.cd (fun hc11=>?_) (fun hc11=>?_)
  ·obtain ⟨x9,xs10,hd7,hx7,hds7,hlt7⟩:=A0k hza7 hc11
   rw [hd7] at h
   rw [E0f] at h
   refine Run.skip (Run.seq (Run.block (Run.sr (X.ix elt65 (A0a hx7).1 (A0c B0f hx7) ?_))))
   refine X.lc K0p ?_
   refine X.alloc S0x (h:=?_)
   refine X.sl K0p ?_
   refine X.nil (Run.sr (X.ld K0p ?_))
   refine X.mv ?_
   refine X.mv ?_
   obtain ⟨v12,hv12,h⟩:=bindE h
   refine X.cp (L1c _ _ _ _ hv12) ?_
   refine X.un (h:=?_)
   refine X.nil ?_
   refine R.cd (fun hc13=>?_) (fun hc13=>?_)
   ·replace h:=condT hc13 h
    refine Run.sr (X.an ?_)
    cases h
    have h:=hup2
    replace h:=elimR h
    cases h
    refine R.f1 Tryz.results38 ?_
    rfl
   replace h:=condF hc13 h
   refine Run.skip (Run.blk (Run.reg (X.ad ?_)))
   refine X.mn ?_
   exact R.ag hag7 (n7 - 1) (z8+1) (R.n3 (by first | (rw [hds7];exact h) | (dsimp only;rw [hds7];exact h)))
  rw [A0h hza7 hc11] at h
  rw [E0f] at h
  refine Run.exit (by rfl) ?_
  exact R.mt hmeet3 () (Option.some.inj h)
 rintro p14 rfl
 replace h:=elimL h
 refine Run.seq ?_
 obtain ⟨v16,hv16,h⟩:=bindE h
 obtain ⟨e17,he17,h2⟩:=bindE h
 refine R.regG [(6,bool e17)] [] ?_ ?_
 ·clear h;have h:=he17;clear he17 h2
  refine X.fl T0r ?_
  refine X.ld shp9 ?_
  refine X.cp (L1f _ _ hv16) ?_
  refine X.mv ?_
  refine X.iG (fun hb18=>?_) (fun hb18=>?_)
  ·replace h:=condT hb18 h
   refine X.fl T0u ?_
   refine X.gy (X.ld shp3 ?_)
   refine X.gy ?_
   obtain ⟨v19,hv19,h⟩:=bindE h
   refine X.cp (B0u _ _ _ _ hv19) ?_
   refine X.pT ?_
   refine X.mv ?_
   refine X.iG (fun hb20=>?_) (fun hb20=>?_)
   ·replace h:=condT hb20 h
    refine X.fl Q0e ?_
    refine X.gy (X.ld shp65 ?_)
    refine X.gy (X.ls elt65 ?_)
    refine X.gy ?_
    obtain ⟨v21,hv21,h⟩:=bindE h
    refine X.cp (B0u _ _ _ _ hv21) ?_
    refine X.pT ?_
    refine X.as ?_
    cases h
    exact X.eG
   replace h:=condF hb20 h
   refine X.gn (X.gn (X.gn (X.pF ?_)))
   refine X.as ?_
   cases h
   exact X.eG
  replace h:=condF hb18 h
  refine X.gn (X.gn (X.pF ?_))
  refine X.mv ?_
  refine X.gn (X.gn (X.gn (X.gn (X.pF ?_))))
  refine X.as ?_
  cases h
  exact X.eG
 replace h:=h2;clear h2
 cases h
 refine R.f1 Tryz.results38 ?_
 rfl
theorem X0w (b0:A0b)(b1:ByteArray)(r:Int)(h:E0h b0 b1=some r):PC Tryz.prog 39 [A0n b0,str b1] (int r):=by
 unfold E0h at h
 refine PC.start Tryz.func39 Tryz.ntmps39 rfl (by kernel_rfl) rfl ?_
 refine Run.sr (X.bx ?_)
 refine X.an ?_
 refine Run.seq (Run.sr (X.fl B0l ?_))
 refine X.ld shp30 ?_
 refine X.ls elt30 ?_
 refine X.mn ?_
 obtain ⟨o1,ho1,h⟩:=bindE h
 refine R.join2 (β:=Unit) [] [] (fun p13 S=>S) (fun p13 M=>M) (fun p13=>(Sum.inl p13)=o1) ?_ ?_
 ·intro JJ4 hmeet3
  have hup2:=h;clear h;have h:=ho1;clear ho1
  refine Run.block ?_
  refine R.bndS (t:=8) (by rfl) (fun hbd7=>?_)
  replace hbd7:b0.Activities.length≤9223372036854775807:=by first | (rw [List.length_map] at hbd7;exact hbd7) | simp
  refine R.lp (β:=Int) [(1,str b1),(8,.slice (b0.Activities.map A0d)),(9,int (b0.Activities.length:Int))] [] (fun bb S=>(10,int bb)::S) (fun bb M=>M) (fun n bb=>0≤bb∧bb+n=(b0.Activities.length:Int)∧B0x b1 (b0.Activities.drop bb.toNat) bb=some o1) b0.Activities.length (0:Int) ⟨Int.le_refl _,by simp,h⟩ ?_
  clear h
  rintro JJ7 n7 z8 hag7 ⟨hza7,hzb7,h⟩
  refine Run.sr (X.bi ?_)
  refine X.nil (Run.seq ?_)
  refine R.cd (fun hc11=>?_) (fun hc11=>?_)
  ·obtain ⟨x9,xs10,hd7,hx7,hds7,hlt7⟩:=A0k hza7 hc11
   rw [hd7] at h
   rw [B0x] at h
   refine Run.skip (Run.seq (Run.block (Run.sr (X.mv ?_))))
   refine X.ix elt30 (A0a hx7).1 (A0c A0d hx7) ?_
   refine X.lc shp67 ?_
   refine X.alloc zer67 (h:=?_)
   refine X.as ?_
   refine X.sl shp67 ?_
   refine X.nil (Run.sr (X.fl T0r ?_))
   refine X.ld shp9 ?_
   refine X.mv ?_
   refine X.bi ?_
   refine X.nil ?_
   refine R.cd (fun hc12=>?_) (fun hc12=>?_)
   ·replace h:=condT hc12 h
    refine Run.sr (X.mv ?_)
    refine X.an ?_
    cases h
    have h:=hup2
    replace h:=elimR h
    cases h
    refine R.f1 Tryz.results39 ?_
    rfl
   replace h:=condF hc12 h
   refine Run.skip (Run.blk (Run.reg (X.ad ?_)))
   refine X.mn ?_
   exact R.ag hag7 (n7 - 1) (z8+1) (R.n3 (by first | (rw [hds7];exact h) | (dsimp only;rw [hds7];exact h)))
  rw [A0h hza7 hc11] at h
  rw [B0x] at h
  refine Run.exit (by rfl) ?_
  exact R.mt hmeet3 () (Option.some.inj h)
 rintro p13 rfl
 replace h:=elimL h
 refine Run.sr (X.an ?_)
 cases h
 refine R.f1 Tryz.results39 ?_
 rfl
theorem A1y (b0:List TStep)(r:Bool)(h:K0i b0=some r):PC Tryz.prog 78 [.slice (b0.map B0e)] (bool r):=by
 unfold K0i at h
 refine PC.start Tryz.func78 Tryz.ntmps78 rfl (by kernel_rfl) rfl ?_
 refine Run.sr (X.an ?_)
 refine Run.seq (Run.sr (X.mv ?_))
 refine X.ls elt70 ?_
 refine X.mn ?_
 obtain ⟨o1,ho1,h⟩:=bindE h
 refine R.join2 (β:=Unit) [(0,.slice (b0.map B0e))] [] (fun p20 S=>S) (fun p20 M=>M) (fun p20=>(Sum.inl p20)=o1) ?_ ?_
 ·intro JJ4 hmeet3
  have hup2:=h;clear h;have h:=ho1;clear ho1
  refine Run.block ?_
  refine R.bndS (t:=0) (by rfl) (fun hbd7=>?_)
  replace hbd7:b0.length≤9223372036854775807:=by first | (rw [List.length_map] at hbd7;exact hbd7) | simp
  refine R.lp (β:=Int) [(0,.slice (b0.map B0e)),(5,.slice (b0.map B0e)),(6,int (b0.length:Int))] [] (fun bb S=>(7,int bb)::S) (fun bb M=>M) (fun n bb=>0≤bb∧bb+n=(b0.length:Int)∧D0i b0 (b0.drop bb.toNat) bb=some o1) b0.length (0:Int) ⟨Int.le_refl _,by simp,h⟩ ?_
  clear h
  rintro JJ7 n7 z8 hag7 ⟨hza7,hzb7,h⟩
  refine Run.sr (X.bi ?_)
  refine X.nil (Run.seq ?_)
  refine R.cd (fun hc11=>?_) (fun hc11=>?_)
  ·obtain ⟨x9,xs10,hd7,hx7,hds7,hlt7⟩:=A0k hza7 hc11
   rw [hd7] at h
   rw [D0i] at h
   refine Run.skip (Run.seq (Run.block (Run.sr (X.mv ?_))))
   refine X.ix elt70 (A0a hx7).1 (A0c B0e hx7) ?_
   refine X.lc S0e ?_
   refine X.alloc D1x (h:=?_)
   refine X.as ?_
   refine X.sl S0e ?_
   refine X.nil (Run.seq ?_)
   obtain ⟨v12,hv12,h⟩:=bindE h
   obtain ⟨e13,he13,h2⟩:=bindE h
   refine R.drawG [(0,.slice (b0.map B0e)),(5,.slice (b0.map B0e)),(6,int (b0.length:Int)),(7,int z8),(36,bool e13)] [] (B0m [(1,([256],[],[],[])),(6,([256],[],[],[])),(21,([256],[],[],[]))]) mixed (by kernel_rfl) (by kernel_rfl) ?_ ?_
   ·clear h;have h:=he13;clear he13 h2
    refine X.fl J0w ?_
    refine X.ld shp3 ?_
    refine X.cp (B0u _ _ _ _ hv12) ?_
    refine X.un (h:=?_)
    refine X.mv ?_
    refine X.iG (fun hb14=>?_) (fun hb14=>?_)
    ·replace h:=condF hb14 h
     refine X.fl T0w ?_
     refine X.gy (X.ld shp3 ?_)
     refine X.gy ?_
     obtain ⟨v15,hv15,h⟩:=bindE h
     refine X.cp (B0u _ _ _ _ hv15) ?_
     refine X.gy (X.un (h:=?_))
     refine X.pF ?_
     refine X.mv ?_
     refine X.iG (fun hb16=>?_) (fun hb16=>?_)
     ·replace h:=condF hb16 h
      refine X.mv ?_
      refine X.gy (X.bi ?_)
      refine X.gy (X.mv ?_)
      refine X.iG (fun hb17=>?_) (fun hb17=>?_)
      ·replace h:=condT hb17 h
       refine X.mv ?_
       refine X.gy (X.mv ?_)
       refine X.gy (X.sub (by rfl) (by rfl) (by omega) (by rfl) ?_)
       refine X.gy ?_
       obtain ⟨v18,hv18,h⟩:=bindE h
       refine X.ix elt70 (A0a hv18).1 (A0c B0e hv18) ?_
       refine X.gy (X.fieldAddr_c J0w (by rfl) (by rfl) ?_)
       refine X.gy (X.lc shp3 ?_)
       refine X.gy (X.fl J0w ?_)
       refine X.gy (X.ld shp3 ?_)
       refine X.gy (X.bi ?_)
       refine X.gy (X.pT ?_)
       refine X.pF ?_
       cases h
       exact X.eG
      replace h:=condF hb17 h
      refine X.gn (X.gn (X.gn (X.gn (X.gn (X.gn (X.gn (X.gn ?_)))))))
      refine X.gy (X.pF ?_)
      refine X.pF ?_
      cases h
      exact X.eG
     replace h:=condT hb16 h
     refine X.gn (X.gn (X.gU (h:=?_)))
     refine X.gU (h:=?_)
     refine X.gU (h:=?_)
     refine X.gU (h:=?_)
     refine X.gU (h:=?_)
     refine X.gU (h:=?_)
     refine X.gU (h:=?_)
     refine X.gU (h:=?_)
     refine X.gU (h:=?_)
     refine X.gn (X.pT ?_)
     cases h
     exact X.eG
    replace h:=condT hb14 h
    refine X.gn (X.gn (X.gn (X.pT ?_)))
    refine X.mv ?_
    refine X.gn (X.gn (X.gn (X.gU (h:=?_))))
    refine X.gU (h:=?_)
    refine X.gU (h:=?_)
    refine X.gU (h:=?_)
    refine X.gU (h:=?_)
    refine X.gU (h:=?_)
    refine X.gU (h:=?_)
    refine X.gU (h:=?_)
    refine X.gU (h:=?_)
    refine X.gn (X.pT ?_)
    cases h
    exact X.eG
   replace h:=h2;clear h2
   refine R.cd (fun hc19=>?_) (fun hc19=>?_)
   ·replace h:=condT hc19 h
    refine Run.sr (X.an ?_)
    cases h
    have h:=hup2
    replace h:=elimR h
    cases h
    refine R.f1 Tryz.results78 ?_
    rfl
   replace h:=condF hc19 h
   refine Run.skip (Run.blk (Run.reg (X.ad ?_)))
   refine X.mn ?_
   exact R.ag hag7 (n7 - 1) (z8+1) (R.n3 (by first | (rw [hds7];exact h) | (dsimp only;rw [hds7];exact h)))
  rw [A0h hza7 hc11] at h
  rw [D0i] at h
  refine Run.exit (by rfl) ?_
  exact R.mt hmeet3 () (Option.some.inj h)
 rintro p20 rfl
 replace h:=elimL h
 refine Run.seq ?_
 obtain ⟨v22,hv22,h⟩:=bindE h
 obtain ⟨e23,he23,h2⟩:=bindE h
 refine R.regG [(2,bool e23)] [] ?_ ?_
 ·clear h;have h:=he23;clear he23 h2
  refine X.mv ?_
  refine X.ls elt70 ?_
  refine X.cp (B0u _ _ _ _ hv22) ?_
  refine X.mv ?_
  refine X.iG (fun hb24=>?_) (fun hb24=>?_)
  ·replace h:=condT hb24 h
   refine X.mv ?_
   refine X.gy ?_
   obtain ⟨v25,hv25,h⟩:=bindE h
   refine X.ix elt70 (A0a hv25).1 (A0c B0e hv25) ?_
   refine X.gy (X.fieldAddr_c J0w (by rfl) (by rfl) ?_)
   refine X.gy (X.lc shp3 ?_)
   refine X.gy (X.bi ?_)
   refine X.pT ?_
   refine X.as ?_
   cases h
   exact X.eG
  replace h:=condF hb24 h
  refine X.gn (X.gn (X.gn (X.gn (X.pF ?_))))
  refine X.as ?_
  cases h
  exact X.eG
 replace h:=h2;clear h2
 cases h
 refine R.f1 Tryz.results78 ?_
 rfl
theorem D1l (b0:A0q)(r:Bool)(h:G0r b0=some r):PC Tryz.prog 40 [A0e b0] (bool r):=by
 unfold G0r at h
 refine PC.start Tryz.func40 Tryz.ntmps40 rfl (by kernel_rfl) rfl ?_
 refine Run.sr (X.bx ?_)
 refine X.an ?_
 refine Run.seq (Run.sr (X.fl N0z ?_))
 refine X.ld shp61 ?_
 refine X.ls elt61 ?_
 refine X.mn ?_
 obtain ⟨o1,ho1,h⟩:=bindE h
 refine R.join2 (β:=Unit) [(1,.lptr 64 0)] [(64,.blk true [.slice (b0.Steps.map B0e),.slice (b0.Setup.map l_int)])] (fun p28 S=>S) (fun p28 M=>M) (fun p28=>(Sum.inl p28)=o1) ?_ ?_
 ·intro JJ4 hmeet3
  have hup2:=h;clear h;have h:=ho1;clear ho1
  refine Run.block ?_
  refine R.bndS (t:=8) (by rfl) (fun hbd7=>?_)
  replace hbd7:b0.Setup.length≤9223372036854775807:=by first | (rw [List.length_map] at hbd7;exact hbd7) | simp
  refine R.lp (β:=Int) [(1,.lptr 64 0),(8,.slice (b0.Setup.map l_int)),(9,int (b0.Setup.length:Int))] [(64,.blk true [.slice (b0.Steps.map B0e),.slice (b0.Setup.map l_int)])] (fun bb S=>(10,int bb)::S) (fun bb M=>M) (fun n bb=>0≤bb∧bb+n=(b0.Setup.length:Int)∧B0j (b0.Setup.drop bb.toNat) bb=some o1) b0.Setup.length (0:Int) ⟨Int.le_refl _,by simp,h⟩ ?_
  clear h
  rintro JJ7 n7 z8 hag7 ⟨hza7,hzb7,h⟩
  refine Run.sr (X.bi ?_)
  refine X.nil (Run.seq ?_)
  refine R.cd (fun hc11=>?_) (fun hc11=>?_)
  ·obtain ⟨x9,xs10,hd7,hx7,hds7,hlt7⟩:=A0k hza7 hc11
   rw [hd7] at h
   rw [B0j] at h
   refine Run.skip (Run.seq (Run.block (Run.sr (X.ix elt61 (A0a hx7).1 (A0c l_int hx7) ?_))))
   refine X.lc shp25 ?_
   refine X.an ?_
   refine Run.seq (Run.sr (X.mv ?_))
   refine X.ls elt25 ?_
   refine X.bi ?_
   refine X.nil ?_
   refine R.cd (fun hc12=>?_) (fun hc12=>?_)
   ·replace h:=condT hc12 h
    refine Run.sr (X.an ?_)
    cases h
    have h:=hup2
    replace h:=elimR h
    cases h
    refine R.f1 Tryz.results40 ?_
    rfl
   replace h:=condF hc12 h
   refine Run.skip (Run.sr (X.mv ?_))
   refine X.ls elt25 ?_
   refine X.mn ?_
   obtain ⟨o13,ho13,h⟩:=bindE h
   refine R.join2 (β:=Unit) [(1,.lptr 64 0),(8,.slice (b0.Setup.map l_int)),(9,int (b0.Setup.length:Int)),(10,int z8)] [(64,.blk true [.slice (b0.Steps.map B0e),.slice (b0.Setup.map l_int)])] (fun p26 S=>S) (fun p26 M=>M) (fun p26=>(Sum.inl p26)=o13) ?_ ?_
   ·intro JJ16 hmeet15
    have hup14:=h;clear h;have h:=ho13;clear ho13
    refine Run.block ?_
    refine R.bndS (t:=4) (by rfl) (fun hbd19=>?_)
    replace hbd19:x9.length≤9223372036854775807:=by first | (rw [List.length_map] at hbd19;exact hbd19) | simp
    refine R.lp (β:=Int) [(1,.lptr 64 0),(8,.slice (b0.Setup.map l_int)),(9,int (b0.Setup.length:Int)),(10,int z8),(17,.slice (x9.map int)),(18,int (x9.length:Int))] [(64,.blk true [.slice (b0.Steps.map B0e),.slice (b0.Setup.map l_int)])] (fun bb S=>(19,int bb)::S) (fun bb M=>M) (fun n bb=>0≤bb∧bb+n=(x9.length:Int)∧C0w (x9.drop bb.toNat) bb=some o13) x9.length (0:Int) ⟨Int.le_refl _,by simp,h⟩ ?_
    clear h
    rintro JJ19 n19 z20 hag19 ⟨hza19,hzb19,h⟩
    refine Run.sr (X.bi ?_)
    refine X.nil (Run.seq ?_)
    refine R.cd (fun hc23=>?_) (fun hc23=>?_)
    ·obtain ⟨x21,xs22,hd19,hx19,hds19,hlt19⟩:=A0k hza19 hc23
     rw [hd19] at h
     rw [C0w] at h
     refine Run.skip (Run.seq (Run.block (Run.sr (X.ix elt25 (A0a hx19).1 (A0c int hx19) ?_))))
     refine X.lc shp3 ?_
     refine X.an ?_
     refine Run.sr (X.mv ?_)
     obtain ⟨v24,hv24,h⟩:=bindE h
     refine X.cp (B0u _ _ _ _ hv24) ?_
     refine X.un (h:=?_)
     refine X.nil ?_
     refine R.cd (fun hc25=>?_) (fun hc25=>?_)
     ·replace h:=condT hc25 h
      refine Run.sr (X.an ?_)
      cases h
      have h:=hup14
      replace h:=elimR h
      cases h
      have h:=hup2
      replace h:=elimR h
      cases h
      refine R.f1 Tryz.results40 ?_
      rfl
     replace h:=condF hc25 h
     refine Run.skip (Run.blk (Run.reg (X.ad ?_)))
     refine X.mn ?_
     exact R.ag hag19 (n19 - 1) (z20+1) (R.n3 (by first | (rw [hds19];exact h) | (dsimp only;rw [hds19];exact h)))
    rw [A0h hza19 hc23] at h
    rw [C0w] at h
    refine Run.exit (by rfl) ?_
    exact R.mt hmeet15 () (Option.some.inj h)
   rintro p26 rfl
   replace h:=elimL h
   refine Run.blk (Run.reg (X.ad ?_))
   refine X.mn ?_
   exact R.ag hag7 (n7 - 1) (z8+1) (R.n3 (by first | (rw [hds7];exact h) | (dsimp only;rw [hds7];exact h)))
  rw [A0h hza7 hc11] at h
  rw [B0j] at h
  refine Run.exit (by rfl) ?_
  exact R.mt hmeet3 () (Option.some.inj h)
 rintro p28 rfl
 replace h:=elimL h
 refine Run.seq ?_
 obtain ⟨v30,hv30,h⟩:=bindE h
 obtain ⟨e31,he31,h2⟩:=bindE h
 refine R.regG [(2,bool e31)] [] ?_ ?_
 ·clear h;have h:=he31;clear he31 h2
  refine X.fl X0g ?_
  refine X.ld shp70 ?_
  refine X.cp (A1y _ _ hv30) ?_
  refine X.mv ?_
  refine X.iG (fun hb32=>?_) (fun hb32=>?_)
  ·replace h:=condT hb32 h
   refine X.fl N0z ?_
   refine X.gy (X.ld shp61 ?_)
   refine X.gy (X.ls elt61 ?_)
   refine X.gy (X.bi ?_)
   refine X.gy (X.mv ?_)
   refine X.iG (fun hb33=>?_) (fun hb33=>?_)
   ·replace h:=condF hb33 h
    refine X.fl N0z ?_
    refine X.gy (X.ld shp61 ?_)
    refine X.gy (X.ls elt61 ?_)
    refine X.gy (X.bi ?_)
    refine X.gy (X.pF ?_)
    refine X.pT ?_
    refine X.as ?_
    cases h
    exact X.eG
   replace h:=condT hb33 h
   refine X.gn (X.gn (X.gn (X.gy (X.pT ?_))))
   refine X.pT ?_
   refine X.as ?_
   cases h
   exact X.eG
  replace h:=condF hb32 h
  refine X.gn (X.gn (X.gn (X.gn (X.gU (h:=?_)))))
  refine X.gU (h:=?_)
  refine X.gU (h:=?_)
  refine X.gU (h:=?_)
  refine X.gn (X.pF ?_)
  refine X.as ?_
  cases h
  exact X.eG
 replace h:=h2;clear h2
 cases h
 refine R.f1 Tryz.results40 ?_
 rfl
theorem G0p (b0:A0b)(r:Bool)(h:B0w b0=some r):PC Tryz.prog 13 [A0n b0] (bool r):=by
 unfold B0w at h
 refine PC.start Tryz.func13 Tryz.ntmps13 rfl (by kernel_rfl) rfl ?_
 refine Run.sr (X.bx ?_)
 refine X.an ?_
 refine Run.sr (X.fl B0l ?_)
 refine X.ld shp30 ?_
 refine X.ls elt30 ?_
 refine X.an ?_
 refine Run.seq (Run.seq ?_)
 obtain ⟨v1,hv1,h⟩:=bindE h
 obtain ⟨e2,he2,h2⟩:=bindE h
 refine R.regG [(1,.lptr 64 0),(3,int (b0.Activities.length:Int)),(41,bool e2)] [(64,.blk true [int b0.Deadline,.slice (b0.Activities.map A0d),.slice (b0.Links.map A0l),.slice (b0.Resources.map A0e),.slice (b0.Stocks.map int)])] ?_ ?_
 ·clear h;have h:=he2;clear he2 h2
  refine X.fl W0y ?_
  refine X.ld shp3 ?_
  refine X.cp (B0u _ _ _ _ hv1) ?_
  refine X.un (h:=?_)
  refine X.mv ?_
  refine X.iG (fun hb3=>?_) (fun hb3=>?_)
  ·replace h:=condF hb3 h
   refine X.mv ?_
   refine X.gy ?_
   obtain ⟨v4,hv4,h⟩:=bindE h
   refine X.cp (B0u _ _ _ _ hv4) ?_
   refine X.gy (X.un (h:=?_))
   refine X.pF ?_
   refine X.mv ?_
   refine X.iG (fun hb5=>?_) (fun hb5=>?_)
   ·replace h:=condF hb5 h
    refine X.fl H0o ?_
    refine X.gy (X.ld shp32 ?_)
    refine X.gy (X.ls elt32 ?_)
    refine X.gy (X.bi ?_)
    refine X.pF ?_
    refine X.mv ?_
    refine X.iG (fun hb6=>?_) (fun hb6=>?_)
    ·replace h:=condF hb6 h
     refine X.fl T0n ?_
     refine X.gy (X.ld shp25 ?_)
     refine X.gy (X.ls elt25 ?_)
     refine X.gy (X.bi ?_)
     refine X.pF ?_
     refine X.mv ?_
     refine X.iG (fun hb7=>?_) (fun hb7=>?_)
     ·replace h:=condF hb7 h
      refine X.fl J0h ?_
      refine X.gy (X.ld shp31 ?_)
      refine X.gy (X.ls elt31 ?_)
      refine X.gy (X.bi ?_)
      refine X.pF ?_
      cases h
      exact X.eG
     replace h:=condT hb7 h
     refine X.gn (X.gn (X.gn (X.pT ?_)))
     cases h
     exact X.eG
    replace h:=condT hb6 h
    refine X.gn (X.gn (X.gn (X.pT ?_)))
    refine X.mv ?_
    refine X.gn (X.gn (X.gn (X.gn (X.pT ?_))))
    cases h
    exact X.eG
   replace h:=condT hb5 h
   refine X.gn (X.gn (X.gn (X.pT ?_)))
   refine X.mv ?_
   refine X.gn (X.gn (X.gn (X.gn (X.pT ?_))))
   refine X.mv ?_
   refine X.gn (X.gn (X.gn (X.gn (X.pT ?_))))
   cases h
   exact X.eG
  replace h:=condT hb3 h
  refine X.gn (X.gn (X.pT ?_))
  refine X.mv ?_
  refine X.gn (X.gn (X.gn (X.gn (X.pT ?_))))
  refine X.mv ?_
  refine X.gn (X.gn (X.gn (X.gn (X.pT ?_))))
  refine X.mv ?_
  refine X.gn (X.gn (X.gn (X.gn (X.pT ?_))))
  cases h
  exact X.eG
 replace h:=h2;clear h2
 refine R.cd (fun hc8=>?_) (fun hc8=>?_)
 ·replace h:=condT hc8 h
  refine Run.sr (X.an ?_)
  cases h
  refine R.f1 Tryz.results13 ?_
  rfl
 replace h:=condF hc8 h
 refine Run.skip (Run.seq (Run.sr (X.fl B0l ?_)))
 refine X.ld shp30 ?_
 refine X.ls elt30 ?_
 refine X.mn ?_
 obtain ⟨o9,ho9,h⟩:=bindE h
 refine R.join2 (β:=Unit) [(1,.lptr 64 0),(3,int (b0.Activities.length:Int))] [(64,.blk true [int b0.Deadline,.slice (b0.Activities.map A0d),.slice (b0.Links.map A0l),.slice (b0.Resources.map A0e),.slice (b0.Stocks.map int)])] (fun p25 S=>S) (fun p25 M=>M) (fun p25=>(Sum.inl p25)=o9) ?_ ?_
 ·intro JJ12 hmeet11
  have hup10:=h;clear h;have h:=ho9;clear ho9
  refine Run.block ?_
  refine R.bndS (t:=43) (by rfl) (fun hbd15=>?_)
  replace hbd15:b0.Activities.length≤9223372036854775807:=by first | (rw [List.length_map] at hbd15;exact hbd15) | simp
  refine R.lp (β:=Int) [(1,.lptr 64 0),(3,int (b0.Activities.length:Int)),(43,.slice (b0.Activities.map A0d)),(44,int (b0.Activities.length:Int))] [(64,.blk true [int b0.Deadline,.slice (b0.Activities.map A0d),.slice (b0.Links.map A0l),.slice (b0.Resources.map A0e),.slice (b0.Stocks.map int)])] (fun bb S=>(45,int bb)::S) (fun bb M=>M) (fun n bb=>0≤bb∧bb+n=(b0.Activities.length:Int)∧F0c b0 (b0.Activities.drop bb.toNat) bb=some o9) b0.Activities.length (0:Int) ⟨Int.le_refl _,by simp,h⟩ ?_
  clear h
  rintro JJ15 n15 z16 hag15 ⟨hza15,hzb15,h⟩
  refine Run.sr (X.bi ?_)
  refine X.nil (Run.seq ?_)
  refine R.cd (fun hc19=>?_) (fun hc19=>?_)
  ·obtain ⟨x17,xs18,hd15,hx15,hds15,hlt15⟩:=A0k hza15 hc19
   rw [hd15] at h
   rw [F0c] at h
   refine Run.skip (Run.seq (Run.block (Run.sr (X.mv ?_))))
   refine X.ix elt30 (A0a hx15).1 (A0c A0d hx15) ?_
   refine X.lc shp67 ?_
   refine X.alloc zer67 (h:=?_)
   refine X.as ?_
   refine X.sl shp67 ?_
   refine X.nil (Run.seq ?_)
   obtain ⟨v20,hv20,h⟩:=bindE h
   obtain ⟨e21,he21,h2⟩:=bindE h
   refine R.regG [(1,.lptr 64 0),(3,int (b0.Activities.length:Int)),(43,.slice (b0.Activities.map A0d)),(44,int (b0.Activities.length:Int)),(45,int z16),(66,bool e21)] [(64,.blk true [int b0.Deadline,.slice (b0.Activities.map A0d),.slice (b0.Links.map A0l),.slice (b0.Resources.map A0e),.slice (b0.Stocks.map int)])] ?_ ?_
   ·clear h;have h:=he21;clear he21 h2
    refine X.ld shp67 ?_
    refine X.fl H0o ?_
    refine X.ld shp32 ?_
    refine X.ls elt32 ?_
    refine X.fl T0n ?_
    refine X.ld shp25 ?_
    refine X.ls elt25 ?_
    refine X.cp (D1n _ _ _ _ hv20) ?_
    refine X.un (h:=?_)
    refine X.mv ?_
    refine X.iG (fun hb22=>?_) (fun hb22=>?_)
    ·replace h:=condF hb22 h
     refine X.ld shp34 ?_
     refine X.gy (X.fl T0r ?_)
     refine X.gy (X.ld shp9 ?_)
     refine X.gy ?_
     obtain ⟨v23,hv23,h⟩:=bindE h
     refine X.cp (X0w _ _ _ hv23) ?_
     refine X.gy (X.mv ?_)
     refine X.gy (X.bi ?_)
     refine X.pF ?_
     cases h
     exact X.eG
    replace h:=condT hb22 h
    refine X.gn (X.gn (X.gn (X.gn (X.gn (X.pT ?_)))))
    cases h
    exact X.eG
   replace h:=h2;clear h2
   refine R.cd (fun hc24=>?_) (fun hc24=>?_)
   ·replace h:=condT hc24 h
    refine Run.sr (X.an ?_)
    cases h
    have h:=hup10
    replace h:=elimR h
    cases h
    refine R.f1 Tryz.results13 ?_
    rfl
   replace h:=condF hc24 h
   refine Run.skip (Run.blk (Run.reg (X.ad ?_)))
   refine X.mn ?_
   exact R.ag hag15 (n15 - 1) (z16+1) (R.n3 (by first | (rw [hds15];exact h) | (dsimp only;rw [hds15];exact h)))
  rw [A0h hza15 hc19] at h
  rw [F0c] at h
  refine Run.exit (by rfl) ?_
  exact R.mt hmeet11 () (Option.some.inj h)
 rintro p25 rfl
 replace h:=elimL h
 refine Run.seq (Run.sr (X.fl H0o ?_))
 refine X.ld shp32 ?_
 refine X.ls elt32 ?_
 refine X.mn ?_
 obtain ⟨o27,ho27,h⟩:=bindE h
 refine R.join2 (β:=Unit) [(1,.lptr 64 0),(3,int (b0.Activities.length:Int))] [(64,.blk true [int b0.Deadline,.slice (b0.Activities.map A0d),.slice (b0.Links.map A0l),.slice (b0.Resources.map A0e),.slice (b0.Stocks.map int)])] (fun p40 S=>S) (fun p40 M=>M) (fun p40=>(Sum.inl p40)=o27) ?_ ?_
 ·intro JJ30 hmeet29
  have hup28:=h;clear h;have h:=ho27;clear ho27
  refine Run.block ?_
  refine R.bndS (t:=69) (by rfl) (fun hbd33=>?_)
  replace hbd33:b0.Resources.length≤9223372036854775807:=by first | (rw [List.length_map] at hbd33;exact hbd33) | simp
  refine R.lp (β:=Int) [(1,.lptr 64 0),(3,int (b0.Activities.length:Int)),(69,.slice (b0.Resources.map A0e)),(70,int (b0.Resources.length:Int))] [(64,.blk true [int b0.Deadline,.slice (b0.Activities.map A0d),.slice (b0.Links.map A0l),.slice (b0.Resources.map A0e),.slice (b0.Stocks.map int)])] (fun bb S=>(71,int bb)::S) (fun bb M=>M) (fun n bb=>0≤bb∧bb+n=(b0.Resources.length:Int)∧F0i (b0.Resources.drop bb.toNat) bb=some o27) b0.Resources.length (0:Int) ⟨Int.le_refl _,by simp,h⟩ ?_
  clear h
  rintro JJ33 n33 z34 hag33 ⟨hza33,hzb33,h⟩
  refine Run.sr (X.bi ?_)
  refine X.nil (Run.seq ?_)
  refine R.cd (fun hc37=>?_) (fun hc37=>?_)
  ·obtain ⟨x35,xs36,hd33,hx33,hds33,hlt33⟩:=A0k hza33 hc37
   rw [hd33] at h
   rw [F0i] at h
   refine Run.skip (Run.seq (Run.block (Run.sr (X.ix elt32 (A0a hx33).1 (A0c A0e hx33) ?_))))
   refine X.lc shp72 ?_
   refine X.alloc zer72 (h:=?_)
   refine X.sl shp72 ?_
   refine X.nil (Run.sr (X.ld shp72 ?_))
   obtain ⟨v38,hv38,h⟩:=bindE h
   refine X.cp (D1l _ _ hv38) ?_
   refine X.un (h:=?_)
   refine X.nil ?_
   refine R.cd (fun hc39=>?_) (fun hc39=>?_)
   ·replace h:=condT hc39 h
    refine Run.sr (X.an ?_)
    cases h
    have h:=hup28
    replace h:=elimR h
    cases h
    refine R.f1 Tryz.results13 ?_
    rfl
   replace h:=condF hc39 h
   refine Run.skip (Run.blk (Run.reg (X.ad ?_)))
   refine X.mn ?_
   exact R.ag hag33 (n33 - 1) (z34+1) (R.n3 (by first | (rw [hds33];exact h) | (dsimp only;rw [hds33];exact h)))
  rw [A0h hza33 hc37] at h
  rw [F0i] at h
  refine Run.exit (by rfl) ?_
  exact R.mt hmeet29 () (Option.some.inj h)
 rintro p40 rfl
 replace h:=elimL h
 refine Run.seq (Run.sr (X.fl T0n ?_))
 refine X.ld shp25 ?_
 refine X.ls elt25 ?_
 refine X.mn ?_
 obtain ⟨o42,ho42,h⟩:=bindE h
 refine R.join2 (β:=Unit) [(1,.lptr 64 0),(3,int (b0.Activities.length:Int))] [(64,.blk true [int b0.Deadline,.slice (b0.Activities.map A0d),.slice (b0.Links.map A0l),.slice (b0.Resources.map A0e),.slice (b0.Stocks.map int)])] (fun p55 S=>S) (fun p55 M=>M) (fun p55=>(Sum.inl p55)=o42) ?_ ?_
 ·intro JJ45 hmeet44
  have hup43:=h;clear h;have h:=ho42;clear ho42
  refine Run.block ?_
  refine R.bndS (t:=80) (by rfl) (fun hbd48=>?_)
  replace hbd48:b0.Stocks.length≤9223372036854775807:=by first | (rw [List.length_map] at hbd48;exact hbd48) | simp
  refine R.lp (β:=Int) [(1,.lptr 64 0),(3,int (b0.Activities.length:Int)),(80,.slice (b0.Stocks.map int)),(81,int (b0.Stocks.length:Int))] [(64,.blk true [int b0.Deadline,.slice (b0.Activities.map A0d),.slice (b0.Links.map A0l),.slice (b0.Resources.map A0e),.slice (b0.Stocks.map int)])] (fun bb S=>(82,int bb)::S) (fun bb M=>M) (fun n bb=>0≤bb∧bb+n=(b0.Stocks.length:Int)∧F0l (b0.Stocks.drop bb.toNat) bb=some o42) b0.Stocks.length (0:Int) ⟨Int.le_refl _,by simp,h⟩ ?_
  clear h
  rintro JJ48 n48 z49 hag48 ⟨hza48,hzb48,h⟩
  refine Run.sr (X.bi ?_)
  refine X.nil (Run.seq ?_)
  refine R.cd (fun hc52=>?_) (fun hc52=>?_)
  ·obtain ⟨x50,xs51,hd48,hx48,hds48,hlt48⟩:=A0k hza48 hc52
   rw [hd48] at h
   rw [F0l] at h
   refine Run.skip (Run.seq (Run.block (Run.sr (X.ix elt25 (A0a hx48).1 (A0c int hx48) ?_))))
   refine X.lc shp3 ?_
   refine X.an ?_
   refine Run.sr (X.mv ?_)
   obtain ⟨v53,hv53,h⟩:=bindE h
   refine X.cp (B0u _ _ _ _ hv53) ?_
   refine X.un (h:=?_)
   refine X.nil ?_
   refine R.cd (fun hc54=>?_) (fun hc54=>?_)
   ·replace h:=condT hc54 h
    refine Run.sr (X.an ?_)
    cases h
    have h:=hup43
    replace h:=elimR h
    cases h
    refine R.f1 Tryz.results13 ?_
    rfl
   replace h:=condF hc54 h
   refine Run.skip (Run.blk (Run.reg (X.ad ?_)))
   refine X.mn ?_
   exact R.ag hag48 (n48 - 1) (z49+1) (R.n3 (by first | (rw [hds48];exact h) | (dsimp only;rw [hds48];exact h)))
  rw [A0h hza48 hc52] at h
  rw [F0l] at h
  refine Run.exit (by rfl) ?_
  exact R.mt hmeet44 () (Option.some.inj h)
 rintro p55 rfl
 replace h:=elimL h
 refine Run.seq (Run.sr (X.fl J0h ?_))
 refine X.ld shp31 ?_
 refine X.ls elt31 ?_
 refine X.mn ?_
 obtain ⟨o57,ho57,h⟩:=bindE h
 refine R.join2 (β:=Unit) [] [] (fun p76 S=>S) (fun p76 M=>M) (fun p76=>(Sum.inl p76)=o57) ?_ ?_
 ·intro JJ60 hmeet59
  have hup58:=h;clear h;have h:=ho57;clear ho57
  refine Run.block ?_
  refine R.bndS (t:=91) (by rfl) (fun hbd63=>?_)
  replace hbd63:b0.Links.length≤9223372036854775807:=by first | (rw [List.length_map] at hbd63;exact hbd63) | simp
  refine R.lp (β:=Int) [(3,int (b0.Activities.length:Int)),(91,.slice (b0.Links.map A0l)),(92,int (b0.Links.length:Int))] [] (fun bb S=>(93,int bb)::S) (fun bb M=>M) (fun n bb=>0≤bb∧bb+n=(b0.Links.length:Int)∧C0h b0 (b0.Links.drop bb.toNat) bb=some o57) b0.Links.length (0:Int) ⟨Int.le_refl _,by simp,h⟩ ?_
  clear h
  rintro JJ63 n63 z64 hag63 ⟨hza63,hzb63,h⟩
  refine Run.sr (X.bi ?_)
  refine X.nil (Run.seq ?_)
  refine R.cd (fun hc67=>?_) (fun hc67=>?_)
  ·obtain ⟨x65,xs66,hd63,hx63,hds63,hlt63⟩:=A0k hza63 hc67
   rw [hd63] at h
   rw [C0h] at h
   refine Run.skip (Run.seq (Run.block (Run.sr (X.ix elt31 (A0a hx63).1 (A0c A0l hx63) ?_))))
   refine X.lc shp75 ?_
   refine X.alloc zer75 (h:=?_)
   refine X.sl shp75 ?_
   refine X.nil (Run.seq ?_)
   obtain ⟨v68,hv68,h⟩:=bindE h
   obtain ⟨e69,he69,h2⟩:=bindE h
   refine R.regG [(3,int (b0.Activities.length:Int)),(91,.slice (b0.Links.map A0l)),(92,int (b0.Links.length:Int)),(93,int z64),(123,bool e69)] [] ?_ ?_
   ·clear h;have h:=he69;clear he69 h2
    refine X.fl J0y ?_
    refine X.ld shp3 ?_
    refine X.mv ?_
    refine X.subW (h:=?_)
    refine X.cp (B0u _ _ _ _ hv68) ?_
    refine X.un (h:=?_)
    refine X.mv ?_
    refine X.iG (fun hb70=>?_) (fun hb70=>?_)
    ·replace h:=condF hb70 h
     refine X.fl L0o ?_
     refine X.gy (X.ld shp3 ?_)
     refine X.gy (X.mv ?_)
     refine X.gy (X.subW (h:=?_))
     refine X.gy ?_
     obtain ⟨v71,hv71,h⟩:=bindE h
     refine X.cp (B0u _ _ _ _ hv71) ?_
     refine X.gy (X.un (h:=?_))
     refine X.pF ?_
     refine X.mv ?_
     refine X.iG (fun hb72=>?_) (fun hb72=>?_)
     ·replace h:=condF hb72 h
      refine X.fl J0y ?_
      refine X.gy (X.ld shp3 ?_)
      refine X.gy (X.fl L0o ?_)
      refine X.gy (X.ld shp3 ?_)
      refine X.gy (X.bi ?_)
      refine X.pF ?_
      refine X.mv ?_
      refine X.iG (fun hb73=>?_) (fun hb73=>?_)
      ·replace h:=condF hb73 h
       refine X.fl T0l ?_
       refine X.gy (X.ld shp3 ?_)
       refine X.gy ?_
       obtain ⟨v74,hv74,h⟩:=bindE h
       refine X.cp (B0u _ _ _ _ hv74) ?_
       refine X.gy (X.un (h:=?_))
       refine X.pF ?_
       cases h
       exact X.eG
      replace h:=condT hb73 h
      refine X.gn (X.gn (X.gn (X.pT ?_)))
      cases h
      exact X.eG
     replace h:=condT hb72 h
     refine X.gn (X.gn (X.gn (X.gn (X.pT ?_))))
     refine X.mv ?_
     refine X.gn (X.gn (X.gn (X.gn (X.pT ?_))))
     cases h
     exact X.eG
    replace h:=condT hb70 h
    refine X.gn (X.gn (X.gn (X.gn (X.gn (X.pT ?_)))))
    refine X.mv ?_
    refine X.gn (X.gn (X.gn (X.gn (X.gn (X.pT ?_)))))
    refine X.mv ?_
    refine X.gn (X.gn (X.gn (X.gn (X.pT ?_))))
    cases h
    exact X.eG
   replace h:=h2;clear h2
   refine R.cd (fun hc75=>?_) (fun hc75=>?_)
   ·replace h:=condT hc75 h
    refine Run.sr (X.an ?_)
    cases h
    have h:=hup58
    replace h:=elimR h
    cases h
    refine R.f1 Tryz.results13 ?_
    rfl
   replace h:=condF hc75 h
   refine Run.skip (Run.blk (Run.reg (X.ad ?_)))
   refine X.mn ?_
   exact R.ag hag63 (n63 - 1) (z64+1) (R.n3 (by first | (rw [hds63];exact h) | (dsimp only;rw [hds63];exact h)))
  rw [A0h hza63 hc67] at h
  rw [C0h] at h
  refine Run.exit (by rfl) ?_
  exact R.mt hmeet59 () (Option.some.inj h)
 rintro p76 rfl
 replace h:=elimL h
 refine Run.sr (X.an ?_)
 cases h
 refine R.f1 Tryz.results13 ?_
 rfl
theorem G1w (b0:Int)(r:List Int)(h:N0r b0=some r):PC Tryz.prog 82 [int b0] (.fresh false 3 1 (r.map int)):=by
 unfold N0r at h
 refine PC.start Tryz.func82 Tryz.ntmps82 rfl (by kernel_rfl) rfl ?_
 refine Run.sr (X.an ?_)
 refine Run.sr ?_
 refine X.buildSlice false elt25 zer3 (by rfl) (by rfl) (by rfl) (by rfl) (by rfl) (by rfl) (by repeat (first | trivial | refine ⟨by first | rfl | simp [setL],?_⟩)) (A0o (by rfl)) (by rfl) (by rfl) (by rfl) ?_
 refine X.an ?_
 refine Run.seq (Run.sr (X.mv ?_))
 obtain ⟨v1,hv1,h⟩:=bindE h
 refine X.cp (B0u _ _ _ _ hv1) ?_
 refine X.un (h:=?_)
 refine X.nil ?_
 refine R.cd (fun hc2=>?_) (fun hc2=>?_)
 ·replace h:=condT hc2 h
  refine Run.sr (X.an ?_)
  cases h
  refine R.fin1n (x:=false) (e:=3) (sz:=1) Tryz.results82 (by rfl) (by decide) ?_
  rfl
 replace h:=condF hc2 h
 refine Run.skip (Run.seq (Run.sr (X.an ?_)))
 obtain ⟨o3,ho3,h⟩:=bindE h
 refine R.join2 (β:=(List Int)) [] [] (fun p15 S=>(3,.own 320 (p15.map int).length)::S) (fun p15 M=>(320,.obj false 3 1 (p15.map int))::M) (fun p15=>p15=o3) ?_ ?_
 ·intro JJ6 hmeet5
  have hup4:=h;clear h;have h:=ho3;clear ho3
  refine Run.block ?_
  refine R.lp (β:=Int×(List Int)) [(0,int b0)] [] (fun bb S=>(3,.own 320 (bb.2.map int).length)::(4,int bb.1)::S) (fun bb M=>(320,.obj false 3 1 (bb.2.map int))::M) (fun n bb=>G0k b0 n bb.1 bb.2=some o3) F0 (0,([]:List Int)) h ?_
  clear h
  rintro JJ7 n7 ⟨a9,a10⟩ hag7 h
  dsimp only at h
  obtain _ | n7:=n7
  ·exact absurd h (by simp [G0k])
  rw [G0k] at h
  refine Run.seq (Run.sr (X.mv ?_))
  refine X.mv ?_
  refine X.bi ?_
  refine X.nil ?_
  refine R.cd (fun hc13=>?_) (fun hc13=>?_)
  ·replace h:=condT hc13 h
   refine Run.skip (Run.seq (Run.block (Run.reg (X.mv ?_))))
   refine X.mv ?_
   refine X.buildSlice false elt25 zer3 (by rfl) (by rfl) (by rfl) (by rfl) (by rfl) (by rfl) (by repeat (first | trivial | refine ⟨by first | rfl | simp [setL],?_⟩)) (A0o (by rfl)) (by rfl) (by rfl) (by rfl) ?_
   obtain ⟨v14,hv14,h⟩:=bindE h
   refine X.append elt25 zer3 (by rfl) (by rfl) (by first | rfl | simp [setL] | omega) (by rfl) (.own _ _ _ _ _ _ (A0g (by rfl)) (by first | rfl | simp [setL] | omega)) (A0o (by rfl)) (E0l int hv14) (E0k int hv14) (by rfl) (by rfl) (by rfl) (by rfl) ?_
   refine X.an ?_
   refine Run.blk (Run.reg (X.mv ?_))
   refine X.addW (h:=?_)
   refine X.an ?_
   exact hag7 n7 ((W (a9+1)),v14) _ _ (by omega) h (by repeat (first | trivial | refine ⟨by first | rfl | simp [setL],?_⟩)) (by repeat (first | trivial | refine ⟨by first | rfl | simp [setL],?_⟩)) (by rfl) (by rfl)
  replace h:=condF hc13 h
  refine Run.exit (by rfl) ?_
  exact R.mt hmeet5 a10 (Option.some.inj h)
 rintro p15 rfl
 refine Run.sr (X.mv ?_)
 refine X.an ?_
 cases h
 refine R.fin1o Tryz.results82 (by rfl) (by rfl) (by first | rfl | simp [setL] | omega) ?_
 rfl
theorem K0e (b0:A0f)(r:List Int)(h:C0x b0=some r):PC Tryz.prog 45 [A0d b0] (.fresh false 3 1 (r.map int)):=by
 unfold C0x at h
 refine PC.start Tryz.func45 Tryz.ntmps45 rfl (by kernel_rfl) rfl ?_
 refine Run.sr (X.bx ?_)
 refine X.an ?_
 refine Run.sr (X.fl Q0e ?_)
 refine X.ld shp65 ?_
 refine X.ls elt65 ?_
 obtain ⟨v1,hv1,h⟩:=bindE h
 refine X.callF (G1w _ _ hv1) (by rfl) (by rfl) (by rfl) (by trivial) (by rfl) (by rfl) (by rfl) (by rfl) ?_
 refine X.an ?_
 cases h
 refine R.fin1o Tryz.results45 (by rfl) (by rfl) (by first | rfl | simp [setL] | omega) ?_
 rfl
theorem X0h (b0:List Int)(b1:Int)(r:Bool)(h:U0l b0 b1=some r):PC Tryz.prog 119 [.slice (b0.map int),int b1] (bool r):=by
 unfold U0l at h
 refine PC.start Tryz.func119 Tryz.ntmps119 rfl (by kernel_rfl) rfl ?_
 refine Run.sr (X.an ?_)
 refine Run.seq (Run.sr (X.mv ?_))
 refine X.ls elt25 ?_
 refine X.mn ?_
 obtain ⟨o1,ho1,h⟩:=bindE h
 refine R.join2 (β:=Unit) [] [] (fun p13 S=>S) (fun p13 M=>M) (fun p13=>(Sum.inl p13)=o1) ?_ ?_
 ·intro JJ4 hmeet3
  have hup2:=h;clear h;have h:=ho1;clear ho1
  refine Run.block ?_
  refine R.bndS (t:=0) (by rfl) (fun hbd7=>?_)
  replace hbd7:b0.length≤9223372036854775807:=by first | (rw [List.length_map] at hbd7;exact hbd7) | simp
  refine R.lp (β:=Int) [(1,int b1),(7,.slice (b0.map int)),(8,int (b0.length:Int))] [] (fun bb S=>(9,int bb)::S) (fun bb M=>M) (fun n bb=>0≤bb∧bb+n=(b0.length:Int)∧M0m b1 (b0.drop bb.toNat) bb=some o1) b0.length (0:Int) ⟨Int.le_refl _,by simp,h⟩ ?_
  clear h
  rintro JJ7 n7 z8 hag7 ⟨hza7,hzb7,h⟩
  refine Run.sr (X.bi ?_)
  refine X.nil (Run.seq ?_)
  refine R.cd (fun hc11=>?_) (fun hc11=>?_)
  ·obtain ⟨x9,xs10,hd7,hx7,hds7,hlt7⟩:=A0k hza7 hc11
   rw [hd7] at h
   rw [M0m] at h
   refine Run.skip (Run.seq (Run.block (Run.sr (X.ix elt25 (A0a hx7).1 (A0c int hx7) ?_))))
   refine X.lc shp3 ?_
   refine X.an ?_
   refine Run.sr (X.mv ?_)
   refine X.mv ?_
   refine X.bi ?_
   refine X.nil ?_
   refine R.cd (fun hc12=>?_) (fun hc12=>?_)
   ·replace h:=condT hc12 h
    refine Run.sr (X.an ?_)
    cases h
    have h:=hup2
    replace h:=elimR h
    cases h
    refine R.f1 Tryz.results119 ?_
    rfl
   replace h:=condF hc12 h
   refine Run.skip (Run.blk (Run.reg (X.ad ?_)))
   refine X.mn ?_
   exact R.ag hag7 (n7 - 1) (z8+1) (R.n3 (by first | (rw [hds7];exact h) | (dsimp only;rw [hds7];exact h)))
  rw [A0h hza7 hc11] at h
  rw [M0m] at h
  refine Run.exit (by rfl) ?_
  exact R.mt hmeet3 () (Option.some.inj h)
 rintro p13 rfl
 replace h:=elimL h
 refine Run.sr (X.an ?_)
 cases h
 refine R.f1 Tryz.results119 ?_
 rfl
theorem Q0b (b0:A0f)(b1:List Int)(r:Int)(h:G0i b0 b1=some r):PC Tryz.prog 80 [A0d b0,.slice (b1.map int)] (int r):=by
 unfold G0i at h
 refine PC.start Tryz.func80 Tryz.ntmps80 rfl (by kernel_rfl) rfl ?_
 refine Run.sr (X.bx ?_)
 refine X.an ?_
 refine Run.sr (X.an ?_)
 refine Run.sr (X.an ?_)
 refine Run.seq (Run.sr (X.fl Q0e ?_))
 refine X.ld shp65 ?_
 refine X.ls elt65 ?_
 refine X.mn ?_
 obtain ⟨o1,ho1,h⟩:=bindE h
 refine R.join2 (β:=Int) [] [] (fun p19 S=>(5,int p19)::S) (fun p19 M=>M) (fun p19=>p19=o1) ?_ ?_
 ·intro JJ4 hmeet3
  have hup2:=h;clear h;have h:=ho1;clear ho1
  refine Run.block ?_
  refine R.bndS (t:=10) (by rfl) (fun hbd7=>?_)
  replace hbd7:b0.Modes.length≤9223372036854775807:=by first | (rw [List.length_map] at hbd7;exact hbd7) | simp
  refine R.lp (β:=Int×Int×Bool) [(1,.slice (b1.map int)),(10,.slice (b0.Modes.map B0f)),(11,int (b0.Modes.length:Int))] [] (fun bb S=>(5,int bb.2.1)::(6,bool bb.2.2)::(12,int bb.1)::S) (fun bb M=>M) (fun n bb=>0≤bb.1∧bb.1+n=(b0.Modes.length:Int)∧E0q b1 (b0.Modes.drop bb.1.toNat) bb.1 bb.2.1 bb.2.2=some o1) b0.Modes.length (0,0,false) ⟨Int.le_refl _,by simp,h⟩ ?_
  clear h
  rintro JJ7 n7 ⟨z8,a9,a10⟩ hag7 ⟨hza7,hzb7,h⟩
  dsimp only at hza7 hzb7 h
  refine Run.sr (X.bi ?_)
  refine X.nil (Run.seq ?_)
  refine R.cd (fun hc13=>?_) (fun hc13=>?_)
  ·obtain ⟨x11,xs12,hd7,hx7,hds7,hlt7⟩:=A0k hza7 hc13
   rw [hd7] at h
   rw [E0q] at h
   refine Run.skip (Run.seq (Run.block (Run.sr (X.mv ?_))))
   refine X.ix elt65 (A0a hx7).1 (A0c B0f hx7) ?_
   refine X.lc K0p ?_
   refine X.alloc S0x (h:=?_)
   refine X.as ?_
   refine X.sl K0p ?_
   refine X.nil (Run.seq ?_)
   obtain ⟨v14,hv14,h⟩:=bindE h
   obtain ⟨e15,he15,h2⟩:=bindE h
   refine R.regG [(1,.slice (b1.map int)),(5,int a9),(6,bool a10),(8,.lptr 512 0),(10,.slice (b0.Modes.map B0f)),(11,int (b0.Modes.length:Int)),(12,int z8),(29,bool e15)] [(512,.blk true [int x11.Duration,.slice (x11.Usage.map int),.slice (x11.Consumption.map int)])] ?_ ?_
   ·clear h;have h:=he15;clear he15 h2
    refine X.mv ?_
    refine X.mv ?_
    refine X.cp (X0h _ _ _ hv14) ?_
    refine X.mv ?_
    refine X.iG (fun hb16=>?_) (fun hb16=>?_)
    ·replace h:=condT hb16 h
     refine X.mv ?_
     refine X.gy (X.un (h:=?_))
     refine X.gy (X.mv ?_)
     refine X.iG (fun hb17=>?_) (fun hb17=>?_)
     ·replace h:=condF hb17 h
      refine X.fl N0k ?_
      refine X.gy (X.ld shp3 ?_)
      refine X.gy (X.mv ?_)
      refine X.gy (X.bi ?_)
      refine X.gy (X.pF ?_)
      refine X.pT ?_
      cases h
      exact X.eG
     replace h:=condT hb17 h
     refine X.gn (X.gn (X.gn (X.gy (X.pT ?_))))
     refine X.pT ?_
     cases h
     exact X.eG
    replace h:=condF hb16 h
    refine X.gn (X.gn (X.gU (h:=?_)))
    refine X.gU (h:=?_)
    refine X.gU (h:=?_)
    refine X.gU (h:=?_)
    refine X.gn (X.pF ?_)
    cases h
    exact X.eG
   replace h:=h2;clear h2
   refine R.cd (fun hc18=>?_) (fun hc18=>?_)
   ·replace h:=condT hc18 h
    refine Run.sr (X.fl N0k ?_)
    refine X.ld shp3 ?_
    refine X.an ?_
    refine Run.reg (X.an ?_)
    refine Run.blk (Run.reg (X.ad ?_))
    refine X.mn ?_
    exact R.ag hag7 (n7 - 1) (z8+1,x11.Duration,true) (R.n3 (by first | (rw [hds7];exact h) | (dsimp only;rw [hds7];exact h)))
   replace h:=condF hc18 h
   refine Run.skip (Run.blk (Run.reg (X.ad ?_)))
   refine X.mn ?_
   exact R.ag hag7 (n7 - 1) (z8+1,a9,a10) (R.n3 (by first | (rw [hds7];exact h) | (dsimp only;rw [hds7];exact h)))
  rw [A0h hza7 hc13] at h
  rw [E0q] at h
  refine Run.exit (by rfl) ?_
  exact R.mt hmeet3 a9 (Option.some.inj h)
 rintro p19 rfl
 refine Run.sr (X.mv ?_)
 refine X.an ?_
 cases h
 refine R.f1 Tryz.results80 ?_
 rfl
theorem L1m (b0:A0b)(b1:Int)(b2:List Int)(r:Int)(h:X0x b0 b1 b2=some r):PC Tryz.prog 163 [A0n b0,int b1,.slice (b2.map int)] (int r):=by
 unfold X0x at h
 refine PC.start Tryz.func163 Tryz.ntmps163 rfl (by kernel_rfl) rfl ?_
 refine Run.sr (X.bx ?_)
 refine X.an ?_
 refine Run.sr (X.fl J0h ?_)
 refine X.ld shp31 ?_
 refine X.mv ?_
 obtain ⟨v1,hv1,h⟩:=bindE h
 refine X.ix elt31 (A0a hv1).1 (A0c A0l hv1) ?_
 refine X.lc shp75 ?_
 refine X.alloc zer75 (h:=?_)
 refine X.sl shp75 ?_
 refine X.nil (Run.seq (Run.sr (X.fl C1h ?_)))
 refine X.ld shp4 ?_
 refine X.nil ?_
 refine R.cd (fun hc2=>?_) (fun hc2=>?_)
 ·replace h:=condT hc2 h
  refine Run.seq (Run.draw (B0m [(1,([448],[],[],[])),(3,([192],[],[],[])),(5,([448],[],[],[]))]) mixed (by kernel_rfl) (by kernel_rfl) ?_)
  refine X.fl T0l ?_
  refine X.ld shp3 ?_
  refine X.fl B0l ?_
  refine X.ld shp30 ?_
  refine X.fl J0y ?_
  refine X.ld shp3 ?_
  obtain ⟨v3,hv3,h⟩:=bindE h
  refine X.ix elt30 (A0a hv3).1 (A0c A0d hv3) ?_
  refine X.lc shp67 ?_
  refine X.mv ?_
  obtain ⟨v4,hv4,h⟩:=bindE h
  refine X.cp (Q0b _ _ _ hv4) ?_
  refine X.addW (h:=?_)
  refine X.an ?_
  cases h
  refine R.f1 Tryz.results163 ?_
  rfl
 replace h:=condF hc2 h
 refine Run.skip (Run.sr (X.fl T0l ?_))
 refine X.ld shp3 ?_
 refine X.an ?_
 cases h
 refine R.f1 Tryz.results163 ?_
 rfl
theorem D1u (b0:A0b)(b1:Int)(r:Int)(h:P0c b0 b1=some r):PC Tryz.prog 147 [A0n b0,int b1] (int r):=by
 unfold P0c at h
 refine PC.start Tryz.func147 Tryz.ntmps147 rfl (by kernel_rfl) rfl ?_
 refine Run.sr (X.bx ?_)
 refine X.an ?_
 refine Run.seq (Run.draw (B0m [(0,([128],[],[],[])),(3,([128],[],[],[])),(5,([128],[],[],[])),(12,([],[1088],[],[])),(13,([1088],[],[],[]))]) mixed (by kernel_rfl) (by kernel_rfl) ?_)
 refine X.ld shp34 ?_
 refine X.mv ?_
 refine X.fl B0l ?_
 refine X.ld shp30 ?_
 refine X.fl J0h ?_
 refine X.ld shp31 ?_
 refine X.mv ?_
 obtain ⟨v1,hv1,h⟩:=bindE h
 refine X.ix elt31 (A0a hv1).1 (A0c A0l hv1) ?_
 refine X.fieldAddr_c J0y (by rfl) (by rfl) ?_
 refine X.lc shp3 ?_
 obtain ⟨v2,hv2,h⟩:=bindE h
 refine X.ix elt30 (A0a hv2).1 (A0c A0d hv2) ?_
 refine X.lc shp67 ?_
 obtain ⟨v3,hv3,h⟩:=bindE h
 refine X.callF (K0e _ _ hv3) (by rfl) (by rfl) (by rfl) (by trivial) (by rfl) (by rfl) (by rfl) (by rfl) ?_
 obtain ⟨v4,hv4,h⟩:=bindE h
 refine X.cp (L1m _ _ _ _ hv4) ?_
 refine X.an ?_
 cases h
 refine R.f1 Tryz.results147 ?_
 rfl
theorem F1e (rec:A0b→(List Int)→Int→Option (List Int))(hrec:∀(b0:A0b) (b1:List Int) (b2:Int) (r:List Int),rec b0 b1 b2=some r→PC Tryz.prog 146 [A0n b0,.slice (b1.map int),int b2] (.slice (r.map int)))(b0:A0b)(b1:List Int)(b2:Int)(r:List Int)(h:R0e rec b0 b1 b2=some r):PC Tryz.prog 146 [A0n b0,.slice (b1.map int),int b2] (.slice (r.map int)):=by
 unfold R0e at h
 refine PC.start Tryz.func146 Tryz.ntmps146 rfl (by kernel_rfl) rfl ?_
 refine Run.sr (X.bx ?_)
 refine X.an ?_
 refine Run.seq (Run.draw (B0m [(1,([192],[],[],[]))]) mixed (by kernel_rfl) (by kernel_rfl) ?_)
 refine X.fl J0h ?_
 refine X.ld shp31 ?_
 refine X.mv ?_
 obtain ⟨v1,hv1,h⟩:=bindE h
 refine X.ix elt25 (A0a hv1).1 (A0c int hv1) ?_
 refine X.lc shp3 ?_
 obtain ⟨v2,hv2,h⟩:=bindE h
 refine X.ix elt31 (A0a hv2).1 (A0c A0l hv2) ?_
 refine X.fieldAddr_c J0y (by rfl) (by rfl) ?_
 refine X.lc shp3 ?_
 refine X.an ?_
 refine Run.seq (Run.draw (B0m [(1,([192],[],[],[]))]) mixed (by kernel_rfl) (by kernel_rfl) ?_)
 refine X.fl J0h ?_
 refine X.ld shp31 ?_
 refine X.mv ?_
 refine X.mv ?_
 refine X.ls elt25 ?_
 refine X.subW (h:=?_)
 obtain ⟨v3,hv3,h⟩:=bindE h
 refine X.ix elt25 (A0a hv3).1 (A0c int hv3) ?_
 refine X.lc shp3 ?_
 obtain ⟨v4,hv4,h⟩:=bindE h
 refine X.ix elt31 (A0a hv4).1 (A0c A0l hv4) ?_
 refine X.fieldAddr_c L0o (by rfl) (by rfl) ?_
 refine X.lc shp3 ?_
 refine X.an ?_
 refine Run.seq (Run.sr (X.mv ?_))
 refine X.mv ?_
 refine X.bi ?_
 refine X.nil ?_
 refine R.cd (fun hc5=>?_) (fun hc5=>?_)
 ·replace h:=condT hc5 h
  refine Run.sr (X.an ?_)
  refine Run.seq (Run.sr (X.mv ?_))
  refine X.ls elt25 ?_
  refine X.mn ?_
  obtain ⟨o6,ho6,h⟩:=bindE h
  refine R.join2 (β:=Int) [(1,.slice (b1.map int)),(2,int b2)] [] (fun p19 S=>(9,int p19)::S) (fun p19 M=>M) (fun p19=>p19=o6) ?_ ?_
  ·intro JJ9 hmeet8
   have hup7:=h;clear h;have h:=ho6;clear ho6
   refine Run.block ?_
   refine R.bndS (t:=1) (by rfl) (fun hbd12=>?_)
   replace hbd12:b1.length≤9223372036854775807:=by first | (rw [List.length_map] at hbd12;exact hbd12) | simp
   refine R.lp (β:=Int×Int) [(1,.slice (b1.map int)),(2,int b2),(3,.lptr 192 0),(39,.slice (b1.map int)),(40,int (b1.length:Int))] [(192,.blk true [int b0.Deadline,.slice (b0.Activities.map A0d),.slice (b0.Links.map A0l),.slice (b0.Resources.map A0e),.slice (b0.Stocks.map int)])] (fun bb S=>(9,int bb.2)::(41,int bb.1)::S) (fun bb M=>M) (fun n bb=>0≤bb.1∧bb.1+n=(b1.length:Int)∧D0k b0 (b1.drop bb.1.toNat) bb.1 bb.2=some o6) b1.length (0,0) ⟨Int.le_refl _,by simp,h⟩ ?_
   clear h
   rintro JJ12 n12 ⟨z13,a14⟩ hag12 ⟨hza12,hzb12,h⟩
   dsimp only at hza12 hzb12 h
   refine Run.sr (X.bi ?_)
   refine X.nil (Run.seq ?_)
   refine R.cd (fun hc17=>?_) (fun hc17=>?_)
   ·obtain ⟨x15,xs16,hd12,hx12,hds12,hlt12⟩:=A0k hza12 hc17
    rw [hd12] at h
    rw [D0k] at h
    refine Run.skip (Run.seq (Run.block (Run.sr (X.ix elt25 (A0a hx12).1 (A0c int hx12) ?_))))
    refine X.lc shp3 ?_
    refine X.an ?_
    refine Run.reg (X.mv ?_)
    refine X.ld shp34 ?_
    refine X.mv ?_
    obtain ⟨v18,hv18,h⟩:=bindE h
    refine X.cp (D1u _ _ _ hv18) ?_
    refine X.addW (h:=?_)
    refine X.an ?_
    refine Run.blk (Run.reg (X.ad ?_))
    refine X.mn ?_
    exact R.ag hag12 (n12 - 1) (z13+1,(W (a14+v18))) (R.n3 (by first | (rw [hds12];exact h) | (dsimp only;rw [hds12];exact h)))
   rw [A0h hza12 hc17] at h
   rw [D0k] at h
   refine Run.exit (by rfl) ?_
   exact R.mt hmeet8 a14 (Option.some.inj h)
  rintro p19 rfl
  refine Run.seq (Run.seq ?_)
  obtain ⟨e20,he20,h2⟩:=bindE h
  refine R.regG [(1,.slice (b1.map int)),(58,bool e20)] [] ?_ ?_
  ·clear h;have h:=he20;clear he20 h2
   refine X.mv ?_
   refine X.bi ?_
   refine X.mv ?_
   refine X.iG (fun hb21=>?_) (fun hb21=>?_)
   ·replace h:=condT hb21 h
    refine X.mv ?_
    refine X.gy (X.ls elt25 ?_)
    refine X.gy (X.mv ?_)
    refine X.gy (X.bi ?_)
    refine X.pT ?_
    cases h
    exact X.eG
   replace h:=condF hb21 h
   refine X.gn (X.gn (X.gn (X.pF ?_)))
   cases h
   exact X.eG
  replace h:=h2;clear h2
  refine R.cd (fun hc22=>?_) (fun hc22=>?_)
  ·replace h:=condT hc22 h
   refine Run.sr (X.mv ?_)
   refine X.an ?_
   cases h
   refine R.f1 Tryz.results146 ?_
   rfl
  replace h:=condF hc22 h
  refine Run.skip (Run.sr (X.an ?_))
  cases h
  refine R.castS (t:=6) (.slice []) (by rfl) (.inr (.inl ⟨rfl,rfl⟩)) ?_
  refine R.f1 Tryz.results146 ?_
  rfl
 replace h:=condF hc5 h
 refine Run.skip (Run.seq (Run.sr (X.mv ?_)))
 refine X.ls elt25 ?_
 refine X.mv ?_
 refine X.bi ?_
 refine X.nil ?_
 refine R.cd (fun hc23=>?_) (fun hc23=>?_)
 ·replace h:=condT hc23 h
  refine Run.sr (X.an ?_)
  cases h
  refine R.castS (t:=6) (.slice []) (by rfl) (.inr (.inl ⟨rfl,rfl⟩)) ?_
  refine R.f1 Tryz.results146 ?_
  rfl
 replace h:=condF hc23 h
 refine Run.skip (Run.seq (Run.sr (X.mv ?_)))
 refine X.mv ?_
 refine X.ls elt25 ?_
 refine X.subW (h:=?_)
 obtain ⟨v24,hv24,h⟩:=bindE h
 refine X.sliceS2 elt25 (by rfl) (by exact A0j (f:=int) (fun _=>rfl)) (by rfl) ⟨_,by rfl⟩ (L1d _ hv24) (H1h _ hv24) (by rfl) ?_
 refine X.ls elt25 ?_
 refine X.mn ?_
 obtain ⟨o25,ho25,h⟩:=bindE h
 refine R.join2 (β:=Unit) [(1,.slice (b1.map int)),(2,int b2),(3,.lptr 192 0),(8,int v4.To)] [(192,.blk true [int b0.Deadline,.slice (b0.Activities.map A0d),.slice (b0.Links.map A0l),.slice (b0.Resources.map A0e),.slice (b0.Stocks.map int)])] (fun p38 S=>S) (fun p38 M=>M) (fun p38=>(Sum.inl p38)=o25) ?_ ?_
 ·intro JJ28 hmeet27
  have hup26:=h;clear h;have h:=ho25;clear ho25
  refine Run.block ?_
  refine R.bndS (t:=68) (by rfl) (fun hbd31=>?_)
  replace hbd31:v24.length≤9223372036854775807:=by first | (rw [List.length_map] at hbd31;exact hbd31) | simp
  refine R.lp (β:=Int) [(1,.slice (b1.map int)),(2,int b2),(3,.lptr 192 0),(8,int v4.To),(68,.slice (v24.map int)),(69,int (v24.length:Int))] [(192,.blk true [int b0.Deadline,.slice (b0.Activities.map A0d),.slice (b0.Links.map A0l),.slice (b0.Resources.map A0e),.slice (b0.Stocks.map int)])] (fun bb S=>(70,int bb)::S) (fun bb M=>M) (fun n bb=>0≤bb∧bb+n=(v24.length:Int)∧L0b b0 v4 (v24.drop bb.toNat) bb=some o25) v24.length (0:Int) ⟨Int.le_refl _,by simp,h⟩ ?_
  clear h
  rintro JJ31 n31 z32 hag31 ⟨hza31,hzb31,h⟩
  refine Run.sr (X.bi ?_)
  refine X.nil (Run.seq ?_)
  refine R.cd (fun hc35=>?_) (fun hc35=>?_)
  ·obtain ⟨x33,xs34,hd31,hx31,hds31,hlt31⟩:=A0k hza31 hc35
   rw [hd31] at h
   rw [L0b] at h
   refine Run.skip (Run.seq (Run.block (Run.sr (X.ix elt25 (A0a hx31).1 (A0c int hx31) ?_))))
   refine X.lc shp3 ?_
   refine X.an ?_
   refine Run.sr (X.fl J0h ?_)
   refine X.ld shp31 ?_
   refine X.mv ?_
   obtain ⟨v36,hv36,h⟩:=bindE h
   refine X.ix elt31 (A0a hv36).1 (A0c A0l hv36) ?_
   refine X.fieldAddr_c L0o (by rfl) (by rfl) ?_
   refine X.lc shp3 ?_
   refine X.mv ?_
   refine X.bi ?_
   refine X.nil ?_
   refine R.cd (fun hc37=>?_) (fun hc37=>?_)
   ·replace h:=condT hc37 h
    refine Run.sr (X.an ?_)
    cases h
    have h:=hup26
    replace h:=elimR h
    cases h
    refine R.castS (t:=6) (.slice []) (by rfl) (.inr (.inl ⟨rfl,rfl⟩)) ?_
    refine R.f1 Tryz.results146 ?_
    rfl
   replace h:=condF hc37 h
   refine Run.skip (Run.blk (Run.reg (X.ad ?_)))
   refine X.mn ?_
   exact R.ag hag31 (n31 - 1) (z32+1) (R.n3 (by first | (rw [hds31];exact h) | (dsimp only;rw [hds31];exact h)))
  rw [A0h hza31 hc35] at h
  rw [L0b] at h
  refine Run.exit (by rfl) ?_
  exact R.mt hmeet27 () (Option.some.inj h)
 rintro p38 rfl
 replace h:=elimL h
 refine Run.seq (Run.sr (X.fl J0h ?_))
 refine X.ld shp31 ?_
 refine X.ls elt31 ?_
 refine X.mn ?_
 obtain ⟨o40,ho40,h⟩:=bindE h
 refine R.join2 (β:=Unit) [] [] (fun p58 S=>S) (fun p58 M=>M) (fun p58=>(Sum.inl p58)=o40) ?_ ?_
 ·intro JJ43 hmeet42
  have hup41:=h;clear h;have h:=ho40;clear ho40
  refine Run.block ?_
  refine R.bndS (t:=84) (by rfl) (fun hbd46=>?_)
  replace hbd46:b0.Links.length≤9223372036854775807:=by first | (rw [List.length_map] at hbd46;exact hbd46) | simp
  refine R.lp (β:=Int) [(1,.slice (b1.map int)),(2,int b2),(3,.lptr 192 0),(8,int v4.To),(84,.slice (b0.Links.map A0l)),(85,int (b0.Links.length:Int))] [(192,.blk true [int b0.Deadline,.slice (b0.Activities.map A0d),.slice (b0.Links.map A0l),.slice (b0.Resources.map A0e),.slice (b0.Stocks.map int)])] (fun bb S=>(86,int bb)::S) (fun bb M=>M) (fun n bb=>0≤bb∧bb+n=(b0.Links.length:Int)∧G0l b0 b1 b2 rec v1 v4 (b0.Links.drop bb.toNat) bb=some o40) b0.Links.length (0:Int) ⟨Int.le_refl _,by simp,h⟩ ?_
  clear h
  rintro JJ46 n46 z47 hag46 ⟨hza46,hzb46,h⟩
  refine Run.sr (X.bi ?_)
  refine X.nil (Run.seq ?_)
  refine R.cd (fun hc50=>?_) (fun hc50=>?_)
  ·obtain ⟨x48,xs49,hd46,hx46,hds46,hlt46⟩:=A0k hza46 hc50
   rw [hd46] at h
   rw [G0l] at h
   refine Run.skip (Run.seq (Run.block (Run.sr (X.mv ?_))))
   refine X.ix elt31 (A0a hx46).1 (A0c A0l hx46) ?_
   refine X.lc shp75 ?_
   refine X.alloc zer75 (h:=?_)
   refine X.as ?_
   refine X.sl shp75 ?_
   refine X.nil (Run.seq (Run.seq ?_))
   obtain ⟨e51,he51,h2⟩:=bindE h
   refine R.regG [(1,.slice (b1.map int)),(2,int b2),(3,.lptr 192 0),(8,int v4.To),(14,int z47),(84,.slice (b0.Links.map A0l)),(85,int (b0.Links.length:Int)),(86,int z47),(101,bool e51)] [(192,.blk true [int b0.Deadline,.slice (b0.Activities.map A0d),.slice (b0.Links.map A0l),.slice (b0.Resources.map A0e),.slice (b0.Stocks.map int)])] ?_ ?_
   ·clear h;have h:=he51;clear he51 h2
    refine X.fl J0y ?_
    refine X.ld shp3 ?_
    refine X.mv ?_
    refine X.bi ?_
    refine X.mv ?_
    refine X.iG (fun hb52=>?_) (fun hb52=>?_)
    ·replace h:=condF hb52 h
     refine X.mv ?_
     refine X.gy (X.mv ?_)
     refine X.gy (X.ix elt25 (A0a hv1).1 (A0c int hv1) ?_)
     refine X.gy (X.lc shp3 ?_)
     refine X.gy (X.bi ?_)
     refine X.pF ?_
     cases h
     exact X.eG
    replace h:=condT hb52 h
    refine X.gn (X.gn (X.gn (X.gn (X.pT ?_))))
    cases h
    exact X.eG
   replace h:=h2;clear h2
   refine R.cd (fun hc53=>?_) (fun hc53=>?_)
   ·replace h:=condT hc53 h
    refine Run.exit (by rfl) ?_
    refine Run.reg (X.ad ?_)
    refine X.mn ?_
    exact R.ag hag46 (n46 - 1) (z47+1) (R.n3 (by first | (rw [hds46];exact h) | (dsimp only;rw [hds46];exact h)))
   replace h:=condF hc53 h
   refine Run.skip (Run.seq (Run.draw2 (B0m [(0,([192],[],[],[])),(1,([6592],[6592],[],[])),(3,([6592],[6592],[],[])),(5,([6848],[6848],[],[])),(6,([6592,6848],[6592],[],[])),(8,([6592],[],[],[]))]) mixed (by kernel_rfl) (by kernel_rfl) ?_))
   refine X.ld shp34 ?_
   refine X.buildSlice false elt25 zer3 (by rfl) (by rfl) (by rfl) (by rfl) (by rfl) (by rfl) (by repeat (first | trivial | refine ⟨by first | rfl | simp [setL],?_⟩)) (A0o (by rfl)) (by rfl) (by rfl) (by rfl) ?_
   refine X.mv ?_
   obtain ⟨v54,hv54,h⟩:=bindE h
   refine X.append elt25 zer3 (by rfl) (by rfl) (by first | rfl | simp [setL] | omega) (by rfl) (.pure _) (by exact A0j (f:=int) (fun _=>rfl)) (E0l int hv54) (E0k int hv54) (by rfl) (by rfl) (by rfl) (by rfl) ?_
   refine X.mv ?_
   refine X.buildSlice false elt25 zer3 (by rfl) (by rfl) (by rfl) (by rfl) (by rfl) (by rfl) (by repeat (first | trivial | refine ⟨by first | rfl | simp [setL],?_⟩)) (A0o (by rfl)) (by rfl) (by rfl) (by rfl) ?_
   obtain ⟨v55,hv55,h⟩:=bindE h
   refine X.append elt25 zer3 (by rfl) (by rfl) (by first | rfl | simp [setL] | omega) (by rfl) (.own _ _ _ _ _ _ (A0g (by rfl)) (by first | rfl | simp [setL] | omega)) (A0o (by rfl)) (E0l int hv55) (E0k int hv55) (by rfl) (by rfl) (by rfl) (by rfl) ?_
   refine X.mv ?_
   obtain ⟨v56,hv56,h⟩:=bindE h
   refine X.cp (hrec _ _ _ _ hv56) ?_
   refine X.an ?_
   refine Run.sr (X.mv ?_)
   refine X.ls elt25 ?_
   refine X.bi ?_
   refine X.nil ?_
   refine R.cd (fun hc57=>?_) (fun hc57=>?_)
   ·replace h:=condT hc57 h
    refine Run.sr (X.mv ?_)
    refine X.an ?_
    cases h
    have h:=hup41
    replace h:=elimR h
    cases h
    refine R.f1 Tryz.results146 ?_
    rfl
   replace h:=condF hc57 h
   refine Run.skip (Run.blk (Run.reg (X.ad ?_)))
   refine X.mn ?_
   exact R.ag hag46 (n46 - 1) (z47+1) (R.n3 (by first | (rw [hds46];exact h) | (dsimp only;rw [hds46];exact h)))
  rw [A0h hza46 hc50] at h
  rw [G0l] at h
  refine Run.exit (by rfl) ?_
  exact R.mt hmeet42 () (Option.some.inj h)
 rintro p58 rfl
 replace h:=elimL h
 refine Run.sr (X.an ?_)
 cases h
 refine R.castS (t:=6) (.slice []) (by rfl) (.inr (.inl ⟨rfl,rfl⟩)) ?_
 refine R.f1 Tryz.results146 ?_
 rfl
theorem H1x (b0:A0b)(b1:List Int)(b2:Int)(r:List Int)(h:E1n b0 b1 b2=some r):PC Tryz.prog 146 [A0n b0,.slice (b1.map int),int b2] (.slice (r.map int)):=by
 have key:∀(n:Nat)(b0:A0b)(b1:List Int)(b2:Int)(r:List Int),K0y n b0 b1 b2=some r→PC Tryz.prog 146 [A0n b0,.slice (b1.map int),int b2] (.slice (r.map int)):=by
  intro n
  induction n with
  | zero=>intro b0 b1 b2 r h;cases h
  | succ n ih=>intro b0 b1 b2 r h;exact F1e (K0y n) ih b0 b1 b2 r h
 exact key F0 b0 b1 b2 r h
theorem Y0l (b0:A0b)(r:List Int)(h:L0d b0=some r):PC Tryz.prog 117 [A0n b0] (.slice (r.map int)):=by
 unfold L0d at h
 refine PC.start Tryz.func117 Tryz.ntmps117 rfl (by kernel_rfl) rfl ?_
 refine Run.sr (X.bx ?_)
 refine X.an ?_
 refine Run.seq (Run.sr (X.ld shp34 ?_))
 obtain ⟨v1,hv1,h⟩:=bindE h
 refine X.cp (G0p _ _ hv1) ?_
 refine X.un (h:=?_)
 refine X.nil ?_
 refine R.cd (fun hc2=>?_) (fun hc2=>?_)
 ·replace h:=condT hc2 h
  refine Run.sr (X.an ?_)
  cases h
  refine R.castS (t:=2) (.slice []) (by rfl) (.inr (.inl ⟨rfl,rfl⟩)) ?_
  refine R.f1 Tryz.results117 ?_
  rfl
 replace h:=condF hc2 h
 refine Run.skip (Run.seq (Run.sr (X.an ?_)))
 obtain ⟨o3,ho3,h⟩:=bindE h
 refine R.join2 (β:=Unit) [] [] (fun p27 S=>S) (fun p27 M=>M) (fun p27=>(Sum.inl p27)=o3) ?_ ?_
 ·intro JJ6 hmeet5
  have hup4:=h;clear h;have h:=ho3;clear ho3
  refine Run.block ?_
  refine R.lp (β:=Int) [(1,.lptr 64 0)] [(64,.blk true [int b0.Deadline,.slice (b0.Activities.map A0d),.slice (b0.Links.map A0l),.slice (b0.Resources.map A0e),.slice (b0.Stocks.map int)])] (fun bb S=>(3,int bb)::S) (fun bb M=>M) (fun n bb=>C0l b0 n bb=some o3) F0 2 h ?_
  clear h
  rintro JJ6 n6 a8 hag6 h
  obtain _ | n6:=n6
  ·exact absurd h (by simp [C0l])
  rw [C0l] at h
  refine Run.seq (Run.sr (X.mv ?_))
  refine X.fl B0l ?_
  refine X.ld shp30 ?_
  refine X.ls elt30 ?_
  refine X.bi ?_
  refine X.nil ?_
  refine R.cd (fun hc11=>?_) (fun hc11=>?_)
  ·replace h:=condT hc11 h
   refine Run.skip (Run.seq (Run.block (Run.sr (X.fl J0h ?_))))
   refine X.ld shp31 ?_
   refine X.ls elt31 ?_
   refine X.mn ?_
   obtain ⟨o12,ho12,h⟩:=bindE h
   refine R.join2 (β:=Unit) [(1,.lptr 64 0),(3,int a8)] [(64,.blk true [int b0.Deadline,.slice (b0.Activities.map A0d),.slice (b0.Links.map A0l),.slice (b0.Resources.map A0e),.slice (b0.Stocks.map int)])] (fun p25 S=>S) (fun p25 M=>M) (fun p25=>(Sum.inl p25)=o12) ?_ ?_
   ·intro JJ15 hmeet14
    have hup13:=h;clear h;have h:=ho12;clear ho12
    refine Run.block ?_
    refine R.bndS (t:=17) (by rfl) (fun hbd18=>?_)
    replace hbd18:b0.Links.length≤9223372036854775807:=by first | (rw [List.length_map] at hbd18;exact hbd18) | simp
    refine R.lp (β:=Int) [(1,.lptr 64 0),(3,int a8),(18,int (b0.Links.length:Int))] [(64,.blk true [int b0.Deadline,.slice (b0.Activities.map A0d),.slice (b0.Links.map A0l),.slice (b0.Resources.map A0e),.slice (b0.Stocks.map int)])] (fun bb S=>(19,int bb)::S) (fun bb M=>M) (fun n bb=>0≤bb∧bb+n=(b0.Links.length:Int)∧E0d b0 a8 (b0.Links.drop bb.toNat) bb=some o12) b0.Links.length (0:Int) ⟨Int.le_refl _,by simp,h⟩ ?_
    clear h
    rintro JJ18 n18 z19 hag18 ⟨hza18,hzb18,h⟩
    refine Run.sr (X.bi ?_)
    refine X.nil (Run.seq ?_)
    refine R.cd (fun hc22=>?_) (fun hc22=>?_)
    ·obtain ⟨x20,xs21,hd18,hx18,hds18,hlt18⟩:=A0k hza18 hc22
     rw [hd18] at h
     rw [E0d] at h
     refine Run.skip (Run.seq (Run.block (Run.sr (X.mv ?_))))
     refine X.an ?_
     refine Run.sr (X.ld shp34 ?_)
     refine X.mv ?_
     refine X.buildSlice false elt25 zer3 (by rfl) (by rfl) (by rfl) (by rfl) (by rfl) (by rfl) (by repeat (first | trivial | refine ⟨by first | rfl | simp [setL],?_⟩)) (A0o (by rfl)) (by rfl) (by rfl) (by rfl) ?_
     refine X.mv ?_
     obtain ⟨v23,hv23,h⟩:=bindE h
     refine X.cp (H1x _ _ _ _ hv23) ?_
     refine X.an ?_
     refine Run.sr (X.mv ?_)
     refine X.ls elt25 ?_
     refine X.bi ?_
     refine X.nil ?_
     refine R.cd (fun hc24=>?_) (fun hc24=>?_)
     ·replace h:=condT hc24 h
      refine Run.sr (X.mv ?_)
      refine X.an ?_
      cases h
      have h:=hup13
      replace h:=elimR h
      cases h
      have h:=hup4
      replace h:=elimR h
      cases h
      refine R.f1 Tryz.results117 ?_
      rfl
     replace h:=condF hc24 h
     refine Run.skip (Run.blk (Run.reg (X.ad ?_)))
     refine X.mn ?_
     exact R.ag hag18 (n18 - 1) (z19+1) (R.n3 (by first | (rw [hds18];exact h) | (dsimp only;rw [hds18];exact h)))
    rw [A0h hza18 hc22] at h
    rw [E0d] at h
    refine Run.exit (by rfl) ?_
    exact R.mt hmeet14 () (Option.some.inj h)
   rintro p25 rfl
   replace h:=elimL h
   refine Run.blk (Run.reg (X.mv ?_))
   refine X.addW (h:=?_)
   refine X.an ?_
   exact hag6 n6 (W (a8+1)) _ _ (by omega) h (by trivial) (by trivial) (by rfl) (by rfl)
  replace h:=condF hc11 h
  refine Run.exit (by rfl) ?_
  exact R.mt hmeet5 () (Option.some.inj h)
 rintro p27 rfl
 replace h:=elimL h
 refine Run.sr (X.an ?_)
 cases h
 refine R.castS (t:=2) (.slice []) (by rfl) (.inr (.inl ⟨rfl,rfl⟩)) ?_
 refine R.f1 Tryz.results117 ?_
 rfl
theorem H0x (b0:Int)(b1:Int)(r:Int)(h:K0o b0 b1=some r):PC Tryz.prog 42 [int b0,int b1] (int r):=by
 unfold K0o at h
 refine PC.start Tryz.func42 Tryz.ntmps42 rfl (by kernel_rfl) rfl ?_
 refine Run.sr (X.an ?_)
 refine Run.seq (Run.sr (X.mv ?_))
 refine X.mv ?_
 refine X.bi ?_
 refine X.nil ?_
 refine R.cd (fun hc1=>?_) (fun hc1=>?_)
 ·replace h:=condT hc1 h
  refine Run.sr (X.mv ?_)
  refine X.an ?_
  cases h
  refine R.f1 Tryz.results42 ?_
  rfl
 replace h:=condF hc1 h
 refine Run.skip (Run.sr (X.mv ?_))
 refine X.an ?_
 cases h
 refine R.f1 Tryz.results42 ?_
 rfl
theorem H1t (b0:A0b)(r:List (List Int))(h:V0m b0=some r):PC Tryz.prog 118 [A0n b0] (.tre 25 1 (r.map t_int)):=by
 unfold V0m at h
 refine PC.start Tryz.func118 Tryz.ntmps118 rfl (by kernel_rfl) rfl ?_
 refine Run.sr (X.bx ?_)
 refine X.an ?_
 refine Run.seq (Run.region ?_)
 refine Run.buildT0 elt61 (by rfl) zer25 (by rfl) (by rfl) (by rfl) ?_
 refine Run.aso ?_
 refine Run.nil (Run.seq (Run.sr (X.fl B0l ?_)))
 refine X.ld shp30 ?_
 refine X.ls elt30 ?_
 refine X.mn ?_
 obtain ⟨o1,ho1,h⟩:=bindE h
 refine R.join2 (β:=(List (List Int))) [(1,.lptr 64 0)] [(64,.blk true [int b0.Deadline,.slice (b0.Activities.map A0d),.slice (b0.Links.map A0l),.slice (b0.Resources.map A0e),.slice (b0.Stocks.map int)])] (fun p34 S=>(3,.tref 832 (p34.map t_int).length .out)::S) (fun p34 M=>(832,.tre 25 1 (p34.map t_int))::M) (fun p34=>p34=o1) ?_ ?_
 ·intro JJ4 hmeet3
  have hup2:=h;clear h;have h:=ho1;clear ho1
  refine Run.block ?_
  refine R.bndS (t:=15) (by rfl) (fun hbd7=>?_)
  replace hbd7:b0.Activities.length≤9223372036854775807:=by first | (rw [List.length_map] at hbd7;exact hbd7) | simp
  refine R.lp (β:=Int×(List (List Int))) [(1,.lptr 64 0),(16,int (b0.Activities.length:Int))] [(64,.blk true [int b0.Deadline,.slice (b0.Activities.map A0d),.slice (b0.Links.map A0l),.slice (b0.Resources.map A0e),.slice (b0.Stocks.map int)])] (fun bb S=>(3,.tref 832 (bb.2.map t_int).length .out)::(17,int bb.1)::S) (fun bb M=>(832,.tre 25 1 (bb.2.map t_int))::M) (fun n bb=>0≤bb.1∧bb.1+n=(b0.Activities.length:Int)∧J0m b0 (b0.Activities.drop bb.1.toNat) bb.1 bb.2=some o1) b0.Activities.length (0,([]:List (List Int))) ⟨Int.le_refl _,by simp,h⟩ ?_
  clear h
  rintro JJ7 n7 ⟨z8,a9⟩ hag7 ⟨hza7,hzb7,h⟩
  dsimp only at hza7 hzb7 h
  refine Run.sr (X.bi ?_)
  refine X.nil (Run.seq ?_)
  refine R.cd (fun hc12=>?_) (fun hc12=>?_)
  ·obtain ⟨x10,xs11,hd7,hx7,hds7,hlt7⟩:=A0k hza7 hc12
   rw [hd7] at h
   rw [J0m] at h
   refine Run.skip (Run.seq (Run.block (Run.sr (X.mv ?_))))
   refine X.an ?_
   refine Run.sr ?_
   refine X.buildSlice true elt25 zer3 (by rfl) (by rfl) (by rfl) (by rfl) (by rfl) (by rfl) (by repeat (first | trivial | refine ⟨by first | rfl | simp [setL],?_⟩)) (A0o (by rfl)) (by rfl) (by rfl) (by rfl) ?_
   refine X.an ?_
   refine Run.seq (Run.sr (X.fl B0l ?_))
   refine X.ld shp30 ?_
   refine X.ls elt30 ?_
   refine X.mn ?_
   obtain ⟨o13,ho13,h⟩:=bindE h
   refine R.join2 (β:=(List Int)) [(1,.lptr 64 0),(16,int (b0.Activities.length:Int)),(17,int z8)] [(64,.blk true [int b0.Deadline,.slice (b0.Activities.map A0d),.slice (b0.Links.map A0l),.slice (b0.Resources.map A0e),.slice (b0.Stocks.map int)]),(832,.tre 25 1 (a9.map t_int))] (fun p32 S=>(3,.tref 832 (a9.map t_int).length .out)::(5,.own 1280 (p32.map int).length)::S) (fun p32 M=>(1280,.obj true 3 1 (p32.map int))::M) (fun p32=>p32=o13) ?_ ?_
   ·intro JJ16 hmeet15
    have hup14:=h;clear h;have h:=ho13;clear ho13
    refine Run.block ?_
    refine R.bndS (t:=22) (by rfl) (fun hbd19=>?_)
    replace hbd19:b0.Activities.length≤9223372036854775807:=by first | (rw [List.length_map] at hbd19;exact hbd19) | simp
    refine R.lp (β:=Int×(List Int)) [(1,.lptr 64 0),(4,int z8),(16,int (b0.Activities.length:Int)),(17,int z8),(23,int (b0.Activities.length:Int))] [(64,.blk true [int b0.Deadline,.slice (b0.Activities.map A0d),.slice (b0.Links.map A0l),.slice (b0.Resources.map A0e),.slice (b0.Stocks.map int)]),(832,.tre 25 1 (a9.map t_int))] (fun bb S=>(3,.tref 832 (a9.map t_int).length .out)::(5,.own 1280 (bb.2.map int).length)::(24,int bb.1)::S) (fun bb M=>(1280,.obj true 3 1 (bb.2.map int))::M) (fun n bb=>0≤bb.1∧bb.1+n=(b0.Activities.length:Int)∧J0o z8 (b0.Activities.drop bb.1.toNat) bb.1 bb.2=some o13) b0.Activities.length (0,([]:List Int)) ⟨Int.le_refl _,by simp,h⟩ ?_
    clear h
    rintro JJ19 n19 ⟨z20,a21⟩ hag19 ⟨hza19,hzb19,h⟩
    dsimp only at hza19 hzb19 h
    refine Run.sr (X.bi ?_)
    refine X.nil (Run.seq ?_)
    refine R.cd (fun hc24=>?_) (fun hc24=>?_)
    ·obtain ⟨x22,xs23,hd19,hx19,hds19,hlt19⟩:=A0k hza19 hc24
     rw [hd19] at h
     rw [J0o] at h
     refine Run.skip (Run.seq (Run.block (Run.sr (X.mv ?_))))
     refine X.an ?_
     refine Run.sr (X.an ?_)
     refine Run.seq (Run.sr (X.mv ?_))
     refine X.mv ?_
     refine X.bi ?_
     refine X.nil ?_
     obtain ⟨o25,ho25,h⟩:=bindE h
     refine R.join2 (β:=Int) [(1,.lptr 64 0),(4,int z8),(16,int (b0.Activities.length:Int)),(17,int z8),(23,int (b0.Activities.length:Int)),(24,int z20)] [(64,.blk true [int b0.Deadline,.slice (b0.Activities.map A0d),.slice (b0.Links.map A0l),.slice (b0.Resources.map A0e),.slice (b0.Stocks.map int)]),(832,.tre 25 1 (a9.map t_int)),(1280,.obj true 3 1 (a21.map int))] (fun p30 S=>(3,.tref 832 (a9.map t_int).length .out)::(5,.own 1280 (a21.map int).length)::(7,int p30)::S) (fun p30 M=>M) (fun p30=>p30=o25) ?_ ?_
     ·intro JJ28 hmeet27
      have hup26:=h;clear h;have h:=ho25;clear ho25
      refine R.cd (fun hc29=>?_) (fun hc29=>?_)
      ·replace h:=condT hc29 h
       refine Run.reg (X.an ?_)
       exact R.mt hmeet27 0 (Option.some.inj h)
      replace h:=condF hc29 h
      refine Run.skip ?_
      exact R.mt hmeet27 (-1000) (Option.some.inj h)
     rintro p30 rfl
     refine Run.reg (X.mv ?_)
     refine X.mv ?_
     refine X.buildSlice false elt25 zer3 (by rfl) (by rfl) (by rfl) (by rfl) (by rfl) (by rfl) (by repeat (first | trivial | refine ⟨by first | rfl | simp [setL],?_⟩)) (A0o (by rfl)) (by rfl) (by rfl) (by rfl) ?_
     obtain ⟨v31,hv31,h⟩:=bindE h
     refine X.append elt25 zer3 (by rfl) (by rfl) (by first | rfl | simp [setL] | omega) (by rfl) (.own _ _ _ _ _ _ (A0g (by rfl)) (by first | rfl | simp [setL] | omega)) (A0o (by rfl)) (E0l int hv31) (E0k int hv31) (by rfl) (by rfl) (by rfl) (by rfl) ?_
     refine X.an ?_
     refine Run.blk (Run.reg (X.ad ?_))
     refine X.mn ?_
     exact R.ag hag19 (n19 - 1) (z20+1,v31) (R.n3 (by first | (rw [hds19];exact h) | (dsimp only;rw [hds19];exact h)))
    rw [A0h hza19 hc24] at h
    rw [J0o] at h
    refine Run.exit (by rfl) ?_
    exact R.mt hmeet15 a21 (Option.some.inj h)
   rintro p32 rfl
   refine Run.region ?_
   refine Run.mvo ?_
   refine Run.mvo ?_
   refine Run.buildT1 (S':=[(1,.lptr 64 0),(16,int (b0.Activities.length:Int)),(17,int z8),(35,.tref 832 (a9.map t_int).length .out)]) (M':=[(64,.blk true [int b0.Deadline,.slice (b0.Activities.map A0d),.slice (b0.Links.map A0l),.slice (b0.Resources.map A0e),.slice (b0.Stocks.map int)]),(832,.tre 25 1 (a9.map t_int))]) (q:=t_int p32) elt61 (by rfl) (by rfl) zer25 (by rfl) (by rfl) (by exact (.own _ _ _ _ _ _ _ _ (by rfl) (by first | rfl | simp [setL] | omega) (G1e _ (fun _=>(by repeat (first | exact trivial | refine ⟨trivial,?_⟩)))) (by simp) .nil)) (by rfl) (by repeat (first | trivial | refine ⟨by first | rfl | simp [setL],?_⟩)) (by repeat (first | trivial | refine ⟨by first | rfl | simp [setL],?_⟩)) (by rfl) (by rfl) (by rfl) (by rfl) (by rfl) ?_
   obtain ⟨v33,hv33,h⟩:=bindE h
   refine Run.appT (S':=[(1,.lptr 64 0),(16,int (b0.Activities.length:Int)),(17,int z8)]) (M':=[(64,.blk true [int b0.Deadline,.slice (b0.Activities.map A0d),.slice (b0.Links.map A0l),.slice (b0.Resources.map A0e),.slice (b0.Stocks.map int)])]) (E0k t_int hv33) elt61 (by rfl) zer25 (by rfl) (by rfl) (by rfl) (by first | rfl | simp [setL] | omega) (by rfl) (by rfl) (by first | rfl | simp [setL] | omega) (by rfl) (by rfl) (E0l t_int hv33) (by rfl) (by repeat (first | trivial | refine ⟨by first | rfl | simp [setL],?_⟩)) (by repeat (first | trivial | refine ⟨by first | rfl | simp [setL],?_⟩)) (by rfl) (by rfl) (by rfl) (by rfl) (by rfl) ?_
   refine Run.aso ?_
   refine Run.nil (Run.blk (Run.reg (X.ad ?_)))
   refine X.mn ?_
   exact R.ag hag7 (n7 - 1) (z8+1,v33) (R.n3 (by first | (rw [hds7];exact h) | (dsimp only;rw [hds7];exact h)))
  rw [A0h hza7 hc12] at h
  rw [J0m] at h
  refine Run.exit (by rfl) ?_
  exact R.mt hmeet3 a9 (Option.some.inj h)
 rintro p34 rfl
 refine Run.seq (Run.sr (X.fl J0h ?_))
 refine X.ld shp31 ?_
 refine X.ls elt31 ?_
 refine X.mn ?_
 obtain ⟨o35,ho35,h⟩:=bindE h
 refine R.join2 (β:=(List (List Int))) [(1,.lptr 64 0)] [(64,.blk true [int b0.Deadline,.slice (b0.Activities.map A0d),.slice (b0.Links.map A0l),.slice (b0.Resources.map A0e),.slice (b0.Stocks.map int)])] (fun p51 S=>(3,.tref 832 (p51.map t_int).length .out)::S) (fun p51 M=>(832,.tre 25 1 (p51.map t_int))::M) (fun p51=>p51=o35) ?_ ?_
 ·intro JJ38 hmeet37
  have hup36:=h;clear h;have h:=ho35;clear ho35
  refine Run.block ?_
  refine R.bndS (t:=41) (by rfl) (fun hbd41=>?_)
  replace hbd41:b0.Links.length≤9223372036854775807:=by first | (rw [List.length_map] at hbd41;exact hbd41) | simp
  refine R.lp (β:=Int×(List (List Int))) [(1,.lptr 64 0),(41,.slice (b0.Links.map A0l)),(42,int (b0.Links.length:Int))] [(64,.blk true [int b0.Deadline,.slice (b0.Activities.map A0d),.slice (b0.Links.map A0l),.slice (b0.Resources.map A0e),.slice (b0.Stocks.map int)])] (fun bb S=>(3,.tref 832 (bb.2.map t_int).length .out)::(43,int bb.1)::S) (fun bb M=>(832,.tre 25 1 (bb.2.map t_int))::M) (fun n bb=>0≤bb.1∧bb.1+n=(b0.Links.length:Int)∧J0q b0 (b0.Links.drop bb.1.toNat) bb.1 bb.2=some o35) b0.Links.length (0,p34) ⟨Int.le_refl _,by simp,h⟩ ?_
  clear h
  rintro JJ41 n41 ⟨z42,a43⟩ hag41 ⟨hza41,hzb41,h⟩
  dsimp only at hza41 hzb41 h
  refine Run.sr (X.bi ?_)
  refine X.nil (Run.seq ?_)
  refine R.cd (fun hc46=>?_) (fun hc46=>?_)
  ·obtain ⟨x44,xs45,hd41,hx41,hds41,hlt41⟩:=A0k hza41 hc46
   rw [hd41] at h
   rw [J0q] at h
   refine Run.skip (Run.seq (Run.block (Run.sr (X.mv ?_))))
   refine X.ix elt31 (A0a hx41).1 (A0c A0l hx41) ?_
   refine X.lc shp75 ?_
   refine X.alloc zer75 (h:=?_)
   refine X.as ?_
   refine X.sl shp75 ?_
   refine X.nil (Run.draw (B0m [(2,([576],[],[],[])),(3,([832],[],[],[])),(4,([832],[],[],[])),(6,([576],[],[],[])),(9,([576],[],[],[])),(10,([832],[],[],[])),(11,([832],[],[],[])),(13,([576],[],[],[])),(14,([832],[],[],[])),(15,([832],[],[],[])),(16,([64],[],[],[])),(20,([832],[],[],[])),(21,([832],[832],[],[]))]) mixed (by kernel_rfl) (by kernel_rfl) ?_)
   refine X.mv ?_
   refine X.fl J0y ?_
   refine X.ld shp3 ?_
   obtain ⟨v47,hv47,h⟩:=bindE h
   refine X.idxT (l:=a43.map t_int) elt61 ⟨(A0a hv47).1,by have h0:=(A0a hv47).1;have h1:=A0t hv47;rw [List.length_map];(try dsimp only);omega⟩ (by first | rfl | simp [setL] | omega) ?_
   refine X.ldRow (sz:=1) shp25 (A0x (off:=0) (by exact A0j (f:=t_int) (fun _=>rfl)) (A0c t_int hv47) (by rfl)) (by first | rfl | simp [setL] | omega) ?_
   refine X.fl L0o ?_
   refine X.ld shp3 ?_
   refine X.mv ?_
   refine X.fl J0y ?_
   refine X.ld shp3 ?_
   refine X.idxT (l:=a43.map t_int) elt61 ⟨(A0a hv47).1,by have h0:=(A0a hv47).1;have h1:=A0t hv47;rw [List.length_map];(try dsimp only);omega⟩ (by first | rfl | simp [setL] | omega) ?_
   refine X.ldRow (sz:=1) shp25 (A0x (off:=0) (by exact A0j (f:=t_int) (fun _=>rfl)) (A0c t_int hv47) (by rfl)) (by first | rfl | simp [setL] | omega) ?_
   refine X.fl L0o ?_
   refine X.ld shp3 ?_
   obtain ⟨v48,hv48,h⟩:=bindE h
   refine X.idxR (l:=a43.map t_int) (rl:=v47.map int) elt25 (A0x (off:=0) (by exact A0j (f:=t_int) (fun _=>rfl)) (A0c t_int hv47) (by rfl)) ⟨(A0a hv48).1,by have h0:=(A0a hv48).1;have h1:=A0t hv48;rw [List.length_map];(try dsimp only);omega⟩ (by first | rfl | simp [setL] | omega) ?_
   refine X.ldE (sz2:=1) shp3 (A0x (off:=0) (by exact A0j (f:=t_int) (fun _=>rfl)) (A0c t_int hv47) (by rfl)) (A0x (off:=0) (by exact A0j (f:=int) (fun _=>rfl)) (A0c int hv48) (by rfl)) (by first | rfl | simp [setL] | omega) ?_
   refine X.ld shp34 ?_
   refine X.mv ?_
   obtain ⟨v49,hv49,h⟩:=bindE h
   refine X.cp (D1u _ _ _ hv49) ?_
   obtain ⟨v50,hv50,h⟩:=bindE h
   refine X.cp (H0x _ _ _ hv50) ?_
   refine X.idxR (l:=a43.map t_int) (rl:=v47.map int) elt25 (A0x (off:=0) (by exact A0j (f:=t_int) (fun _=>rfl)) (A0c t_int hv47) (by rfl)) ⟨(A0a hv48).1,by have h0:=(A0a hv48).1;have h1:=A0t hv48;rw [List.length_map];(try dsimp only);omega⟩ (by first | rfl | simp [setL] | omega) ?_
   refine X.stE (l2:=(setL a43 x44.From (setL v47 x44.To v50)).map t_int) (rl2:=(setL v47 x44.To v50).map int) (sz2:=1) (sz:=1) shp3 (A0x (off:=0) (by exact A0j (f:=t_int) (fun _=>rfl)) (A0c t_int hv47) (by rfl)) (A0x (off:=0) (by exact A0j (f:=int) (fun _=>rfl)) (A0c int hv48) (by rfl)) (by simp [setL]) (by exact A0j (f:=int) (fun _=>rfl)) (by rw [← D0e];exact L0y (by exact A0j (f:=int) (fun _=>rfl)) (A0c int hv48) (by rfl) (by decide)) (by simp [setL]) (by exact A0j (f:=t_int) (fun _=>rfl)) (by rw [← D0e];exact L0y (by exact A0j (f:=t_int) (fun _=>rfl)) (A0c t_int hv47) (by rfl) (by decide)) (by first | rfl | simp [setL] | omega) ?_
   refine X.nil (Run.blk (Run.reg (X.ad ?_)))
   refine X.mn ?_
   refine R.castS (t:=3) (.tref 832 ((setL a43 x44.From (setL v47 x44.To v50)).map t_int).length .out) (by rfl) (.inl (by first | rfl | simp [setL])) ?_
   exact R.ag hag41 (n41 - 1) (z42+1,(setL a43 x44.From (setL v47 x44.To v50))) (R.n3 (by first | (rw [hds41];exact h) | (dsimp only;rw [hds41];exact h)))
  rw [A0h hza41 hc46] at h
  rw [J0q] at h
  refine Run.exit (by rfl) ?_
  exact R.mt hmeet37 a43 (Option.some.inj h)
 rintro p51 rfl
 refine Run.seq (Run.sr (X.fl B0l ?_))
 refine X.ld shp30 ?_
 refine X.ls elt30 ?_
 refine X.mn ?_
 obtain ⟨o52,ho52,h⟩:=bindE h
 refine R.join2 (β:=(List (List Int))) [] [] (fun p101 S=>(3,.tref 832 (p101.map t_int).length .out)::S) (fun p101 M=>(832,.tre 25 1 (p101.map t_int))::M) (fun p101=>p101=o52) ?_ ?_
 ·intro JJ55 hmeet54
  have hup53:=h;clear h;have h:=ho52;clear ho52
  refine Run.block ?_
  refine R.bndS (t:=71) (by rfl) (fun hbd58=>?_)
  replace hbd58:b0.Activities.length≤9223372036854775807:=by first | (rw [List.length_map] at hbd58;exact hbd58) | simp
  refine R.lp (β:=Int×(List (List Int))) [(1,.lptr 64 0),(72,int (b0.Activities.length:Int))] [(64,.blk true [int b0.Deadline,.slice (b0.Activities.map A0d),.slice (b0.Links.map A0l),.slice (b0.Resources.map A0e),.slice (b0.Stocks.map int)])] (fun bb S=>(3,.tref 832 (bb.2.map t_int).length .out)::(73,int bb.1)::S) (fun bb M=>(832,.tre 25 1 (bb.2.map t_int))::M) (fun n bb=>0≤bb.1∧bb.1+n=(b0.Activities.length:Int)∧J0p b0 (b0.Activities.drop bb.1.toNat) bb.1 bb.2=some o52) b0.Activities.length (0,p51) ⟨Int.le_refl _,by simp,h⟩ ?_
  clear h
  rintro JJ58 n58 ⟨z59,a60⟩ hag58 ⟨hza58,hzb58,h⟩
  dsimp only at hza58 hzb58 h
  refine Run.sr (X.bi ?_)
  refine X.nil (Run.seq ?_)
  refine R.cd (fun hc63=>?_) (fun hc63=>?_)
  ·obtain ⟨x61,xs62,hd58,hx58,hds58,hlt58⟩:=A0k hza58 hc63
   rw [hd58] at h
   rw [J0p] at h
   refine Run.skip (Run.seq (Run.block (Run.sr (X.mv ?_))))
   refine X.an ?_
   refine Run.sr (X.fl B0l ?_)
   refine X.ld shp30 ?_
   refine X.ls elt30 ?_
   refine X.mn ?_
   obtain ⟨o64,ho64,h⟩:=bindE h
   refine R.join2 (β:=(List (List Int))) [(1,.lptr 64 0),(72,int (b0.Activities.length:Int)),(73,int z59)] [(64,.blk true [int b0.Deadline,.slice (b0.Activities.map A0d),.slice (b0.Links.map A0l),.slice (b0.Resources.map A0e),.slice (b0.Stocks.map int)])] (fun p100 S=>(3,.tref 832 (p100.map t_int).length .out)::S) (fun p100 M=>(832,.tre 25 1 (p100.map t_int))::M) (fun p100=>p100=o64) ?_ ?_
   ·intro JJ67 hmeet66
    have hup65:=h;clear h;have h:=ho64;clear ho64
    refine Run.block ?_
    refine R.bndS (t:=77) (by rfl) (fun hbd70=>?_)
    replace hbd70:b0.Activities.length≤9223372036854775807:=by first | (rw [List.length_map] at hbd70;exact hbd70) | simp
    refine R.lp (β:=Int×(List (List Int))) [(1,.lptr 64 0),(10,int z59),(72,int (b0.Activities.length:Int)),(73,int z59),(78,int (b0.Activities.length:Int))] [(64,.blk true [int b0.Deadline,.slice (b0.Activities.map A0d),.slice (b0.Links.map A0l),.slice (b0.Resources.map A0e),.slice (b0.Stocks.map int)])] (fun bb S=>(3,.tref 832 (bb.2.map t_int).length .out)::(79,int bb.1)::S) (fun bb M=>(832,.tre 25 1 (bb.2.map t_int))::M) (fun n bb=>0≤bb.1∧bb.1+n=(b0.Activities.length:Int)∧J0n b0 z59 (b0.Activities.drop bb.1.toNat) bb.1 bb.2=some o64) b0.Activities.length (0,a60) ⟨Int.le_refl _,by simp,h⟩ ?_
    clear h
    rintro JJ70 n70 ⟨z71,a72⟩ hag70 ⟨hza70,hzb70,h⟩
    dsimp only at hza70 hzb70 h
    refine Run.sr (X.bi ?_)
    refine X.nil (Run.seq ?_)
    refine R.cd (fun hc75=>?_) (fun hc75=>?_)
    ·obtain ⟨x73,xs74,hd70,hx70,hds70,hlt70⟩:=A0k hza70 hc75
     rw [hd70] at h
     rw [J0n] at h
     refine Run.skip (Run.seq (Run.block (Run.sr (X.mv ?_))))
     refine X.an ?_
     refine Run.sr (X.fl B0l ?_)
     refine X.ld shp30 ?_
     refine X.ls elt30 ?_
     refine X.mn ?_
     obtain ⟨o76,ho76,h⟩:=bindE h
     refine R.join2 (β:=(List (List Int))) [(1,.lptr 64 0),(10,int z59),(72,int (b0.Activities.length:Int)),(73,int z59),(78,int (b0.Activities.length:Int)),(79,int z71)] [(64,.blk true [int b0.Deadline,.slice (b0.Activities.map A0d),.slice (b0.Links.map A0l),.slice (b0.Resources.map A0e),.slice (b0.Stocks.map int)])] (fun p99 S=>(3,.tref 832 (p99.map t_int).length .out)::S) (fun p99 M=>(832,.tre 25 1 (p99.map t_int))::M) (fun p99=>p99=o76) ?_ ?_
     ·intro JJ79 hmeet78
      have hup77:=h;clear h;have h:=ho76;clear ho76
      refine Run.block ?_
      refine R.bndS (t:=83) (by rfl) (fun hbd82=>?_)
      replace hbd82:b0.Activities.length≤9223372036854775807:=by first | (rw [List.length_map] at hbd82;exact hbd82) | simp
      refine R.lp (β:=Int×(List (List Int))) [(1,.lptr 64 0),(10,int z59),(11,int z71),(72,int (b0.Activities.length:Int)),(73,int z59),(78,int (b0.Activities.length:Int)),(79,int z71),(84,int (b0.Activities.length:Int))] [(64,.blk true [int b0.Deadline,.slice (b0.Activities.map A0d),.slice (b0.Links.map A0l),.slice (b0.Resources.map A0e),.slice (b0.Stocks.map int)])] (fun bb S=>(3,.tref 832 (bb.2.map t_int).length .out)::(85,int bb.1)::S) (fun bb M=>(832,.tre 25 1 (bb.2.map t_int))::M) (fun n bb=>0≤bb.1∧bb.1+n=(b0.Activities.length:Int)∧H0g z59 z71 (b0.Activities.drop bb.1.toNat) bb.1 bb.2=some o76) b0.Activities.length (0,a72) ⟨Int.le_refl _,by simp,h⟩ ?_
      clear h
      rintro JJ82 n82 ⟨z83,a84⟩ hag82 ⟨hza82,hzb82,h⟩
      dsimp only at hza82 hzb82 h
      refine Run.sr (X.bi ?_)
      refine X.nil (Run.seq ?_)
      refine R.cd (fun hc87=>?_) (fun hc87=>?_)
      ·obtain ⟨x85,xs86,hd82,hx82,hds82,hlt82⟩:=A0k hza82 hc87
       rw [hd82] at h
       rw [H0g] at h
       refine Run.skip (Run.seq (Run.block (Run.sr (X.mv ?_))))
       refine X.an ?_
       refine Run.seq ?_
       obtain ⟨v88,hv88,h⟩:=bindE h
       obtain ⟨v89,hv89,h⟩:=bindE h
       obtain ⟨e90,he90,h2⟩:=bindE h
       refine R.regG [(1,.lptr 64 0),(3,.tref 832 (a84.map t_int).length .out),(10,int z59),(11,int z71),(12,int z83),(72,int (b0.Activities.length:Int)),(73,int z59),(78,int (b0.Activities.length:Int)),(79,int z71),(84,int (b0.Activities.length:Int)),(85,int z83),(105,bool e90)] [(64,.blk true [int b0.Deadline,.slice (b0.Activities.map A0d),.slice (b0.Links.map A0l),.slice (b0.Resources.map A0e),.slice (b0.Stocks.map int)]),(832,.tre 25 1 (a84.map t_int))] ?_ ?_
       ·clear h;have h:=he90;clear he90 h2
        refine X.mv ?_
        refine X.mv ?_
        refine X.idxT (l:=a84.map t_int) elt61 ⟨(A0a hv88).1,by have h0:=(A0a hv88).1;have h1:=A0t hv88;rw [List.length_map];(try dsimp only);omega⟩ (by first | rfl | simp [setL] | omega) ?_
        refine X.ldRow (sz:=1) shp25 (A0x (off:=0) (by exact A0j (f:=t_int) (fun _=>rfl)) (A0c t_int hv88) (by rfl)) (by first | rfl | simp [setL] | omega) ?_
        refine X.mv ?_
        refine X.idxR (l:=a84.map t_int) (rl:=v88.map int) elt25 (A0x (off:=0) (by exact A0j (f:=t_int) (fun _=>rfl)) (A0c t_int hv88) (by rfl)) ⟨(A0a hv89).1,by have h0:=(A0a hv89).1;have h1:=A0t hv89;rw [List.length_map];(try dsimp only);omega⟩ (by first | rfl | simp [setL] | omega) ?_
        refine X.ldE (sz2:=1) shp3 (A0x (off:=0) (by exact A0j (f:=t_int) (fun _=>rfl)) (A0c t_int hv88) (by rfl)) (A0x (off:=0) (by exact A0j (f:=int) (fun _=>rfl)) (A0c int hv89) (by rfl)) (by first | rfl | simp [setL] | omega) ?_
        refine X.bi ?_
        refine X.mv ?_
        refine X.iG (fun hb91=>?_) (fun hb91=>?_)
        ·replace h:=condT hb91 h
         refine X.mv ?_
         refine X.gy (X.mv ?_)
         refine X.gy ?_
         obtain ⟨v92,hv92,h⟩:=bindE h
         refine X.idxT (l:=a84.map t_int) elt61 ⟨(A0a hv92).1,by have h0:=(A0a hv92).1;have h1:=A0t hv92;rw [List.length_map];(try dsimp only);omega⟩ (by first | rfl | simp [setL] | omega) ?_
         refine X.gy ?_
         refine X.ldRow (sz:=1) shp25 (A0x (off:=0) (by exact A0j (f:=t_int) (fun _=>rfl)) (A0c t_int hv92) (by rfl)) (by first | rfl | simp [setL] | omega) ?_
         refine X.gy (X.mv ?_)
         refine X.gy ?_
         obtain ⟨v93,hv93,h⟩:=bindE h
         refine X.idxR (l:=a84.map t_int) (rl:=v92.map int) elt25 (A0x (off:=0) (by exact A0j (f:=t_int) (fun _=>rfl)) (A0c t_int hv92) (by rfl)) ⟨(A0a hv93).1,by have h0:=(A0a hv93).1;have h1:=A0t hv93;rw [List.length_map];(try dsimp only);omega⟩ (by first | rfl | simp [setL] | omega) ?_
         refine X.gy ?_
         refine X.ldE (sz2:=1) shp3 (A0x (off:=0) (by exact A0j (f:=t_int) (fun _=>rfl)) (A0c t_int hv92) (by rfl)) (A0x (off:=0) (by exact A0j (f:=int) (fun _=>rfl)) (A0c int hv93) (by rfl)) (by first | rfl | simp [setL] | omega) ?_
         refine X.gy (X.bi ?_)
         refine X.pT ?_
         cases h
         exact X.eG
        replace h:=condF hb91 h
        refine X.gn (X.gn (X.gn (X.gn (X.gn (X.gn (X.gn (X.pF ?_)))))))
        cases h
        exact X.eG
       replace h:=h2;clear h2
       refine R.cd (fun hc94=>?_) (fun hc94=>?_)
       ·replace h:=condT hc94 h
        refine Run.draw (B0m [(2,([832],[],[],[])),(3,([832],[],[],[])),(7,([832],[],[],[])),(8,([832],[],[],[])),(10,([832],[],[],[])),(11,([832],[],[],[])),(14,([832],[],[],[])),(15,([832],[],[],[])),(17,([832],[],[],[])),(18,([832],[],[],[])),(21,([832],[],[],[])),(22,([832],[],[],[])),(24,([832],[],[],[])),(25,([832],[],[],[])),(28,([832],[],[],[])),(29,([832],[832],[],[]))]) mixed (by kernel_rfl) (by kernel_rfl) ?_
        refine X.mv ?_
        refine X.mv ?_
        refine X.idxT (l:=a84.map t_int) elt61 ⟨(A0a hv88).1,by have h0:=(A0a hv88).1;have h1:=A0t hv88;rw [List.length_map];(try dsimp only);omega⟩ (by first | rfl | simp [setL] | omega) ?_
        refine X.ldRow (sz:=1) shp25 (A0x (off:=0) (by exact A0j (f:=t_int) (fun _=>rfl)) (A0c t_int hv88) (by rfl)) (by first | rfl | simp [setL] | omega) ?_
        refine X.mv ?_
        refine X.mv ?_
        refine X.mv ?_
        refine X.idxT (l:=a84.map t_int) elt61 ⟨(A0a hv88).1,by have h0:=(A0a hv88).1;have h1:=A0t hv88;rw [List.length_map];(try dsimp only);omega⟩ (by first | rfl | simp [setL] | omega) ?_
        refine X.ldRow (sz:=1) shp25 (A0x (off:=0) (by exact A0j (f:=t_int) (fun _=>rfl)) (A0c t_int hv88) (by rfl)) (by first | rfl | simp [setL] | omega) ?_
        refine X.mv ?_
        obtain ⟨v95,hv95,h⟩:=bindE h
        refine X.idxR (l:=a84.map t_int) (rl:=v88.map int) elt25 (A0x (off:=0) (by exact A0j (f:=t_int) (fun _=>rfl)) (A0c t_int hv88) (by rfl)) ⟨(A0a hv95).1,by have h0:=(A0a hv95).1;have h1:=A0t hv95;rw [List.length_map];(try dsimp only);omega⟩ (by first | rfl | simp [setL] | omega) ?_
        refine X.ldE (sz2:=1) shp3 (A0x (off:=0) (by exact A0j (f:=t_int) (fun _=>rfl)) (A0c t_int hv88) (by rfl)) (A0x (off:=0) (by exact A0j (f:=int) (fun _=>rfl)) (A0c int hv95) (by rfl)) (by first | rfl | simp [setL] | omega) ?_
        refine X.mv ?_
        refine X.mv ?_
        refine X.idxT (l:=a84.map t_int) elt61 ⟨(A0a hv88).1,by have h0:=(A0a hv88).1;have h1:=A0t hv88;rw [List.length_map];(try dsimp only);omega⟩ (by first | rfl | simp [setL] | omega) ?_
        refine X.ldRow (sz:=1) shp25 (A0x (off:=0) (by exact A0j (f:=t_int) (fun _=>rfl)) (A0c t_int hv88) (by rfl)) (by first | rfl | simp [setL] | omega) ?_
        refine X.mv ?_
        refine X.idxR (l:=a84.map t_int) (rl:=v88.map int) elt25 (A0x (off:=0) (by exact A0j (f:=t_int) (fun _=>rfl)) (A0c t_int hv88) (by rfl)) ⟨(A0a hv89).1,by have h0:=(A0a hv89).1;have h1:=A0t hv89;rw [List.length_map];(try dsimp only);omega⟩ (by first | rfl | simp [setL] | omega) ?_
        refine X.ldE (sz2:=1) shp3 (A0x (off:=0) (by exact A0j (f:=t_int) (fun _=>rfl)) (A0c t_int hv88) (by rfl)) (A0x (off:=0) (by exact A0j (f:=int) (fun _=>rfl)) (A0c int hv89) (by rfl)) (by first | rfl | simp [setL] | omega) ?_
        refine X.mv ?_
        refine X.mv ?_
        obtain ⟨v96,hv96,h⟩:=bindE h
        refine X.idxT (l:=a84.map t_int) elt61 ⟨(A0a hv96).1,by have h0:=(A0a hv96).1;have h1:=A0t hv96;rw [List.length_map];(try dsimp only);omega⟩ (by first | rfl | simp [setL] | omega) ?_
        refine X.ldRow (sz:=1) shp25 (A0x (off:=0) (by exact A0j (f:=t_int) (fun _=>rfl)) (A0c t_int hv96) (by rfl)) (by first | rfl | simp [setL] | omega) ?_
        refine X.mv ?_
        obtain ⟨v97,hv97,h⟩:=bindE h
        refine X.idxR (l:=a84.map t_int) (rl:=v96.map int) elt25 (A0x (off:=0) (by exact A0j (f:=t_int) (fun _=>rfl)) (A0c t_int hv96) (by rfl)) ⟨(A0a hv97).1,by have h0:=(A0a hv97).1;have h1:=A0t hv97;rw [List.length_map];(try dsimp only);omega⟩ (by first | rfl | simp [setL] | omega) ?_
        refine X.ldE (sz2:=1) shp3 (A0x (off:=0) (by exact A0j (f:=t_int) (fun _=>rfl)) (A0c t_int hv96) (by rfl)) (A0x (off:=0) (by exact A0j (f:=int) (fun _=>rfl)) (A0c int hv97) (by rfl)) (by first | rfl | simp [setL] | omega) ?_
        refine X.addW (h:=?_)
        obtain ⟨v98,hv98,h⟩:=bindE h
        refine X.cp (H0x _ _ _ hv98) ?_
        refine X.idxR (l:=a84.map t_int) (rl:=v88.map int) elt25 (A0x (off:=0) (by exact A0j (f:=t_int) (fun _=>rfl)) (A0c t_int hv88) (by rfl)) ⟨(A0a hv95).1,by have h0:=(A0a hv95).1;have h1:=A0t hv95;rw [List.length_map];(try dsimp only);omega⟩ (by first | rfl | simp [setL] | omega) ?_
        refine X.stE (l2:=(setL a84 z71 (setL v88 z83 v98)).map t_int) (rl2:=(setL v88 z83 v98).map int) (sz2:=1) (sz:=1) shp3 (A0x (off:=0) (by exact A0j (f:=t_int) (fun _=>rfl)) (A0c t_int hv88) (by rfl)) (A0x (off:=0) (by exact A0j (f:=int) (fun _=>rfl)) (A0c int hv95) (by rfl)) (by simp [setL]) (by exact A0j (f:=int) (fun _=>rfl)) (by rw [← D0e];exact L0y (by exact A0j (f:=int) (fun _=>rfl)) (A0c int hv95) (by rfl) (by decide)) (by simp [setL]) (by exact A0j (f:=t_int) (fun _=>rfl)) (by rw [← D0e];exact L0y (by exact A0j (f:=t_int) (fun _=>rfl)) (A0c t_int hv88) (by rfl) (by decide)) (by first | rfl | simp [setL] | omega) ?_
        refine X.nil (Run.blk (Run.reg (X.ad ?_)))
        refine X.mn ?_
        refine R.castS (t:=3) (.tref 832 ((setL a84 z71 (setL v88 z83 v98)).map t_int).length .out) (by rfl) (.inl (by first | rfl | simp [setL])) ?_
        exact R.ag hag82 (n82 - 1) (z83+1,(setL a84 z71 (setL v88 z83 v98))) (R.n3 (by first | (rw [hds82];exact h) | (dsimp only;rw [hds82];exact h)))
       replace h:=condF hc94 h
       refine Run.skip (Run.blk (Run.reg (X.ad ?_)))
       refine X.mn ?_
       exact R.ag hag82 (n82 - 1) (z83+1,a84) (R.n3 (by first | (rw [hds82];exact h) | (dsimp only;rw [hds82];exact h)))
      rw [A0h hza82 hc87] at h
      rw [H0g] at h
      refine Run.exit (by rfl) ?_
      exact R.mt hmeet78 a84 (Option.some.inj h)
     rintro p99 rfl
     refine Run.blk (Run.reg (X.ad ?_))
     refine X.mn ?_
     exact R.ag hag70 (n70 - 1) (z71+1,p99) (R.n3 (by first | (rw [hds70];exact h) | (dsimp only;rw [hds70];exact h)))
    rw [A0h hza70 hc75] at h
    rw [J0n] at h
    refine Run.exit (by rfl) ?_
    exact R.mt hmeet66 a72 (Option.some.inj h)
   rintro p100 rfl
   refine Run.blk (Run.reg (X.ad ?_))
   refine X.mn ?_
   exact R.ag hag58 (n58 - 1) (z59+1,p100) (R.n3 (by first | (rw [hds58];exact h) | (dsimp only;rw [hds58];exact h)))
  rw [A0h hza58 hc63] at h
  rw [J0p] at h
  refine Run.exit (by rfl) ?_
  exact R.mt hmeet54 a60 (Option.some.inj h)
 rintro p101 rfl
 refine Run.sr (X.mv ?_)
 refine X.an ?_
 cases h
 refine R.fin1t Tryz.results118 (by rfl) (by rfl) (by first | rfl | simp [setL] | omega) ?_
 rfl
theorem F1c (b0:A0b)(r:List (List Int))(h:K0r b0=some r):PC Tryz.prog 79 [A0n b0] (.tre 25 1 (r.map t_int)):=by
 unfold K0r at h
 refine PC.start Tryz.func79 Tryz.ntmps79 rfl (by kernel_rfl) rfl ?_
 refine Run.sr (X.bx ?_)
 refine X.an ?_
 refine Run.seq (Run.seq ?_)
 obtain ⟨v1,hv1,h⟩:=bindE h
 obtain ⟨e2,he2,h2⟩:=bindE h
 refine R.regG [(1,.lptr 64 0),(11,bool e2)] [(64,.blk true [int b0.Deadline,.slice (b0.Activities.map A0d),.slice (b0.Links.map A0l),.slice (b0.Resources.map A0e),.slice (b0.Stocks.map int)])] ?_ ?_
 ·clear h;have h:=he2;clear he2 h2
  refine X.ld shp34 ?_
  refine X.cp (G0p _ _ hv1) ?_
  refine X.un (h:=?_)
  refine X.mv ?_
  refine X.iG (fun hb3=>?_) (fun hb3=>?_)
  ·replace h:=condF hb3 h
   refine X.ld shp34 ?_
   refine X.gy ?_
   obtain ⟨v4,hv4,h⟩:=bindE h
   refine X.cp (Y0l _ _ hv4) ?_
   refine X.gy (X.ls elt25 ?_)
   refine X.gy (X.bi ?_)
   refine X.pF ?_
   cases h
   exact X.eG
  replace h:=condT hb3 h
  refine X.gn (X.gn (X.gn (X.pT ?_)))
  cases h
  exact X.eG
 replace h:=h2;clear h2
 refine R.cd (fun hc5=>?_) (fun hc5=>?_)
 ·replace h:=condT hc5 h
  refine Run.sr (X.an ?_)
  cases h
  refine R.fin1tn (e:=25) (sz:=1) Tryz.results79 (by rfl) (by decide) ?_
  rfl
 replace h:=condF hc5 h
 refine Run.skip (Run.sr (X.ld shp34 ?_))
 obtain ⟨v6,hv6,h⟩:=bindE h
 refine X.callTr (H1t _ _ hv6) (by rfl) (by rfl) (by rfl) (by trivial) (by rfl) (by rfl) (by rfl) (by rfl) ?_
 refine X.an ?_
 cases h
 refine R.fin1t Tryz.results79 (by rfl) (by rfl) (by first | rfl | simp [setL] | omega) ?_
 rfl
theorem X0c (b0:A0b)(r:List Int)(h:K0j b0=some r):PC Tryz.prog 41 [A0n b0] (.fresh false 3 1 (r.map int)):=by
 unfold K0j at h
 refine PC.start Tryz.func41 Tryz.ntmps41 rfl (by kernel_rfl) rfl ?_
 refine Run.sr (X.bx ?_)
 refine X.an ?_
 refine Run.sr (X.ld shp34 ?_)
 obtain ⟨v1,hv1,h⟩:=bindE h
 refine X.callTr (F1c _ _ hv1) (by rfl) (by rfl) (by rfl) (by trivial) (by rfl) (by rfl) (by rfl) (by rfl) ?_
 refine X.an ?_
 refine Run.sr ?_
 refine X.buildSlice false elt25 zer3 (by rfl) (by rfl) (by rfl) (by rfl) (by rfl) (by rfl) (by repeat (first | trivial | refine ⟨by first | rfl | simp [setL],?_⟩)) (A0o (by rfl)) (by rfl) (by rfl) (by rfl) ?_
 refine X.an ?_
 refine Run.seq (Run.sr (X.mv ?_))
 refine X.lenT (z:=(v1.length:Int)) elt61 (by rfl) (by rfl) (by first | rfl | simp [setL] | omega) (by simp) (by rfl) (by rfl) ?_
 refine X.mn ?_
 obtain ⟨o2,ho2,h⟩:=bindE h
 refine R.join2 (β:=(List Int)) [] [] (fun p29 S=>(4,.own 640 (p29.map int).length)::S) (fun p29 M=>(640,.obj false 3 1 (p29.map int))::M) (fun p29=>p29=o2) ?_ ?_
 ·intro JJ5 hmeet4
  have hup3:=h;clear h;have h:=ho2;clear ho2
  refine Run.block ?_
  refine R.lp (β:=Int×(List Int)) [(12,int (v1.length:Int))] [(576,.tre 25 1 (v1.map t_int))] (fun bb S=>(3,.tref 576 (v1.map t_int).length .out)::(4,.own 640 (bb.2.map int).length)::(13,int bb.1)::S) (fun bb M=>(640,.obj false 3 1 (bb.2.map int))::M) (fun n bb=>C0c v1 n bb.1 bb.2=some o2) F0 (0,([]:List Int)) h ?_
  clear h
  rintro JJ6 n6 ⟨a8,a9⟩ hag6 h
  dsimp only at h
  obtain _ | n6:=n6
  ·exact absurd h (by simp [C0c])
  rw [C0c] at h
  refine Run.sr (X.bi ?_)
  refine X.nil (Run.seq ?_)
  refine R.cd (fun hc12=>?_) (fun hc12=>?_)
  ·replace h:=condT hc12 h
   refine Run.skip (Run.seq (Run.block (Run.sr (X.mv ?_))))
   refine X.an ?_
   refine Run.sr (X.an ?_)
   refine Run.seq (Run.sr (X.mv ?_))
   refine X.lenT (z:=(v1.length:Int)) elt61 (by rfl) (by rfl) (by first | rfl | simp [setL] | omega) (by simp) (by rfl) (by rfl) ?_
   refine X.mn ?_
   obtain ⟨o13,ho13,h⟩:=bindE h
   refine R.join2 (β:=Int) [(12,int (v1.length:Int)),(13,int a8)] [(576,.tre 25 1 (v1.map t_int)),(640,.obj false 3 1 (a9.map int))] (fun p27 S=>(3,.tref 576 (v1.map t_int).length .out)::(4,.own 640 (a9.map int).length)::(6,int p27)::S) (fun p27 M=>M) (fun p27=>p27=o13) ?_ ?_
   ·intro JJ16 hmeet15
    have hup14:=h;clear h;have h:=ho13;clear ho13
    refine Run.block ?_
    refine R.lp (β:=Int×Int) [(5,int a8),(12,int (v1.length:Int)),(13,int a8),(17,int (v1.length:Int))] [(576,.tre 25 1 (v1.map t_int)),(640,.obj false 3 1 (a9.map int))] (fun bb S=>(3,.tref 576 (v1.map t_int).length .out)::(4,.own 640 (a9.map int).length)::(6,int bb.1)::(18,int bb.2)::S) (fun bb M=>M) (fun n bb=>C0d v1 a8 n bb.1 bb.2=some o13) F0 (0,0) h ?_
    clear h
    rintro JJ17 n17 ⟨a19,a20⟩ hag17 h
    dsimp only at h
    obtain _ | n17:=n17
    ·exact absurd h (by simp [C0d])
    rw [C0d] at h
    refine Run.sr (X.bi ?_)
    refine X.nil (Run.seq ?_)
    refine R.cd (fun hc23=>?_) (fun hc23=>?_)
    ·replace h:=condT hc23 h
     refine Run.skip (Run.seq (Run.block (Run.sr (X.mv ?_))))
     refine X.an ?_
     refine Run.reg (X.mv ?_)
     refine X.mv ?_
     refine X.mv ?_
     obtain ⟨v24,hv24,h⟩:=bindE h
     refine X.idxT (l:=v1.map t_int) elt61 ⟨(A0a hv24).1,by have h0:=(A0a hv24).1;have h1:=A0t hv24;rw [List.length_map];(try dsimp only);omega⟩ (by first | rfl | simp [setL] | omega) ?_
     refine X.ldRow (sz:=1) shp25 (A0x (off:=0) (by exact A0j (f:=t_int) (fun _=>rfl)) (A0c t_int hv24) (by rfl)) (by first | rfl | simp [setL] | omega) ?_
     refine X.mv ?_
     obtain ⟨v25,hv25,h⟩:=bindE h
     refine X.idxR (l:=v1.map t_int) (rl:=v24.map int) elt25 (A0x (off:=0) (by exact A0j (f:=t_int) (fun _=>rfl)) (A0c t_int hv24) (by rfl)) ⟨(A0a hv25).1,by have h0:=(A0a hv25).1;have h1:=A0t hv25;rw [List.length_map];(try dsimp only);omega⟩ (by first | rfl | simp [setL] | omega) ?_
     refine X.ldE (sz2:=1) shp3 (A0x (off:=0) (by exact A0j (f:=t_int) (fun _=>rfl)) (A0c t_int hv24) (by rfl)) (A0x (off:=0) (by exact A0j (f:=int) (fun _=>rfl)) (A0c int hv25) (by rfl)) (by first | rfl | simp [setL] | omega) ?_
     obtain ⟨v26,hv26,h⟩:=bindE h
     refine X.cp (H0x _ _ _ hv26) ?_
     refine X.an ?_
     refine Run.blk (Run.reg (X.addW (h:=?_)))
     refine X.mn ?_
     exact hag17 n17 (v26,(W (a20+1))) _ _ (by omega) h (by repeat (first | trivial | refine ⟨by first | rfl | simp [setL],?_⟩)) (by repeat (first | trivial | refine ⟨by first | rfl | simp [setL],?_⟩)) (by rfl) (by rfl)
    replace h:=condF hc23 h
    refine Run.exit (by rfl) ?_
    exact R.mt hmeet15 a19 (Option.some.inj h)
   rintro p27 rfl
   refine Run.reg (X.mv ?_)
   refine X.mv ?_
   refine X.buildSlice false elt25 zer3 (by rfl) (by rfl) (by rfl) (by rfl) (by rfl) (by rfl) (by repeat (first | trivial | refine ⟨by first | rfl | simp [setL],?_⟩)) (A0o (by rfl)) (by rfl) (by rfl) (by rfl) ?_
   obtain ⟨v28,hv28,h⟩:=bindE h
   refine X.append elt25 zer3 (by rfl) (by rfl) (by first | rfl | simp [setL] | omega) (by rfl) (.own _ _ _ _ _ _ (A0g (by rfl)) (by first | rfl | simp [setL] | omega)) (A0o (by rfl)) (E0l int hv28) (E0k int hv28) (by rfl) (by rfl) (by rfl) (by rfl) ?_
   refine X.an ?_
   refine Run.blk (Run.reg (X.addW (h:=?_)))
   refine X.mn ?_
   exact hag6 n6 ((W (a8+1)),v28) _ _ (by omega) h (by repeat (first | trivial | refine ⟨by first | rfl | simp [setL],?_⟩)) (by repeat (first | trivial | refine ⟨by first | rfl | simp [setL],?_⟩)) (by rfl) (by rfl)
  replace h:=condF hc12 h
  refine Run.exit (by rfl) ?_
  exact R.mt hmeet4 a9 (Option.some.inj h)
 rintro p29 rfl
 refine Run.sr (X.mv ?_)
 refine X.an ?_
 cases h
 refine R.fin1o Tryz.results41 (by rfl) (by rfl) (by first | rfl | simp [setL] | omega) ?_
 rfl
theorem G1p (b0:A0b)(b1:Int)(r:Int)(h:S0z b0 b1=some r):PC Tryz.prog 43 [A0n b0,int b1] (int r):=by
 unfold S0z at h
 refine PC.start Tryz.func43 Tryz.ntmps43 rfl (by kernel_rfl) rfl ?_
 refine Run.sr (X.bx ?_)
 refine X.an ?_
 refine Run.seq (Run.draw (B0m [(1,([128],[],[],[])),(6,([128],[],[],[])),(10,([],[960],[],[])),(11,([960],[],[],[]))]) mixed (by kernel_rfl) (by kernel_rfl) ?_)
 refine X.fl B0l ?_
 refine X.ld shp30 ?_
 refine X.mv ?_
 obtain ⟨v1,hv1,h⟩:=bindE h
 refine X.ix elt30 (A0a hv1).1 (A0c A0d hv1) ?_
 refine X.lc shp67 ?_
 refine X.fl B0l ?_
 refine X.ld shp30 ?_
 refine X.mv ?_
 refine X.ix elt30 (A0a hv1).1 (A0c A0d hv1) ?_
 refine X.lc shp67 ?_
 obtain ⟨v2,hv2,h⟩:=bindE h
 refine X.callF (K0e _ _ hv2) (by rfl) (by rfl) (by rfl) (by trivial) (by rfl) (by rfl) (by rfl) (by rfl) ?_
 obtain ⟨v3,hv3,h⟩:=bindE h
 refine X.cp (Q0b _ _ _ hv3) ?_
 refine X.an ?_
 cases h
 refine R.f1 Tryz.results43 ?_
 rfl
theorem S0p (b0:A0b)(r:Int)(h:L0i b0=some r):PC Tryz.prog 16 [A0n b0] (int r):=by
 unfold L0i at h
 refine PC.start Tryz.func16 Tryz.ntmps16 rfl (by kernel_rfl) rfl ?_
 refine Run.sr (X.bx ?_)
 refine X.an ?_
 refine Run.sr (X.an ?_)
 refine Run.seq (Run.sr (X.ld shp34 ?_))
 obtain ⟨v1,hv1,h⟩:=bindE h
 refine X.callF (X0c _ _ hv1) (by rfl) (by rfl) (by rfl) (by trivial) (by rfl) (by rfl) (by rfl) (by rfl) ?_
 refine X.len_o elt25 (by rfl) (by rfl) (by first | rfl | simp [setL] | omega) (by first | exact List.length_map .. | rfl) (by rfl) (by rfl) ?_
 refine X.mn ?_
 obtain ⟨o2,ho2,h⟩:=bindE h
 refine R.join2 (β:=Int) [] [] (fun p16 S=>(3,int p16)::S) (fun p16 M=>M) (fun p16=>p16=o2) ?_ ?_
 ·intro JJ5 hmeet4
  have hup3:=h;clear h;have h:=ho2;clear ho2
  refine Run.block ?_
  refine R.bndO (n:=448) (by rfl) (fun hbd8=>?_)
  replace hbd8:v1.length≤9223372036854775807:=by first | (rw [List.length_map] at hbd8;exact hbd8) | simp
  refine R.lp (β:=Int×Int) [(1,.lptr 64 0),(8,int (v1.length:Int))] [(64,.blk true [int b0.Deadline,.slice (b0.Activities.map A0d),.slice (b0.Links.map A0l),.slice (b0.Resources.map A0e),.slice (b0.Stocks.map int)]),(448,.obj false 3 1 (v1.map int))] (fun bb S=>(3,int bb.2)::(7,.own 448 (v1.map int).length)::(9,int bb.1)::S) (fun bb M=>M) (fun n bb=>0≤bb.1∧bb.1+n=(v1.length:Int)∧H0t b0 (v1.drop bb.1.toNat) bb.1 bb.2=some o2) v1.length (0,0) ⟨Int.le_refl _,by simp,h⟩ ?_
  clear h
  rintro JJ8 n8 ⟨z9,a10⟩ hag8 ⟨hza8,hzb8,h⟩
  dsimp only at hza8 hzb8 h
  refine Run.sr (X.bi ?_)
  refine X.nil (Run.seq ?_)
  refine R.cd (fun hc13=>?_) (fun hc13=>?_)
  ·obtain ⟨x11,xs12,hd8,hx8,hds8,hlt8⟩:=A0k hza8 hc13
   rw [hd8] at h
   rw [H0t] at h
   refine Run.skip (Run.seq (Run.block (Run.sr (X.mv ?_))))
   refine X.index_o elt25 (by rfl) (by rfl) (by first | rfl | simp [setL] | omega) (by rfl) (A0a hx8).1 (A0c int hx8) (by rfl) (by rfl) (by rfl) ?_
   refine X.lc shp3 ?_
   refine X.as ?_
   refine X.an ?_
   refine Run.reg (X.mv ?_)
   refine X.mv ?_
   refine X.ld shp34 ?_
   refine X.mv ?_
   obtain ⟨v14,hv14,h⟩:=bindE h
   refine X.cp (G1p _ _ _ hv14) ?_
   refine X.addW (h:=?_)
   obtain ⟨v15,hv15,h⟩:=bindE h
   refine X.cp (H0x _ _ _ hv15) ?_
   refine X.an ?_
   refine Run.blk (Run.reg (X.ad ?_))
   refine X.mn ?_
   exact R.ag hag8 (n8 - 1) (z9+1,v15) (R.n3 (by first | (rw [hds8];exact h) | (dsimp only;rw [hds8];exact h)))
  rw [A0h hza8 hc13] at h
  rw [H0t] at h
  refine Run.exit (by rfl) ?_
  exact R.mt hmeet4 a10 (Option.some.inj h)
 rintro p16 rfl
 refine Run.sr (X.mv ?_)
 refine X.an ?_
 cases h
 refine R.f1 Tryz.results16 ?_
 rfl
theorem B1o (rec:Int→Option ByteArray)(hrec:∀(b0:Int) (r:ByteArray),rec b0=some r→PC Tryz.prog 15 [int b0] (str r))(b0:Int)(r:ByteArray)(h:F0k rec b0=some r):PC Tryz.prog 15 [int b0] (str r):=by
 unfold F0k at h
 refine PC.start Tryz.func15 Tryz.ntmps15 rfl (by kernel_rfl) rfl ?_
 refine Run.sr (X.an ?_)
 refine Run.seq (Run.sr (X.mv ?_))
 obtain ⟨v1,hv1,h⟩:=bindE h
 refine X.cp (B0u _ _ _ _ hv1) ?_
 refine X.un (h:=?_)
 refine X.nil ?_
 refine R.cd (fun hc2=>?_) (fun hc2=>?_)
 ·replace h:=condT hc2 h
  refine Run.sr (X.an ?_)
  cases h
  refine R.f1 Tryz.results15 ?_
  rfl
 replace h:=condF hc2 h
 refine Run.skip (Run.seq (Run.sr (X.mv ?_)))
 refine X.bi ?_
 refine X.nil ?_
 refine R.cd (fun hc3=>?_) (fun hc3=>?_)
 ·replace h:=condT hc3 h
  refine Run.sr (X.mv ?_)
  refine X.un (h:=?_)
  obtain ⟨v4,hv4,h⟩:=bindE h
  refine X.cp (hrec _ _ hv4) ?_
  obtain ⟨v5,hv5,h⟩:=bindE h
  refine X.cat2 hv5 (by rfl) (by rfl) (by rfl) ?_
  refine X.an ?_
  cases h
  refine R.f1 Tryz.results15 ?_
  rfl
 replace h:=condF hc3 h
 refine Run.skip (Run.sr (X.an ?_))
 refine Run.seq ?_
 obtain ⟨o6,ho6,h⟩:=bindE h
 refine R.join2 (β:=Int×ByteArray) [] [] (fun p17 S=>(0,int p17.1)::(3,str p17.2)::S) (fun p17 M=>M) (fun p17=>p17=o6) ?_ ?_
 ·intro JJ9 hmeet8
  have hup7:=h;clear h;have h:=ho6;clear ho6
  refine Run.block ?_
  refine R.lp (β:=Int×ByteArray) [] [] (fun bb S=>(0,int bb.1)::(3,str bb.2)::S) (fun bb M=>M) (fun n bb=>H0r n bb.1 bb.2=some o6) F0 (b0,ByteArray.empty) h ?_
  clear h
  rintro JJ9 n9 ⟨a11,a12⟩ hag9 h
  dsimp only at h
  obtain _ | n9:=n9
  ·exact absurd h (by simp [H0r])
  rw [H0r] at h
  refine Run.seq (Run.sr (X.mv ?_))
  refine X.bi ?_
  refine X.nil ?_
  refine R.cd (fun hc15=>?_) (fun hc15=>?_)
  ·replace h:=condT hc15 h
   refine Run.skip (Run.block (Run.sr (X.mv ?_)))
   refine X.bi ?_
   refine X.addW (h:=?_)
   refine X.conv Tryz.underlying5 (by rw [Tryz.underlying3];rfl) (by rfl) (by rfl) ?_
   refine X.buildSlice false elt76 zer5 (by rfl) (by rfl) (by rfl) (by rfl) (by rfl) (by rfl) (by repeat (first | trivial | refine ⟨by first | rfl | simp [setL],?_⟩)) (A0o (by rfl)) (by rfl) (by rfl) (by rfl) ?_
   refine X.convBS ([(IntKind.u8.wrap (W (48+(a11.tmod 10))))]:List Int) Tryz.underlying76 Tryz.underlying5 Tryz.underlying9 (by rfl) (.own _ _ _ _ _ _ (A0g (by rfl)) (by first | rfl | simp [setL] | omega)) (by rfl) (by rfl) (by rfl) ?_
   refine X.mv ?_
   obtain ⟨v16,hv16,h⟩:=bindE h
   refine X.cat2 hv16 (by rfl) (by rfl) (by rfl) ?_
   refine X.an ?_
   refine Run.reg (X.mv ?_)
   refine X.bi ?_
   refine X.an ?_
   refine Run.blk ?_
   exact hag9 n9 ((W (a11.tdiv 10)),v16) _ _ (by omega) h (by repeat (first | trivial | refine ⟨by first | rfl | simp [setL],?_⟩)) (by repeat (first | trivial | refine ⟨by first | rfl | simp [setL],?_⟩)) (by rfl) (by rfl)
  replace h:=condF hc15 h
  refine Run.exit (by rfl) ?_
  exact R.mt hmeet8 (a11,a12) (Option.some.inj h)
 rintro p17 rfl
 refine Run.sr (X.mv ?_)
 refine X.addW (h:=?_)
 refine X.conv Tryz.underlying5 (by rw [Tryz.underlying3];rfl) (by rfl) (by rfl) ?_
 refine X.buildSlice false elt76 zer5 (by rfl) (by rfl) (by rfl) (by rfl) (by rfl) (by rfl) (by repeat (first | trivial | refine ⟨by first | rfl | simp [setL],?_⟩)) (A0o (by rfl)) (by rfl) (by rfl) (by rfl) ?_
 refine X.convBS ([(IntKind.u8.wrap (W (48+p17.1)))]:List Int) Tryz.underlying76 Tryz.underlying5 Tryz.underlying9 (by rfl) (.own _ _ _ _ _ _ (A0g (by rfl)) (by first | rfl | simp [setL] | omega)) (by rfl) (by rfl) (by rfl) ?_
 refine X.mv ?_
 obtain ⟨v18,hv18,h⟩:=bindE h
 refine X.cat2 hv18 (by rfl) (by rfl) (by rfl) ?_
 refine X.an ?_
 cases h
 refine R.f1 Tryz.results15 ?_
 rfl
theorem P0d (b0:Int)(r:ByteArray)(h:H0w b0=some r):PC Tryz.prog 15 [int b0] (str r):=by
 have key:∀(n:Nat)(b0:Int)(r:ByteArray),D0z n b0=some r→PC Tryz.prog 15 [int b0] (str r):=by
  intro n
  induction n with
  | zero=>intro b0 r h;cases h
  | succ n ih=>intro b0 r h;exact B1o (D0z n) ih b0 r h
 exact key F0 b0 r h
theorem Y0t (b0:A0f)(b1:List Int)(b2:Int)(b3:Bool)(b4:Bool)(r:Int)(h:R0a b0 b1 b2 b3 b4=some r):PC Tryz.prog 81 [A0d b0,.slice (b1.map int),int b2,bool b3,bool b4] (int r):=by
 unfold R0a at h
 refine PC.start Tryz.func81 Tryz.ntmps81 rfl (by kernel_rfl) rfl ?_
 refine Run.sr (X.bx ?_)
 refine X.an ?_
 refine Run.sr (X.an ?_)
 refine Run.sr (X.an ?_)
 refine Run.seq (Run.sr (X.fl Q0e ?_))
 refine X.ld shp65 ?_
 refine X.ls elt65 ?_
 refine X.mn ?_
 obtain ⟨o1,ho1,h⟩:=bindE h
 refine R.join2 (β:=Int) [] [] (fun p34 S=>(11,int p34)::S) (fun p34 M=>M) (fun p34=>(Sum.inl p34)=o1) ?_ ?_
 ·intro JJ4 hmeet3
  have hup2:=h;clear h;have h:=ho1;clear ho1
  refine Run.block ?_
  refine R.bndS (t:=18) (by rfl) (fun hbd7=>?_)
  replace hbd7:b0.Modes.length≤9223372036854775807:=by first | (rw [List.length_map] at hbd7;exact hbd7) | simp
  refine R.lp (β:=Int×Int×Bool) [(1,.slice (b1.map int)),(2,int b2),(3,bool b3),(4,bool b4),(18,.slice (b0.Modes.map B0f)),(19,int (b0.Modes.length:Int))] [] (fun bb S=>(11,int bb.2.1)::(12,bool bb.2.2)::(20,int bb.1)::S) (fun bb M=>M) (fun n bb=>0≤bb.1∧bb.1+n=(b0.Modes.length:Int)∧G0g b1 b2 b3 b4 (b0.Modes.drop bb.1.toNat) bb.1 bb.2.1 bb.2.2=some o1) b0.Modes.length (0,0,false) ⟨Int.le_refl _,by simp,h⟩ ?_
  clear h
  rintro JJ7 n7 ⟨z8,a9,a10⟩ hag7 ⟨hza7,hzb7,h⟩
  dsimp only at hza7 hzb7 h
  refine Run.sr (X.bi ?_)
  refine X.nil (Run.seq ?_)
  refine R.cd (fun hc13=>?_) (fun hc13=>?_)
  ·obtain ⟨x11,xs12,hd7,hx7,hds7,hlt7⟩:=A0k hza7 hc13
   rw [hd7] at h
   rw [G0g] at h
   refine Run.skip (Run.seq (Run.block (Run.sr (X.mv ?_))))
   refine X.ix elt65 (A0a hx7).1 (A0c B0f hx7) ?_
   refine X.lc K0p ?_
   refine X.alloc S0x (h:=?_)
   refine X.as ?_
   refine X.sl K0p ?_
   refine X.nil (Run.seq (Run.sr (X.mv ?_)))
   refine X.mv ?_
   obtain ⟨v14,hv14,h⟩:=bindE h
   refine X.cp (X0h _ _ _ hv14) ?_
   refine X.un (h:=?_)
   refine X.nil ?_
   refine R.cd (fun hc15=>?_) (fun hc15=>?_)
   ·replace h:=condT hc15 h
    refine Run.exit (by rfl) ?_
    refine Run.reg (X.ad ?_)
    refine X.mn ?_
    exact R.ag hag7 (n7 - 1) (z8+1,a9,a10) (R.n3 (by first | (rw [hds7];exact h) | (dsimp only;rw [hds7];exact h)))
   replace h:=condF hc15 h
   refine Run.skip (Run.sr (X.fl S0d ?_))
   refine X.ld shp25 ?_
   refine X.an ?_
   refine Run.seq (Run.sr (X.mn ?_))
   obtain ⟨o16,ho16,h⟩:=bindE h
   refine R.join2 (β:=(List Int)) [(1,.slice (b1.map int)),(2,int b2),(3,bool b3),(4,bool b4),(11,int a9),(12,bool a10),(14,.lptr 896 0),(18,.slice (b0.Modes.map B0f)),(19,int (b0.Modes.length:Int)),(20,int z8)] [(896,.blk true [int x11.Duration,.slice (x11.Usage.map int),.slice (x11.Consumption.map int)])] (fun p21 S=>(15,.slice (p21.map int))::S) (fun p21 M=>M) (fun p21=>p21=o16) ?_ ?_
   ·intro JJ19 hmeet18
    have hup17:=h;clear h;have h:=ho16;clear ho16
    refine R.cd (fun hc20=>?_) (fun hc20=>?_)
    ·replace h:=condT hc20 h
     refine Run.reg (X.fl V0q ?_)
     refine X.ld shp25 ?_
     refine X.an ?_
     exact R.mt hmeet18 x11.Consumption (Option.some.inj h)
    replace h:=condF hc20 h
    refine Run.skip ?_
    exact R.mt hmeet18 x11.Usage (Option.some.inj h)
   rintro p21 rfl
   refine Run.seq (Run.sr (X.mv ?_))
   refine X.mv ?_
   refine X.ls elt25 ?_
   refine X.subW (h:=?_)
   obtain ⟨v22,hv22,h⟩:=bindE h
   refine X.cp (B0u _ _ _ _ hv22) ?_
   refine X.un (h:=?_)
   refine X.nil ?_
   refine R.cd (fun hc23=>?_) (fun hc23=>?_)
   ·replace h:=condT hc23 h
    refine Run.sr (X.an ?_)
    cases h
    have h:=hup2
    replace h:=elimR h
    cases h
    refine R.f1 Tryz.results81 ?_
    rfl
   replace h:=condF hc23 h
   refine Run.skip (Run.sr (X.mv ?_))
   refine X.mv ?_
   obtain ⟨v24,hv24,h⟩:=bindE h
   refine X.ix elt25 (A0a hv24).1 (A0c int hv24) ?_
   refine X.lc shp3 ?_
   refine X.an ?_
   refine Run.seq (Run.sr (X.mn ?_))
   obtain ⟨o25,ho25,h⟩:=bindE h
   refine R.join2 (β:=Int) [(1,.slice (b1.map int)),(2,int b2),(3,bool b3),(4,bool b4),(11,int a9),(12,bool a10),(18,.slice (b0.Modes.map B0f)),(19,int (b0.Modes.length:Int)),(20,int z8)] [] (fun p30 S=>(16,int p30)::S) (fun p30 M=>M) (fun p30=>p30=o25) ?_ ?_
   ·intro JJ28 hmeet27
    have hup26:=h;clear h;have h:=ho25;clear ho25
    refine R.cd (fun hc29=>?_) (fun hc29=>?_)
    ·replace h:=condT hc29 h
     refine Run.reg (X.mv ?_)
     refine X.fl N0k ?_
     refine X.ld shp3 ?_
     refine X.mulW (by rfl) (by rfl) (by rfl) ?_
     refine X.an ?_
     exact R.mt hmeet27 (W (v24*x11.Duration)) (Option.some.inj h)
    replace h:=condF hc29 h
    refine Run.skip ?_
    exact R.mt hmeet27 v24 (Option.some.inj h)
   rintro p30 rfl
   refine Run.seq (Run.seq ?_)
   obtain ⟨e31,he31,h2⟩:=bindE h
   refine R.regG [(1,.slice (b1.map int)),(2,int b2),(3,bool b3),(4,bool b4),(11,int a9),(16,int p30),(18,.slice (b0.Modes.map B0f)),(19,int (b0.Modes.length:Int)),(20,int z8),(55,bool e31)] [] ?_ ?_
   ·clear h;have h:=he31;clear he31 h2
    refine X.mv ?_
    refine X.un (h:=?_)
    refine X.mv ?_
    refine X.iG (fun hb32=>?_) (fun hb32=>?_)
    ·replace h:=condF hb32 h
     refine X.mv ?_
     refine X.gy (X.mv ?_)
     refine X.gy (X.bi ?_)
     refine X.pF ?_
     cases h
     exact X.eG
    replace h:=condT hb32 h
    refine X.gn (X.gn (X.pT ?_))
    cases h
    exact X.eG
   replace h:=h2;clear h2
   refine R.cd (fun hc33=>?_) (fun hc33=>?_)
   ·replace h:=condT hc33 h
    refine Run.reg (X.mv ?_)
    refine X.an ?_
    refine Run.reg (X.an ?_)
    refine Run.blk (Run.reg (X.ad ?_))
    refine X.mn ?_
    exact R.ag hag7 (n7 - 1) (z8+1,p30,true) (R.n3 (by first | (rw [hds7];exact h) | (dsimp only;rw [hds7];exact h)))
   replace h:=condF hc33 h
   refine Run.skip (Run.reg (X.an ?_))
   refine Run.blk (Run.reg (X.ad ?_))
   refine X.mn ?_
   exact R.ag hag7 (n7 - 1) (z8+1,a9,true) (R.n3 (by first | (rw [hds7];exact h) | (dsimp only;rw [hds7];exact h)))
  rw [A0h hza7 hc13] at h
  rw [G0g] at h
  refine Run.exit (by rfl) ?_
  exact R.mt hmeet3 a9 (Option.some.inj h)
 rintro p34 rfl
 replace h:=elimL h
 refine Run.sr (X.mv ?_)
 refine X.an ?_
 cases h
 refine R.f1 Tryz.results81 ?_
 rfl
theorem J1d (b0:A0f)(b1:List Int)(b2:Int)(r:Int)(h:R0y b0 b1 b2=some r):PC Tryz.prog 44 [A0d b0,.slice (b1.map int),int b2] (int r):=by
 unfold R0y at h
 refine PC.start Tryz.func44 Tryz.ntmps44 rfl (by kernel_rfl) rfl ?_
 refine Run.sr (X.bx ?_)
 refine X.an ?_
 refine Run.sr (X.ld shp67 ?_)
 refine X.mv ?_
 refine X.mv ?_
 obtain ⟨v1,hv1,h⟩:=bindE h
 refine X.cp (Y0t _ _ _ _ _ _ hv1) ?_
 refine X.an ?_
 cases h
 refine R.f1 Tryz.results44 ?_
 rfl
theorem J1m (b0:List TStep)(b1:Int)(b2:Int)(r:Bool)(h:V0k b0 b1 b2=some r):PC Tryz.prog 120 [.slice (b0.map B0e),int b1,int b2] (bool r):=by
 unfold V0k at h
 refine PC.start Tryz.func120 Tryz.ntmps120 rfl (by kernel_rfl) rfl ?_
 refine Run.sr (X.an ?_)
 refine Run.seq ?_
 obtain ⟨v1,hv1,h⟩:=bindE h
 obtain ⟨e2,he2,h2⟩:=bindE h
 refine R.regG [(6,bool e2)] [] ?_ ?_
 ·clear h;have h:=he2;clear he2 h2
  refine X.mv ?_
  refine X.cp (A1y _ _ hv1) ?_
  refine X.mv ?_
  refine X.iG (fun hb3=>?_) (fun hb3=>?_)
  ·replace h:=condT hb3 h
   refine X.mv ?_
   refine X.gy ?_
   obtain ⟨v4,hv4,h⟩:=bindE h
   refine X.cp (B0u _ _ _ _ hv4) ?_
   refine X.pT ?_
   refine X.mv ?_
   refine X.iG (fun hb5=>?_) (fun hb5=>?_)
   ·replace h:=condT hb5 h
    refine X.mv ?_
    refine X.gy ?_
    obtain ⟨v6,hv6,h⟩:=bindE h
    refine X.cp (B0u _ _ _ _ hv6) ?_
    refine X.pT ?_
    refine X.as ?_
    cases h
    exact X.eG
   replace h:=condF hb5 h
   refine X.gn (X.pF ?_)
   refine X.as ?_
   cases h
   exact X.eG
  replace h:=condF hb3 h
  refine X.gn (X.pF ?_)
  refine X.mv ?_
  refine X.gn (X.gn (X.pF ?_))
  refine X.as ?_
  cases h
  exact X.eG
 replace h:=h2;clear h2
 cases h
 refine R.f1 Tryz.results120 ?_
 rfl
theorem P1c (b0:List TStep)(b1:Int)(r:Int)(h:W0w b0 b1=some r):PC Tryz.prog 121 [.slice (b0.map B0e),int b1] (int r):=by
 unfold W0w at h
 refine PC.start Tryz.func121 Tryz.ntmps121 rfl (by kernel_rfl) rfl ?_
 refine Run.sr (X.an ?_)
 refine Run.sr (X.an ?_)
 refine Run.seq (Run.sr (X.mv ?_))
 refine X.ls elt70 ?_
 refine X.mn ?_
 obtain ⟨o1,ho1,h⟩:=bindE h
 refine R.join2 (β:=Int) [] [] (fun p14 S=>(5,int p14)::S) (fun p14 M=>M) (fun p14=>p14=o1) ?_ ?_
 ·intro JJ4 hmeet3
  have hup2:=h;clear h;have h:=ho1;clear ho1
  refine Run.block ?_
  refine R.bndS (t:=0) (by rfl) (fun hbd7=>?_)
  replace hbd7:b0.length≤9223372036854775807:=by first | (rw [List.length_map] at hbd7;exact hbd7) | simp
  refine R.lp (β:=Int×Int) [(1,int b1),(8,.slice (b0.map B0e)),(9,int (b0.length:Int))] [] (fun bb S=>(5,int bb.2)::(10,int bb.1)::S) (fun bb M=>M) (fun n bb=>0≤bb.1∧bb.1+n=(b0.length:Int)∧K0k b1 (b0.drop bb.1.toNat) bb.1 bb.2=some o1) b0.length (0,0) ⟨Int.le_refl _,by simp,h⟩ ?_
  clear h
  rintro JJ7 n7 ⟨z8,a9⟩ hag7 ⟨hza7,hzb7,h⟩
  dsimp only at hza7 hzb7 h
  refine Run.sr (X.bi ?_)
  refine X.nil (Run.seq ?_)
  refine R.cd (fun hc12=>?_) (fun hc12=>?_)
  ·obtain ⟨x10,xs11,hd7,hx7,hds7,hlt7⟩:=A0k hza7 hc12
   rw [hd7] at h
   rw [K0k] at h
   refine Run.skip (Run.seq (Run.block (Run.sr (X.ix elt70 (A0a hx7).1 (A0c B0e hx7) ?_))))
   refine X.lc S0e ?_
   refine X.alloc D1x (h:=?_)
   refine X.sl S0e ?_
   refine X.nil (Run.sr (X.fl J0w ?_))
   refine X.ld shp3 ?_
   refine X.mv ?_
   refine X.bi ?_
   refine X.nil ?_
   refine R.cd (fun hc13=>?_) (fun hc13=>?_)
   ·replace h:=condT hc13 h
    refine Run.reg (X.fl T0w ?_)
    refine X.ld shp3 ?_
    refine X.an ?_
    refine Run.blk (Run.reg (X.ad ?_))
    refine X.mn ?_
    exact R.ag hag7 (n7 - 1) (z8+1,x10.Capacity) (R.n3 (by first | (rw [hds7];exact h) | (dsimp only;rw [hds7];exact h)))
   replace h:=condF hc13 h
   refine Run.skip (Run.blk (Run.reg (X.ad ?_)))
   refine X.mn ?_
   exact R.ag hag7 (n7 - 1) (z8+1,a9) (R.n3 (by first | (rw [hds7];exact h) | (dsimp only;rw [hds7];exact h)))
  rw [A0h hza7 hc12] at h
  rw [K0k] at h
  refine Run.exit (by rfl) ?_
  exact R.mt hmeet3 a9 (Option.some.inj h)
 rintro p14 rfl
 refine Run.sr (X.mv ?_)
 refine X.an ?_
 cases h
 refine R.f1 Tryz.results121 ?_
 rfl
theorem Z0o (b0:List TStep)(b1:Int)(b2:Int)(r:Int)(h:F0n b0 b1 b2=some r):PC Tryz.prog 83 [.slice (b0.map B0e),int b1,int b2] (int r):=by
 unfold F0n at h
 refine PC.start Tryz.func83 Tryz.ntmps83 rfl (by kernel_rfl) rfl ?_
 refine Run.sr (X.an ?_)
 refine Run.seq (Run.sr (X.mv ?_))
 refine X.mv ?_
 refine X.mv ?_
 obtain ⟨v1,hv1,h⟩:=bindE h
 refine X.cp (J1m _ _ _ _ hv1) ?_
 refine X.un (h:=?_)
 refine X.nil ?_
 refine R.cd (fun hc2=>?_) (fun hc2=>?_)
 ·replace h:=condT hc2 h
  refine Run.sr (X.an ?_)
  cases h
  refine R.f1 Tryz.results83 ?_
  rfl
 replace h:=condF hc2 h
 refine Run.skip (Run.sr (X.an ?_))
 refine Run.seq (Run.sr (X.mv ?_))
 refine X.an ?_
 obtain ⟨o3,ho3,h⟩:=bindE h
 refine R.join2 (β:=Int) [] [] (fun p14 S=>(7,int p14)::S) (fun p14 M=>M) (fun p14=>p14=o3) ?_ ?_
 ·intro JJ6 hmeet5
  have hup4:=h;clear h;have h:=ho3;clear ho3
  refine Run.block ?_
  refine R.lp (β:=Int×Int) [(0,.slice (b0.map B0e)),(2,int b2)] [] (fun bb S=>(7,int bb.1)::(8,int bb.2)::S) (fun bb M=>M) (fun n bb=>C0n b0 b2 n bb.1 bb.2=some o3) F0 (0,b1) h ?_
  clear h
  rintro JJ6 n6 ⟨a8,a9⟩ hag6 h
  dsimp only at h
  obtain _ | n6:=n6
  ·exact absurd h (by simp [C0n])
  rw [C0n] at h
  refine Run.seq (Run.sr (X.mv ?_))
  refine X.mv ?_
  refine X.bi ?_
  refine X.nil ?_
  refine R.cd (fun hc12=>?_) (fun hc12=>?_)
  ·replace h:=condT hc12 h
   refine Run.skip (Run.seq (Run.block (Run.reg (X.mv ?_))))
   refine X.mv ?_
   refine X.mv ?_
   obtain ⟨v13,hv13,h⟩:=bindE h
   refine X.cp (P1c _ _ _ hv13) ?_
   refine X.addW (h:=?_)
   refine X.an ?_
   refine Run.blk (Run.reg (X.mv ?_))
   refine X.addW (h:=?_)
   refine X.an ?_
   exact hag6 n6 ((W (a8+v13)),(W (a9+1))) _ _ (by omega) h (by trivial) (by trivial) (by rfl) (by rfl)
  replace h:=condF hc12 h
  refine Run.exit (by rfl) ?_
  exact R.mt hmeet5 a8 (Option.some.inj h)
 rintro p14 rfl
 refine Run.sr (X.mv ?_)
 refine X.an ?_
 cases h
 refine R.f1 Tryz.results83 ?_
 rfl
theorem C1u (b0:A0b)(b1:Int)(b2:Int)(b3:Int)(r:Int)(h:P0m b0 b1 b2 b3=some r):PC Tryz.prog 46 [A0n b0,int b1,int b2,int b3] (int r):=by
 unfold P0m at h
 refine PC.start Tryz.func46 Tryz.ntmps46 rfl (by kernel_rfl) rfl ?_
 refine Run.sr (X.bx ?_)
 refine X.an ?_
 refine Run.seq (Run.seq ?_)
 obtain ⟨v1,hv1,h⟩:=bindE h
 obtain ⟨e2,he2,h2⟩:=bindE h
 refine R.regG [(1,int b1),(2,int b2),(3,int b3),(4,.lptr 256 0),(20,bool e2)] [(256,.blk true [int b0.Deadline,.slice (b0.Activities.map A0d),.slice (b0.Links.map A0l),.slice (b0.Resources.map A0e),.slice (b0.Stocks.map int)])] ?_ ?_
 ·clear h;have h:=he2;clear he2 h2
  refine X.ld shp34 ?_
  refine X.cp (G0p _ _ hv1) ?_
  refine X.un (h:=?_)
  refine X.mv ?_
  refine X.iG (fun hb3=>?_) (fun hb3=>?_)
  ·replace h:=condF hb3 h
   refine X.mv ?_
   refine X.gy (X.fl H0o ?_)
   refine X.gy (X.ld shp32 ?_)
   refine X.gy (X.ls elt32 ?_)
   refine X.gy (X.subW (h:=?_))
   refine X.gy ?_
   obtain ⟨v4,hv4,h⟩:=bindE h
   refine X.cp (B0u _ _ _ _ hv4) ?_
   refine X.gy (X.un (h:=?_))
   refine X.pF ?_
   cases h
   exact X.eG
  replace h:=condT hb3 h
  refine X.gn (X.gn (X.gn (X.gn (X.gn (X.gn (X.pT ?_))))))
  cases h
  exact X.eG
 replace h:=h2;clear h2
 refine R.cd (fun hc5=>?_) (fun hc5=>?_)
 ·replace h:=condT hc5 h
  refine Run.sr (X.an ?_)
  cases h
  refine R.f1 Tryz.results46 ?_
  rfl
 replace h:=condF hc5 h
 refine Run.skip (Run.sr (X.fl H0o ?_))
 refine X.ld shp32 ?_
 refine X.mv ?_
 obtain ⟨v6,hv6,h⟩:=bindE h
 refine X.ix elt32 (A0a hv6).1 (A0c A0e hv6) ?_
 refine X.fieldAddr_c X0g (by rfl) (by rfl) ?_
 refine X.lc shp70 ?_
 refine X.mv ?_
 refine X.mv ?_
 obtain ⟨v7,hv7,h⟩:=bindE h
 refine X.cp (Z0o _ _ _ _ hv7) ?_
 refine X.an ?_
 cases h
 refine R.f1 Tryz.results46 ?_
 rfl
theorem W0h (b0:A0b)(r:Int)(h:N0u b0=some r):PC Tryz.prog 17 [A0n b0] (int r):=by
 unfold N0u at h
 refine PC.start Tryz.func17 Tryz.ntmps17 rfl (by kernel_rfl) rfl ?_
 refine Run.sr (X.bx ?_)
 refine X.an ?_
 refine Run.seq (Run.sr (X.ld shp34 ?_))
 obtain ⟨v1,hv1,h⟩:=bindE h
 refine X.cp (G0p _ _ hv1) ?_
 refine X.un (h:=?_)
 refine X.nil ?_
 refine R.cd (fun hc2=>?_) (fun hc2=>?_)
 ·replace h:=condT hc2 h
  refine Run.sr (X.an ?_)
  cases h
  refine R.f1 Tryz.results17 ?_
  rfl
 replace h:=condF hc2 h
 refine Run.skip (Run.seq (Run.sr (X.ld shp34 ?_)))
 obtain ⟨v3,hv3,h⟩:=bindE h
 refine X.cp (S0p _ _ hv3) ?_
 obtain ⟨v4,hv4,h⟩:=bindE h
 refine X.cp (H0x _ _ _ hv4) ?_
 refine X.an ?_
 obtain ⟨o5,ho5,h⟩:=bindE h
 refine R.join2 (β:=Unit) [] [] (fun p46 S=>S) (fun p46 M=>M) (fun p46=>(Sum.inl p46)=o5) ?_ ?_
 ·intro JJ8 hmeet7
  have hup6:=h;clear h;have h:=ho5;clear ho5
  refine Run.block ?_
  refine R.lp (β:=Int) [(1,.lptr 64 0)] [(64,.blk true [int b0.Deadline,.slice (b0.Activities.map A0d),.slice (b0.Links.map A0l),.slice (b0.Resources.map A0e),.slice (b0.Stocks.map int)])] (fun bb S=>(3,int bb)::S) (fun bb M=>M) (fun n bb=>J0e b0 n bb=some o5) F0 v4 h ?_
  clear h
  rintro JJ8 n8 a10 hag8 h
  obtain _ | n8:=n8
  ·exact absurd h (by simp [J0e])
  rw [J0e] at h
  refine Run.seq (Run.sr (X.mv ?_))
  refine X.bi ?_
  refine X.nil ?_
  refine R.cd (fun hc13=>?_) (fun hc13=>?_)
  ·replace h:=condT hc13 h
   refine Run.skip (Run.seq (Run.block (Run.sr (X.an ?_))))
   refine Run.seq (Run.sr (X.fl H0o ?_))
   refine X.ld shp32 ?_
   refine X.ls elt32 ?_
   refine X.mn ?_
   obtain ⟨o14,ho14,h⟩:=bindE h
   refine R.join2 (β:=Bool) [(1,.lptr 64 0),(3,int a10)] [(64,.blk true [int b0.Deadline,.slice (b0.Activities.map A0d),.slice (b0.Links.map A0l),.slice (b0.Resources.map A0e),.slice (b0.Stocks.map int)])] (fun p44 S=>(4,bool p44)::S) (fun p44 M=>M) (fun p44=>p44=o14) ?_ ?_
   ·intro JJ17 hmeet16
    have hup15:=h;clear h;have h:=ho14;clear ho14
    refine Run.block ?_
    refine R.bndS (t:=20) (by rfl) (fun hbd20=>?_)
    replace hbd20:b0.Resources.length≤9223372036854775807:=by first | (rw [List.length_map] at hbd20;exact hbd20) | simp
    refine R.lp (β:=Int×Bool) [(1,.lptr 64 0),(3,int a10),(21,int (b0.Resources.length:Int))] [(64,.blk true [int b0.Deadline,.slice (b0.Activities.map A0d),.slice (b0.Links.map A0l),.slice (b0.Resources.map A0e),.slice (b0.Stocks.map int)])] (fun bb S=>(4,bool bb.2)::(22,int bb.1)::S) (fun bb M=>M) (fun n bb=>0≤bb.1∧bb.1+n=(b0.Resources.length:Int)∧H0s b0 a10 (b0.Resources.drop bb.1.toNat) bb.1 bb.2=some o14) b0.Resources.length (0,true) ⟨Int.le_refl _,by simp,h⟩ ?_
    clear h
    rintro JJ20 n20 ⟨z21,a22⟩ hag20 ⟨hza20,hzb20,h⟩
    dsimp only at hza20 hzb20 h
    refine Run.sr (X.bi ?_)
    refine X.nil (Run.seq ?_)
    refine R.cd (fun hc25=>?_) (fun hc25=>?_)
    ·obtain ⟨x23,xs24,hd20,hx20,hds20,hlt20⟩:=A0k hza20 hc25
     rw [hd20] at h
     rw [H0s] at h
     refine Run.skip (Run.seq (Run.block (Run.sr (X.mv ?_))))
     refine X.an ?_
     refine Run.sr (X.an ?_)
     refine Run.seq (Run.sr (X.fl B0l ?_))
     refine X.ld shp30 ?_
     refine X.ls elt30 ?_
     refine X.mn ?_
     obtain ⟨o26,ho26,h⟩:=bindE h
     refine R.join2 (β:=Int) [(1,.lptr 64 0),(3,int a10),(4,bool a22),(5,int z21),(21,int (b0.Resources.length:Int)),(22,int z21)] [(64,.blk true [int b0.Deadline,.slice (b0.Activities.map A0d),.slice (b0.Links.map A0l),.slice (b0.Resources.map A0e),.slice (b0.Stocks.map int)])] (fun p40 S=>(6,int p40)::S) (fun p40 M=>M) (fun p40=>p40=o26) ?_ ?_
     ·intro JJ29 hmeet28
      have hup27:=h;clear h;have h:=ho26;clear ho26
      refine Run.block ?_
      refine R.bndS (t:=26) (by rfl) (fun hbd32=>?_)
      replace hbd32:b0.Activities.length≤9223372036854775807:=by first | (rw [List.length_map] at hbd32;exact hbd32) | simp
      refine R.lp (β:=Int×Int) [(1,.lptr 64 0),(3,int a10),(4,bool a22),(5,int z21),(21,int (b0.Resources.length:Int)),(22,int z21),(26,.slice (b0.Activities.map A0d)),(27,int (b0.Activities.length:Int))] [(64,.blk true [int b0.Deadline,.slice (b0.Activities.map A0d),.slice (b0.Links.map A0l),.slice (b0.Resources.map A0e),.slice (b0.Stocks.map int)])] (fun bb S=>(6,int bb.2)::(28,int bb.1)::S) (fun bb M=>M) (fun n bb=>0≤bb.1∧bb.1+n=(b0.Activities.length:Int)∧J0a z21 (b0.Activities.drop bb.1.toNat) bb.1 bb.2=some o26) b0.Activities.length (0,0) ⟨Int.le_refl _,by simp,h⟩ ?_
      clear h
      rintro JJ32 n32 ⟨z33,a34⟩ hag32 ⟨hza32,hzb32,h⟩
      dsimp only at hza32 hzb32 h
      refine Run.sr (X.bi ?_)
      refine X.nil (Run.seq ?_)
      refine R.cd (fun hc37=>?_) (fun hc37=>?_)
      ·obtain ⟨x35,xs36,hd32,hx32,hds32,hlt32⟩:=A0k hza32 hc37
       rw [hd32] at h
       rw [J0a] at h
       refine Run.skip (Run.seq (Run.block (Run.sr (X.ix elt30 (A0a hx32).1 (A0c A0d hx32) ?_))))
       refine X.lc shp67 ?_
       refine X.alloc zer67 (h:=?_)
       refine X.sl shp67 ?_
       refine X.nil (Run.draw (B0m [(1,([512],[],[],[])),(2,([512],[],[],[])),(3,([],[2240],[],[])),(5,([2240],[],[],[]))]) mixed (by kernel_rfl) (by kernel_rfl) ?_)
       refine X.mv ?_
       refine X.ld shp67 ?_
       refine X.ld shp67 ?_
       obtain ⟨v38,hv38,h⟩:=bindE h
       refine X.callF (K0e _ _ hv38) (by rfl) (by rfl) (by rfl) (by trivial) (by rfl) (by rfl) (by rfl) (by rfl) ?_
       refine X.mv ?_
       obtain ⟨v39,hv39,h⟩:=bindE h
       refine X.cp (J1d _ _ _ _ hv39) ?_
       refine X.addW (h:=?_)
       refine X.an ?_
       refine Run.blk (Run.reg (X.ad ?_))
       refine X.mn ?_
       exact R.ag hag32 (n32 - 1) (z33+1,(W (a34+v39))) (R.n3 (by first | (rw [hds32];exact h) | (dsimp only;rw [hds32];exact h)))
      rw [A0h hza32 hc37] at h
      rw [J0a] at h
      refine Run.exit (by rfl) ?_
      exact R.mt hmeet28 a34 (Option.some.inj h)
     rintro p40 rfl
     obtain ⟨e41,he41,h2⟩:=bindE h
     refine R.regG [(1,.lptr 64 0),(3,int a10),(4,bool e41),(21,int (b0.Resources.length:Int)),(22,int z21)] [(64,.blk true [int b0.Deadline,.slice (b0.Activities.map A0d),.slice (b0.Links.map A0l),.slice (b0.Resources.map A0e),.slice (b0.Stocks.map int)])] ?_ ?_
     ·clear h;have h:=he41;clear he41 h2
      refine X.mv ?_
      refine X.mv ?_
      refine X.iG (fun hb42=>?_) (fun hb42=>?_)
      ·replace h:=condT hb42 h
       refine X.mv ?_
       refine X.gy (X.ld shp34 ?_)
       refine X.gy (X.mv ?_)
       refine X.gy (X.mv ?_)
       refine X.gy ?_
       obtain ⟨v43,hv43,h⟩:=bindE h
       refine X.cp (C1u _ _ _ _ _ hv43) ?_
       refine X.gy (X.bi ?_)
       refine X.pT ?_
       refine X.as ?_
       cases h
       exact X.eG
      replace h:=condF hb42 h
      refine X.gn (X.gn (X.gn (X.gn (X.gn (X.pF ?_)))))
      refine X.as ?_
      cases h
      exact X.eG
     replace h:=h2;clear h2
     refine Run.blk (Run.reg (X.ad ?_))
     refine X.mn ?_
     exact R.ag hag20 (n20 - 1) (z21+1,e41) (R.n3 (by first | (rw [hds20];exact h) | (dsimp only;rw [hds20];exact h)))
    rw [A0h hza20 hc25] at h
    rw [H0s] at h
    refine Run.exit (by rfl) ?_
    exact R.mt hmeet16 a22 (Option.some.inj h)
   rintro p44 rfl
   refine Run.sr (X.mn ?_)
   refine R.cd (fun hc45=>?_) (fun hc45=>?_)
   ·replace h:=condT hc45 h
    refine Run.sr (X.mv ?_)
    refine X.an ?_
    cases h
    have h:=hup6
    replace h:=elimR h
    cases h
    refine R.f1 Tryz.results17 ?_
    rfl
   replace h:=condF hc45 h
   refine Run.skip (Run.blk (Run.reg (X.mv ?_)))
   refine X.addW (h:=?_)
   refine X.an ?_
   exact hag8 n8 (W (a10+1)) _ _ (by omega) h (by trivial) (by trivial) (by rfl) (by rfl)
  replace h:=condF hc13 h
  refine Run.exit (by rfl) ?_
  exact R.mt hmeet7 () (Option.some.inj h)
 rintro p46 rfl
 replace h:=elimL h
 refine Run.sr (X.an ?_)
 cases h
 refine R.f1 Tryz.results17 ?_
 rfl
theorem N1q (b0:A0b)(r:A0r)(h:A1j b0=some r):PC Tryz.prog 48 [A0n b0] (.agg [.fresh false 3 1 (r.MinStart.map int),.fresh false 3 1 (r.MaxStart.map int),.fresh false 25 1 (r.Modes.map l_int)]):=by
 unfold A1j at h
 refine PC.start Tryz.func48 Tryz.ntmps48 rfl (by kernel_rfl) rfl ?_
 refine Run.sr (X.bx ?_)
 refine X.alloc zer85 (h:=?_)
 refine X.nil (Run.sr ?_)
 refine X.build zer85 pl85 (by rfl) (by rfl) (by repeat (first | trivial | refine ⟨by first | rfl | simp [setL],?_⟩)) (by rfl) (by rfl) (by rfl) ?_
 refine X.alloc zer85 (h:=?_)
 refine X.sl shp85 ?_
 refine X.nil (Run.seq (Run.sr (X.fl B0l ?_)))
 refine X.ld shp30 ?_
 refine X.ls elt30 ?_
 refine X.mn ?_
 obtain ⟨o1,ho1,h⟩:=bindE h
 refine R.join2 (β:=(List Int)×(List Int)×(List (List Int))) [(2,.lptr 128 0),(3,.lptr 192 0)] [(128,.blk true [.nils,.nils,.nils])] (fun p19 S=>S) (fun p19 M=>(192,.blk true [.own 1088 (p19.1.map int).length,.own 1600 (p19.2.1.map int).length,.own 2048 (p19.2.2.map l_int).length])::(1088,.obj false 3 1 (p19.1.map int))::(1600,.obj false 3 1 (p19.2.1.map int))::(2048,.obj false 25 1 (p19.2.2.map l_int))::M) (fun p19=>p19=o1) ?_ ?_
 ·intro JJ4 hmeet3
  have hup2:=h;clear h;have h:=ho1;clear ho1
  refine Run.block (R.nilOwnB (m:=192) 0 1088 false 3 1 (by rfl) (by rfl) (by rfl) (by rfl) (by rfl) ?_)
  refine R.nilOwnB (m:=192) 1 1600 false 3 1 (by rfl) (by rfl) (by rfl) (by rfl) (by rfl) ?_
  refine R.nilOwnB (m:=192) 2 2048 false 25 1 (by rfl) (by rfl) (by rfl) (by rfl) (by rfl) ?_
  refine R.bndS (t:=8) (by rfl) (fun hbd7=>?_)
  replace hbd7:b0.Activities.length≤9223372036854775807:=by first | (rw [List.length_map] at hbd7;exact hbd7) | simp
  refine R.lp (β:=Int×(List Int)×(List Int)×(List (List Int))) [(1,.lptr 64 0),(2,.lptr 128 0),(3,.lptr 192 0),(8,.slice (b0.Activities.map A0d)),(9,int (b0.Activities.length:Int))] [(64,.blk true [int b0.Deadline,.slice (b0.Activities.map A0d),.slice (b0.Links.map A0l),.slice (b0.Resources.map A0e),.slice (b0.Stocks.map int)]),(128,.blk true [.nils,.nils,.nils])] (fun bb S=>(10,int bb.1)::S) (fun bb M=>(192,.blk true [.own 1088 (bb.2.1.map int).length,.own 1600 (bb.2.2.1.map int).length,.own 2048 (bb.2.2.2.map l_int).length])::(1088,.obj false 3 1 (bb.2.1.map int))::(1600,.obj false 3 1 (bb.2.2.1.map int))::(2048,.obj false 25 1 (bb.2.2.2.map l_int))::M) (fun n bb=>0≤bb.1∧bb.1+n=(b0.Activities.length:Int)∧L0m b0 (b0.Activities.drop bb.1.toNat) bb.1 bb.2.1 bb.2.2.1 bb.2.2.2=some o1) b0.Activities.length (0,([]:List Int),([]:List Int),([]:List (List Int))) ⟨Int.le_refl _,by simp,h⟩ ?_
  clear h
  rintro JJ7 n7 ⟨z8,a9,a10,a11⟩ hag7 ⟨hza7,hzb7,h⟩
  dsimp only at hza7 hzb7 h
  refine Run.sr (X.bi ?_)
  refine X.nil (Run.seq ?_)
  refine R.cd (fun hc14=>?_) (fun hc14=>?_)
  ·obtain ⟨x12,xs13,hd7,hx7,hds7,hlt7⟩:=A0k hza7 hc14
   rw [hd7] at h
   rw [L0m] at h
   refine Run.skip (Run.seq (Run.block (Run.sr (X.ix elt30 (A0a hx7).1 (A0c A0d hx7) ?_))))
   refine X.lc shp67 ?_
   refine X.alloc zer67 (h:=?_)
   refine X.sl shp67 ?_
   refine X.nil (Run.sr (X.fl L0p ?_))
   refine X.ld shp25 ?_
   refine X.buildSlice false elt25 zer3 (by rfl) (by rfl) (by rfl) (by rfl) (by rfl) (by rfl) (by repeat (first | trivial | refine ⟨by first | rfl | simp [setL],?_⟩)) (A0o (by rfl)) (by rfl) (by rfl) (by rfl) ?_
   obtain ⟨v15,hv15,h⟩:=bindE h
   refine X.append elt25 zer3 (by rfl) (by rfl) (by first | rfl | simp [setL] | omega) (by rfl) (.own _ _ _ _ _ _ (A0g (by rfl)) (by first | rfl | simp [setL] | omega)) (A0o (by rfl)) (E0l int hv15) (E0k int hv15) (by rfl) (by rfl) (by rfl) (by rfl) ?_
   refine X.fl L0p ?_
   refine X.sl shp25 ?_
   refine X.nil (Run.sr (X.fl P0y ?_))
   refine X.ld shp25 ?_
   refine X.fl W0y ?_
   refine X.ld shp3 ?_
   refine X.subW (h:=?_)
   refine X.buildSlice false elt25 zer3 (by rfl) (by rfl) (by rfl) (by rfl) (by rfl) (by rfl) (by repeat (first | trivial | refine ⟨by first | rfl | simp [setL],?_⟩)) (A0o (by rfl)) (by rfl) (by rfl) (by rfl) ?_
   obtain ⟨v16,hv16,h⟩:=bindE h
   refine X.append elt25 zer3 (by rfl) (by rfl) (by first | rfl | simp [setL] | omega) (by rfl) (.own _ _ _ _ _ _ (A0g (by rfl)) (by first | rfl | simp [setL] | omega)) (A0o (by rfl)) (E0l int hv16) (E0k int hv16) (by rfl) (by rfl) (by rfl) (by rfl) ?_
   refine X.fl P0y ?_
   refine X.sl shp25 ?_
   refine X.nil (Run.draw (B0m [(1,([192],[],[],[])),(2,([320],[],[],[])),(3,([],[1920],[],[])),(4,([1920,1984],[1984],[],[])),(5,([1984,2048],[2048],[],[])),(7,([192,2048],[192],[],[]))]) mixed (by kernel_rfl) (by kernel_rfl) ?_)
   refine X.fl M0o ?_
   refine X.ld shp61 ?_
   refine X.ld shp67 ?_
   obtain ⟨v17,hv17,h⟩:=bindE h
   refine X.callF (K0e _ _ hv17) (by rfl) (by rfl) (by rfl) (by trivial) (by rfl) (by rfl) (by rfl) (by rfl) ?_
   refine X.buildSlice false elt61 zer25 (by rfl) (by rfl) (by rfl) (by rfl) (by rfl) (by rfl) (by repeat (first | trivial | refine ⟨by first | rfl | simp [setL],?_⟩)) (A0o (by rfl)) (by rfl) (by rfl) (by rfl) ?_
   obtain ⟨v18,hv18,h⟩:=bindE h
   refine X.append elt61 zer25 (by rfl) (by rfl) (by first | rfl | simp [setL] | omega) (by rfl) (.own _ _ _ _ _ _ (A0g (by rfl)) (by first | rfl | simp [setL] | omega)) (A0o (by rfl)) (E0l l_int hv18) (E0k l_int hv18) (by rfl) (by rfl) (by rfl) (by rfl) ?_
   refine X.fl M0o ?_
   refine X.sl shp61 ?_
   refine X.nil (Run.blk (Run.reg (X.ad ?_)))
   refine X.mn ?_
   exact R.ag hag7 (n7 - 1) (z8+1,v15,v16,v18) (R.n3 (by first | (rw [hds7];exact h) | (dsimp only;rw [hds7];exact h)))
  rw [A0h hza7 hc14] at h
  rw [L0m] at h
  refine Run.exit (by rfl) ?_
  exact R.mt hmeet3 (a9,a10,a11) (Option.some.inj h)
 rintro p19 rfl
 refine Run.sr (X.ld shp85 ?_)
 refine X.sl shp85 ?_
 refine X.nil ?_
 cases h
 refine R.finC Tryz.results48 shp85 (by rfl) (by rfl) (by rfl) (by rfl) (by repeat (first | trivial | refine ⟨by first | rfl | simp [setL],?_⟩)) ?_
 rfl
theorem N1w (b0:List Int)(r:Bool)(h:R0o b0=some r):PC Tryz.prog 164 [.slice (b0.map int)] (bool r):=by
 unfold R0o at h
 refine PC.start Tryz.func164 Tryz.ntmps164 rfl (by kernel_rfl) rfl ?_
 refine Run.sr (X.an ?_)
 refine Run.seq (Run.sr (X.mv ?_))
 refine X.ls elt25 ?_
 refine X.mn ?_
 obtain ⟨o1,ho1,h⟩:=bindE h
 refine R.join2 (β:=Unit) [] [] (fun p16 S=>S) (fun p16 M=>M) (fun p16=>(Sum.inl p16)=o1) ?_ ?_
 ·intro JJ4 hmeet3
  have hup2:=h;clear h;have h:=ho1;clear ho1
  refine Run.block ?_
  refine R.bndS (t:=0) (by rfl) (fun hbd7=>?_)
  replace hbd7:b0.length≤9223372036854775807:=by first | (rw [List.length_map] at hbd7;exact hbd7) | simp
  refine R.lp (β:=Int) [(0,.slice (b0.map int)),(5,int (b0.length:Int))] [] (fun bb S=>(6,int bb)::S) (fun bb M=>M) (fun n bb=>0≤bb∧bb+n=(b0.length:Int)∧K0n b0 (b0.drop bb.toNat) bb=some o1) b0.length (0:Int) ⟨Int.le_refl _,by simp,h⟩ ?_
  clear h
  rintro JJ7 n7 z8 hag7 ⟨hza7,hzb7,h⟩
  refine Run.sr (X.bi ?_)
  refine X.nil (Run.seq ?_)
  refine R.cd (fun hc11=>?_) (fun hc11=>?_)
  ·obtain ⟨x9,xs10,hd7,hx7,hds7,hlt7⟩:=A0k hza7 hc11
   rw [hd7] at h
   rw [K0n] at h
   refine Run.skip (Run.seq (Run.block (Run.sr (X.mv ?_))))
   refine X.an ?_
   refine Run.seq ?_
   obtain ⟨e12,he12,h2⟩:=bindE h
   refine R.drawG [(0,.slice (b0.map int)),(5,int (b0.length:Int)),(6,int z8),(22,bool e12)] [] (B0m []) mixed (by kernel_rfl) (by kernel_rfl) ?_ ?_
   ·clear h;have h:=he12;clear he12 h2
    refine X.mv ?_
    refine X.bi ?_
    refine X.mv ?_
    refine X.iG (fun hb13=>?_) (fun hb13=>?_)
    ·replace h:=condT hb13 h
     refine X.mv ?_
     refine X.gy (X.mv ?_)
     refine X.gy (X.sub (by rfl) (by rfl) (by omega) (by rfl) ?_)
     refine X.gy ?_
     obtain ⟨v14,hv14,h⟩:=bindE h
     refine X.ix elt25 (A0a hv14).1 (A0c int hv14) ?_
     refine X.gy (X.lc shp3 ?_)
     refine X.gy (X.mv ?_)
     refine X.gy (X.mv ?_)
     refine X.gy (X.ix elt25 (A0a hx7).1 (A0c int hx7) ?_)
     refine X.gy (X.lc shp3 ?_)
     refine X.gy (X.bi ?_)
     refine X.pT ?_
     cases h
     exact X.eG
    replace h:=condF hb13 h
    refine X.gn (X.gn (X.gn (X.gn (X.gn (X.gn (X.gn (X.gn ?_)))))))
    refine X.gn (X.pF ?_)
    cases h
    exact X.eG
   replace h:=h2;clear h2
   refine R.cd (fun hc15=>?_) (fun hc15=>?_)
   ·replace h:=condT hc15 h
    refine Run.sr (X.an ?_)
    cases h
    have h:=hup2
    replace h:=elimR h
    cases h
    refine R.f1 Tryz.results164 ?_
    rfl
   replace h:=condF hc15 h
   refine Run.skip (Run.blk (Run.reg (X.ad ?_)))
   refine X.mn ?_
   exact R.ag hag7 (n7 - 1) (z8+1) (R.n3 (by first | (rw [hds7];exact h) | (dsimp only;rw [hds7];exact h)))
  rw [A0h hza7 hc11] at h
  rw [K0n] at h
  refine Run.exit (by rfl) ?_
  exact R.mt hmeet3 () (Option.some.inj h)
 rintro p16 rfl
 replace h:=elimL h
 refine Run.sr (X.an ?_)
 cases h
 refine R.f1 Tryz.results164 ?_
 rfl
theorem E1x (b0:List Int)(b1:List Int)(r:Bool)(h:J0z b0 b1=some r):PC Tryz.prog 165 [.slice (b0.map int),.slice (b1.map int)] (bool r):=by
 unfold J0z at h
 refine PC.start Tryz.func165 Tryz.ntmps165 rfl (by kernel_rfl) rfl ?_
 refine Run.sr (X.an ?_)
 refine Run.seq (Run.sr (X.mv ?_))
 refine X.ls elt25 ?_
 refine X.mn ?_
 obtain ⟨o1,ho1,h⟩:=bindE h
 refine R.join2 (β:=Unit) [] [] (fun p14 S=>S) (fun p14 M=>M) (fun p14=>(Sum.inl p14)=o1) ?_ ?_
 ·intro JJ4 hmeet3
  have hup2:=h;clear h;have h:=ho1;clear ho1
  refine Run.block ?_
  refine R.bndS (t:=0) (by rfl) (fun hbd7=>?_)
  replace hbd7:b0.length≤9223372036854775807:=by first | (rw [List.length_map] at hbd7;exact hbd7) | simp
  refine R.lp (β:=Int) [(1,.slice (b1.map int)),(7,.slice (b0.map int)),(8,int (b0.length:Int))] [] (fun bb S=>(9,int bb)::S) (fun bb M=>M) (fun n bb=>0≤bb∧bb+n=(b0.length:Int)∧F0h b1 (b0.drop bb.toNat) bb=some o1) b0.length (0:Int) ⟨Int.le_refl _,by simp,h⟩ ?_
  clear h
  rintro JJ7 n7 z8 hag7 ⟨hza7,hzb7,h⟩
  refine Run.sr (X.bi ?_)
  refine X.nil (Run.seq ?_)
  refine R.cd (fun hc11=>?_) (fun hc11=>?_)
  ·obtain ⟨x9,xs10,hd7,hx7,hds7,hlt7⟩:=A0k hza7 hc11
   rw [hd7] at h
   rw [F0h] at h
   refine Run.skip (Run.seq (Run.block (Run.sr (X.ix elt25 (A0a hx7).1 (A0c int hx7) ?_))))
   refine X.lc shp3 ?_
   refine X.an ?_
   refine Run.sr (X.mv ?_)
   refine X.mv ?_
   obtain ⟨v12,hv12,h⟩:=bindE h
   refine X.cp (X0h _ _ _ hv12) ?_
   refine X.un (h:=?_)
   refine X.nil ?_
   refine R.cd (fun hc13=>?_) (fun hc13=>?_)
   ·replace h:=condT hc13 h
    refine Run.sr (X.an ?_)
    cases h
    have h:=hup2
    replace h:=elimR h
    cases h
    refine R.f1 Tryz.results165 ?_
    rfl
   replace h:=condF hc13 h
   refine Run.skip (Run.blk (Run.reg (X.ad ?_)))
   refine X.mn ?_
   exact R.ag hag7 (n7 - 1) (z8+1) (R.n3 (by first | (rw [hds7];exact h) | (dsimp only;rw [hds7];exact h)))
  rw [A0h hza7 hc11] at h
  rw [F0h] at h
  refine Run.exit (by rfl) ?_
  exact R.mt hmeet3 () (Option.some.inj h)
 rintro p14 rfl
 replace h:=elimL h
 refine Run.sr (X.an ?_)
 cases h
 refine R.f1 Tryz.results165 ?_
 rfl
theorem E1j (b0:A0b)(b1:A0r)(r:Bool)(h:J0r b0 b1=some r):PC Tryz.prog 148 [A0n b0,H0m b1] (bool r):=by
 unfold J0r at h
 refine PC.start Tryz.func148 Tryz.ntmps148 rfl (by kernel_rfl) rfl ?_
 refine Run.sr (X.bx ?_)
 refine X.bx ?_
 refine X.an ?_
 refine Run.seq (Run.seq ?_)
 obtain ⟨v1,hv1,h⟩:=bindE h
 obtain ⟨e2,he2,h2⟩:=bindE h
 refine R.regG [(2,.lptr 128 0),(3,.lptr 192 0),(36,bool e2)] [(128,.blk true [int b0.Deadline,.slice (b0.Activities.map A0d),.slice (b0.Links.map A0l),.slice (b0.Resources.map A0e),.slice (b0.Stocks.map int)]),(192,.blk true [.slice (b1.MinStart.map int),.slice (b1.MaxStart.map int),.slice (b1.Modes.map l_int)])] ?_ ?_
 ·clear h;have h:=he2;clear he2 h2
  refine X.ld shp34 ?_
  refine X.cp (G0p _ _ hv1) ?_
  refine X.un (h:=?_)
  refine X.mv ?_
  refine X.iG (fun hb3=>?_) (fun hb3=>?_)
  ·replace h:=condF hb3 h
   refine X.fl L0p ?_
   refine X.gy (X.ld shp25 ?_)
   refine X.gy (X.ls elt25 ?_)
   refine X.gy (X.fl B0l ?_)
   refine X.gy (X.ld shp30 ?_)
   refine X.gy (X.ls elt30 ?_)
   refine X.gy (X.bi ?_)
   refine X.pF ?_
   refine X.mv ?_
   refine X.iG (fun hb4=>?_) (fun hb4=>?_)
   ·replace h:=condF hb4 h
    refine X.fl P0y ?_
    refine X.gy (X.ld shp25 ?_)
    refine X.gy (X.ls elt25 ?_)
    refine X.gy (X.fl B0l ?_)
    refine X.gy (X.ld shp30 ?_)
    refine X.gy (X.ls elt30 ?_)
    refine X.gy (X.bi ?_)
    refine X.pF ?_
    refine X.mv ?_
    refine X.iG (fun hb5=>?_) (fun hb5=>?_)
    ·replace h:=condF hb5 h
     refine X.fl M0o ?_
     refine X.gy (X.ld shp61 ?_)
     refine X.gy (X.ls elt61 ?_)
     refine X.gy (X.fl B0l ?_)
     refine X.gy (X.ld shp30 ?_)
     refine X.gy (X.ls elt30 ?_)
     refine X.gy (X.bi ?_)
     refine X.pF ?_
     cases h
     exact X.eG
    replace h:=condT hb5 h
    refine X.gn (X.gn (X.gn (X.gn (X.gn (X.gn (X.pT ?_))))))
    cases h
    exact X.eG
   replace h:=condT hb4 h
   refine X.gn (X.gn (X.gn (X.gn (X.gn (X.gn (X.pT ?_))))))
   refine X.mv ?_
   refine X.gn (X.gn (X.gn (X.gn (X.gn (X.gn (X.gn (X.pT ?_)))))))
   cases h
   exact X.eG
  replace h:=condT hb3 h
  refine X.gn (X.gn (X.gn (X.gn (X.gn (X.gn (X.pT ?_))))))
  refine X.mv ?_
  refine X.gn (X.gn (X.gn (X.gn (X.gn (X.gn (X.gn (X.pT ?_)))))))
  refine X.mv ?_
  refine X.gn (X.gn (X.gn (X.gn (X.gn (X.gn (X.gn (X.pT ?_)))))))
  cases h
  exact X.eG
 replace h:=h2;clear h2
 refine R.cd (fun hc6=>?_) (fun hc6=>?_)
 ·replace h:=condT hc6 h
  refine Run.sr (X.an ?_)
  cases h
  refine R.f1 Tryz.results148 ?_
  rfl
 replace h:=condF hc6 h
 refine Run.skip (Run.seq (Run.sr (X.fl B0l ?_)))
 refine X.ld shp30 ?_
 refine X.ls elt30 ?_
 refine X.mn ?_
 obtain ⟨o7,ho7,h⟩:=bindE h
 refine R.join2 (β:=Unit) [] [] (fun p31 S=>S) (fun p31 M=>M) (fun p31=>(Sum.inl p31)=o7) ?_ ?_
 ·intro JJ10 hmeet9
  have hup8:=h;clear h;have h:=ho7;clear ho7
  refine Run.block ?_
  refine R.bndS (t:=38) (by rfl) (fun hbd13=>?_)
  replace hbd13:b0.Activities.length≤9223372036854775807:=by first | (rw [List.length_map] at hbd13;exact hbd13) | simp
  refine R.lp (β:=Int) [(3,.lptr 192 0),(38,.slice (b0.Activities.map A0d)),(39,int (b0.Activities.length:Int))] [(192,.blk true [.slice (b1.MinStart.map int),.slice (b1.MaxStart.map int),.slice (b1.Modes.map l_int)])] (fun bb S=>(40,int bb)::S) (fun bb M=>M) (fun n bb=>0≤bb∧bb+n=(b0.Activities.length:Int)∧C0t b1 (b0.Activities.drop bb.toNat) bb=some o7) b0.Activities.length (0:Int) ⟨Int.le_refl _,by simp,h⟩ ?_
  clear h
  rintro JJ13 n13 z14 hag13 ⟨hza13,hzb13,h⟩
  refine Run.sr (X.bi ?_)
  refine X.nil (Run.seq ?_)
  refine R.cd (fun hc17=>?_) (fun hc17=>?_)
  ·obtain ⟨x15,xs16,hd13,hx13,hds13,hlt13⟩:=A0k hza13 hc17
   rw [hd13] at h
   rw [C0t] at h
   refine Run.skip (Run.seq (Run.block (Run.sr (X.mv ?_))))
   refine X.ix elt30 (A0a hx13).1 (A0c A0d hx13) ?_
   refine X.lc shp67 ?_
   refine X.alloc zer67 (h:=?_)
   refine X.as ?_
   refine X.sl shp67 ?_
   refine X.nil (Run.seq ?_)
   obtain ⟨v18,hv18,h⟩:=bindE h
   obtain ⟨v19,hv19,h⟩:=bindE h
   obtain ⟨e20,he20,h2⟩:=bindE h
   refine R.drawG [(3,.lptr 192 0),(38,.slice (b0.Activities.map A0d)),(39,int (b0.Activities.length:Int)),(40,int z14),(80,bool e20)] [(192,.blk true [.slice (b1.MinStart.map int),.slice (b1.MaxStart.map int),.slice (b1.Modes.map l_int)])] (B0m [(1,([192],[],[],[])),(9,([192],[],[],[])),(18,([192],[],[],[])),(27,([192],[],[],[])),(31,([384],[],[],[])),(32,([],[4928],[],[])),(33,([4928],[],[],[]))]) mixed (by kernel_rfl) (by kernel_rfl) ?_ ?_
   ·clear h;have h:=he20;clear he20 h2
    refine X.fl L0p ?_
    refine X.ld shp25 ?_
    refine X.mv ?_
    refine X.ix elt25 (A0a hv18).1 (A0c int hv18) ?_
    refine X.lc shp3 ?_
    refine X.cp (B0u _ _ _ _ hv19) ?_
    refine X.un (h:=?_)
    refine X.mv ?_
    refine X.iG (fun hb21=>?_) (fun hb21=>?_)
    ·replace h:=condF hb21 h
     refine X.fl P0y ?_
     refine X.gy (X.ld shp25 ?_)
     refine X.gy (X.mv ?_)
     refine X.gy ?_
     obtain ⟨v22,hv22,h⟩:=bindE h
     refine X.ix elt25 (A0a hv22).1 (A0c int hv22) ?_
     refine X.gy (X.lc shp3 ?_)
     refine X.gy ?_
     obtain ⟨v23,hv23,h⟩:=bindE h
     refine X.cp (B0u _ _ _ _ hv23) ?_
     refine X.gy (X.un (h:=?_))
     refine X.pF ?_
     refine X.mv ?_
     refine X.iG (fun hb24=>?_) (fun hb24=>?_)
     ·replace h:=condF hb24 h
      refine X.fl M0o ?_
      refine X.gy (X.ld shp61 ?_)
      refine X.gy (X.mv ?_)
      refine X.gy ?_
      obtain ⟨v25,hv25,h⟩:=bindE h
      refine X.ix elt61 (A0a hv25).1 (A0c l_int hv25) ?_
      refine X.gy (X.lc shp25 ?_)
      refine X.gy ?_
      obtain ⟨v26,hv26,h⟩:=bindE h
      refine X.cp (N1w _ _ hv26) ?_
      refine X.gy (X.un (h:=?_))
      refine X.pF ?_
      refine X.mv ?_
      refine X.iG (fun hb27=>?_) (fun hb27=>?_)
      ·replace h:=condF hb27 h
       refine X.fl M0o ?_
       refine X.gy (X.ld shp61 ?_)
       refine X.gy (X.mv ?_)
       refine X.gy (X.ix elt61 (A0a hv25).1 (A0c l_int hv25) ?_)
       refine X.gy (X.lc shp25 ?_)
       refine X.gy (X.ld shp67 ?_)
       refine X.gy ?_
       obtain ⟨v28,hv28,h⟩:=bindE h
       refine X.callF (K0e _ _ hv28) (by rfl) (by rfl) (by rfl) (by trivial) (by rfl) (by rfl) (by rfl) (by rfl) ?_
       refine X.gy ?_
       obtain ⟨v29,hv29,h⟩:=bindE h
       refine X.cp (E1x _ _ _ hv29) ?_
       refine X.gy (X.un (h:=?_))
       refine X.pF ?_
       cases h
       exact X.eG
      replace h:=condT hb27 h
      refine X.gn (X.gn (X.gn (X.gn (X.gn (X.gn (X.gn (X.gn ?_)))))))
      refine X.pT ?_
      cases h
      exact X.eG
     replace h:=condT hb24 h
     refine X.gn (X.gn (X.gn (X.gn (X.gn (X.gn (X.pT ?_))))))
     refine X.mv ?_
     refine X.gn (X.gn (X.gn (X.gn (X.gn (X.gn (X.gn (X.gn ?_)))))))
     refine X.gn (X.pT ?_)
     cases h
     exact X.eG
    replace h:=condT hb21 h
    refine X.gn (X.gn (X.gn (X.gn (X.gn (X.gn (X.pT ?_))))))
    refine X.mv ?_
    refine X.gn (X.gn (X.gn (X.gn (X.gn (X.gn (X.gn (X.pT ?_)))))))
    refine X.mv ?_
    refine X.gn (X.gn (X.gn (X.gn (X.gn (X.gn (X.gn (X.gn ?_)))))))
    refine X.gn (X.pT ?_)
    cases h
    exact X.eG
   replace h:=h2;clear h2
   refine R.cd (fun hc30=>?_) (fun hc30=>?_)
   ·replace h:=condT hc30 h
    refine Run.sr (X.an ?_)
    cases h
    have h:=hup8
    replace h:=elimR h
    cases h
    refine R.f1 Tryz.results148 ?_
    rfl
   replace h:=condF hc30 h
   refine Run.skip (Run.blk (Run.reg (X.ad ?_)))
   refine X.mn ?_
   exact R.ag hag13 (n13 - 1) (z14+1) (R.n3 (by first | (rw [hds13];exact h) | (dsimp only;rw [hds13];exact h)))
  rw [A0h hza13 hc17] at h
  rw [C0t] at h
  refine Run.exit (by rfl) ?_
  exact R.mt hmeet9 () (Option.some.inj h)
 rintro p31 rfl
 replace h:=elimL h
 refine Run.sr (X.an ?_)
 cases h
 refine R.f1 Tryz.results148 ?_
 rfl
theorem B1j (b0:A0r)(r:Bool)(h:G0j b0=some r):PC Tryz.prog 149 [H0m b0] (bool r):=by
 unfold G0j at h
 refine PC.start Tryz.func149 Tryz.ntmps149 rfl (by kernel_rfl) rfl ?_
 refine Run.sr (X.bx ?_)
 refine X.an ?_
 refine Run.seq (Run.sr (X.fl L0p ?_))
 refine X.ld shp25 ?_
 refine X.ls elt25 ?_
 refine X.mn ?_
 obtain ⟨o1,ho1,h⟩:=bindE h
 refine R.join2 (β:=Unit) [(1,.lptr 64 0)] [(64,.blk true [.slice (b0.MinStart.map int),.slice (b0.MaxStart.map int),.slice (b0.Modes.map l_int)])] (fun p16 S=>S) (fun p16 M=>M) (fun p16=>(Sum.inl p16)=o1) ?_ ?_
 ·intro JJ4 hmeet3
  have hup2:=h;clear h;have h:=ho1;clear ho1
  refine Run.block ?_
  refine R.bndS (t:=8) (by rfl) (fun hbd7=>?_)
  replace hbd7:b0.MinStart.length≤9223372036854775807:=by first | (rw [List.length_map] at hbd7;exact hbd7) | simp
  refine R.lp (β:=Int) [(1,.lptr 64 0),(8,.slice (b0.MinStart.map int)),(9,int (b0.MinStart.length:Int))] [(64,.blk true [.slice (b0.MinStart.map int),.slice (b0.MaxStart.map int),.slice (b0.Modes.map l_int)])] (fun bb S=>(10,int bb)::S) (fun bb M=>M) (fun n bb=>0≤bb∧bb+n=(b0.MinStart.length:Int)∧E0p b0 (b0.MinStart.drop bb.toNat) bb=some o1) b0.MinStart.length (0:Int) ⟨Int.le_refl _,by simp,h⟩ ?_
  clear h
  rintro JJ7 n7 z8 hag7 ⟨hza7,hzb7,h⟩
  refine Run.sr (X.bi ?_)
  refine X.nil (Run.seq ?_)
  refine R.cd (fun hc11=>?_) (fun hc11=>?_)
  ·obtain ⟨x9,xs10,hd7,hx7,hds7,hlt7⟩:=A0k hza7 hc11
   rw [hd7] at h
   rw [E0p] at h
   refine Run.skip (Run.seq (Run.block (Run.sr (X.mv ?_))))
   refine X.ix elt25 (A0a hx7).1 (A0c int hx7) ?_
   refine X.lc shp3 ?_
   refine X.as ?_
   refine X.an ?_
   refine Run.seq ?_
   obtain ⟨e12,he12,h2⟩:=bindE h
   refine R.regG [(1,.lptr 64 0),(8,.slice (b0.MinStart.map int)),(9,int (b0.MinStart.length:Int)),(10,int z8),(28,bool e12)] [(64,.blk true [.slice (b0.MinStart.map int),.slice (b0.MaxStart.map int),.slice (b0.Modes.map l_int)])] ?_ ?_
   ·clear h;have h:=he12;clear he12 h2
    refine X.mv ?_
    refine X.fl P0y ?_
    refine X.ld shp25 ?_
    refine X.ls elt25 ?_
    refine X.bi ?_
    refine X.mv ?_
    refine X.iG (fun hb13=>?_) (fun hb13=>?_)
    ·replace h:=condT hb13 h
     refine X.mv ?_
     refine X.gy (X.fl P0y ?_)
     refine X.gy (X.ld shp25 ?_)
     refine X.gy (X.mv ?_)
     refine X.gy ?_
     obtain ⟨v14,hv14,h⟩:=bindE h
     refine X.ix elt25 (A0a hv14).1 (A0c int hv14) ?_
     refine X.gy (X.lc shp3 ?_)
     refine X.gy (X.bi ?_)
     refine X.pT ?_
     cases h
     exact X.eG
    replace h:=condF hb13 h
    refine X.gn (X.gn (X.gn (X.gn (X.gn (X.gn (X.pF ?_))))))
    cases h
    exact X.eG
   replace h:=h2;clear h2
   refine R.cd (fun hc15=>?_) (fun hc15=>?_)
   ·replace h:=condT hc15 h
    refine Run.sr (X.an ?_)
    cases h
    have h:=hup2
    replace h:=elimR h
    cases h
    refine R.f1 Tryz.results149 ?_
    rfl
   replace h:=condF hc15 h
   refine Run.skip (Run.blk (Run.reg (X.ad ?_)))
   refine X.mn ?_
   exact R.ag hag7 (n7 - 1) (z8+1) (R.n3 (by first | (rw [hds7];exact h) | (dsimp only;rw [hds7];exact h)))
  rw [A0h hza7 hc11] at h
  rw [E0p] at h
  refine Run.exit (by rfl) ?_
  exact R.mt hmeet3 () (Option.some.inj h)
 rintro p16 rfl
 replace h:=elimL h
 refine Run.seq (Run.sr (X.fl M0o ?_))
 refine X.ld shp61 ?_
 refine X.ls elt61 ?_
 refine X.mn ?_
 obtain ⟨o18,ho18,h⟩:=bindE h
 refine R.join2 (β:=Unit) [] [] (fun p30 S=>S) (fun p30 M=>M) (fun p30=>(Sum.inl p30)=o18) ?_ ?_
 ·intro JJ21 hmeet20
  have hup19:=h;clear h;have h:=ho18;clear ho18
  refine Run.block ?_
  refine R.bndS (t:=31) (by rfl) (fun hbd24=>?_)
  replace hbd24:b0.Modes.length≤9223372036854775807:=by first | (rw [List.length_map] at hbd24;exact hbd24) | simp
  refine R.lp (β:=Int) [(31,.slice (b0.Modes.map l_int)),(32,int (b0.Modes.length:Int))] [] (fun bb S=>(33,int bb)::S) (fun bb M=>M) (fun n bb=>0≤bb∧bb+n=(b0.Modes.length:Int)∧E0n (b0.Modes.drop bb.toNat) bb=some o18) b0.Modes.length (0:Int) ⟨Int.le_refl _,by simp,h⟩ ?_
  clear h
  rintro JJ24 n24 z25 hag24 ⟨hza24,hzb24,h⟩
  refine Run.sr (X.bi ?_)
  refine X.nil (Run.seq ?_)
  refine R.cd (fun hc28=>?_) (fun hc28=>?_)
  ·obtain ⟨x26,xs27,hd24,hx24,hds24,hlt24⟩:=A0k hza24 hc28
   rw [hd24] at h
   rw [E0n] at h
   refine Run.skip (Run.seq (Run.block (Run.sr (X.ix elt61 (A0a hx24).1 (A0c l_int hx24) ?_))))
   refine X.lc shp25 ?_
   refine X.an ?_
   refine Run.sr (X.mv ?_)
   refine X.ls elt25 ?_
   refine X.bi ?_
   refine X.nil ?_
   refine R.cd (fun hc29=>?_) (fun hc29=>?_)
   ·replace h:=condT hc29 h
    refine Run.sr (X.an ?_)
    cases h
    have h:=hup19
    replace h:=elimR h
    cases h
    refine R.f1 Tryz.results149 ?_
    rfl
   replace h:=condF hc29 h
   refine Run.skip (Run.blk (Run.reg (X.ad ?_)))
   refine X.mn ?_
   exact R.ag hag24 (n24 - 1) (z25+1) (R.n3 (by first | (rw [hds24];exact h) | (dsimp only;rw [hds24];exact h)))
  rw [A0h hza24 hc28] at h
  rw [E0n] at h
  refine Run.exit (by rfl) ?_
  exact R.mt hmeet20 () (Option.some.inj h)
 rintro p30 rfl
 replace h:=elimL h
 refine Run.sr (X.an ?_)
 cases h
 refine R.f1 Tryz.results149 ?_
 rfl
theorem N1v (b0:A0b)(b1:A0r)(r:Bool)(h:N0d b0 b1=some r):PC Tryz.prog 122 [A0n b0,H0m b1] (bool r):=by
 unfold N0d at h
 refine PC.start Tryz.func122 Tryz.ntmps122 rfl (by kernel_rfl) rfl ?_
 refine Run.sr (X.bx ?_)
 refine X.bx ?_
 refine X.an ?_
 refine Run.seq ?_
 obtain ⟨v1,hv1,h⟩:=bindE h
 obtain ⟨e2,he2,h2⟩:=bindE h
 refine R.regG [(4,bool e2)] [] ?_ ?_
 ·clear h;have h:=he2;clear he2 h2
  refine X.ld shp34 ?_
  refine X.ld shp85 ?_
  refine X.cp (E1j _ _ _ hv1) ?_
  refine X.mv ?_
  refine X.iG (fun hb3=>?_) (fun hb3=>?_)
  ·replace h:=condT hb3 h
   refine X.ld shp85 ?_
   refine X.gy ?_
   obtain ⟨v4,hv4,h⟩:=bindE h
   refine X.cp (B1j _ _ hv4) ?_
   refine X.gy (X.un (h:=?_))
   refine X.pT ?_
   refine X.as ?_
   cases h
   exact X.eG
  replace h:=condF hb3 h
  refine X.gn (X.gn (X.pF ?_))
  refine X.as ?_
  cases h
  exact X.eG
 replace h:=h2;clear h2
 cases h
 refine R.f1 Tryz.results122 ?_
 rfl
end Go.Px.YthmahbejodhanaaGreatDoor
