/-
  PROVED: contracts of functions of the program over pure values. No condition beyond those that each theorem names.
-/
import Derived.Test.YtoajaeffpalmlaaGreatDoorProg
import Derived.Test.YtoajaeffpalmlaaGreatDoorD2
import Derived.Test.YtoajaeffpalmlaaGreatDoorS
namespace Go.Px.YtoajaeffpalmlaaGreatDoor
set_option linter.unusedSimpArgs false
set_option linter.unusedVariables false
open Go.Px Go.Proofs
theorem shp27:shp Tryz.prog 27=some (true,5):=by kernel_rfl
theorem fld27_1:fldOff Tryz.prog 27 1=some 1:=by kernel_rfl
theorem shp22:shp Tryz.prog 22=some (false,1):=by kernel_rfl
theorem elt22:eltOf Tryz.prog 22=some (73,3,48):=by kernel_rfl
theorem shp73:shp Tryz.prog 73=some (true,3):=by kernel_rfl
theorem fld73_0:fldOff Tryz.prog 73 0=some 0:=by kernel_rfl
theorem shp9:shp Tryz.prog 9=some (false,1):=by kernel_rfl
theorem fld73_2:fldOff Tryz.prog 73 2=some 2:=by kernel_rfl
theorem shp71:shp Tryz.prog 71=some (false,1):=by kernel_rfl
theorem elt71:eltOf Tryz.prog 71=some (143,3,56):=by kernel_rfl
theorem shp143:shp Tryz.prog 143=some (true,3):=by kernel_rfl
theorem fld143_1:fldOff Tryz.prog 143 1=some 1:=by kernel_rfl
theorem shp25:shp Tryz.prog 25=some (false,1):=by kernel_rfl
theorem elt25:eltOf Tryz.prog 25=some (3,1,8):=by kernel_rfl
theorem fld143_2:fldOff Tryz.prog 143 2=some 2:=by kernel_rfl
theorem fld27_2:fldOff Tryz.prog 27 2=some 2:=by kernel_rfl
theorem shp23:shp Tryz.prog 23=some (false,1):=by kernel_rfl
theorem elt23:eltOf Tryz.prog 23=some (94,4,32):=by kernel_rfl
theorem fld27_3:fldOff Tryz.prog 27 3=some 3:=by kernel_rfl
theorem shp24:shp Tryz.prog 24=some (false,1):=by kernel_rfl
theorem elt24:eltOf Tryz.prog 24=some (78,2,48):=by kernel_rfl
theorem shp78:shp Tryz.prog 78=some (true,2):=by kernel_rfl
theorem fld78_0:fldOff Tryz.prog 78 0=some 0:=by kernel_rfl
theorem shp75:shp Tryz.prog 75=some (false,1):=by kernel_rfl
theorem elt75:eltOf Tryz.prog 75=some (151,2,16):=by kernel_rfl
theorem fld78_1:fldOff Tryz.prog 78 1=some 1:=by kernel_rfl
theorem shp76:shp Tryz.prog 76=some (false,1):=by kernel_rfl
theorem elt76:eltOf Tryz.prog 76=some (25,1,24):=by kernel_rfl
theorem fld27_4:fldOff Tryz.prog 27 4=some 4:=by kernel_rfl
theorem zer36:zeroPV Tryz.prog 36=some [.lit (.int .i64 0),.nils,.nils,.nils,.nils]:=by kernel_rfl
theorem fld27_0:fldOff Tryz.prog 27 0=some 0:=by kernel_rfl
theorem shp3:shp Tryz.prog 3=some (false,1):=by kernel_rfl
theorem fld36_0:fldOff Tryz.prog 36 0=some 0:=by kernel_rfl
theorem elt32:eltOf Tryz.prog 32=some (89,3,48):=by kernel_rfl
theorem zer89:zeroPV Tryz.prog 89=some [.lit (.string ByteArray.empty),.lit (.int .i64 0),.nils]:=by kernel_rfl
theorem fld89_0:fldOff Tryz.prog 89 0=some 0:=by kernel_rfl
theorem fld73_1:fldOff Tryz.prog 73 1=some 1:=by kernel_rfl
theorem fld89_1:fldOff Tryz.prog 89 1=some 1:=by kernel_rfl
theorem elt87:eltOf Tryz.prog 87=some (139,3,56):=by kernel_rfl
theorem zer139:zeroPV Tryz.prog 139=some [.lit (.int .i64 0),.nils,.nils]:=by kernel_rfl
theorem fld143_0:fldOff Tryz.prog 143 0=some 0:=by kernel_rfl
theorem fld139_0:fldOff Tryz.prog 139 0=some 0:=by kernel_rfl
theorem zer3:zeroPV Tryz.prog 3=some [.lit (.int .i64 0)]:=by kernel_rfl
theorem fld139_1:fldOff Tryz.prog 139 1=some 1:=by kernel_rfl
theorem fld139_2:fldOff Tryz.prog 139 2=some 2:=by kernel_rfl
theorem shp139:shp Tryz.prog 139=some (true,3):=by kernel_rfl
theorem fld89_2:fldOff Tryz.prog 89 2=some 2:=by kernel_rfl
theorem shp87:shp Tryz.prog 87=some (false,1):=by kernel_rfl
theorem shp89:shp Tryz.prog 89=some (true,3):=by kernel_rfl
theorem fld36_1:fldOff Tryz.prog 36 1=some 1:=by kernel_rfl
theorem shp32:shp Tryz.prog 32=some (false,1):=by kernel_rfl
theorem elt33:eltOf Tryz.prog 33=some (92,4,32):=by kernel_rfl
theorem zer92:zeroPV Tryz.prog 92=some [.lit (.int .i64 0),.lit (.int .i64 0),.lit (.bool false),.lit (.int .i64 0)]:=by kernel_rfl
theorem shp94:shp Tryz.prog 94=some (true,4):=by kernel_rfl
theorem fld94_0:fldOff Tryz.prog 94 0=some 0:=by kernel_rfl
theorem fld92_0:fldOff Tryz.prog 92 0=some 0:=by kernel_rfl
theorem fld94_1:fldOff Tryz.prog 94 1=some 1:=by kernel_rfl
theorem fld92_1:fldOff Tryz.prog 92 1=some 1:=by kernel_rfl
theorem fld94_2:fldOff Tryz.prog 94 2=some 2:=by kernel_rfl
theorem shp4:shp Tryz.prog 4=some (false,1):=by kernel_rfl
theorem fld92_2:fldOff Tryz.prog 92 2=some 2:=by kernel_rfl
theorem fld94_3:fldOff Tryz.prog 94 3=some 3:=by kernel_rfl
theorem fld92_3:fldOff Tryz.prog 92 3=some 3:=by kernel_rfl
theorem shp92:shp Tryz.prog 92=some (true,4):=by kernel_rfl
theorem fld36_2:fldOff Tryz.prog 36 2=some 2:=by kernel_rfl
theorem shp33:shp Tryz.prog 33=some (false,1):=by kernel_rfl
theorem elt34:eltOf Tryz.prog 34=some (97,2,48):=by kernel_rfl
theorem zer97:zeroPV Tryz.prog 97=some [.nils,.nils]:=by kernel_rfl
theorem elt95:eltOf Tryz.prog 95=some (141,2,16):=by kernel_rfl
theorem zer141:zeroPV Tryz.prog 141=some [.lit (.int .i64 0),.lit (.int .i64 0)]:=by kernel_rfl
theorem shp151:shp Tryz.prog 151=some (true,2):=by kernel_rfl
theorem fld151_0:fldOff Tryz.prog 151 0=some 0:=by kernel_rfl
theorem fld141_0:fldOff Tryz.prog 141 0=some 0:=by kernel_rfl
theorem fld151_1:fldOff Tryz.prog 151 1=some 1:=by kernel_rfl
theorem fld141_1:fldOff Tryz.prog 141 1=some 1:=by kernel_rfl
theorem shp141:shp Tryz.prog 141=some (true,2):=by kernel_rfl
theorem fld97_0:fldOff Tryz.prog 97 0=some 0:=by kernel_rfl
theorem shp95:shp Tryz.prog 95=some (false,1):=by kernel_rfl
theorem zer25:zeroPV Tryz.prog 25=some [.nils]:=by kernel_rfl
theorem fld97_1:fldOff Tryz.prog 97 1=some 1:=by kernel_rfl
theorem shp97:shp Tryz.prog 97=some (true,2):=by kernel_rfl
theorem fld36_3:fldOff Tryz.prog 36 3=some 3:=by kernel_rfl
theorem shp34:shp Tryz.prog 34=some (false,1):=by kernel_rfl
theorem fld36_4:fldOff Tryz.prog 36 4=some 4:=by kernel_rfl
theorem shp36:shp Tryz.prog 36=some (true,5):=by kernel_rfl
theorem elt29:eltOf Tryz.prog 29=some (53,6,64):=by kernel_rfl
theorem zer53:zeroPV Tryz.prog 53=some [.lit (.int .i64 0),.lit (.int .i64 0),.lit (.int .i64 0),.lit (.int .i64 0),.lit (.int .i64 0),.nils]:=by kernel_rfl
theorem elt47:eltOf Tryz.prog 47=some (9,1,16):=by kernel_rfl
theorem zer9:zeroPV Tryz.prog 9=some [.lit (.string ByteArray.empty)]:=by kernel_rfl
theorem mixed:Tryz.prog.follows .mixedOrders=true:=by kernel_rfl
theorem pl53:fldPlaces Tryz.prog 53=some [(0,1),(1,4),(5,1)]:=by kernel_rfl
theorem shp53:shp Tryz.prog 53=some (true,6):=by kernel_rfl
theorem fld53_0:fldOff Tryz.prog 53 0=some 0:=by kernel_rfl
theorem elt121:eltOf Tryz.prog 121=some (5,1,1):=by kernel_rfl
theorem shp5:shp Tryz.prog 5=some (false,1):=by kernel_rfl
theorem zer50:zeroPV Tryz.prog 50=some [.lit (.int .i64 0),.lit (.int .i64 0),.lit (.int .i64 0),.lit (.int .i64 0)]:=by kernel_rfl
theorem pl50:fldPlaces Tryz.prog 50=some [(0,1),(1,1),(2,1),(3,1)]:=by kernel_rfl
theorem shp50:shp Tryz.prog 50=some (true,4):=by kernel_rfl
theorem fld50_0:fldOff Tryz.prog 50 0=some 0:=by kernel_rfl
theorem zer5:zeroPV Tryz.prog 5=some [.lit (.int .u8 0)]:=by kernel_rfl
theorem fld50_1:fldOff Tryz.prog 50 1=some 1:=by kernel_rfl
theorem fld50_2:fldOff Tryz.prog 50 2=some 2:=by kernel_rfl
theorem fld50_3:fldOff Tryz.prog 50 3=some 3:=by kernel_rfl
theorem fld53_1:fldOff Tryz.prog 53 1=some 1:=by kernel_rfl
theorem elt51:eltOf Tryz.prog 51=some (114,3,24):=by kernel_rfl
theorem zer114:zeroPV Tryz.prog 114=some [.lit (.int .i64 0),.lit (.int .i64 0),.lit (.int .i64 0)]:=by kernel_rfl
theorem pl114:fldPlaces Tryz.prog 114=some [(0,1),(1,1),(2,1)]:=by kernel_rfl
theorem shp114:shp Tryz.prog 114=some (true,3):=by kernel_rfl
theorem fld114_1:fldOff Tryz.prog 114 1=some 1:=by kernel_rfl
theorem fld114_0:fldOff Tryz.prog 114 0=some 0:=by kernel_rfl
theorem fld114_2:fldOff Tryz.prog 114 2=some 2:=by kernel_rfl
theorem fld53_2:fldOff Tryz.prog 53 2=some 5:=by kernel_rfl
theorem shp51:shp Tryz.prog 51=some (false,1):=by kernel_rfl
theorem flat50:flatOf Tryz.prog 50=some [0,0,0,0]:=by kernel_rfl
theorem ok175:okFn Tryz.prog 175=true:=by kernel_rfl
theorem ok174:okFn Tryz.prog 174=true:=by kernel_rfl
theorem ok157:okFn Tryz.prog 157=true:=by kernel_rfl
theorem ok158:okFn Tryz.prog 158=true:=by kernel_rfl
theorem ok124:okFn Tryz.prog 124=true:=by kernel_rfl
theorem ok131:okFn Tryz.prog 131=true:=by kernel_rfl
theorem ok159:okFn Tryz.prog 159=true:=by kernel_rfl
theorem ok125:okFn Tryz.prog 125=true:=by kernel_rfl
theorem ok129:okFn Tryz.prog 129=true:=by kernel_rfl
theorem ok128:okFn Tryz.prog 128=true:=by kernel_rfl
theorem ok127:okFn Tryz.prog 127=true:=by kernel_rfl
theorem ok160:okFn Tryz.prog 160=true:=by kernel_rfl
theorem ok126:okFn Tryz.prog 126=true:=by kernel_rfl
theorem ok89:okFn Tryz.prog 89=true:=by kernel_rfl
theorem ok147:okFn Tryz.prog 147=true:=by kernel_rfl
theorem ok109:okFn Tryz.prog 109=true:=by kernel_rfl
theorem ok81:okFn Tryz.prog 81=true:=by kernel_rfl
theorem ok176:okFn Tryz.prog 176=true:=by kernel_rfl
theorem ok165:okFn Tryz.prog 165=true:=by kernel_rfl
theorem ok164:okFn Tryz.prog 164=true:=by kernel_rfl
theorem ok148:okFn Tryz.prog 148=true:=by kernel_rfl
theorem ok110:okFn Tryz.prog 110=true:=by kernel_rfl
theorem ok111:okFn Tryz.prog 111=true:=by kernel_rfl
theorem ok82:okFn Tryz.prog 82=true:=by kernel_rfl
theorem ok51:okFn Tryz.prog 51=true:=by kernel_rfl
theorem ok52:okFn Tryz.prog 52=true:=by kernel_rfl
theorem ok54:okFn Tryz.prog 54=true:=by kernel_rfl
theorem zer131:zeroPV Tryz.prog 131=some [.lit (.int .i64 0),.lit (.int .i64 0),.lit (.int .i64 0)]:=by kernel_rfl
theorem arr131:arrOf Tryz.prog 131=some (3,1):=by kernel_rfl
theorem shp131:shp Tryz.prog 131=some (true,3):=by kernel_rfl
theorem zer154:zeroPV Tryz.prog 154=some [.lit (.string ByteArray.empty),.lit (.string ByteArray.empty),.lit (.string ByteArray.empty),.lit (.string ByteArray.empty),.lit (.string ByteArray.empty),.lit (.string ByteArray.empty),.lit (.string ByteArray.empty)]:=by kernel_rfl
theorem arr154:arrOf Tryz.prog 154=some (7,1):=by kernel_rfl
theorem shp154:shp Tryz.prog 154=some (true,7):=by kernel_rfl
theorem ok84:okFn Tryz.prog 84=true:=by kernel_rfl
theorem ok130:okFn Tryz.prog 130=true:=by kernel_rfl
theorem ok132:okFn Tryz.prog 132=true:=by kernel_rfl
theorem ok133:okFn Tryz.prog 133=true:=by kernel_rfl
theorem ok91:okFn Tryz.prog 91=true:=by kernel_rfl
theorem ok87:okFn Tryz.prog 87=true:=by kernel_rfl
theorem ok53:okFn Tryz.prog 53=true:=by kernel_rfl
theorem ok90:okFn Tryz.prog 90=true:=by kernel_rfl
theorem ok55:okFn Tryz.prog 55=true:=by kernel_rfl
theorem ok25:okFn Tryz.prog 25=true:=by kernel_rfl
theorem ok26:okFn Tryz.prog 26=true:=by kernel_rfl
theorem ok7:okFn Tryz.prog 7=true:=by kernel_rfl
theorem ok56:okFn Tryz.prog 56=true:=by kernel_rfl
theorem ok92:okFn Tryz.prog 92=true:=by kernel_rfl
theorem ok57:okFn Tryz.prog 57=true:=by kernel_rfl
theorem ok27:okFn Tryz.prog 27=true:=by kernel_rfl
theorem ok8:okFn Tryz.prog 8=true:=by kernel_rfl
theorem ok31:okFn Tryz.prog 31=true:=by kernel_rfl
theorem ok134:okFn Tryz.prog 134=true:=by kernel_rfl
theorem ok93:okFn Tryz.prog 93=true:=by kernel_rfl
theorem ok58:okFn Tryz.prog 58=true:=by kernel_rfl
theorem ok28:okFn Tryz.prog 28=true:=by kernel_rfl
theorem ok59:okFn Tryz.prog 59=true:=by kernel_rfl
theorem ok29:okFn Tryz.prog 29=true:=by kernel_rfl
theorem ok135:okFn Tryz.prog 135=true:=by kernel_rfl
theorem ok94:okFn Tryz.prog 94=true:=by kernel_rfl
theorem ok95:okFn Tryz.prog 95=true:=by kernel_rfl
theorem ok60:okFn Tryz.prog 60=true:=by kernel_rfl
theorem ok30:okFn Tryz.prog 30=true:=by kernel_rfl
theorem ok9:okFn Tryz.prog 9=true:=by kernel_rfl
theorem ok61:okFn Tryz.prog 61=true:=by kernel_rfl
theorem ok35:okFn Tryz.prog 35=true:=by kernel_rfl
theorem ok62:okFn Tryz.prog 62=true:=by kernel_rfl
theorem ok32:okFn Tryz.prog 32=true:=by kernel_rfl
theorem ok33:okFn Tryz.prog 33=true:=by kernel_rfl
theorem ok63:okFn Tryz.prog 63=true:=by kernel_rfl
theorem ok64:okFn Tryz.prog 64=true:=by kernel_rfl
theorem ok34:okFn Tryz.prog 34=true:=by kernel_rfl
theorem ok10:okFn Tryz.prog 10=true:=by kernel_rfl
theorem ok36:okFn Tryz.prog 36=true:=by kernel_rfl
theorem ok11:okFn Tryz.prog 11=true:=by kernel_rfl
theorem shape_tTLine (a b:List TLine)(h:b.length=a.length):ShapeT (a.map tTLine) (b.map tTLine):=shapeT_map (fun x y i e sz rl h=>by
  rcases i with _ | i
  · first | (cases h;done) | (cases h;exact ⟨_,rfl⟩)
  rcases i with _ | i
  · first | (cases h;done) | (cases h;exact ⟨_,rfl⟩)
  rcases i with _ | i
  · first | (cases h;done) | (cases h;exact ⟨_,rfl⟩)
  rcases i with _ | i
  · first | (cases h;done) | (cases h;exact ⟨_,rfl⟩)
  rcases i with _ | i
  · first | (cases h;done) | (cases h;exact ⟨_,rfl⟩)
  rcases i with _ | i
  · first | (cases h;done) | (cases h;exact ⟨_,rfl⟩)
  cases h) (fun _ _=>rfl) a b h
theorem ok37:okFn Tryz.prog 37=true:=by kernel_rfl
theorem ok12:okFn Tryz.prog 12=true:=by kernel_rfl
theorem ok3:okFn Tryz.prog 3=true:=by kernel_rfl
theorem w_szIntS_pc (b0:List Int)(b1:Int)(r:Int)(h:w_szIntS b0 b1=some r):PC Tryz.prog 16 [.slice (b0.map int),int b1] (int r):=by
 unfold w_szIntS at h
 refine PC.start Tryz.func16 Tryz.ntmps16 rfl (by kernel_rfl) rfl ?_
 refine Run.sr (X.an ?_)
 refine Run.sr (X.mv ?_)
 refine X.mv ?_
 refine X.ls elt25 ?_
 refine X.subW (h:=?_)
 refine X.an ?_
 refine Run.seq (Run.sr (X.mv ?_))
 refine X.bi ?_
 refine X.nil ?_
 refine R.cd (fun hc1=>?_) (fun hc1=>?_)
 ·replace h:=condT hc1 h
  refine Run.sr (X.an ?_)
  cases h
  refine R.f1 Tryz.results16 ?_
  rfl
 replace h:=condF hc1 h
 refine Run.skip (Run.sr (X.mv ?_))
 refine X.an ?_
 cases h
 refine R.f1 Tryz.results16 ?_
 rfl
theorem w_szMode_pc (b0:TMode)(b1:Int)(r:Int)(h:w_szMode b0 b1=some r):PC Tryz.prog 96 [eTMode b0,int b1] (int r):=by
 unfold w_szMode at h
 refine PC.start Tryz.func96 Tryz.ntmps96 rfl (by kernel_rfl) rfl ?_
 refine Run.sr (X.bx ?_)
 refine X.an ?_
 refine Run.sr (X.fl fld143_1 ?_)
 refine X.ld shp25 ?_
 refine X.mv ?_
 obtain ⟨v1,hv1,h⟩:=bindE h
 refine X.cp (w_szIntS_pc _ _ _ hv1) ?_
 refine X.an ?_
 refine Run.seq (Run.sr (X.mv ?_))
 refine X.bi ?_
 refine X.nil ?_
 refine R.cd (fun hc2=>?_) (fun hc2=>?_)
 ·replace h:=condT hc2 h
  refine Run.sr (X.an ?_)
  cases h
  refine R.f1 Tryz.results96 ?_
  rfl
 replace h:=condF hc2 h
 refine Run.skip (Run.sr (X.fl fld143_2 ?_))
 refine X.ld shp25 ?_
 refine X.mv ?_
 obtain ⟨v3,hv3,h⟩:=bindE h
 refine X.cp (w_szIntS_pc _ _ _ hv3) ?_
 refine X.an ?_
 refine Run.seq (Run.sr (X.mv ?_))
 refine X.bi ?_
 refine X.nil ?_
 refine R.cd (fun hc4=>?_) (fun hc4=>?_)
 ·replace h:=condT hc4 h
  refine Run.sr (X.an ?_)
  cases h
  refine R.f1 Tryz.results96 ?_
  rfl
 replace h:=condF hc4 h
 refine Run.skip (Run.sr (X.mv ?_))
 refine X.an ?_
 cases h
 refine R.f1 Tryz.results96 ?_
 rfl
theorem w_szModeS_pc (b0:List TMode)(b1:Int)(r:Int)(h:w_szModeS b0 b1=some r):PC Tryz.prog 65 [.slice (b0.map eTMode),int b1] (int r):=by
 unfold w_szModeS at h
 refine PC.start Tryz.func65 Tryz.ntmps65 rfl (by kernel_rfl) rfl ?_
 refine Run.sr (X.an ?_)
 refine Run.sr (X.mv ?_)
 refine X.mv ?_
 refine X.ls elt71 ?_
 refine X.subW (h:=?_)
 refine X.an ?_
 refine Run.seq (Run.sr (X.mv ?_))
 refine X.bi ?_
 refine X.nil ?_
 refine R.cd (fun hc1=>?_) (fun hc1=>?_)
 ·replace h:=condT hc1 h
  refine Run.sr (X.an ?_)
  cases h
  refine R.f1 Tryz.results65 ?_
  rfl
 replace h:=condF hc1 h
 refine Run.skip (Run.seq (Run.sr (X.an ?_)))
 obtain ⟨o2,ho2,h⟩:=bindE h
 refine R.join2 (β:=Int) [] [] (fun p16 S=>(1,int p16)::S) (fun p16 M=>M) (fun p16=>(Sum.inl p16)=o2) ?_ ?_
 ·intro JJ5 hmeet4
  have hup3:=h;clear h;have h:=ho2;clear ho2
  refine Run.block ?_
  refine R.bndS (t:=0) (by rfl) (fun hbd8=>?_)
  replace hbd8:b0.length≤9223372036854775807:=by first | (rw [List.length_map] at hbd8;exact hbd8) | simp
  refine R.lp (β:=Int×Int) [(0,.slice (b0.map eTMode))] [] (fun bb S=>(1,int bb.2)::(5,int bb.1)::S) (fun bb M=>M) (fun n bb=>0≤bb.1∧bb.1+n=(b0.length:Int)∧w_szModeS_L1 (b0.drop bb.1.toNat) bb.1 bb.2=some o2) b0.length (0,(W (b1 - (b0.length:Int)))) ⟨Int.le_refl _,by simp,h⟩ ?_
  clear h
  rintro JJ8 n8 ⟨z9,a10⟩ hag8 ⟨hza8,hzb8,h⟩
  dsimp only at hza8 hzb8 h
  refine Run.seq (Run.sr (X.mv ?_))
  refine X.mv ?_
  refine X.ls elt71 ?_
  refine X.bi ?_
  refine X.nil ?_
  refine R.cd (fun hc13=>?_) (fun hc13=>?_)
  ·obtain ⟨x11,xs12,hd8,hx8,hds8,hlt8⟩:=drop_atI hza8 hc13
   rw [hd8] at h
   rw [w_szModeS_L1] at h
   refine Run.skip (Run.seq (Run.block (Run.sr (X.mv ?_))))
   refine X.mv ?_
   refine X.ix elt71 (idxL_spec hx8).1 (idxL_map eTMode hx8) ?_
   refine X.lc shp143 ?_
   refine X.mv ?_
   obtain ⟨v14,hv14,h⟩:=bindE h
   refine X.cp (w_szMode_pc _ _ _ hv14) ?_
   refine X.an ?_
   refine Run.sr (X.mv ?_)
   refine X.bi ?_
   refine X.nil ?_
   refine R.cd (fun hc15=>?_) (fun hc15=>?_)
   ·replace h:=condT hc15 h
    refine Run.sr (X.an ?_)
    cases h
    have h:=hup3
    replace h:=elimR h
    cases h
    refine R.f1 Tryz.results65 ?_
    rfl
   replace h:=condF hc15 h
   refine Run.skip (Run.blk (Run.reg (X.mv ?_)))
   refine X.ad ?_
   refine X.an ?_
   exact R.ag hag8 (n8 - 1) (z9+1,v14) (R.n3 (by first | (rw [hds8];exact h) | (dsimp only;rw [hds8];exact h)))
  rw [drop_endI hza8 hc13] at h
  rw [w_szModeS_L1] at h
  refine Run.exit (by rfl) ?_
  exact R.mt hmeet4 a10 (Option.some.inj h)
 rintro p16 rfl
 replace h:=elimL h
 refine Run.sr (X.mv ?_)
 refine X.an ?_
 cases h
 refine R.f1 Tryz.results65 ?_
 rfl
theorem w_szActivity_pc (b0:TActivity)(b1:Int)(r:Int)(h:w_szActivity b0 b1=some r):PC Tryz.prog 38 [eTActivity b0,int b1] (int r):=by
 unfold w_szActivity at h
 refine PC.start Tryz.func38 Tryz.ntmps38 rfl (by kernel_rfl) rfl ?_
 refine Run.sr (X.bx ?_)
 refine X.an ?_
 refine Run.sr (X.mv ?_)
 refine X.fl fld73_0 ?_
 refine X.ld shp9 ?_
 refine X.lenStr Tryz.underlying9 (by rfl) (by rfl) ?_
 refine X.subW (h:=?_)
 refine X.an ?_
 refine Run.seq (Run.sr (X.mv ?_))
 refine X.bi ?_
 refine X.nil ?_
 refine R.cd (fun hc1=>?_) (fun hc1=>?_)
 ·replace h:=condT hc1 h
  refine Run.sr (X.an ?_)
  cases h
  refine R.f1 Tryz.results38 ?_
  rfl
 replace h:=condF hc1 h
 refine Run.skip (Run.sr (X.fl fld73_2 ?_))
 refine X.ld shp71 ?_
 refine X.mv ?_
 obtain ⟨v2,hv2,h⟩:=bindE h
 refine X.cp (w_szModeS_pc _ _ _ hv2) ?_
 refine X.an ?_
 refine Run.seq (Run.sr (X.mv ?_))
 refine X.bi ?_
 refine X.nil ?_
 refine R.cd (fun hc3=>?_) (fun hc3=>?_)
 ·replace h:=condT hc3 h
  refine Run.sr (X.an ?_)
  cases h
  refine R.f1 Tryz.results38 ?_
  rfl
 replace h:=condF hc3 h
 refine Run.skip (Run.sr (X.mv ?_))
 refine X.an ?_
 cases h
 refine R.f1 Tryz.results38 ?_
 rfl
theorem w_szActivityS_pc (b0:List TActivity)(b1:Int)(r:Int)(h:w_szActivityS b0 b1=some r):PC Tryz.prog 13 [.slice (b0.map eTActivity),int b1] (int r):=by
 unfold w_szActivityS at h
 refine PC.start Tryz.func13 Tryz.ntmps13 rfl (by kernel_rfl) rfl ?_
 refine Run.sr (X.an ?_)
 refine Run.sr (X.mv ?_)
 refine X.mv ?_
 refine X.ls elt22 ?_
 refine X.subW (h:=?_)
 refine X.an ?_
 refine Run.seq (Run.sr (X.mv ?_))
 refine X.bi ?_
 refine X.nil ?_
 refine R.cd (fun hc1=>?_) (fun hc1=>?_)
 ·replace h:=condT hc1 h
  refine Run.sr (X.an ?_)
  cases h
  refine R.f1 Tryz.results13 ?_
  rfl
 replace h:=condF hc1 h
 refine Run.skip (Run.seq (Run.sr (X.an ?_)))
 obtain ⟨o2,ho2,h⟩:=bindE h
 refine R.join2 (β:=Int) [] [] (fun p16 S=>(1,int p16)::S) (fun p16 M=>M) (fun p16=>(Sum.inl p16)=o2) ?_ ?_
 ·intro JJ5 hmeet4
  have hup3:=h;clear h;have h:=ho2;clear ho2
  refine Run.block ?_
  refine R.bndS (t:=0) (by rfl) (fun hbd8=>?_)
  replace hbd8:b0.length≤9223372036854775807:=by first | (rw [List.length_map] at hbd8;exact hbd8) | simp
  refine R.lp (β:=Int×Int) [(0,.slice (b0.map eTActivity))] [] (fun bb S=>(1,int bb.2)::(5,int bb.1)::S) (fun bb M=>M) (fun n bb=>0≤bb.1∧bb.1+n=(b0.length:Int)∧w_szActivityS_L1 (b0.drop bb.1.toNat) bb.1 bb.2=some o2) b0.length (0,(W (b1 - (b0.length:Int)))) ⟨Int.le_refl _,by simp,h⟩ ?_
  clear h
  rintro JJ8 n8 ⟨z9,a10⟩ hag8 ⟨hza8,hzb8,h⟩
  dsimp only at hza8 hzb8 h
  refine Run.seq (Run.sr (X.mv ?_))
  refine X.mv ?_
  refine X.ls elt22 ?_
  refine X.bi ?_
  refine X.nil ?_
  refine R.cd (fun hc13=>?_) (fun hc13=>?_)
  ·obtain ⟨x11,xs12,hd8,hx8,hds8,hlt8⟩:=drop_atI hza8 hc13
   rw [hd8] at h
   rw [w_szActivityS_L1] at h
   refine Run.skip (Run.seq (Run.block (Run.sr (X.mv ?_))))
   refine X.mv ?_
   refine X.ix elt22 (idxL_spec hx8).1 (idxL_map eTActivity hx8) ?_
   refine X.lc shp73 ?_
   refine X.mv ?_
   obtain ⟨v14,hv14,h⟩:=bindE h
   refine X.cp (w_szActivity_pc _ _ _ hv14) ?_
   refine X.an ?_
   refine Run.sr (X.mv ?_)
   refine X.bi ?_
   refine X.nil ?_
   refine R.cd (fun hc15=>?_) (fun hc15=>?_)
   ·replace h:=condT hc15 h
    refine Run.sr (X.an ?_)
    cases h
    have h:=hup3
    replace h:=elimR h
    cases h
    refine R.f1 Tryz.results13 ?_
    rfl
   replace h:=condF hc15 h
   refine Run.skip (Run.blk (Run.reg (X.mv ?_)))
   refine X.ad ?_
   refine X.an ?_
   exact R.ag hag8 (n8 - 1) (z9+1,v14) (R.n3 (by first | (rw [hds8];exact h) | (dsimp only;rw [hds8];exact h)))
  rw [drop_endI hza8 hc13] at h
  rw [w_szActivityS_L1] at h
  refine Run.exit (by rfl) ?_
  exact R.mt hmeet4 a10 (Option.some.inj h)
 rintro p16 rfl
 replace h:=elimL h
 refine Run.sr (X.mv ?_)
 refine X.an ?_
 cases h
 refine R.f1 Tryz.results13 ?_
 rfl
theorem w_szLinkS_pc (b0:List TLink)(b1:Int)(r:Int)(h:w_szLinkS b0 b1=some r):PC Tryz.prog 14 [.slice (b0.map eTLink),int b1] (int r):=by
 unfold w_szLinkS at h
 refine PC.start Tryz.func14 Tryz.ntmps14 rfl (by kernel_rfl) rfl ?_
 refine Run.sr (X.an ?_)
 refine Run.sr (X.mv ?_)
 refine X.mv ?_
 refine X.ls elt23 ?_
 refine X.subW (h:=?_)
 refine X.an ?_
 refine Run.seq (Run.sr (X.mv ?_))
 refine X.bi ?_
 refine X.nil ?_
 refine R.cd (fun hc1=>?_) (fun hc1=>?_)
 ·replace h:=condT hc1 h
  refine Run.sr (X.an ?_)
  cases h
  refine R.f1 Tryz.results14 ?_
  rfl
 replace h:=condF hc1 h
 refine Run.skip (Run.sr (X.mv ?_))
 refine X.an ?_
 cases h
 refine R.f1 Tryz.results14 ?_
 rfl
theorem w_szStepS_pc (b0:List TStep)(b1:Int)(r:Int)(h:w_szStepS b0 b1=some r):PC Tryz.prog 66 [.slice (b0.map eTStep),int b1] (int r):=by
 unfold w_szStepS at h
 refine PC.start Tryz.func66 Tryz.ntmps66 rfl (by kernel_rfl) rfl ?_
 refine Run.sr (X.an ?_)
 refine Run.sr (X.mv ?_)
 refine X.mv ?_
 refine X.ls elt75 ?_
 refine X.subW (h:=?_)
 refine X.an ?_
 refine Run.seq (Run.sr (X.mv ?_))
 refine X.bi ?_
 refine X.nil ?_
 refine R.cd (fun hc1=>?_) (fun hc1=>?_)
 ·replace h:=condT hc1 h
  refine Run.sr (X.an ?_)
  cases h
  refine R.f1 Tryz.results66 ?_
  rfl
 replace h:=condF hc1 h
 refine Run.skip (Run.sr (X.mv ?_))
 refine X.an ?_
 cases h
 refine R.f1 Tryz.results66 ?_
 rfl
theorem w_szIntSS_pc (b0:List (List Int))(b1:Int)(r:Int)(h:w_szIntSS b0 b1=some r):PC Tryz.prog 67 [.slice (b0.map l_int),int b1] (int r):=by
 unfold w_szIntSS at h
 refine PC.start Tryz.func67 Tryz.ntmps67 rfl (by kernel_rfl) rfl ?_
 refine Run.sr (X.an ?_)
 refine Run.sr (X.mv ?_)
 refine X.mv ?_
 refine X.ls elt76 ?_
 refine X.subW (h:=?_)
 refine X.an ?_
 refine Run.seq (Run.sr (X.mv ?_))
 refine X.bi ?_
 refine X.nil ?_
 refine R.cd (fun hc1=>?_) (fun hc1=>?_)
 ·replace h:=condT hc1 h
  refine Run.sr (X.an ?_)
  cases h
  refine R.f1 Tryz.results67 ?_
  rfl
 replace h:=condF hc1 h
 refine Run.skip (Run.seq (Run.sr (X.an ?_)))
 obtain ⟨o2,ho2,h⟩:=bindE h
 refine R.join2 (β:=Int) [] [] (fun p16 S=>(1,int p16)::S) (fun p16 M=>M) (fun p16=>(Sum.inl p16)=o2) ?_ ?_
 ·intro JJ5 hmeet4
  have hup3:=h;clear h;have h:=ho2;clear ho2
  refine Run.block ?_
  refine R.bndS (t:=0) (by rfl) (fun hbd8=>?_)
  replace hbd8:b0.length≤9223372036854775807:=by first | (rw [List.length_map] at hbd8;exact hbd8) | simp
  refine R.lp (β:=Int×Int) [(0,.slice (b0.map l_int))] [] (fun bb S=>(1,int bb.2)::(5,int bb.1)::S) (fun bb M=>M) (fun n bb=>0≤bb.1∧bb.1+n=(b0.length:Int)∧w_szIntSS_L1 (b0.drop bb.1.toNat) bb.1 bb.2=some o2) b0.length (0,(W (b1 - (b0.length:Int)))) ⟨Int.le_refl _,by simp,h⟩ ?_
  clear h
  rintro JJ8 n8 ⟨z9,a10⟩ hag8 ⟨hza8,hzb8,h⟩
  dsimp only at hza8 hzb8 h
  refine Run.seq (Run.sr (X.mv ?_))
  refine X.mv ?_
  refine X.ls elt76 ?_
  refine X.bi ?_
  refine X.nil ?_
  refine R.cd (fun hc13=>?_) (fun hc13=>?_)
  ·obtain ⟨x11,xs12,hd8,hx8,hds8,hlt8⟩:=drop_atI hza8 hc13
   rw [hd8] at h
   rw [w_szIntSS_L1] at h
   refine Run.skip (Run.seq (Run.block (Run.sr (X.mv ?_))))
   refine X.mv ?_
   refine X.ix elt76 (idxL_spec hx8).1 (idxL_map l_int hx8) ?_
   refine X.lc shp25 ?_
   refine X.mv ?_
   obtain ⟨v14,hv14,h⟩:=bindE h
   refine X.cp (w_szIntS_pc _ _ _ hv14) ?_
   refine X.an ?_
   refine Run.sr (X.mv ?_)
   refine X.bi ?_
   refine X.nil ?_
   refine R.cd (fun hc15=>?_) (fun hc15=>?_)
   ·replace h:=condT hc15 h
    refine Run.sr (X.an ?_)
    cases h
    have h:=hup3
    replace h:=elimR h
    cases h
    refine R.f1 Tryz.results67 ?_
    rfl
   replace h:=condF hc15 h
   refine Run.skip (Run.blk (Run.reg (X.mv ?_)))
   refine X.ad ?_
   refine X.an ?_
   exact R.ag hag8 (n8 - 1) (z9+1,v14) (R.n3 (by first | (rw [hds8];exact h) | (dsimp only;rw [hds8];exact h)))
  rw [drop_endI hza8 hc13] at h
  rw [w_szIntSS_L1] at h
  refine Run.exit (by rfl) ?_
  exact R.mt hmeet4 a10 (Option.some.inj h)
 rintro p16 rfl
 replace h:=elimL h
 refine Run.sr (X.mv ?_)
 refine X.an ?_
 cases h
 refine R.f1 Tryz.results67 ?_
 rfl
theorem w_szResource_pc (b0:TResource)(b1:Int)(r:Int)(h:w_szResource b0 b1=some r):PC Tryz.prog 39 [eTResource b0,int b1] (int r):=by
 unfold w_szResource at h
 refine PC.start Tryz.func39 Tryz.ntmps39 rfl (by kernel_rfl) rfl ?_
 refine Run.sr (X.bx ?_)
 refine X.an ?_
 refine Run.sr (X.fl fld78_0 ?_)
 refine X.ld shp75 ?_
 refine X.mv ?_
 obtain ⟨v1,hv1,h⟩:=bindE h
 refine X.cp (w_szStepS_pc _ _ _ hv1) ?_
 refine X.an ?_
 refine Run.seq (Run.sr (X.mv ?_))
 refine X.bi ?_
 refine X.nil ?_
 refine R.cd (fun hc2=>?_) (fun hc2=>?_)
 ·replace h:=condT hc2 h
  refine Run.sr (X.an ?_)
  cases h
  refine R.f1 Tryz.results39 ?_
  rfl
 replace h:=condF hc2 h
 refine Run.skip (Run.sr (X.fl fld78_1 ?_))
 refine X.ld shp76 ?_
 refine X.mv ?_
 obtain ⟨v3,hv3,h⟩:=bindE h
 refine X.cp (w_szIntSS_pc _ _ _ hv3) ?_
 refine X.an ?_
 refine Run.seq (Run.sr (X.mv ?_))
 refine X.bi ?_
 refine X.nil ?_
 refine R.cd (fun hc4=>?_) (fun hc4=>?_)
 ·replace h:=condT hc4 h
  refine Run.sr (X.an ?_)
  cases h
  refine R.f1 Tryz.results39 ?_
  rfl
 replace h:=condF hc4 h
 refine Run.skip (Run.sr (X.mv ?_))
 refine X.an ?_
 cases h
 refine R.f1 Tryz.results39 ?_
 rfl
theorem w_szResourceS_pc (b0:List TResource)(b1:Int)(r:Int)(h:w_szResourceS b0 b1=some r):PC Tryz.prog 15 [.slice (b0.map eTResource),int b1] (int r):=by
 unfold w_szResourceS at h
 refine PC.start Tryz.func15 Tryz.ntmps15 rfl (by kernel_rfl) rfl ?_
 refine Run.sr (X.an ?_)
 refine Run.sr (X.mv ?_)
 refine X.mv ?_
 refine X.ls elt24 ?_
 refine X.subW (h:=?_)
 refine X.an ?_
 refine Run.seq (Run.sr (X.mv ?_))
 refine X.bi ?_
 refine X.nil ?_
 refine R.cd (fun hc1=>?_) (fun hc1=>?_)
 ·replace h:=condT hc1 h
  refine Run.sr (X.an ?_)
  cases h
  refine R.f1 Tryz.results15 ?_
  rfl
 replace h:=condF hc1 h
 refine Run.skip (Run.seq (Run.sr (X.an ?_)))
 obtain ⟨o2,ho2,h⟩:=bindE h
 refine R.join2 (β:=Int) [] [] (fun p16 S=>(1,int p16)::S) (fun p16 M=>M) (fun p16=>(Sum.inl p16)=o2) ?_ ?_
 ·intro JJ5 hmeet4
  have hup3:=h;clear h;have h:=ho2;clear ho2
  refine Run.block ?_
  refine R.bndS (t:=0) (by rfl) (fun hbd8=>?_)
  replace hbd8:b0.length≤9223372036854775807:=by first | (rw [List.length_map] at hbd8;exact hbd8) | simp
  refine R.lp (β:=Int×Int) [(0,.slice (b0.map eTResource))] [] (fun bb S=>(1,int bb.2)::(5,int bb.1)::S) (fun bb M=>M) (fun n bb=>0≤bb.1∧bb.1+n=(b0.length:Int)∧w_szResourceS_L1 (b0.drop bb.1.toNat) bb.1 bb.2=some o2) b0.length (0,(W (b1 - (b0.length:Int)))) ⟨Int.le_refl _,by simp,h⟩ ?_
  clear h
  rintro JJ8 n8 ⟨z9,a10⟩ hag8 ⟨hza8,hzb8,h⟩
  dsimp only at hza8 hzb8 h
  refine Run.seq (Run.sr (X.mv ?_))
  refine X.mv ?_
  refine X.ls elt24 ?_
  refine X.bi ?_
  refine X.nil ?_
  refine R.cd (fun hc13=>?_) (fun hc13=>?_)
  ·obtain ⟨x11,xs12,hd8,hx8,hds8,hlt8⟩:=drop_atI hza8 hc13
   rw [hd8] at h
   rw [w_szResourceS_L1] at h
   refine Run.skip (Run.seq (Run.block (Run.sr (X.mv ?_))))
   refine X.mv ?_
   refine X.ix elt24 (idxL_spec hx8).1 (idxL_map eTResource hx8) ?_
   refine X.lc shp78 ?_
   refine X.mv ?_
   obtain ⟨v14,hv14,h⟩:=bindE h
   refine X.cp (w_szResource_pc _ _ _ hv14) ?_
   refine X.an ?_
   refine Run.sr (X.mv ?_)
   refine X.bi ?_
   refine X.nil ?_
   refine R.cd (fun hc15=>?_) (fun hc15=>?_)
   ·replace h:=condT hc15 h
    refine Run.sr (X.an ?_)
    cases h
    have h:=hup3
    replace h:=elimR h
    cases h
    refine R.f1 Tryz.results15 ?_
    rfl
   replace h:=condF hc15 h
   refine Run.skip (Run.blk (Run.reg (X.mv ?_)))
   refine X.ad ?_
   refine X.an ?_
   exact R.ag hag8 (n8 - 1) (z9+1,v14) (R.n3 (by first | (rw [hds8];exact h) | (dsimp only;rw [hds8];exact h)))
  rw [drop_endI hza8 hc13] at h
  rw [w_szResourceS_L1] at h
  refine Run.exit (by rfl) ?_
  exact R.mt hmeet4 a10 (Option.some.inj h)
 rintro p16 rfl
 replace h:=elimL h
 refine Run.sr (X.mv ?_)
 refine X.an ?_
 cases h
 refine R.f1 Tryz.results15 ?_
 rfl
theorem w_szProject_pc (b0:TProject)(b1:Int)(r:Int)(h:w_szProject b0 b1=some r):PC Tryz.prog 4 [eTProject b0,int b1] (int r):=by
 unfold w_szProject at h
 refine PC.start Tryz.func4 Tryz.ntmps4 rfl (by kernel_rfl) rfl ?_
 refine Run.sr (X.bx ?_)
 refine X.an ?_
 refine Run.sr (X.fl fld27_1 ?_)
 refine X.ld shp22 ?_
 refine X.mv ?_
 obtain ⟨v1,hv1,h⟩:=bindE h
 refine X.cp (w_szActivityS_pc _ _ _ hv1) ?_
 refine X.an ?_
 refine Run.seq (Run.sr (X.mv ?_))
 refine X.bi ?_
 refine X.nil ?_
 refine R.cd (fun hc2=>?_) (fun hc2=>?_)
 ·replace h:=condT hc2 h
  refine Run.sr (X.an ?_)
  cases h
  refine R.f1 Tryz.results4 ?_
  rfl
 replace h:=condF hc2 h
 refine Run.skip (Run.sr (X.fl fld27_2 ?_))
 refine X.ld shp23 ?_
 refine X.mv ?_
 obtain ⟨v3,hv3,h⟩:=bindE h
 refine X.cp (w_szLinkS_pc _ _ _ hv3) ?_
 refine X.an ?_
 refine Run.seq (Run.sr (X.mv ?_))
 refine X.bi ?_
 refine X.nil ?_
 refine R.cd (fun hc4=>?_) (fun hc4=>?_)
 ·replace h:=condT hc4 h
  refine Run.sr (X.an ?_)
  cases h
  refine R.f1 Tryz.results4 ?_
  rfl
 replace h:=condF hc4 h
 refine Run.skip (Run.sr (X.fl fld27_3 ?_))
 refine X.ld shp24 ?_
 refine X.mv ?_
 obtain ⟨v5,hv5,h⟩:=bindE h
 refine X.cp (w_szResourceS_pc _ _ _ hv5) ?_
 refine X.an ?_
 refine Run.seq (Run.sr (X.mv ?_))
 refine X.bi ?_
 refine X.nil ?_
 refine R.cd (fun hc6=>?_) (fun hc6=>?_)
 ·replace h:=condT hc6 h
  refine Run.sr (X.an ?_)
  cases h
  refine R.f1 Tryz.results4 ?_
  rfl
 replace h:=condF hc6 h
 refine Run.skip (Run.sr (X.fl fld27_4 ?_))
 refine X.ld shp25 ?_
 refine X.mv ?_
 obtain ⟨v7,hv7,h⟩:=bindE h
 refine X.cp (w_szIntS_pc _ _ _ hv7) ?_
 refine X.an ?_
 refine Run.seq (Run.sr (X.mv ?_))
 refine X.bi ?_
 refine X.nil ?_
 refine R.cd (fun hc8=>?_) (fun hc8=>?_)
 ·replace h:=condT hc8 h
  refine Run.sr (X.an ?_)
  cases h
  refine R.f1 Tryz.results4 ?_
  rfl
 replace h:=condF hc8 h
 refine Run.skip (Run.sr (X.mv ?_))
 refine X.an ?_
 cases h
 refine R.f1 Tryz.results4 ?_
 rfl
theorem w_toIntS_pc (b0:List Int)(r:List Int)(h:w_toIntS b0=some r):PCM Tryz.prog 23 [.yng 63 (.slice (b0.map int))] [(63,.yreg false false)] (.fresh false 3 1 (r.map int)) [(63,.yreg false false)]:=by
 unfold w_toIntS at h
 refine PCM.start Tryz.func23 Tryz.ntmps23 rfl (by kernel_rfl) rfl (by rfl) (by rfl) (by rfl) (by rfl) (by rfl) ?_
 refine Run.sr (X.an ?_)
 refine Run.sr (X.mv ?_)
 refine X.lenY false 63 elt25 (by rfl) (by exact List.length_map ..) (by rfl) ?_
 obtain ⟨v1,hv1,h⟩:=bindE h
 refine X.makeSlice2 int hv1 elt25 zer3 (by rfl) (by rfl) (by rfl) (by simp [PV.plain]) (by rfl) (by rfl) (by rfl) (by rfl) (by rfl) (by rfl) ?_
 refine X.an ?_
 refine Run.seq (Run.sr (X.an ?_))
 obtain ⟨o2,ho2,h⟩:=bindE h
 refine R.join2 (β:=(List Int)) [] [(63,.yreg false false)] (fun p15 S=>(3,.own 448 (p15.map int).length)::S) (fun p15 M=>(448,.obj true 3 1 (p15.map int))::M) (fun p15=>p15=o2) ?_ ?_
 ·intro JJ5 hmeet4
  have hup3:=h;clear h;have h:=ho2;clear ho2
  refine Run.block ?_
  refine R.bndY false 63 (t:=0) (by rfl) (fun hbd8=>?_)
  replace hbd8:b0.length≤9223372036854775807:=by first | (rw [List.length_map] at hbd8;exact hbd8) | simp
  refine R.lp (β:=Int×(List Int)) [(0,.yng 63 (.slice (b0.map int)))] [(63,.yreg false false)] (fun bb S=>(3,.own 448 (bb.2.map int).length)::(4,int bb.1)::S) (fun bb M=>(448,.obj true 3 1 (bb.2.map int))::M) (fun n bb=>0≤bb.1∧bb.1+n=(b0.length:Int)∧w_toIntS_L1 (b0.drop bb.1.toNat) bb.1 bb.2=some o2) b0.length (0,v1) ⟨Int.le_refl _,by simp,h⟩ ?_
  clear h
  rintro JJ8 n8 ⟨z9,a10⟩ hag8 ⟨hza8,hzb8,h⟩
  dsimp only at hza8 hzb8 h
  refine Run.seq (Run.sr (X.mv ?_))
  refine X.mv ?_
  refine X.lenY false 63 elt25 (by rfl) (by exact List.length_map ..) (by rfl) ?_
  refine X.bi ?_
  refine X.nil ?_
  refine R.cd (fun hc13=>?_) (fun hc13=>?_)
  ·obtain ⟨x11,xs12,hd8,hx8,hds8,hlt8⟩:=drop_atI hza8 hc13
   rw [hd8] at h
   rw [w_toIntS_L1] at h
   refine Run.skip (Run.seq (Run.block (Run.reg (X.mv ?_))))
   refine X.mv ?_
   refine X.mv ?_
   refine X.mv ?_
   refine X.indexY false 63 elt25 (by rfl) (by rfl) (idxL_spec hx8).1 (idxL_map int hx8) (by rfl) (by rfl) ?_
   refine X.loadY false 63 shp3 (by rfl) (by rfl) (by rfl) (by rfl) ?_
   obtain ⟨v14,hv14,h⟩:=bindE h
   refine X.index_xs elt25 (by rfl) (by rfl) (by first | rfl | simp [setL] | omega) (by rfl) (by exact (Int.toNat_of_nonneg (idxL_spec hv14).1).symm) (by have:=idxL_lt hv14;first | exact this | (rw [List.length_map];exact this)) (by rfl) (by rfl) ?_
   refine X.store_es shp3 (by rfl) (by rfl) (by first | rfl | simp [setL] | omega) (idxL_map _ hv14) (by rfl) (by rfl) (by repeat (first | trivial | refine ⟨by first | rfl | simp [setL],?_⟩)) (by rfl) (by rfl) (by rfl) (by rfl) (by exact setL_map _ _ _ x11) ?_
   refine X.nil (Run.blk (Run.reg (X.mv ?_)))
   refine X.ad ?_
   refine X.an ?_
   refine R.castS (t:=3) (.own 448 ((setL a10 z9 x11).map int).length) (by rfl) (.inl (by first | rfl | simp [setL])) ?_
   exact R.ag hag8 (n8 - 1) (z9+1,(setL a10 z9 x11)) (R.n3 (by first | (rw [hds8];exact h) | (dsimp only;rw [hds8];exact h)))
  rw [drop_endI hza8 hc13] at h
  rw [w_toIntS_L1] at h
  refine Run.exit (by rfl) ?_
  exact R.mt hmeet4 a10 (Option.some.inj h)
 rintro p15 rfl
 refine Run.sr (X.mv ?_)
 refine X.an ?_
 cases h
 refine R.pubObj (n:=448) (by rfl) ?_
 exact R.finM1o Tryz.results23 (by rfl) (by rfl) (by first | rfl | simp [setL] | omega) (by rfl) (by repeat (first | exact trivial | refine ⟨by rfl,?_⟩)) rfl
theorem w_toMode_pc (b0:TMode)(r:TMode)(h:w_toMode b0=some r):PCM Tryz.prog 104 [.agg [int b0.Duration,.yng 63 (.slice (b0.Usage.map int)),.yng 63 (.slice (b0.Consumption.map int))]] [(63,.yreg false false)] (.agg [int r.Duration,.fresh false 3 1 (r.Usage.map int),.fresh false 3 1 (r.Consumption.map int)]) [(63,.yreg false false)]:=by
 unfold w_toMode at h
 refine PCM.start Tryz.func104 Tryz.ntmps104 rfl (by kernel_rfl) rfl (by rfl) (by rfl) (by rfl) (by rfl) (by rfl) ?_
 refine Run.sr (X.bx ?_)
 refine X.alloc zer139 (h:=?_)
 refine X.nil (Run.sr (X.alloc zer139 (h:=?_)))
 refine X.nil (Run.sr (X.fl fld143_0 ?_))
 refine X.ld shp3 ?_
 refine X.fl fld139_0 ?_
 refine X.sl shp3 ?_
 refine X.nil (Run.sr (X.fl fld143_1 ?_))
 refine X.ld shp25 ?_
 obtain ⟨v1,hv1,h⟩:=bindE h
 refine X.callM [(63,63)] (w_toIntS_pc _ _ hv1) (by rfl) (by rfl) (.yngB 63 (by rfl) (by rfl) .nil) (by rfl) ⟨rfl,rfl,⟨_,by rfl,by constructor⟩,by constructor,trivial⟩ (by rfl) (by rfl) (by rfl) (by rfl) (by rfl) (by rfl) (by rfl) (by rfl) (by rfl) ?_
 refine X.fl fld139_1 ?_
 refine X.sl shp25 ?_
 refine X.nil (Run.sr (X.fl fld143_2 ?_))
 refine X.ld shp25 ?_
 obtain ⟨v2,hv2,h⟩:=bindE h
 refine X.callM [(63,63)] (w_toIntS_pc _ _ hv2) (by rfl) (by rfl) (.yngB 63 (by rfl) (by rfl) .nil) (by rfl) ⟨rfl,rfl,⟨_,by rfl,by constructor⟩,by constructor,trivial⟩ (by rfl) (by rfl) (by rfl) (by rfl) (by rfl) (by rfl) (by rfl) (by rfl) (by rfl) ?_
 refine X.fl fld139_2 ?_
 refine X.sl shp25 ?_
 refine X.nil (Run.sr (X.ld shp139 ?_))
 refine X.sl shp139 ?_
 refine X.nil ?_
 cases h
 exact R.finMC Tryz.results104 shp139 (by rfl) (by rfl) (by rfl) (by rfl) (by repeat (first | trivial | refine ⟨by first | rfl | simp [setL],?_⟩)) (by rfl) (by repeat (first | exact trivial | refine ⟨by rfl,?_⟩)) rfl
theorem w_toModeS_pc (b0:List TMode)(r:List TMode)(h:w_toModeS b0=some r):PCM Tryz.prog 76 [.yng 63 (.slice (b0.map eTMode))] [(63,.yreg false false)] (.fresh false 139 3 (r.map eTMode)) [(63,.yreg false false)]:=by
 unfold w_toModeS at h
 refine PCM.start Tryz.func76 Tryz.ntmps76 rfl (by kernel_rfl) rfl (by rfl) (by rfl) (by rfl) (by rfl) (by rfl) ?_
 refine Run.sr (X.an ?_)
 refine Run.sr (X.mv ?_)
 refine X.lenY false 63 elt71 (by rfl) (by exact List.length_map ..) (by rfl) ?_
 obtain ⟨v1,hv1,h⟩:=bindE h
 refine X.makeSlice2 eTMode hv1 elt87 zer139 (by rfl) (by rfl) (by rfl) (by simp [PV.plain]) (by rfl) (by rfl) (by rfl) (by rfl) (by rfl) (by rfl) ?_
 refine X.an ?_
 refine Run.seq (Run.sr (X.an ?_))
 obtain ⟨o2,ho2,h⟩:=bindE h
 refine R.join2 (β:=(List TMode)) [] [(63,.yreg false false)] (fun p16 S=>(3,.own 448 (p16.map eTMode).length)::S) (fun p16 M=>(448,.obj true 139 3 (p16.map eTMode))::M) (fun p16=>p16=o2) ?_ ?_
 ·intro JJ5 hmeet4
  have hup3:=h;clear h;have h:=ho2;clear ho2
  refine Run.block ?_
  refine R.bndY false 63 (t:=0) (by rfl) (fun hbd8=>?_)
  replace hbd8:b0.length≤9223372036854775807:=by first | (rw [List.length_map] at hbd8;exact hbd8) | simp
  refine R.lp (β:=Int×(List TMode)) [(0,.yng 63 (.slice (b0.map eTMode)))] [(63,.yreg false false)] (fun bb S=>(3,.own 448 (bb.2.map eTMode).length)::(4,int bb.1)::S) (fun bb M=>(448,.obj true 139 3 (bb.2.map eTMode))::M) (fun n bb=>0≤bb.1∧bb.1+n=(b0.length:Int)∧w_toModeS_L1 (b0.drop bb.1.toNat) bb.1 bb.2=some o2) b0.length (0,v1) ⟨Int.le_refl _,by simp,h⟩ ?_
  clear h
  rintro JJ8 n8 ⟨z9,a10⟩ hag8 ⟨hza8,hzb8,h⟩
  dsimp only at hza8 hzb8 h
  refine Run.seq (Run.sr (X.mv ?_))
  refine X.mv ?_
  refine X.lenY false 63 elt71 (by rfl) (by exact List.length_map ..) (by rfl) ?_
  refine X.bi ?_
  refine X.nil ?_
  refine R.cd (fun hc13=>?_) (fun hc13=>?_)
  ·obtain ⟨x11,xs12,hd8,hx8,hds8,hlt8⟩:=drop_atI hza8 hc13
   rw [hd8] at h
   rw [w_toModeS_L1] at h
   refine Run.skip (Run.seq (Run.block (Run.reg (X.mv ?_))))
   refine X.mv ?_
   refine X.mv ?_
   refine X.mv ?_
   refine X.indexY false 63 elt71 (by rfl) (by rfl) (idxL_spec hx8).1 (idxL_map eTMode hx8) (by rfl) (by rfl) ?_
   refine X.loadY false 63 shp143 (by rfl) (by rfl) (by rfl) (by rfl) ?_
   obtain ⟨v14,hv14,h⟩:=bindE h
   refine X.callM [(63,63)] (w_toMode_pc _ _ hv14) (by rfl) (by rfl) (.agg _ _ _ _ _ _ (.pureB (by rfl) (by repeat (first | trivial | refine ⟨by first | rfl | simp [setL],?_⟩)) (.yngB 63 (by rfl) (by rfl) (.yngB 63 (by rfl) (by rfl) .nil))) .nil) (by rfl) ⟨rfl,rfl,⟨_,by rfl,by constructor⟩,by constructor,trivial⟩ (by rfl) (by rfl) (by rfl) (by rfl) (by rfl) (by rfl) (by rfl) (by rfl) (by rfl) ?_
   obtain ⟨v15,hv15,h⟩:=bindE h
   refine X.index_xs elt87 (by rfl) (by rfl) (by first | rfl | simp [setL] | omega) (by rfl) (by exact (Int.toNat_of_nonneg (idxL_spec hv15).1).symm) (by have:=idxL_lt hv15;first | exact this | (rw [List.length_map];exact this)) (by rfl) (by rfl) ?_
   refine X.store_es shp139 (by rfl) (by rfl) (by first | rfl | simp [setL] | omega) (idxL_map _ hv15) (by rfl) (by rfl) (by repeat (first | trivial | refine ⟨by first | rfl | simp [setL],?_⟩)) (by rfl) (by rfl) (by rfl) (by rfl) (by exact setL_map _ _ _ v14) ?_
   refine X.nil (Run.blk (Run.reg (X.mv ?_)))
   refine X.ad ?_
   refine X.an ?_
   refine R.castS (t:=3) (.own 448 ((setL a10 z9 v14).map eTMode).length) (by rfl) (.inl (by first | rfl | simp [setL])) ?_
   exact R.ag hag8 (n8 - 1) (z9+1,(setL a10 z9 v14)) (R.n3 (by first | (rw [hds8];exact h) | (dsimp only;rw [hds8];exact h)))
  rw [drop_endI hza8 hc13] at h
  rw [w_toModeS_L1] at h
  refine Run.exit (by rfl) ?_
  exact R.mt hmeet4 a10 (Option.some.inj h)
 rintro p16 rfl
 refine Run.sr (X.mv ?_)
 refine X.an ?_
 cases h
 refine R.pubObj (n:=448) (by rfl) ?_
 exact R.finM1o Tryz.results76 (by rfl) (by rfl) (by first | rfl | simp [setL] | omega) (by rfl) (by repeat (first | exact trivial | refine ⟨by rfl,?_⟩)) rfl
theorem w_toActivity_pc (b0:TActivity)(r:TActivity)(h:w_toActivity b0=some r):PCM Tryz.prog 46 [.agg [str b0.Name,int b0.Family,.yng 63 (.slice (b0.Modes.map eTMode))]] [(63,.yreg false false)] (.agg [str r.Name,int r.Family,.fresh false 139 3 (r.Modes.map eTMode)]) [(63,.yreg false false)]:=by
 unfold w_toActivity at h
 refine PCM.start Tryz.func46 Tryz.ntmps46 rfl (by kernel_rfl) rfl (by rfl) (by rfl) (by rfl) (by rfl) (by rfl) ?_
 refine Run.sr (X.bx ?_)
 refine X.alloc zer89 (h:=?_)
 refine X.nil (Run.sr (X.alloc zer89 (h:=?_)))
 refine X.nil (Run.sr (X.fl fld73_0 ?_))
 refine X.ld shp9 ?_
 refine X.fl fld89_0 ?_
 refine X.sl shp9 ?_
 refine X.nil (Run.sr (X.fl fld73_1 ?_))
 refine X.ld shp3 ?_
 refine X.fl fld89_1 ?_
 refine X.sl shp3 ?_
 refine X.nil (Run.sr (X.fl fld73_2 ?_))
 refine X.ld shp71 ?_
 obtain ⟨v1,hv1,h⟩:=bindE h
 refine X.callM [(63,63)] (w_toModeS_pc _ _ hv1) (by rfl) (by rfl) (.yngB 63 (by rfl) (by rfl) .nil) (by rfl) ⟨rfl,rfl,⟨_,by rfl,by constructor⟩,by constructor,trivial⟩ (by rfl) (by rfl) (by rfl) (by rfl) (by rfl) (by rfl) (by rfl) (by rfl) (by rfl) ?_
 refine X.fl fld89_2 ?_
 refine X.sl shp87 ?_
 refine X.nil (Run.sr (X.ld shp89 ?_))
 refine X.sl shp89 ?_
 refine X.nil ?_
 cases h
 exact R.finMC Tryz.results46 shp89 (by rfl) (by rfl) (by rfl) (by rfl) (by repeat (first | trivial | refine ⟨by first | rfl | simp [setL],?_⟩)) (by rfl) (by repeat (first | exact trivial | refine ⟨by rfl,?_⟩)) rfl
theorem w_toActivityS_pc (b0:List TActivity)(r:List TActivity)(h:w_toActivityS b0=some r):PCM Tryz.prog 20 [.yng 63 (.slice (b0.map eTActivity))] [(63,.yreg false false)] (.fresh false 89 3 (r.map eTActivity)) [(63,.yreg false false)]:=by
 unfold w_toActivityS at h
 refine PCM.start Tryz.func20 Tryz.ntmps20 rfl (by kernel_rfl) rfl (by rfl) (by rfl) (by rfl) (by rfl) (by rfl) ?_
 refine Run.sr (X.an ?_)
 refine Run.sr (X.mv ?_)
 refine X.lenY false 63 elt22 (by rfl) (by exact List.length_map ..) (by rfl) ?_
 obtain ⟨v1,hv1,h⟩:=bindE h
 refine X.makeSlice2 eTActivity hv1 elt32 zer89 (by rfl) (by rfl) (by rfl) (by simp [PV.plain]) (by rfl) (by rfl) (by rfl) (by rfl) (by rfl) (by rfl) ?_
 refine X.an ?_
 refine Run.seq (Run.sr (X.an ?_))
 obtain ⟨o2,ho2,h⟩:=bindE h
 refine R.join2 (β:=(List TActivity)) [] [(63,.yreg false false)] (fun p16 S=>(3,.own 448 (p16.map eTActivity).length)::S) (fun p16 M=>(448,.obj true 89 3 (p16.map eTActivity))::M) (fun p16=>p16=o2) ?_ ?_
 ·intro JJ5 hmeet4
  have hup3:=h;clear h;have h:=ho2;clear ho2
  refine Run.block ?_
  refine R.bndY false 63 (t:=0) (by rfl) (fun hbd8=>?_)
  replace hbd8:b0.length≤9223372036854775807:=by first | (rw [List.length_map] at hbd8;exact hbd8) | simp
  refine R.lp (β:=Int×(List TActivity)) [(0,.yng 63 (.slice (b0.map eTActivity)))] [(63,.yreg false false)] (fun bb S=>(3,.own 448 (bb.2.map eTActivity).length)::(4,int bb.1)::S) (fun bb M=>(448,.obj true 89 3 (bb.2.map eTActivity))::M) (fun n bb=>0≤bb.1∧bb.1+n=(b0.length:Int)∧w_toActivityS_L1 (b0.drop bb.1.toNat) bb.1 bb.2=some o2) b0.length (0,v1) ⟨Int.le_refl _,by simp,h⟩ ?_
  clear h
  rintro JJ8 n8 ⟨z9,a10⟩ hag8 ⟨hza8,hzb8,h⟩
  dsimp only at hza8 hzb8 h
  refine Run.seq (Run.sr (X.mv ?_))
  refine X.mv ?_
  refine X.lenY false 63 elt22 (by rfl) (by exact List.length_map ..) (by rfl) ?_
  refine X.bi ?_
  refine X.nil ?_
  refine R.cd (fun hc13=>?_) (fun hc13=>?_)
  ·obtain ⟨x11,xs12,hd8,hx8,hds8,hlt8⟩:=drop_atI hza8 hc13
   rw [hd8] at h
   rw [w_toActivityS_L1] at h
   refine Run.skip (Run.seq (Run.block (Run.reg (X.mv ?_))))
   refine X.mv ?_
   refine X.mv ?_
   refine X.mv ?_
   refine X.indexY false 63 elt22 (by rfl) (by rfl) (idxL_spec hx8).1 (idxL_map eTActivity hx8) (by rfl) (by rfl) ?_
   refine X.loadY false 63 shp73 (by rfl) (by rfl) (by rfl) (by rfl) ?_
   obtain ⟨v14,hv14,h⟩:=bindE h
   refine X.callM [(63,63)] (w_toActivity_pc _ _ hv14) (by rfl) (by rfl) (.agg _ _ _ _ _ _ (.pureB (by rfl) (by repeat (first | trivial | refine ⟨by first | rfl | simp [setL],?_⟩)) (.pureB (by rfl) (by repeat (first | trivial | refine ⟨by first | rfl | simp [setL],?_⟩)) (.yngB 63 (by rfl) (by rfl) .nil))) .nil) (by rfl) ⟨rfl,rfl,⟨_,by rfl,by constructor⟩,by constructor,trivial⟩ (by rfl) (by rfl) (by rfl) (by rfl) (by rfl) (by rfl) (by rfl) (by rfl) (by rfl) ?_
   obtain ⟨v15,hv15,h⟩:=bindE h
   refine X.index_xs elt32 (by rfl) (by rfl) (by first | rfl | simp [setL] | omega) (by rfl) (by exact (Int.toNat_of_nonneg (idxL_spec hv15).1).symm) (by have:=idxL_lt hv15;first | exact this | (rw [List.length_map];exact this)) (by rfl) (by rfl) ?_
   refine X.store_es shp89 (by rfl) (by rfl) (by first | rfl | simp [setL] | omega) (idxL_map _ hv15) (by rfl) (by rfl) (by repeat (first | trivial | refine ⟨by first | rfl | simp [setL],?_⟩)) (by rfl) (by rfl) (by rfl) (by rfl) (by exact setL_map _ _ _ v14) ?_
   refine X.nil (Run.blk (Run.reg (X.mv ?_)))
   refine X.ad ?_
   refine X.an ?_
   refine R.castS (t:=3) (.own 448 ((setL a10 z9 v14).map eTActivity).length) (by rfl) (.inl (by first | rfl | simp [setL])) ?_
   exact R.ag hag8 (n8 - 1) (z9+1,(setL a10 z9 v14)) (R.n3 (by first | (rw [hds8];exact h) | (dsimp only;rw [hds8];exact h)))
  rw [drop_endI hza8 hc13] at h
  rw [w_toActivityS_L1] at h
  refine Run.exit (by rfl) ?_
  exact R.mt hmeet4 a10 (Option.some.inj h)
 rintro p16 rfl
 refine Run.sr (X.mv ?_)
 refine X.an ?_
 cases h
 refine R.pubObj (n:=448) (by rfl) ?_
 exact R.finM1o Tryz.results20 (by rfl) (by rfl) (by first | rfl | simp [setL] | omega) (by rfl) (by repeat (first | exact trivial | refine ⟨by rfl,?_⟩)) rfl
theorem w_toLink_pc (b0:TLink)(r:TLink)(h:w_toLink b0=some r):PC Tryz.prog 47 [eTLink b0] (eTLink r):=by
 unfold w_toLink at h
 refine PC.start Tryz.func47 Tryz.ntmps47 rfl (by kernel_rfl) rfl ?_
 refine Run.sr (X.bx ?_)
 refine X.alloc zer92 (h:=?_)
 refine X.nil (Run.sr (X.alloc zer92 (h:=?_)))
 refine X.nil (Run.sr (X.fl fld94_0 ?_))
 refine X.ld shp3 ?_
 refine X.fl fld92_0 ?_
 refine X.sl shp3 ?_
 refine X.nil (Run.sr (X.fl fld94_1 ?_))
 refine X.ld shp3 ?_
 refine X.fl fld92_1 ?_
 refine X.sl shp3 ?_
 refine X.nil (Run.sr (X.fl fld94_2 ?_))
 refine X.ld shp4 ?_
 refine X.fl fld92_2 ?_
 refine X.sl shp4 ?_
 refine X.nil (Run.sr (X.fl fld94_3 ?_))
 refine X.ld shp3 ?_
 refine X.fl fld92_3 ?_
 refine X.sl shp3 ?_
 refine X.nil (Run.sr (X.ld shp92 ?_))
 refine X.sl shp92 ?_
 refine X.nil ?_
 cases h
 refine R.finC Tryz.results47 shp92 (by rfl) (by rfl) (by rfl) (by rfl) (by repeat (first | trivial | refine ⟨by first | rfl | simp [setL],?_⟩)) ?_
 rfl
theorem w_toLinkS_pc (b0:List TLink)(r:List TLink)(h:w_toLinkS b0=some r):PCM Tryz.prog 21 [.yng 63 (.slice (b0.map eTLink))] [(63,.yreg false false)] (.fresh false 92 4 (r.map eTLink)) [(63,.yreg false false)]:=by
 unfold w_toLinkS at h
 refine PCM.start Tryz.func21 Tryz.ntmps21 rfl (by kernel_rfl) rfl (by rfl) (by rfl) (by rfl) (by rfl) (by rfl) ?_
 refine Run.sr (X.an ?_)
 refine Run.sr (X.mv ?_)
 refine X.lenY false 63 elt23 (by rfl) (by exact List.length_map ..) (by rfl) ?_
 obtain ⟨v1,hv1,h⟩:=bindE h
 refine X.makeSlice2 eTLink hv1 elt33 zer92 (by rfl) (by rfl) (by rfl) (by simp [PV.plain]) (by rfl) (by rfl) (by rfl) (by rfl) (by rfl) (by rfl) ?_
 refine X.an ?_
 refine Run.seq (Run.sr (X.an ?_))
 obtain ⟨o2,ho2,h⟩:=bindE h
 refine R.join2 (β:=(List TLink)) [] [(63,.yreg false false)] (fun p16 S=>(3,.own 448 (p16.map eTLink).length)::S) (fun p16 M=>(448,.obj true 92 4 (p16.map eTLink))::M) (fun p16=>p16=o2) ?_ ?_
 ·intro JJ5 hmeet4
  have hup3:=h;clear h;have h:=ho2;clear ho2
  refine Run.block ?_
  refine R.bndY false 63 (t:=0) (by rfl) (fun hbd8=>?_)
  replace hbd8:b0.length≤9223372036854775807:=by first | (rw [List.length_map] at hbd8;exact hbd8) | simp
  refine R.lp (β:=Int×(List TLink)) [(0,.yng 63 (.slice (b0.map eTLink)))] [(63,.yreg false false)] (fun bb S=>(3,.own 448 (bb.2.map eTLink).length)::(4,int bb.1)::S) (fun bb M=>(448,.obj true 92 4 (bb.2.map eTLink))::M) (fun n bb=>0≤bb.1∧bb.1+n=(b0.length:Int)∧w_toLinkS_L1 (b0.drop bb.1.toNat) bb.1 bb.2=some o2) b0.length (0,v1) ⟨Int.le_refl _,by simp,h⟩ ?_
  clear h
  rintro JJ8 n8 ⟨z9,a10⟩ hag8 ⟨hza8,hzb8,h⟩
  dsimp only at hza8 hzb8 h
  refine Run.seq (Run.sr (X.mv ?_))
  refine X.mv ?_
  refine X.lenY false 63 elt23 (by rfl) (by exact List.length_map ..) (by rfl) ?_
  refine X.bi ?_
  refine X.nil ?_
  refine R.cd (fun hc13=>?_) (fun hc13=>?_)
  ·obtain ⟨x11,xs12,hd8,hx8,hds8,hlt8⟩:=drop_atI hza8 hc13
   rw [hd8] at h
   rw [w_toLinkS_L1] at h
   refine Run.skip (Run.seq (Run.block (Run.reg (X.mv ?_))))
   refine X.mv ?_
   refine X.mv ?_
   refine X.mv ?_
   refine X.indexY false 63 elt23 (by rfl) (by rfl) (idxL_spec hx8).1 (idxL_map eTLink hx8) (by rfl) (by rfl) ?_
   refine X.loadY false 63 shp94 (by rfl) (by rfl) (by rfl) (by rfl) ?_
   obtain ⟨v14,hv14,h⟩:=bindE h
   refine X.callA (w_toLink_pc _ _ hv14) (by rfl) (by rfl) (by rfl) (by trivial) (by rfl) (by rfl) (by rfl) (by rfl) (by rfl) (by rfl) ?_
   obtain ⟨v15,hv15,h⟩:=bindE h
   refine X.index_xs elt33 (by rfl) (by rfl) (by first | rfl | simp [setL] | omega) (by rfl) (by exact (Int.toNat_of_nonneg (idxL_spec hv15).1).symm) (by have:=idxL_lt hv15;first | exact this | (rw [List.length_map];exact this)) (by rfl) (by rfl) ?_
   refine X.store_es shp92 (by rfl) (by rfl) (by first | rfl | simp [setL] | omega) (idxL_map _ hv15) (by rfl) (by rfl) (by repeat (first | trivial | refine ⟨by first | rfl | simp [setL],?_⟩)) (by rfl) (by rfl) (by rfl) (by rfl) (by exact setL_map _ _ _ v14) ?_
   refine X.nil (Run.blk (Run.reg (X.mv ?_)))
   refine X.ad ?_
   refine X.an ?_
   refine R.castS (t:=3) (.own 448 ((setL a10 z9 v14).map eTLink).length) (by rfl) (.inl (by first | rfl | simp [setL])) ?_
   exact R.ag hag8 (n8 - 1) (z9+1,(setL a10 z9 v14)) (R.n3 (by first | (rw [hds8];exact h) | (dsimp only;rw [hds8];exact h)))
  rw [drop_endI hza8 hc13] at h
  rw [w_toLinkS_L1] at h
  refine Run.exit (by rfl) ?_
  exact R.mt hmeet4 a10 (Option.some.inj h)
 rintro p16 rfl
 refine Run.sr (X.mv ?_)
 refine X.an ?_
 cases h
 refine R.pubObj (n:=448) (by rfl) ?_
 exact R.finM1o Tryz.results21 (by rfl) (by rfl) (by first | rfl | simp [setL] | omega) (by rfl) (by repeat (first | exact trivial | refine ⟨by rfl,?_⟩)) rfl
theorem w_toStep_pc (b0:TStep)(r:TStep)(h:w_toStep b0=some r):PC Tryz.prog 105 [eTStep b0] (eTStep r):=by
 unfold w_toStep at h
 refine PC.start Tryz.func105 Tryz.ntmps105 rfl (by kernel_rfl) rfl ?_
 refine Run.sr (X.bx ?_)
 refine X.alloc zer141 (h:=?_)
 refine X.nil (Run.sr (X.alloc zer141 (h:=?_)))
 refine X.nil (Run.sr (X.fl fld151_0 ?_))
 refine X.ld shp3 ?_
 refine X.fl fld141_0 ?_
 refine X.sl shp3 ?_
 refine X.nil (Run.sr (X.fl fld151_1 ?_))
 refine X.ld shp3 ?_
 refine X.fl fld141_1 ?_
 refine X.sl shp3 ?_
 refine X.nil (Run.sr (X.ld shp141 ?_))
 refine X.sl shp141 ?_
 refine X.nil ?_
 cases h
 refine R.finC Tryz.results105 shp141 (by rfl) (by rfl) (by rfl) (by rfl) (by repeat (first | trivial | refine ⟨by first | rfl | simp [setL],?_⟩)) ?_
 rfl
theorem w_toStepS_pc (b0:List TStep)(r:List TStep)(h:w_toStepS b0=some r):PCM Tryz.prog 77 [.yng 63 (.slice (b0.map eTStep))] [(63,.yreg false false)] (.fresh false 141 2 (r.map eTStep)) [(63,.yreg false false)]:=by
 unfold w_toStepS at h
 refine PCM.start Tryz.func77 Tryz.ntmps77 rfl (by kernel_rfl) rfl (by rfl) (by rfl) (by rfl) (by rfl) (by rfl) ?_
 refine Run.sr (X.an ?_)
 refine Run.sr (X.mv ?_)
 refine X.lenY false 63 elt75 (by rfl) (by exact List.length_map ..) (by rfl) ?_
 obtain ⟨v1,hv1,h⟩:=bindE h
 refine X.makeSlice2 eTStep hv1 elt95 zer141 (by rfl) (by rfl) (by rfl) (by simp [PV.plain]) (by rfl) (by rfl) (by rfl) (by rfl) (by rfl) (by rfl) ?_
 refine X.an ?_
 refine Run.seq (Run.sr (X.an ?_))
 obtain ⟨o2,ho2,h⟩:=bindE h
 refine R.join2 (β:=(List TStep)) [] [(63,.yreg false false)] (fun p16 S=>(3,.own 448 (p16.map eTStep).length)::S) (fun p16 M=>(448,.obj true 141 2 (p16.map eTStep))::M) (fun p16=>p16=o2) ?_ ?_
 ·intro JJ5 hmeet4
  have hup3:=h;clear h;have h:=ho2;clear ho2
  refine Run.block ?_
  refine R.bndY false 63 (t:=0) (by rfl) (fun hbd8=>?_)
  replace hbd8:b0.length≤9223372036854775807:=by first | (rw [List.length_map] at hbd8;exact hbd8) | simp
  refine R.lp (β:=Int×(List TStep)) [(0,.yng 63 (.slice (b0.map eTStep)))] [(63,.yreg false false)] (fun bb S=>(3,.own 448 (bb.2.map eTStep).length)::(4,int bb.1)::S) (fun bb M=>(448,.obj true 141 2 (bb.2.map eTStep))::M) (fun n bb=>0≤bb.1∧bb.1+n=(b0.length:Int)∧w_toStepS_L1 (b0.drop bb.1.toNat) bb.1 bb.2=some o2) b0.length (0,v1) ⟨Int.le_refl _,by simp,h⟩ ?_
  clear h
  rintro JJ8 n8 ⟨z9,a10⟩ hag8 ⟨hza8,hzb8,h⟩
  dsimp only at hza8 hzb8 h
  refine Run.seq (Run.sr (X.mv ?_))
  refine X.mv ?_
  refine X.lenY false 63 elt75 (by rfl) (by exact List.length_map ..) (by rfl) ?_
  refine X.bi ?_
  refine X.nil ?_
  refine R.cd (fun hc13=>?_) (fun hc13=>?_)
  ·obtain ⟨x11,xs12,hd8,hx8,hds8,hlt8⟩:=drop_atI hza8 hc13
   rw [hd8] at h
   rw [w_toStepS_L1] at h
   refine Run.skip (Run.seq (Run.block (Run.reg (X.mv ?_))))
   refine X.mv ?_
   refine X.mv ?_
   refine X.mv ?_
   refine X.indexY false 63 elt75 (by rfl) (by rfl) (idxL_spec hx8).1 (idxL_map eTStep hx8) (by rfl) (by rfl) ?_
   refine X.loadY false 63 shp151 (by rfl) (by rfl) (by rfl) (by rfl) ?_
   obtain ⟨v14,hv14,h⟩:=bindE h
   refine X.callA (w_toStep_pc _ _ hv14) (by rfl) (by rfl) (by rfl) (by trivial) (by rfl) (by rfl) (by rfl) (by rfl) (by rfl) (by rfl) ?_
   obtain ⟨v15,hv15,h⟩:=bindE h
   refine X.index_xs elt95 (by rfl) (by rfl) (by first | rfl | simp [setL] | omega) (by rfl) (by exact (Int.toNat_of_nonneg (idxL_spec hv15).1).symm) (by have:=idxL_lt hv15;first | exact this | (rw [List.length_map];exact this)) (by rfl) (by rfl) ?_
   refine X.store_es shp141 (by rfl) (by rfl) (by first | rfl | simp [setL] | omega) (idxL_map _ hv15) (by rfl) (by rfl) (by repeat (first | trivial | refine ⟨by first | rfl | simp [setL],?_⟩)) (by rfl) (by rfl) (by rfl) (by rfl) (by exact setL_map _ _ _ v14) ?_
   refine X.nil (Run.blk (Run.reg (X.mv ?_)))
   refine X.ad ?_
   refine X.an ?_
   refine R.castS (t:=3) (.own 448 ((setL a10 z9 v14).map eTStep).length) (by rfl) (.inl (by first | rfl | simp [setL])) ?_
   exact R.ag hag8 (n8 - 1) (z9+1,(setL a10 z9 v14)) (R.n3 (by first | (rw [hds8];exact h) | (dsimp only;rw [hds8];exact h)))
  rw [drop_endI hza8 hc13] at h
  rw [w_toStepS_L1] at h
  refine Run.exit (by rfl) ?_
  exact R.mt hmeet4 a10 (Option.some.inj h)
 rintro p16 rfl
 refine Run.sr (X.mv ?_)
 refine X.an ?_
 cases h
 refine R.pubObj (n:=448) (by rfl) ?_
 exact R.finM1o Tryz.results77 (by rfl) (by rfl) (by first | rfl | simp [setL] | omega) (by rfl) (by repeat (first | exact trivial | refine ⟨by rfl,?_⟩)) rfl
theorem w_toIntSS_pc (b0:List (List Int))(r:List (List Int))(h:w_toIntSS b0=some r):PCM Tryz.prog 78 [.yng 63 (.slice (b0.map l_int))] [(63,.yreg false false)] (.fresh false 25 1 (r.map l_int)) [(63,.yreg false false)]:=by
 unfold w_toIntSS at h
 refine PCM.start Tryz.func78 Tryz.ntmps78 rfl (by kernel_rfl) rfl (by rfl) (by rfl) (by rfl) (by rfl) (by rfl) ?_
 refine Run.sr (X.an ?_)
 refine Run.sr (X.mv ?_)
 refine X.lenY false 63 elt76 (by rfl) (by exact List.length_map ..) (by rfl) ?_
 obtain ⟨v1,hv1,h⟩:=bindE h
 refine X.makeSlice2 l_int hv1 elt76 zer25 (by rfl) (by rfl) (by rfl) (by simp [PV.plain]) (by rfl) (by rfl) (by rfl) (by rfl) (by rfl) (by rfl) ?_
 refine X.an ?_
 refine Run.seq (Run.sr (X.an ?_))
 obtain ⟨o2,ho2,h⟩:=bindE h
 refine R.join2 (β:=(List (List Int))) [] [(63,.yreg false false)] (fun p16 S=>(3,.own 448 (p16.map l_int).length)::S) (fun p16 M=>(448,.obj true 25 1 (p16.map l_int))::M) (fun p16=>p16=o2) ?_ ?_
 ·intro JJ5 hmeet4
  have hup3:=h;clear h;have h:=ho2;clear ho2
  refine Run.block ?_
  refine R.bndY false 63 (t:=0) (by rfl) (fun hbd8=>?_)
  replace hbd8:b0.length≤9223372036854775807:=by first | (rw [List.length_map] at hbd8;exact hbd8) | simp
  refine R.lp (β:=Int×(List (List Int))) [(0,.yng 63 (.slice (b0.map l_int)))] [(63,.yreg false false)] (fun bb S=>(3,.own 448 (bb.2.map l_int).length)::(4,int bb.1)::S) (fun bb M=>(448,.obj true 25 1 (bb.2.map l_int))::M) (fun n bb=>0≤bb.1∧bb.1+n=(b0.length:Int)∧w_toIntSS_L1 (b0.drop bb.1.toNat) bb.1 bb.2=some o2) b0.length (0,v1) ⟨Int.le_refl _,by simp,h⟩ ?_
  clear h
  rintro JJ8 n8 ⟨z9,a10⟩ hag8 ⟨hza8,hzb8,h⟩
  dsimp only at hza8 hzb8 h
  refine Run.seq (Run.sr (X.mv ?_))
  refine X.mv ?_
  refine X.lenY false 63 elt76 (by rfl) (by exact List.length_map ..) (by rfl) ?_
  refine X.bi ?_
  refine X.nil ?_
  refine R.cd (fun hc13=>?_) (fun hc13=>?_)
  ·obtain ⟨x11,xs12,hd8,hx8,hds8,hlt8⟩:=drop_atI hza8 hc13
   rw [hd8] at h
   rw [w_toIntSS_L1] at h
   refine Run.skip (Run.seq (Run.block (Run.reg (X.mv ?_))))
   refine X.mv ?_
   refine X.mv ?_
   refine X.mv ?_
   refine X.indexY false 63 elt76 (by rfl) (by rfl) (idxL_spec hx8).1 (idxL_map l_int hx8) (by rfl) (by rfl) ?_
   refine X.loadY false 63 shp25 (by rfl) (by rfl) (by rfl) (by rfl) ?_
   obtain ⟨v14,hv14,h⟩:=bindE h
   refine X.callM [(63,63)] (w_toIntS_pc _ _ hv14) (by rfl) (by rfl) (.yngB 63 (by rfl) (by rfl) .nil) (by rfl) ⟨rfl,rfl,⟨_,by rfl,by constructor⟩,by constructor,trivial⟩ (by rfl) (by rfl) (by rfl) (by rfl) (by rfl) (by rfl) (by rfl) (by rfl) (by rfl) ?_
   obtain ⟨v15,hv15,h⟩:=bindE h
   refine X.index_xs elt76 (by rfl) (by rfl) (by first | rfl | simp [setL] | omega) (by rfl) (by exact (Int.toNat_of_nonneg (idxL_spec hv15).1).symm) (by have:=idxL_lt hv15;first | exact this | (rw [List.length_map];exact this)) (by rfl) (by rfl) ?_
   refine X.store_es shp25 (by rfl) (by rfl) (by first | rfl | simp [setL] | omega) (idxL_map _ hv15) (by rfl) (by rfl) (by repeat (first | trivial | refine ⟨by first | rfl | simp [setL],?_⟩)) (by rfl) (by rfl) (by rfl) (by rfl) (by exact setL_map _ _ _ v14) ?_
   refine X.nil (Run.blk (Run.reg (X.mv ?_)))
   refine X.ad ?_
   refine X.an ?_
   refine R.castS (t:=3) (.own 448 ((setL a10 z9 v14).map l_int).length) (by rfl) (.inl (by first | rfl | simp [setL])) ?_
   exact R.ag hag8 (n8 - 1) (z9+1,(setL a10 z9 v14)) (R.n3 (by first | (rw [hds8];exact h) | (dsimp only;rw [hds8];exact h)))
  rw [drop_endI hza8 hc13] at h
  rw [w_toIntSS_L1] at h
  refine Run.exit (by rfl) ?_
  exact R.mt hmeet4 a10 (Option.some.inj h)
 rintro p16 rfl
 refine Run.sr (X.mv ?_)
 refine X.an ?_
 cases h
 refine R.pubObj (n:=448) (by rfl) ?_
 exact R.finM1o Tryz.results78 (by rfl) (by rfl) (by first | rfl | simp [setL] | omega) (by rfl) (by repeat (first | exact trivial | refine ⟨by rfl,?_⟩)) rfl
theorem w_toResource_pc (b0:TResource)(r:TResource)(h:w_toResource b0=some r):PCM Tryz.prog 48 [.agg [.yng 63 (.slice (b0.Steps.map eTStep)),.yng 63 (.slice (b0.Setup.map l_int))]] [(63,.yreg false false)] (.agg [.fresh false 141 2 (r.Steps.map eTStep),.fresh false 25 1 (r.Setup.map l_int)]) [(63,.yreg false false)]:=by
 unfold w_toResource at h
 refine PCM.start Tryz.func48 Tryz.ntmps48 rfl (by kernel_rfl) rfl (by rfl) (by rfl) (by rfl) (by rfl) (by rfl) ?_
 refine Run.sr (X.bx ?_)
 refine X.alloc zer97 (h:=?_)
 refine X.nil (Run.sr (X.alloc zer97 (h:=?_)))
 refine X.nil (Run.sr (X.fl fld78_0 ?_))
 refine X.ld shp75 ?_
 obtain ⟨v1,hv1,h⟩:=bindE h
 refine X.callM [(63,63)] (w_toStepS_pc _ _ hv1) (by rfl) (by rfl) (.yngB 63 (by rfl) (by rfl) .nil) (by rfl) ⟨rfl,rfl,⟨_,by rfl,by constructor⟩,by constructor,trivial⟩ (by rfl) (by rfl) (by rfl) (by rfl) (by rfl) (by rfl) (by rfl) (by rfl) (by rfl) ?_
 refine X.fl fld97_0 ?_
 refine X.sl shp95 ?_
 refine X.nil (Run.sr (X.fl fld78_1 ?_))
 refine X.ld shp76 ?_
 obtain ⟨v2,hv2,h⟩:=bindE h
 refine X.callM [(63,63)] (w_toIntSS_pc _ _ hv2) (by rfl) (by rfl) (.yngB 63 (by rfl) (by rfl) .nil) (by rfl) ⟨rfl,rfl,⟨_,by rfl,by constructor⟩,by constructor,trivial⟩ (by rfl) (by rfl) (by rfl) (by rfl) (by rfl) (by rfl) (by rfl) (by rfl) (by rfl) ?_
 refine X.fl fld97_1 ?_
 refine X.sl shp76 ?_
 refine X.nil (Run.sr (X.ld shp97 ?_))
 refine X.sl shp97 ?_
 refine X.nil ?_
 cases h
 exact R.finMC Tryz.results48 shp97 (by rfl) (by rfl) (by rfl) (by rfl) (by repeat (first | trivial | refine ⟨by first | rfl | simp [setL],?_⟩)) (by rfl) (by repeat (first | exact trivial | refine ⟨by rfl,?_⟩)) rfl
theorem w_toResourceS_pc (b0:List TResource)(r:List TResource)(h:w_toResourceS b0=some r):PCM Tryz.prog 22 [.yng 63 (.slice (b0.map eTResource))] [(63,.yreg false false)] (.fresh false 97 2 (r.map eTResource)) [(63,.yreg false false)]:=by
 unfold w_toResourceS at h
 refine PCM.start Tryz.func22 Tryz.ntmps22 rfl (by kernel_rfl) rfl (by rfl) (by rfl) (by rfl) (by rfl) (by rfl) ?_
 refine Run.sr (X.an ?_)
 refine Run.sr (X.mv ?_)
 refine X.lenY false 63 elt24 (by rfl) (by exact List.length_map ..) (by rfl) ?_
 obtain ⟨v1,hv1,h⟩:=bindE h
 refine X.makeSlice2 eTResource hv1 elt34 zer97 (by rfl) (by rfl) (by rfl) (by simp [PV.plain]) (by rfl) (by rfl) (by rfl) (by rfl) (by rfl) (by rfl) ?_
 refine X.an ?_
 refine Run.seq (Run.sr (X.an ?_))
 obtain ⟨o2,ho2,h⟩:=bindE h
 refine R.join2 (β:=(List TResource)) [] [(63,.yreg false false)] (fun p16 S=>(3,.own 448 (p16.map eTResource).length)::S) (fun p16 M=>(448,.obj true 97 2 (p16.map eTResource))::M) (fun p16=>p16=o2) ?_ ?_
 ·intro JJ5 hmeet4
  have hup3:=h;clear h;have h:=ho2;clear ho2
  refine Run.block ?_
  refine R.bndY false 63 (t:=0) (by rfl) (fun hbd8=>?_)
  replace hbd8:b0.length≤9223372036854775807:=by first | (rw [List.length_map] at hbd8;exact hbd8) | simp
  refine R.lp (β:=Int×(List TResource)) [(0,.yng 63 (.slice (b0.map eTResource)))] [(63,.yreg false false)] (fun bb S=>(3,.own 448 (bb.2.map eTResource).length)::(4,int bb.1)::S) (fun bb M=>(448,.obj true 97 2 (bb.2.map eTResource))::M) (fun n bb=>0≤bb.1∧bb.1+n=(b0.length:Int)∧w_toResourceS_L1 (b0.drop bb.1.toNat) bb.1 bb.2=some o2) b0.length (0,v1) ⟨Int.le_refl _,by simp,h⟩ ?_
  clear h
  rintro JJ8 n8 ⟨z9,a10⟩ hag8 ⟨hza8,hzb8,h⟩
  dsimp only at hza8 hzb8 h
  refine Run.seq (Run.sr (X.mv ?_))
  refine X.mv ?_
  refine X.lenY false 63 elt24 (by rfl) (by exact List.length_map ..) (by rfl) ?_
  refine X.bi ?_
  refine X.nil ?_
  refine R.cd (fun hc13=>?_) (fun hc13=>?_)
  ·obtain ⟨x11,xs12,hd8,hx8,hds8,hlt8⟩:=drop_atI hza8 hc13
   rw [hd8] at h
   rw [w_toResourceS_L1] at h
   refine Run.skip (Run.seq (Run.block (Run.reg (X.mv ?_))))
   refine X.mv ?_
   refine X.mv ?_
   refine X.mv ?_
   refine X.indexY false 63 elt24 (by rfl) (by rfl) (idxL_spec hx8).1 (idxL_map eTResource hx8) (by rfl) (by rfl) ?_
   refine X.loadY false 63 shp78 (by rfl) (by rfl) (by rfl) (by rfl) ?_
   obtain ⟨v14,hv14,h⟩:=bindE h
   refine X.callM [(63,63)] (w_toResource_pc _ _ hv14) (by rfl) (by rfl) (.agg _ _ _ _ _ _ (.yngB 63 (by rfl) (by rfl) (.yngB 63 (by rfl) (by rfl) .nil)) .nil) (by rfl) ⟨rfl,rfl,⟨_,by rfl,by constructor⟩,by constructor,trivial⟩ (by rfl) (by rfl) (by rfl) (by rfl) (by rfl) (by rfl) (by rfl) (by rfl) (by rfl) ?_
   obtain ⟨v15,hv15,h⟩:=bindE h
   refine X.index_xs elt34 (by rfl) (by rfl) (by first | rfl | simp [setL] | omega) (by rfl) (by exact (Int.toNat_of_nonneg (idxL_spec hv15).1).symm) (by have:=idxL_lt hv15;first | exact this | (rw [List.length_map];exact this)) (by rfl) (by rfl) ?_
   refine X.store_es shp97 (by rfl) (by rfl) (by first | rfl | simp [setL] | omega) (idxL_map _ hv15) (by rfl) (by rfl) (by repeat (first | trivial | refine ⟨by first | rfl | simp [setL],?_⟩)) (by rfl) (by rfl) (by rfl) (by rfl) (by exact setL_map _ _ _ v14) ?_
   refine X.nil (Run.blk (Run.reg (X.mv ?_)))
   refine X.ad ?_
   refine X.an ?_
   refine R.castS (t:=3) (.own 448 ((setL a10 z9 v14).map eTResource).length) (by rfl) (.inl (by first | rfl | simp [setL])) ?_
   exact R.ag hag8 (n8 - 1) (z9+1,(setL a10 z9 v14)) (R.n3 (by first | (rw [hds8];exact h) | (dsimp only;rw [hds8];exact h)))
  rw [drop_endI hza8 hc13] at h
  rw [w_toResourceS_L1] at h
  refine Run.exit (by rfl) ?_
  exact R.mt hmeet4 a10 (Option.some.inj h)
 rintro p16 rfl
 refine Run.sr (X.mv ?_)
 refine X.an ?_
 cases h
 refine R.pubObj (n:=448) (by rfl) ?_
 exact R.finM1o Tryz.results22 (by rfl) (by rfl) (by first | rfl | simp [setL] | omega) (by rfl) (by repeat (first | exact trivial | refine ⟨by rfl,?_⟩)) rfl
theorem w_toProject_pc (b0:TProject)(r:TProject)(h:w_toProject b0=some r):PCM Tryz.prog 6 [.agg [int b0.Deadline,.yng 63 (.slice (b0.Activities.map eTActivity)),.yng 63 (.slice (b0.Links.map eTLink)),.yng 63 (.slice (b0.Resources.map eTResource)),.yng 63 (.slice (b0.Stocks.map int))]] [(63,.yreg false false)] (.agg [int r.Deadline,.fresh false 89 3 (r.Activities.map eTActivity),.fresh false 92 4 (r.Links.map eTLink),.fresh false 97 2 (r.Resources.map eTResource),.fresh false 3 1 (r.Stocks.map int)]) [(63,.yreg false false)]:=by
 unfold w_toProject at h
 refine PCM.start Tryz.func6 Tryz.ntmps6 rfl (by kernel_rfl) rfl (by rfl) (by rfl) (by rfl) (by rfl) (by rfl) ?_
 refine Run.sr (X.bx ?_)
 refine X.alloc zer36 (h:=?_)
 refine X.nil (Run.sr (X.alloc zer36 (h:=?_)))
 refine X.nil (Run.sr (X.fl fld27_0 ?_))
 refine X.ld shp3 ?_
 refine X.fl fld36_0 ?_
 refine X.sl shp3 ?_
 refine X.nil (Run.sr (X.fl fld27_1 ?_))
 refine X.ld shp22 ?_
 obtain ⟨v1,hv1,h⟩:=bindE h
 refine X.callM [(63,63)] (w_toActivityS_pc _ _ hv1) (by rfl) (by rfl) (.yngB 63 (by rfl) (by rfl) .nil) (by rfl) ⟨rfl,rfl,⟨_,by rfl,by constructor⟩,by constructor,trivial⟩ (by rfl) (by rfl) (by rfl) (by rfl) (by rfl) (by rfl) (by rfl) (by rfl) (by rfl) ?_
 refine X.fl fld36_1 ?_
 refine X.sl shp32 ?_
 refine X.nil (Run.sr (X.fl fld27_2 ?_))
 refine X.ld shp23 ?_
 obtain ⟨v2,hv2,h⟩:=bindE h
 refine X.callM [(63,63)] (w_toLinkS_pc _ _ hv2) (by rfl) (by rfl) (.yngB 63 (by rfl) (by rfl) .nil) (by rfl) ⟨rfl,rfl,⟨_,by rfl,by constructor⟩,by constructor,trivial⟩ (by rfl) (by rfl) (by rfl) (by rfl) (by rfl) (by rfl) (by rfl) (by rfl) (by rfl) ?_
 refine X.fl fld36_2 ?_
 refine X.sl shp33 ?_
 refine X.nil (Run.sr (X.fl fld27_3 ?_))
 refine X.ld shp24 ?_
 obtain ⟨v3,hv3,h⟩:=bindE h
 refine X.callM [(63,63)] (w_toResourceS_pc _ _ hv3) (by rfl) (by rfl) (.yngB 63 (by rfl) (by rfl) .nil) (by rfl) ⟨rfl,rfl,⟨_,by rfl,by constructor⟩,by constructor,trivial⟩ (by rfl) (by rfl) (by rfl) (by rfl) (by rfl) (by rfl) (by rfl) (by rfl) (by rfl) ?_
 refine X.fl fld36_3 ?_
 refine X.sl shp34 ?_
 refine X.nil (Run.sr (X.fl fld27_4 ?_))
 refine X.ld shp25 ?_
 obtain ⟨v4,hv4,h⟩:=bindE h
 refine X.callM [(63,63)] (w_toIntS_pc _ _ hv4) (by rfl) (by rfl) (.yngB 63 (by rfl) (by rfl) .nil) (by rfl) ⟨rfl,rfl,⟨_,by rfl,by constructor⟩,by constructor,trivial⟩ (by rfl) (by rfl) (by rfl) (by rfl) (by rfl) (by rfl) (by rfl) (by rfl) (by rfl) ?_
 refine X.fl fld36_4 ?_
 refine X.sl shp25 ?_
 refine X.nil (Run.sr (X.ld shp36 ?_))
 refine X.sl shp36 ?_
 refine X.nil ?_
 cases h
 exact R.finMC Tryz.results6 shp36 (by rfl) (by rfl) (by rfl) (by rfl) (by repeat (first | trivial | refine ⟨by first | rfl | simp [setL],?_⟩)) (by rfl) (by repeat (first | exact trivial | refine ⟨by rfl,?_⟩)) rfl
theorem s_SplitAny_pc (b0:ByteArray)(b1:ByteArray)(r:List ByteArray)(h:s_SplitAny b0 b1=some r):PC Tryz.prog 40 [str b0,str b1] (.fresh false 9 1 (r.map str)):=by
 unfold s_SplitAny at h
 refine PC.start Tryz.func40 Tryz.ntmps40 rfl (by kernel_rfl) rfl ?_
 refine Run.sr (X.an ?_)
 refine Run.sr ?_
 refine X.buildSlice false elt47 zer9 (by rfl) (by rfl) (by rfl) (by rfl) (by rfl) (by rfl) (by repeat (first | trivial | refine ⟨by first | rfl | simp [setL],?_⟩)) (allSz_spec (by rfl)) (by rfl) (by rfl) (by rfl) ?_
 refine X.an ?_
 refine Run.sr (X.an ?_)
 refine Run.seq (Run.sr (X.an ?_))
 obtain ⟨o1,ho1,h⟩:=bindE h
 refine R.join2 (β:=Int×(List ByteArray)) [(0,str b0)] [] (fun p29 S=>(5,.own 576 (p29.2.map str).length)::(6,int p29.1)::S) (fun p29 M=>(576,.obj false 9 1 (p29.2.map str))::M) (fun p29=>p29=o1) ?_ ?_
 ·intro JJ4 hmeet3
  have hup2:=h;clear h;have h:=ho1;clear ho1
  refine Run.block ?_
  refine R.lp (β:=Int×Int×(List ByteArray)) [(0,str b0),(1,str b1)] [] (fun bb S=>(5,.own 576 (bb.2.2.map str).length)::(6,int bb.1)::(7,int bb.2.1)::S) (fun bb M=>(576,.obj false 9 1 (bb.2.2.map str))::M) (fun n bb=>s_SplitAny_L1 b0 b1 n bb.1 bb.2.1 bb.2.2=some o1) F0 (0,0,([]:List ByteArray)) h ?_
  clear h
  rintro JJ5 n5 ⟨a7,a8,a9⟩ hag5 h
  dsimp only at h
  obtain _ | n5:=n5
  ·exact absurd h (by simp [s_SplitAny_L1])
  rw [s_SplitAny_L1] at h
  refine Run.seq (Run.sr (X.mv ?_))
  refine X.mv ?_
  refine X.lenStr Tryz.underlying9 (by rfl) (by rfl) ?_
  refine X.bi ?_
  refine X.nil ?_
  refine R.cd (fun hc12=>?_) (fun hc12=>?_)
  ·replace h:=condT hc12 h
   refine Run.skip (Run.seq (Run.block (Run.sr (X.an ?_))))
   obtain ⟨o13,ho13,h⟩:=bindE h
   refine R.join2 (β:=Int×(List ByteArray)) [(0,str b0),(1,str b1),(7,int a8)] [] (fun p28 S=>(5,.own 576 (p28.2.map str).length)::(6,int p28.1)::S) (fun p28 M=>(576,.obj false 9 1 (p28.2.map str))::M) (fun p28=>p28=o13) ?_ ?_
   ·intro JJ16 hmeet15
    have hup14:=h;clear h;have h:=ho13;clear ho13
    refine Run.block ?_
    refine R.lp (β:=Int) [(0,str b0),(1,str b1),(6,int a7),(7,int a8)] [(576,.obj false 9 1 (a9.map str))] (fun bb S=>(5,.own 576 (a9.map str).length)::(8,int bb)::S) (fun bb M=>M) (fun n bb=>s_SplitAny_L2 b0 b1 a7 a8 a9 n bb=some o13) F0 0 h ?_
    clear h
    rintro JJ17 n17 a19 hag17 h
    obtain _ | n17:=n17
    ·exact absurd h (by simp [s_SplitAny_L2])
    rw [s_SplitAny_L2] at h
    refine Run.seq (Run.sr (X.mv ?_))
    refine X.mv ?_
    refine X.lenStr Tryz.underlying9 (by rfl) (by rfl) ?_
    refine X.bi ?_
    refine X.nil ?_
    refine R.cd (fun hc22=>?_) (fun hc22=>?_)
    ·replace h:=condT hc22 h
     refine Run.skip (Run.seq (Run.block (Run.seq (Run.draw (footOf []) mixed (by kernel_rfl) (by kernel_rfl) ?_))))
     refine X.mv ?_
     refine X.mv ?_
     obtain ⟨v23,hv23,h⟩:=bindE h
     refine X.indexStr2 hv23 Tryz.underlying9 (by rfl) (by rfl) (by rfl) ?_
     refine X.mv ?_
     refine X.mv ?_
     obtain ⟨v24,hv24,h⟩:=bindE h
     refine X.indexStr2 hv24 Tryz.underlying9 (by rfl) (by rfl) (by rfl) ?_
     refine X.bi ?_
     refine X.nil ?_
     refine R.cd (fun hc25=>?_) (fun hc25=>?_)
     ·replace h:=condT hc25 h
      refine Run.sr (X.mv ?_)
      refine X.mv ?_
      refine X.mv ?_
      refine X.mv ?_
      obtain ⟨v26,hv26,h⟩:=bindE h
      refine X.sliceStr2 hv26 Tryz.underlying9 (by rfl) ⟨_,by rfl⟩ ⟨_,by rfl⟩ (by rfl) ?_
      refine X.buildSlice false elt47 zer9 (by rfl) (by rfl) (by rfl) (by rfl) (by rfl) (by rfl) (by repeat (first | trivial | refine ⟨by first | rfl | simp [setL],?_⟩)) (allSz_spec (by rfl)) (by rfl) (by rfl) (by rfl) ?_
      obtain ⟨v27,hv27,h⟩:=bindE h
      refine X.append elt47 zer9 (by rfl) (by rfl) (by first | rfl | simp [setL] | omega) (by rfl) (.own _ _ _ _ _ _ (look_mem (by rfl)) (by first | rfl | simp [setL] | omega)) (allSz_spec (by rfl)) (appL_len str hv27) (appL_map str hv27) (by rfl) (by rfl) (by rfl) (by rfl) ?_
      refine X.an ?_
      refine Run.sr (X.mv ?_)
      refine X.addW (h:=?_)
      refine X.an ?_
      refine Run.exit (by rfl) ?_
      exact R.mt hmeet15 ((W (a8+1)),v27) (Option.some.inj h)
     replace h:=condF hc25 h
     refine Run.skip (Run.blk (Run.reg (X.mv ?_)))
     refine X.addW (h:=?_)
     refine X.an ?_
     exact hag17 n17 (W (a19+1)) _ _ (by omega) h (by repeat (first | trivial | refine ⟨by first | rfl | simp [setL],?_⟩)) (by repeat (first | trivial | refine ⟨by first | rfl | simp [setL],?_⟩)) (by rfl) (by rfl)
    replace h:=condF hc22 h
    refine Run.exit (by rfl) ?_
    exact R.mt hmeet15 (a7,a9) (Option.some.inj h)
   rintro p28 rfl
   refine Run.blk (Run.reg (X.mv ?_))
   refine X.addW (h:=?_)
   refine X.an ?_
   exact hag5 n5 (p28.1,(W (a8+1)),p28.2) _ _ (by omega) h (by repeat (first | trivial | refine ⟨by first | rfl | simp [setL],?_⟩)) (by repeat (first | trivial | refine ⟨by first | rfl | simp [setL],?_⟩)) (by rfl) (by rfl)
  replace h:=condF hc12 h
  refine Run.exit (by rfl) ?_
  exact R.mt hmeet3 (a7,a9) (Option.some.inj h)
 rintro p29 rfl
 refine Run.sr (X.mv ?_)
 refine X.mv ?_
 refine X.mv ?_
 obtain ⟨v30,hv30,h⟩:=bindE h
 refine X.sliceStr2 hv30 Tryz.underlying9 (by rfl) ⟨_,by rfl⟩ (by rfl) (by rfl) ?_
 refine X.buildSlice false elt47 zer9 (by rfl) (by rfl) (by rfl) (by rfl) (by rfl) (by rfl) (by repeat (first | trivial | refine ⟨by first | rfl | simp [setL],?_⟩)) (allSz_spec (by rfl)) (by rfl) (by rfl) (by rfl) ?_
 obtain ⟨v31,hv31,h⟩:=bindE h
 refine X.append elt47 zer9 (by rfl) (by rfl) (by first | rfl | simp [setL] | omega) (by rfl) (.own _ _ _ _ _ _ (look_mem (by rfl)) (by first | rfl | simp [setL] | omega)) (allSz_spec (by rfl)) (appL_len str hv31) (appL_map str hv31) (by rfl) (by rfl) (by rfl) (by rfl) ?_
 refine X.an ?_
 cases h
 refine R.fin1o Tryz.results40 (by rfl) (by rfl) (by first | rfl | simp [setL] | omega) ?_
 rfl
theorem s_SplitLines_pc (b0:ByteArray)(r:List ByteArray)(h:s_SplitLines b0=some r):PC Tryz.prog 17 [str b0] (.slice (r.map str)):=by
 unfold s_SplitLines at h
 refine PC.start Tryz.func17 Tryz.ntmps17 rfl (by kernel_rfl) rfl ?_
 refine Run.sr (X.an ?_)
 refine Run.sr (X.mv ?_)
 obtain ⟨v1,hv1,h⟩:=bindE h
 refine X.callF (s_SplitAny_pc _ _ _ hv1) (by rfl) (by rfl) (by rfl) (by trivial) (by rfl) (by rfl) (by rfl) (by rfl) ?_
 refine X.an ?_
 refine Run.seq (Run.sr (X.mv ?_))
 refine X.mv ?_
 refine X.len_o elt47 (by rfl) (by rfl) (by first | rfl | simp [setL] | omega) (by first | exact List.length_map .. | rfl) (by rfl) (by rfl) ?_
 refine X.subW (h:=?_)
 obtain ⟨v2,hv2,h⟩:=bindE h
 refine X.index_o elt47 (by rfl) (by rfl) (by first | rfl | simp [setL] | omega) (by rfl) (idxL_spec hv2).1 (idxL_map str hv2) (by rfl) (by rfl) (by rfl) ?_
 refine X.lc shp9 ?_
 refine X.bi ?_
 refine X.nil ?_
 refine R.cd (fun hc3=>?_) (fun hc3=>?_)
 ·replace h:=condT hc3 h
  refine Run.reg (X.mv ?_)
  refine X.mv ?_
  refine X.len_o elt47 (by rfl) (by rfl) (by first | rfl | simp [setL] | omega) (by first | exact List.length_map .. | rfl) (by rfl) (by rfl) ?_
  refine X.subW (h:=?_)
  obtain ⟨v4,hv4,h⟩:=bindE h
  refine X.sliceO2 elt47 (by rfl) (by rfl) (by first | rfl | simp [setL] | omega) (by rfl) ⟨_,by rfl⟩ (subL_le _ hv4) (subL_map _ hv4) (by rfl) (by rfl) ?_
  refine X.an ?_
  refine Run.sr (X.mv ?_)
  refine X.an ?_
  cases h
  refine R.f1 Tryz.results17 ?_
  rfl
 replace h:=condF hc3 h
 refine Run.skip (Run.sr (X.mv ?_))
 refine X.an ?_
 cases h
 refine R.castS (t:=2) _ (by rfl) (.inr (.inr ⟨_,_,_,_,_,rfl,(by rfl),(by first | rfl | simp [setL] | omega),rfl⟩)) ?_
 refine R.f1 Tryz.results17 ?_
 rfl
theorem s_l21Swap_pc (b0:ByteArray)(b1:Int)(b2:Int)(r:ByteArray)(h:s_l21Swap b0 b1 b2=some r):PC Tryz.prog 42 [str b0,e_u8 b1,e_u8 b2] (str r):=by
 unfold s_l21Swap at h
 refine PC.start Tryz.func42 Tryz.ntmps42 rfl (by kernel_rfl) rfl ?_
 refine Run.sr (X.an ?_)
 refine Run.sr (X.mv ?_)
 obtain ⟨v1,hv1,h⟩:=bindE h
 refine X.convSB e_u8 (fun _=>rfl) hv1 Tryz.underlying9 Tryz.underlying121 Tryz.underlying5 (by rfl) (by rfl) (by rfl) (by rfl) (by rfl) ?_
 refine X.an ?_
 refine Run.seq (Run.sr (X.mv ?_))
 refine X.len_o elt121 (by rfl) (by rfl) (by first | rfl | simp [setL] | omega) (by first | exact List.length_map .. | rfl) (by rfl) (by rfl) ?_
 refine X.mn ?_
 obtain ⟨o2,ho2,h⟩:=bindE h
 refine R.join2 (β:=(List Int)) [] [] (fun p15 S=>(7,.own 704 (p15.map e_u8).length)::S) (fun p15 M=>(704,.obj true 1099511627781 1 (p15.map e_u8))::M) (fun p15=>p15=o2) ?_ ?_
 ·intro JJ5 hmeet4
  have hup3:=h;clear h;have h:=ho2;clear ho2
  refine Run.block ?_
  refine R.lp (β:=Int×(List Int)) [(1,e_u8 b1),(2,e_u8 b2),(13,int (v1.length:Int))] [] (fun bb S=>(7,.own 704 (bb.2.map e_u8).length)::(12,.own 704 (bb.2.map e_u8).length)::(14,int bb.1)::S) (fun bb M=>(704,.obj true 1099511627781 1 (bb.2.map e_u8))::M) (fun n bb=>s_l21Swap_L1 b1 b2 v1 n bb.1 bb.2=some o2) F0 (0,v1) h ?_
  clear h
  rintro JJ6 n6 ⟨a8,a9⟩ hag6 h
  dsimp only at h
  obtain _ | n6:=n6
  ·exact absurd h (by simp [s_l21Swap_L1])
  rw [s_l21Swap_L1] at h
  refine Run.sr (X.bi ?_)
  refine X.nil (Run.seq ?_)
  refine R.cd (fun hc12=>?_) (fun hc12=>?_)
  ·replace h:=condT hc12 h
   refine Run.skip (Run.seq (Run.block (Run.sr (X.mv ?_))))
   obtain ⟨v13,hv13,h⟩:=bindE h
   refine X.index_xs elt121 (by rfl) (by rfl) (by first | rfl | simp [setL] | omega) (by rfl) (by exact (Int.toNat_of_nonneg (idxL_spec hv13).1).symm) (by have:=idxL_lt hv13;first | exact this | (rw [List.length_map];exact this)) (by rfl) (by rfl) ?_
   refine X.load_e shp5 (by rfl) (by rfl) (by rfl) (by first | rfl | simp [setL] | omega) (idxL_map _ hv13) (by rfl) (by rfl) (by rfl) ?_
   refine X.as ?_
   refine X.an ?_
   refine Run.sr (X.mv ?_)
   refine X.mv ?_
   refine X.bi ?_
   refine X.nil ?_
   refine R.cd (fun hc14=>?_) (fun hc14=>?_)
   ·replace h:=condT hc14 h
    refine Run.reg (X.mv ?_)
    refine X.mv ?_
    refine X.mv ?_
    refine X.index_xs elt121 (by rfl) (by rfl) (by first | rfl | simp [setL] | omega) (by rfl) (by exact (Int.toNat_of_nonneg (idxL_spec hv13).1).symm) (by have:=idxL_lt hv13;first | exact this | (rw [List.length_map];exact this)) (by rfl) (by rfl) ?_
    refine X.store_es shp5 (by rfl) (by rfl) (by first | rfl | simp [setL] | omega) (idxL_map _ hv13) (by rfl) (by rfl) (by repeat (first | trivial | refine ⟨by first | rfl | simp [setL],?_⟩)) (by rfl) (by rfl) (by rfl) (by rfl) (by exact setL_map _ _ _ b2) ?_
    refine X.nil (Run.blk (Run.reg (X.addW (h:=?_))))
    refine X.mn ?_
    refine R.castS (t:=7) (.own 704 ((setL a9 a8 b2).map e_u8).length) (by rfl) (.inl (by first | rfl | simp [setL])) ?_
    refine R.castS (t:=12) (.own 704 ((setL a9 a8 b2).map e_u8).length) (by rfl) (.inl (by first | rfl | simp [setL])) ?_
    exact hag6 n6 ((W (a8+1)),(setL a9 a8 b2)) _ _ (by omega) h (by repeat (first | trivial | refine ⟨by first | rfl | simp [setL],?_⟩)) (by repeat (first | trivial | refine ⟨by first | rfl | simp [setL],?_⟩)) (by rfl) (by rfl)
   replace h:=condF hc14 h
   refine Run.skip (Run.blk (Run.reg (X.addW (h:=?_))))
   refine X.mn ?_
   exact hag6 n6 ((W (a8+1)),a9) _ _ (by omega) h (by repeat (first | trivial | refine ⟨by first | rfl | simp [setL],?_⟩)) (by repeat (first | trivial | refine ⟨by first | rfl | simp [setL],?_⟩)) (by rfl) (by rfl)
  replace h:=condF hc12 h
  refine Run.exit (by rfl) ?_
  exact R.mt hmeet4 a9 (Option.some.inj h)
 rintro p15 rfl
 refine Run.sr (X.mv ?_)
 refine X.convBS p15 Tryz.underlying121 Tryz.underlying5 Tryz.underlying9 (by rfl) (.own _ _ _ _ _ _ (look_mem (by rfl)) (by first | rfl | simp [setL] | omega)) (by rfl) (by rfl) (by rfl) ?_
 refine X.an ?_
 cases h
 refine R.f1 Tryz.results42 ?_
 rfl
theorem s_l01In_pc (b0:Int)(b1:Int)(b2:Int)(r:Bool)(h:s_l01In b0 b1 b2=some r):PC Tryz.prog 97 [int b0,int b1,int b2] (bool r):=by
 unfold s_l01In at h
 refine PC.start Tryz.func97 Tryz.ntmps97 rfl (by kernel_rfl) rfl ?_
 refine Run.sr (X.an ?_)
 refine Run.seq ?_
 obtain ⟨e1,he1,h2⟩:=bindE h
 refine R.regG [(6,bool e1)] [] ?_ ?_
 ·clear h;have h:=he1;clear he1 h2
  refine X.mv ?_
  refine X.mv ?_
  refine X.bi ?_
  refine X.mv ?_
  refine X.iG (fun hb2=>?_) (fun hb2=>?_)
  ·replace h:=condT hb2 h
   refine X.mv ?_
   refine X.gy (X.mv ?_)
   refine X.gy (X.bi ?_)
   refine X.pT ?_
   refine X.as ?_
   cases h
   exact X.eG
  replace h:=condF hb2 h
  refine X.gn (X.gn (X.pF ?_))
  refine X.as ?_
  cases h
  exact X.eG
 replace h:=h2;clear h2
 cases h
 refine R.f1 Tryz.results97 ?_
 rfl
theorem s_RuleName_pc (b0:Int)(r:ByteArray)(h:s_RuleName b0=some r):PC Tryz.prog 68 [int b0] (str r):=by
 unfold s_RuleName at h
 refine PC.start Tryz.func68 Tryz.ntmps68 rfl (by kernel_rfl) rfl ?_
 refine Run.sr (X.an ?_)
 refine Run.seq (Run.sr (X.mv ?_))
 obtain ⟨v1,hv1,h⟩:=bindE h
 refine X.cp (s_l01In_pc _ _ _ _ hv1) ?_
 refine X.un (h:=?_)
 refine X.nil ?_
 refine R.cd (fun hc2=>?_) (fun hc2=>?_)
 ·replace h:=condT hc2 h
  refine Run.sr (X.an ?_)
  cases h
  refine R.f1 Tryz.results68 ?_
  rfl
 replace h:=condF hc2 h
 refine Run.skip (Run.sr ?_)
 refine X.buildSlice false elt47 zer9 (by rfl) (by rfl) (by rfl) (by rfl) (by rfl) (by rfl) (by repeat (first | trivial | refine ⟨by first | rfl | simp [setL],?_⟩)) (allSz_spec (by rfl)) (by rfl) (by rfl) (by rfl) ?_
 refine X.mv ?_
 obtain ⟨v3,hv3,h⟩:=bindE h
 refine X.index_o elt47 (by rfl) (by rfl) (by first | rfl | simp [setL] | omega) (by rfl) (idxL_spec hv3).1 (idxL_map str hv3) (by rfl) (by rfl) (by rfl) ?_
 refine X.lc shp9 ?_
 refine X.an ?_
 cases h
 refine R.f1 Tryz.results68 ?_
 rfl
theorem s_FormatInt_S_pc (rec:Int→Option ByteArray)(hrec:∀(b0:Int) (r:ByteArray),rec b0=some r→PC Tryz.prog 98 [int b0] (str r))(b0:Int)(r:ByteArray)(h:s_FormatInt_S rec b0=some r):PC Tryz.prog 98 [int b0] (str r):=by
 unfold s_FormatInt_S at h
 refine PC.start Tryz.func98 Tryz.ntmps98 rfl (by kernel_rfl) rfl ?_
 refine Run.sr (X.an ?_)
 refine Run.seq (Run.sr (X.mv ?_))
 obtain ⟨v1,hv1,h⟩:=bindE h
 refine X.cp (s_l01In_pc _ _ _ _ hv1) ?_
 refine X.un (h:=?_)
 refine X.nil ?_
 refine R.cd (fun hc2=>?_) (fun hc2=>?_)
 ·replace h:=condT hc2 h
  refine Run.sr (X.an ?_)
  cases h
  refine R.f1 Tryz.results98 ?_
  rfl
 replace h:=condF hc2 h
 refine Run.skip (Run.seq (Run.sr (X.mv ?_)))
 refine X.bi ?_
 refine X.nil ?_
 refine R.cd (fun hc3=>?_) (fun hc3=>?_)
 ·replace h:=condT hc3 h
  refine Run.sr (X.mv ?_)
  refine X.un (h:=?_)
  obtain ⟨v4,hv4,h⟩:=bindE h
  refine X.cp (hrec _ _ hv4) ?_
  obtain ⟨v5,hv5,h⟩:=bindE h
  refine X.cat2 hv5 (by rfl) (by rfl) (by rfl) ?_
  refine X.an ?_
  cases h
  refine R.f1 Tryz.results98 ?_
  rfl
 replace h:=condF hc3 h
 refine Run.skip (Run.sr (X.an ?_))
 refine Run.seq ?_
 obtain ⟨o6,ho6,h⟩:=bindE h
 refine R.join2 (β:=Int×ByteArray) [] [] (fun p17 S=>(0,int p17.1)::(3,str p17.2)::S) (fun p17 M=>M) (fun p17=>p17=o6) ?_ ?_
 ·intro JJ9 hmeet8
  have hup7:=h;clear h;have h:=ho6;clear ho6
  refine Run.block ?_
  refine R.lp (β:=Int×ByteArray) [] [] (fun bb S=>(0,int bb.1)::(3,str bb.2)::S) (fun bb M=>M) (fun n bb=>s_FormatInt_L1 n bb.1 bb.2=some o6) F0 (b0,ByteArray.empty) h ?_
  clear h
  rintro JJ9 n9 ⟨a11,a12⟩ hag9 h
  dsimp only at h
  obtain _ | n9:=n9
  ·exact absurd h (by simp [s_FormatInt_L1])
  rw [s_FormatInt_L1] at h
  refine Run.seq (Run.sr (X.mv ?_))
  refine X.bi ?_
  refine X.nil ?_
  refine R.cd (fun hc15=>?_) (fun hc15=>?_)
  ·replace h:=condT hc15 h
   refine Run.skip (Run.block (Run.sr (X.mv ?_)))
   refine X.bi ?_
   refine X.addW (h:=?_)
   refine X.conv Tryz.underlying5 (by rw [Tryz.underlying3];rfl) (by rfl) (by rfl) ?_
   refine X.buildSlice false elt121 zer5 (by rfl) (by rfl) (by rfl) (by rfl) (by rfl) (by rfl) (by repeat (first | trivial | refine ⟨by first | rfl | simp [setL],?_⟩)) (allSz_spec (by rfl)) (by rfl) (by rfl) (by rfl) ?_
   refine X.convBS ([(IntKind.u8.wrap (W (48+(a11.tmod 10))))]:List Int) Tryz.underlying121 Tryz.underlying5 Tryz.underlying9 (by rfl) (.own _ _ _ _ _ _ (look_mem (by rfl)) (by first | rfl | simp [setL] | omega)) (by rfl) (by rfl) (by rfl) ?_
   refine X.mv ?_
   obtain ⟨v16,hv16,h⟩:=bindE h
   refine X.cat2 hv16 (by rfl) (by rfl) (by rfl) ?_
   refine X.an ?_
   refine Run.reg (X.mv ?_)
   refine X.bi ?_
   refine X.an ?_
   refine Run.blk ?_
   exact hag9 n9 ((W (a11.tdiv 10)),v16) _ _ (by omega) h (by repeat (first | trivial | refine ⟨by first | rfl | simp [setL],?_⟩)) (by repeat (first | trivial | refine ⟨by first | rfl | simp [setL],?_⟩)) (by rfl) (by rfl)
  replace h:=condF hc15 h
  refine Run.exit (by rfl) ?_
  exact R.mt hmeet8 (a11,a12) (Option.some.inj h)
 rintro p17 rfl
 refine Run.sr (X.mv ?_)
 refine X.addW (h:=?_)
 refine X.conv Tryz.underlying5 (by rw [Tryz.underlying3];rfl) (by rfl) (by rfl) ?_
 refine X.buildSlice false elt121 zer5 (by rfl) (by rfl) (by rfl) (by rfl) (by rfl) (by rfl) (by repeat (first | trivial | refine ⟨by first | rfl | simp [setL],?_⟩)) (allSz_spec (by rfl)) (by rfl) (by rfl) (by rfl) ?_
 refine X.convBS ([(IntKind.u8.wrap (W (48+p17.1)))]:List Int) Tryz.underlying121 Tryz.underlying5 Tryz.underlying9 (by rfl) (.own _ _ _ _ _ _ (look_mem (by rfl)) (by first | rfl | simp [setL] | omega)) (by rfl) (by rfl) (by rfl) ?_
 refine X.mv ?_
 obtain ⟨v18,hv18,h⟩:=bindE h
 refine X.cat2 hv18 (by rfl) (by rfl) (by rfl) ?_
 refine X.an ?_
 cases h
 refine R.f1 Tryz.results98 ?_
 rfl
theorem s_FormatInt_pc (b0:Int)(r:ByteArray)(h:s_FormatInt b0=some r):PC Tryz.prog 98 [int b0] (str r):=by
 have key:∀(n:Nat)(b0:Int)(r:ByteArray),s_FormatInt_R n b0=some r→PC Tryz.prog 98 [int b0] (str r):=by
  intro n
  induction n with
  | zero=>intro b0 r h;cases h
  | succ n ih=>intro b0 r h;exact s_FormatInt_S_pc (s_FormatInt_R n) ih b0 r h
 exact key F0 b0 r h
theorem s_ParseInt_pc (b0:ByteArray)(r:Int×Bool)(h:s_ParseInt b0=some r):PC Tryz.prog 69 [str b0] (.tuple [int r.1,bool r.2]):=by
 unfold s_ParseInt at h
 refine PC.start Tryz.func69 Tryz.ntmps69 rfl (by kernel_rfl) rfl ?_
 refine Run.sr (X.as ?_)
 refine X.an ?_
 refine Run.sr (X.an ?_)
 refine Run.seq ?_
 obtain ⟨e1,he1,h2⟩:=bindE h
 refine R.regG [(0,str b0),(4,int 0),(5,bool e1)] [] ?_ ?_
 ·clear h;have h:=he1;clear he1 h2
  refine X.mv ?_
  refine X.lenStr Tryz.underlying9 (by rfl) (by rfl) ?_
  refine X.bi ?_
  refine X.mv ?_
  refine X.iG (fun hb2=>?_) (fun hb2=>?_)
  ·replace h:=condT hb2 h
   refine X.mv ?_
   refine X.gy ?_
   obtain ⟨v3,hv3,h⟩:=bindE h
   refine X.indexStr2 hv3 Tryz.underlying9 (by rfl) (by rfl) (by rfl) ?_
   refine X.gy (X.bi ?_)
   refine X.pT ?_
   refine X.as ?_
   cases h
   exact X.eG
  replace h:=condF hb2 h
  refine X.gn (X.gn (X.pF ?_))
  refine X.as ?_
  cases h
  exact X.eG
 replace h:=h2;clear h2
 refine Run.seq (Run.sr (X.an ?_))
 obtain ⟨o4,ho4,h⟩:=bindE h
 refine R.join2 (β:=Int) [(0,str b0),(5,bool e1)] [] (fun p23 S=>(4,int p23)::S) (fun p23 M=>M) (fun p23=>(Sum.inl p23)=o4) ?_ ?_
 ·intro JJ7 hmeet6
  have hup5:=h;clear h;have h:=ho4;clear ho4
  refine Run.block ?_
  refine R.lp (β:=Int×Int) [(0,str b0),(5,bool e1)] [] (fun bb S=>(4,int bb.1)::(6,int bb.2)::S) (fun bb M=>M) (fun n bb=>s_ParseInt_L1 b0 e1 n bb.1 bb.2=some o4) F0 (0,0) h ?_
  clear h
  rintro JJ8 n8 ⟨a10,a11⟩ hag8 h
  dsimp only at h
  obtain _ | n8:=n8
  ·exact absurd h (by simp [s_ParseInt_L1])
  rw [s_ParseInt_L1] at h
  refine Run.seq (Run.sr (X.mv ?_))
  refine X.mv ?_
  refine X.lenStr Tryz.underlying9 (by rfl) (by rfl) ?_
  refine X.bi ?_
  refine X.nil ?_
  refine R.cd (fun hc14=>?_) (fun hc14=>?_)
  ·replace h:=condT hc14 h
   refine Run.skip (Run.seq (Run.block (Run.sr (X.mv ?_))))
   refine X.mv ?_
   obtain ⟨v15,hv15,h⟩:=bindE h
   refine X.indexStr2 hv15 Tryz.underlying9 (by rfl) (by rfl) (by rfl) ?_
   refine X.conv Tryz.underlying3 (by rw [Tryz.underlying5];rfl) (by rfl) (by rfl) ?_
   refine X.subW (h:=?_)
   refine X.an ?_
   refine Run.seq (Run.seq ?_)
   obtain ⟨e16,he16,h2⟩:=bindE h
   refine R.regG [(0,str b0),(4,int a10),(5,bool e1),(6,int a11),(7,int (W ((IntKind.i64.wrap v15) - 48))),(31,bool e16)] [] ?_ ?_
   ·clear h;have h:=he16;clear he16 h2
    refine X.mv ?_
    refine X.bi ?_
    refine X.mv ?_
    refine X.iG (fun hb17=>?_) (fun hb17=>?_)
    ·replace h:=condT hb17 h
     refine X.mv ?_
     refine X.pT ?_
     cases h
     exact X.eG
    replace h:=condF hb17 h
    refine X.pF ?_
    cases h
    exact X.eG
   replace h:=h2;clear h2
   refine R.cd (fun hc18=>?_) (fun hc18=>?_)
   ·replace h:=condT hc18 h
    refine Run.exit (by rfl) ?_
    refine Run.reg (X.mv ?_)
    refine X.addW (h:=?_)
    refine X.an ?_
    exact hag8 n8 (a10,(W (a11+1))) _ _ (by omega) h (by trivial) (by trivial) (by rfl) (by rfl)
   replace h:=condF hc18 h
   refine Run.skip (Run.seq (Run.seq ?_))
   obtain ⟨e19,he19,h2⟩:=bindE h
   refine R.regG [(0,str b0),(4,int a10),(5,bool e1),(6,int a11),(7,int (W ((IntKind.i64.wrap v15) - 48))),(42,bool e19)] [] ?_ ?_
   ·clear h;have h:=he19;clear he19 h2
    refine X.mv ?_
    refine X.bi ?_
    refine X.mv ?_
    refine X.iG (fun hb20=>?_) (fun hb20=>?_)
    ·replace h:=condF hb20 h
     refine X.mv ?_
     refine X.gy (X.bi ?_)
     refine X.pF ?_
     refine X.mv ?_
     refine X.iG (fun hb21=>?_) (fun hb21=>?_)
     ·replace h:=condF hb21 h
      refine X.mv ?_
      refine X.gy (X.lenStr Tryz.underlying9 (by rfl) (by rfl) ?_)
      refine X.gy (X.bi ?_)
      refine X.pF ?_
      cases h
      exact X.eG
     replace h:=condT hb21 h
     refine X.gn (X.gn (X.pT ?_))
     cases h
     exact X.eG
    replace h:=condT hb20 h
    refine X.gn (X.pT ?_)
    refine X.mv ?_
    refine X.gn (X.gn (X.gn (X.pT ?_)))
    cases h
    exact X.eG
   replace h:=h2;clear h2
   refine R.cd (fun hc22=>?_) (fun hc22=>?_)
   ·replace h:=condT hc22 h
    refine Run.sr (X.as ?_)
    refine X.an ?_
    cases h
    have h:=hup5
    replace h:=elimR h
    cases h
    refine R.fin2 Tryz.results69 (by rfl) (by rfl) (by rfl) (by repeat (first | trivial | refine ⟨by first | rfl | simp [setL],?_⟩)) ?_
    rfl
   replace h:=condF hc22 h
   refine Run.skip (Run.reg (X.mv ?_))
   refine X.mulW (by rfl) (by rfl) (by rfl) ?_
   refine X.mv ?_
   refine X.addW (h:=?_)
   refine X.an ?_
   refine Run.blk (Run.reg (X.mv ?_))
   refine X.addW (h:=?_)
   refine X.an ?_
   exact hag8 n8 ((W ((W (a10*10))+(W ((IntKind.i64.wrap v15) - 48)))),(W (a11+1))) _ _ (by omega) h (by trivial) (by trivial) (by rfl) (by rfl)
  replace h:=condF hc14 h
  refine Run.exit (by rfl) ?_
  exact R.mt hmeet6 a10 (Option.some.inj h)
 rintro p23 rfl
 replace h:=elimL h
 refine Run.seq (Run.sr (X.mn ?_))
 obtain ⟨o25,ho25,h⟩:=bindE h
 refine R.join2 (β:=Int) [(0,str b0)] [] (fun p30 S=>(4,int p30)::S) (fun p30 M=>M) (fun p30=>p30=o25) ?_ ?_
 ·intro JJ28 hmeet27
  have hup26:=h;clear h;have h:=ho25;clear ho25
  refine R.cd (fun hc29=>?_) (fun hc29=>?_)
  ·replace h:=condT hc29 h
   refine Run.reg (X.mv ?_)
   refine X.un (h:=?_)
   refine X.an ?_
   exact R.mt hmeet27 (W (0 - p23)) (Option.some.inj h)
  replace h:=condF hc29 h
  refine Run.skip ?_
  exact R.mt hmeet27 p23 (Option.some.inj h)
 rintro p30 rfl
 refine Run.seq (Run.seq ?_)
 obtain ⟨e31,he31,h2⟩:=bindE h
 refine R.regG [(4,int p30),(57,bool e31)] [] ?_ ?_
 ·clear h;have h:=he31;clear he31 h2
  refine X.mv ?_
  refine X.bi ?_
  refine X.mv ?_
  refine X.iG (fun hb32=>?_) (fun hb32=>?_)
  ·replace h:=condF hb32 h
   refine X.mv ?_
   refine X.gy ?_
   obtain ⟨v33,hv33,h⟩:=bindE h
   refine X.cp (s_FormatInt_pc _ _ hv33) ?_
   refine X.gy (X.mv ?_)
   refine X.gy (X.bi ?_)
   refine X.pF ?_
   cases h
   exact X.eG
  replace h:=condT hb32 h
  refine X.gn (X.gn (X.gn (X.pT ?_)))
  cases h
  exact X.eG
 replace h:=h2;clear h2
 refine R.cd (fun hc34=>?_) (fun hc34=>?_)
 ·replace h:=condT hc34 h
  refine Run.sr (X.as ?_)
  refine X.an ?_
  cases h
  refine R.fin2 Tryz.results69 (by rfl) (by rfl) (by rfl) (by repeat (first | trivial | refine ⟨by first | rfl | simp [setL],?_⟩)) ?_
  rfl
 replace h:=condF hc34 h
 refine Run.skip (Run.sr (X.mv ?_))
 refine X.as ?_
 refine X.an ?_
 cases h
 refine R.fin2 Tryz.results69 (by rfl) (by rfl) (by rfl) (by repeat (first | trivial | refine ⟨by first | rfl | simp [setL],?_⟩)) ?_
 rfl
theorem s_ActivityIndex_pc (b0:TProject)(b1:ByteArray)(r:Int)(h:s_ActivityIndex b0 b1=some r):PC Tryz.prog 70 [eTProject b0,str b1] (int r):=by
 unfold s_ActivityIndex at h
 refine PC.start Tryz.func70 Tryz.ntmps70 rfl (by kernel_rfl) rfl ?_
 refine Run.sr (X.bx ?_)
 refine X.an ?_
 refine Run.seq (Run.sr (X.fl fld36_1 ?_))
 refine X.ld shp32 ?_
 refine X.ls elt32 ?_
 refine X.mn ?_
 obtain ⟨o1,ho1,h⟩:=bindE h
 refine R.join2 (β:=Unit) [] [] (fun p13 S=>S) (fun p13 M=>M) (fun p13=>(Sum.inl p13)=o1) ?_ ?_
 ·intro JJ4 hmeet3
  have hup2:=h;clear h;have h:=ho1;clear ho1
  refine Run.block ?_
  refine R.bndS (t:=8) (by rfl) (fun hbd7=>?_)
  replace hbd7:b0.Activities.length≤9223372036854775807:=by first | (rw [List.length_map] at hbd7;exact hbd7) | simp
  refine R.lp (β:=Int) [(1,str b1),(8,.slice (b0.Activities.map eTActivity)),(9,int (b0.Activities.length:Int))] [] (fun bb S=>(10,int bb)::S) (fun bb M=>M) (fun n bb=>0≤bb∧bb+n=(b0.Activities.length:Int)∧s_ActivityIndex_L1 b1 (b0.Activities.drop bb.toNat) bb=some o1) b0.Activities.length (0:Int) ⟨Int.le_refl _,by simp,h⟩ ?_
  clear h
  rintro JJ7 n7 z8 hag7 ⟨hza7,hzb7,h⟩
  refine Run.sr (X.bi ?_)
  refine X.nil (Run.seq ?_)
  refine R.cd (fun hc11=>?_) (fun hc11=>?_)
  ·obtain ⟨x9,xs10,hd7,hx7,hds7,hlt7⟩:=drop_atI hza7 hc11
   rw [hd7] at h
   rw [s_ActivityIndex_L1] at h
   refine Run.skip (Run.seq (Run.block (Run.sr (X.mv ?_))))
   refine X.ix elt32 (idxL_spec hx7).1 (idxL_map eTActivity hx7) ?_
   refine X.lc shp89 ?_
   refine X.alloc zer89 (h:=?_)
   refine X.as ?_
   refine X.sl shp89 ?_
   refine X.nil (Run.sr (X.fl fld89_0 ?_))
   refine X.ld shp9 ?_
   refine X.mv ?_
   refine X.bi ?_
   refine X.nil ?_
   refine R.cd (fun hc12=>?_) (fun hc12=>?_)
   ·replace h:=condT hc12 h
    refine Run.sr (X.mv ?_)
    refine X.an ?_
    cases h
    have h:=hup2
    replace h:=elimR h
    cases h
    refine R.f1 Tryz.results70 ?_
    rfl
   replace h:=condF hc12 h
   refine Run.skip (Run.blk (Run.reg (X.ad ?_)))
   refine X.mn ?_
   exact R.ag hag7 (n7 - 1) (z8+1) (R.n3 (by first | (rw [hds7];exact h) | (dsimp only;rw [hds7];exact h)))
  rw [drop_endI hza7 hc11] at h
  rw [s_ActivityIndex_L1] at h
  refine Run.exit (by rfl) ?_
  exact R.mt hmeet3 () (Option.some.inj h)
 rintro p13 rfl
 replace h:=elimL h
 refine Run.sr (X.an ?_)
 cases h
 refine R.f1 Tryz.results70 ?_
 rfl
theorem s_l04Nums_pc (b0:List Int)(b1:Int)(r:Bool)(h:s_l04Nums b0 b1=some r):PC Tryz.prog 162 [.slice (b0.map int),int b1] (bool r):=by
 unfold s_l04Nums at h
 refine PC.start Tryz.func162 Tryz.ntmps162 rfl (by kernel_rfl) rfl ?_
 refine Run.sr (X.an ?_)
 refine Run.seq (Run.sr (X.mv ?_))
 refine X.ls elt25 ?_
 refine X.mn ?_
 obtain ⟨o1,ho1,h⟩:=bindE h
 refine R.join2 (β:=Unit) [(0,.slice (b0.map int)),(1,int b1)] [] (fun p14 S=>S) (fun p14 M=>M) (fun p14=>(Sum.inl p14)=o1) ?_ ?_
 ·intro JJ4 hmeet3
  have hup2:=h;clear h;have h:=ho1;clear ho1
  refine Run.block ?_
  refine R.bndS (t:=0) (by rfl) (fun hbd7=>?_)
  replace hbd7:b0.length≤9223372036854775807:=by first | (rw [List.length_map] at hbd7;exact hbd7) | simp
  refine R.lp (β:=Int) [(0,.slice (b0.map int)),(1,int b1),(7,.slice (b0.map int)),(8,int (b0.length:Int))] [] (fun bb S=>(9,int bb)::S) (fun bb M=>M) (fun n bb=>0≤bb∧bb+n=(b0.length:Int)∧s_l04Nums_L1 (b0.drop bb.toNat) bb=some o1) b0.length (0:Int) ⟨Int.le_refl _,by simp,h⟩ ?_
  clear h
  rintro JJ7 n7 z8 hag7 ⟨hza7,hzb7,h⟩
  refine Run.sr (X.bi ?_)
  refine X.nil (Run.seq ?_)
  refine R.cd (fun hc11=>?_) (fun hc11=>?_)
  ·obtain ⟨x9,xs10,hd7,hx7,hds7,hlt7⟩:=drop_atI hza7 hc11
   rw [hd7] at h
   rw [s_l04Nums_L1] at h
   refine Run.skip (Run.seq (Run.block (Run.sr (X.ix elt25 (idxL_spec hx7).1 (idxL_map int hx7) ?_))))
   refine X.lc shp3 ?_
   refine X.an ?_
   refine Run.sr (X.mv ?_)
   obtain ⟨v12,hv12,h⟩:=bindE h
   refine X.cp (s_l01In_pc _ _ _ _ hv12) ?_
   refine X.un (h:=?_)
   refine X.nil ?_
   refine R.cd (fun hc13=>?_) (fun hc13=>?_)
   ·replace h:=condT hc13 h
    refine Run.sr (X.an ?_)
    cases h
    have h:=hup2
    replace h:=elimR h
    cases h
    refine R.f1 Tryz.results162 ?_
    rfl
   replace h:=condF hc13 h
   refine Run.skip (Run.blk (Run.reg (X.ad ?_)))
   refine X.mn ?_
   exact R.ag hag7 (n7 - 1) (z8+1) (R.n3 (by first | (rw [hds7];exact h) | (dsimp only;rw [hds7];exact h)))
  rw [drop_endI hza7 hc11] at h
  rw [s_l04Nums_L1] at h
  refine Run.exit (by rfl) ?_
  exact R.mt hmeet3 () (Option.some.inj h)
 rintro p14 rfl
 replace h:=elimL h
 refine Run.sr (X.mv ?_)
 refine X.ls elt25 ?_
 refine X.mv ?_
 refine X.bi ?_
 refine X.an ?_
 cases h
 refine R.f1 Tryz.results162 ?_
 rfl
theorem s_ModeOk_pc (b0:TMode)(b1:Int)(b2:Int)(r:Bool)(h:s_ModeOk b0 b1 b2=some r):PC Tryz.prog 140 [eTMode b0,int b1,int b2] (bool r):=by
 unfold s_ModeOk at h
 refine PC.start Tryz.func140 Tryz.ntmps140 rfl (by kernel_rfl) rfl ?_
 refine Run.sr (X.bx ?_)
 refine X.an ?_
 refine Run.seq ?_
 obtain ⟨v1,hv1,h⟩:=bindE h
 obtain ⟨e2,he2,h2⟩:=bindE h
 refine R.regG [(6,bool e2)] [] ?_ ?_
 ·clear h;have h:=he2;clear he2 h2
  refine X.fl fld139_0 ?_
  refine X.ld shp3 ?_
  refine X.cp (s_l01In_pc _ _ _ _ hv1) ?_
  refine X.mv ?_
  refine X.iG (fun hb3=>?_) (fun hb3=>?_)
  ·replace h:=condT hb3 h
   refine X.fl fld139_1 ?_
   refine X.gy (X.ld shp25 ?_)
   refine X.gy (X.mv ?_)
   refine X.gy ?_
   obtain ⟨v4,hv4,h⟩:=bindE h
   refine X.cp (s_l04Nums_pc _ _ _ hv4) ?_
   refine X.pT ?_
   refine X.mv ?_
   refine X.iG (fun hb5=>?_) (fun hb5=>?_)
   ·replace h:=condT hb5 h
    refine X.fl fld139_2 ?_
    refine X.gy (X.ld shp25 ?_)
    refine X.gy (X.mv ?_)
    refine X.gy ?_
    obtain ⟨v6,hv6,h⟩:=bindE h
    refine X.cp (s_l04Nums_pc _ _ _ hv6) ?_
    refine X.pT ?_
    refine X.as ?_
    cases h
    exact X.eG
   replace h:=condF hb5 h
   refine X.gn (X.gn (X.gn (X.pF ?_)))
   refine X.as ?_
   cases h
   exact X.eG
  replace h:=condF hb3 h
  refine X.gn (X.gn (X.gn (X.pF ?_)))
  refine X.mv ?_
  refine X.gn (X.gn (X.gn (X.gn (X.pF ?_))))
  refine X.as ?_
  cases h
  exact X.eG
 replace h:=h2;clear h2
 cases h
 refine R.f1 Tryz.results140 ?_
 rfl
theorem s_IsName_pc (b0:ByteArray)(r:Bool)(h:s_IsName b0=some r):PC Tryz.prog 141 [str b0] (bool r):=by
 unfold s_IsName at h
 refine PC.start Tryz.func141 Tryz.ntmps141 rfl (by kernel_rfl) rfl ?_
 refine Run.sr (X.an ?_)
 refine Run.seq (Run.sr (X.an ?_))
 obtain ⟨o1,ho1,h⟩:=bindE h
 refine R.join2 (β:=Unit) [(0,str b0)] [] (fun p19 S=>S) (fun p19 M=>M) (fun p19=>(Sum.inl p19)=o1) ?_ ?_
 ·intro JJ4 hmeet3
  have hup2:=h;clear h;have h:=ho1;clear ho1
  refine Run.block ?_
  refine R.lp (β:=Int) [(0,str b0)] [] (fun bb S=>(3,int bb)::S) (fun bb M=>M) (fun n bb=>s_IsName_L1 b0 n bb=some o1) F0 0 h ?_
  clear h
  rintro JJ5 n5 a7 hag5 h
  obtain _ | n5:=n5
  ·exact absurd h (by simp [s_IsName_L1])
  rw [s_IsName_L1] at h
  refine Run.seq (Run.sr (X.mv ?_))
  refine X.mv ?_
  refine X.lenStr Tryz.underlying9 (by rfl) (by rfl) ?_
  refine X.bi ?_
  refine X.nil ?_
  refine R.cd (fun hc10=>?_) (fun hc10=>?_)
  ·replace h:=condT hc10 h
   refine Run.skip (Run.seq (Run.block (Run.seq ?_)))
   obtain ⟨v11,hv11,h⟩:=bindE h
   obtain ⟨e12,he12,h2⟩:=bindE h
   refine R.regG [(0,str b0),(3,int a7),(4,bool e12)] [] ?_ ?_
   ·clear h;have h:=he12;clear he12 h2
    refine X.mv ?_
    refine X.mv ?_
    refine X.indexStr2 hv11 Tryz.underlying9 (by rfl) (by rfl) (by rfl) ?_
    refine X.bi ?_
    refine X.mv ?_
    refine X.iG (fun hb13=>?_) (fun hb13=>?_)
    ·replace h:=condT hb13 h
     refine X.mv ?_
     refine X.gy (X.mv ?_)
     refine X.gy (X.indexStr2 hv11 Tryz.underlying9 (by rfl) (by rfl) (by rfl) ?_)
     refine X.gy (X.bi ?_)
     refine X.pT ?_
     refine X.as ?_
     cases h
     exact X.eG
    replace h:=condF hb13 h
    refine X.gn (X.gn (X.gn (X.pF ?_)))
    refine X.as ?_
    cases h
    exact X.eG
   replace h:=h2;clear h2
   refine Run.seq ?_
   obtain ⟨e14,he14,h2⟩:=bindE h
   refine R.regG [(0,str b0),(3,int a7),(38,bool e14)] [] ?_ ?_
   ·clear h;have h:=he14;clear he14 h2
    refine X.mv ?_
    refine X.un (h:=?_)
    refine X.mv ?_
    refine X.iG (fun hb15=>?_) (fun hb15=>?_)
    ·replace h:=condT hb15 h
     refine X.mv ?_
     refine X.gy (X.bi ?_)
     refine X.gy (X.mv ?_)
     refine X.iG (fun hb16=>?_) (fun hb16=>?_)
     ·replace h:=condF hb16 h
      refine X.mv ?_
      refine X.gy (X.mv ?_)
      refine X.gy (X.indexStr2 hv11 Tryz.underlying9 (by rfl) (by rfl) (by rfl) ?_)
      refine X.gy (X.bi ?_)
      refine X.gy (X.pF ?_)
      refine X.gy (X.mv ?_)
      refine X.iG (fun hb17=>?_) (fun hb17=>?_)
      ·replace h:=condF hb17 h
       refine X.mv ?_
       refine X.gy (X.mv ?_)
       refine X.gy (X.indexStr2 hv11 Tryz.underlying9 (by rfl) (by rfl) (by rfl) ?_)
       refine X.gy (X.bi ?_)
       refine X.gy (X.pF ?_)
       refine X.pT ?_
       cases h
       exact X.eG
      replace h:=condT hb17 h
      refine X.gn (X.gn (X.gn (X.gy (X.pT ?_))))
      refine X.pT ?_
      cases h
      exact X.eG
     replace h:=condT hb16 h
     refine X.gn (X.gn (X.gn (X.gy (X.pT ?_))))
     refine X.gy (X.mv ?_)
     refine X.gn (X.gn (X.gn (X.gn (X.gy (X.pT ?_)))))
     refine X.pT ?_
     cases h
     exact X.eG
    replace h:=condF hb15 h
    refine X.gn (X.gn (X.gU (h:=?_)))
    refine X.gU (h:=?_)
    refine X.gU (h:=?_)
    refine X.gU (h:=?_)
    refine X.gn (X.gn (X.gU (h:=?_)))
    refine X.gU (h:=?_)
    refine X.gU (h:=?_)
    refine X.gU (h:=?_)
    refine X.gn (X.pF ?_)
    cases h
    exact X.eG
   replace h:=h2;clear h2
   refine R.cd (fun hc18=>?_) (fun hc18=>?_)
   ·replace h:=condT hc18 h
    refine Run.sr (X.an ?_)
    cases h
    have h:=hup2
    replace h:=elimR h
    cases h
    refine R.f1 Tryz.results141 ?_
    rfl
   replace h:=condF hc18 h
   refine Run.skip (Run.blk (Run.reg (X.mv ?_)))
   refine X.addW (h:=?_)
   refine X.an ?_
   exact hag5 n5 (W (a7+1)) _ _ (by omega) h (by trivial) (by trivial) (by rfl) (by rfl)
  replace h:=condF hc10 h
  refine Run.exit (by rfl) ?_
  exact R.mt hmeet3 () (Option.some.inj h)
 rintro p19 rfl
 replace h:=elimL h
 refine Run.sr (X.mv ?_)
 refine X.lenStr Tryz.underlying9 (by rfl) (by rfl) ?_
 obtain ⟨v21,hv21,h⟩:=bindE h
 refine X.cp (s_l01In_pc _ _ _ _ hv21) ?_
 refine X.an ?_
 cases h
 refine R.f1 Tryz.results141 ?_
 rfl
theorem s_ActivityOk_pc (b0:TActivity)(b1:Int)(b2:Int)(r:Bool)(h:s_ActivityOk b0 b1 b2=some r):PC Tryz.prog 102 [eTActivity b0,int b1,int b2] (bool r):=by
 unfold s_ActivityOk at h
 refine PC.start Tryz.func102 Tryz.ntmps102 rfl (by kernel_rfl) rfl ?_
 refine Run.sr (X.bx ?_)
 refine X.an ?_
 refine Run.seq (Run.sr (X.fl fld89_2 ?_))
 refine X.ld shp87 ?_
 refine X.ls elt87 ?_
 refine X.mn ?_
 obtain ⟨o1,ho1,h⟩:=bindE h
 refine R.join2 (β:=Unit) [(3,.lptr 192 0)] [(192,.blk true [str b0.Name,int b0.Family,.slice (b0.Modes.map eTMode)])] (fun p14 S=>S) (fun p14 M=>M) (fun p14=>(Sum.inl p14)=o1) ?_ ?_
 ·intro JJ4 hmeet3
  have hup2:=h;clear h;have h:=ho1;clear ho1
  refine Run.block ?_
  refine R.bndS (t:=10) (by rfl) (fun hbd7=>?_)
  replace hbd7:b0.Modes.length≤9223372036854775807:=by first | (rw [List.length_map] at hbd7;exact hbd7) | simp
  refine R.lp (β:=Int) [(1,int b1),(2,int b2),(3,.lptr 192 0),(10,.slice (b0.Modes.map eTMode)),(11,int (b0.Modes.length:Int))] [(192,.blk true [str b0.Name,int b0.Family,.slice (b0.Modes.map eTMode)])] (fun bb S=>(12,int bb)::S) (fun bb M=>M) (fun n bb=>0≤bb∧bb+n=(b0.Modes.length:Int)∧s_ActivityOk_L1 b1 b2 (b0.Modes.drop bb.toNat) bb=some o1) b0.Modes.length (0:Int) ⟨Int.le_refl _,by simp,h⟩ ?_
  clear h
  rintro JJ7 n7 z8 hag7 ⟨hza7,hzb7,h⟩
  refine Run.sr (X.bi ?_)
  refine X.nil (Run.seq ?_)
  refine R.cd (fun hc11=>?_) (fun hc11=>?_)
  ·obtain ⟨x9,xs10,hd7,hx7,hds7,hlt7⟩:=drop_atI hza7 hc11
   rw [hd7] at h
   rw [s_ActivityOk_L1] at h
   refine Run.skip (Run.seq (Run.block (Run.sr (X.ix elt87 (idxL_spec hx7).1 (idxL_map eTMode hx7) ?_))))
   refine X.lc shp139 ?_
   refine X.alloc zer139 (h:=?_)
   refine X.sl shp139 ?_
   refine X.nil (Run.sr (X.ld shp139 ?_))
   refine X.mv ?_
   refine X.mv ?_
   obtain ⟨v12,hv12,h⟩:=bindE h
   refine X.cp (s_ModeOk_pc _ _ _ _ hv12) ?_
   refine X.un (h:=?_)
   refine X.nil ?_
   refine R.cd (fun hc13=>?_) (fun hc13=>?_)
   ·replace h:=condT hc13 h
    refine Run.sr (X.an ?_)
    cases h
    have h:=hup2
    replace h:=elimR h
    cases h
    refine R.f1 Tryz.results102 ?_
    rfl
   replace h:=condF hc13 h
   refine Run.skip (Run.blk (Run.reg (X.ad ?_)))
   refine X.mn ?_
   exact R.ag hag7 (n7 - 1) (z8+1) (R.n3 (by first | (rw [hds7];exact h) | (dsimp only;rw [hds7];exact h)))
  rw [drop_endI hza7 hc11] at h
  rw [s_ActivityOk_L1] at h
  refine Run.exit (by rfl) ?_
  exact R.mt hmeet3 () (Option.some.inj h)
 rintro p14 rfl
 replace h:=elimL h
 refine Run.seq ?_
 obtain ⟨v16,hv16,h⟩:=bindE h
 obtain ⟨e17,he17,h2⟩:=bindE h
 refine R.regG [(6,bool e17)] [] ?_ ?_
 ·clear h;have h:=he17;clear he17 h2
  refine X.fl fld89_0 ?_
  refine X.ld shp9 ?_
  refine X.cp (s_IsName_pc _ _ hv16) ?_
  refine X.mv ?_
  refine X.iG (fun hb18=>?_) (fun hb18=>?_)
  ·replace h:=condT hb18 h
   refine X.fl fld89_1 ?_
   refine X.gy (X.ld shp3 ?_)
   refine X.gy ?_
   obtain ⟨v19,hv19,h⟩:=bindE h
   refine X.cp (s_l01In_pc _ _ _ _ hv19) ?_
   refine X.pT ?_
   refine X.mv ?_
   refine X.iG (fun hb20=>?_) (fun hb20=>?_)
   ·replace h:=condT hb20 h
    refine X.fl fld89_2 ?_
    refine X.gy (X.ld shp87 ?_)
    refine X.gy (X.ls elt87 ?_)
    refine X.gy ?_
    obtain ⟨v21,hv21,h⟩:=bindE h
    refine X.cp (s_l01In_pc _ _ _ _ hv21) ?_
    refine X.pT ?_
    refine X.as ?_
    cases h
    exact X.eG
   replace h:=condF hb20 h
   refine X.gn (X.gn (X.gn (X.pF ?_)))
   refine X.as ?_
   cases h
   exact X.eG
  replace h:=condF hb18 h
  refine X.gn (X.gn (X.pF ?_))
  refine X.mv ?_
  refine X.gn (X.gn (X.gn (X.gn (X.pF ?_))))
  refine X.as ?_
  cases h
  exact X.eG
 replace h:=h2;clear h2
 cases h
 refine R.f1 Tryz.results102 ?_
 rfl
theorem s_StepsOk_pc (b0:List TStep)(r:Bool)(h:s_StepsOk b0=some r):PC Tryz.prog 142 [.slice (b0.map eTStep)] (bool r):=by
 unfold s_StepsOk at h
 refine PC.start Tryz.func142 Tryz.ntmps142 rfl (by kernel_rfl) rfl ?_
 refine Run.sr (X.an ?_)
 refine Run.seq (Run.sr (X.mv ?_))
 refine X.ls elt95 ?_
 refine X.mn ?_
 obtain ⟨o1,ho1,h⟩:=bindE h
 refine R.join2 (β:=Unit) [(0,.slice (b0.map eTStep))] [] (fun p20 S=>S) (fun p20 M=>M) (fun p20=>(Sum.inl p20)=o1) ?_ ?_
 ·intro JJ4 hmeet3
  have hup2:=h;clear h;have h:=ho1;clear ho1
  refine Run.block ?_
  refine R.bndS (t:=0) (by rfl) (fun hbd7=>?_)
  replace hbd7:b0.length≤9223372036854775807:=by first | (rw [List.length_map] at hbd7;exact hbd7) | simp
  refine R.lp (β:=Int) [(0,.slice (b0.map eTStep)),(5,.slice (b0.map eTStep)),(6,int (b0.length:Int))] [] (fun bb S=>(7,int bb)::S) (fun bb M=>M) (fun n bb=>0≤bb∧bb+n=(b0.length:Int)∧s_StepsOk_L1 b0 (b0.drop bb.toNat) bb=some o1) b0.length (0:Int) ⟨Int.le_refl _,by simp,h⟩ ?_
  clear h
  rintro JJ7 n7 z8 hag7 ⟨hza7,hzb7,h⟩
  refine Run.sr (X.bi ?_)
  refine X.nil (Run.seq ?_)
  refine R.cd (fun hc11=>?_) (fun hc11=>?_)
  ·obtain ⟨x9,xs10,hd7,hx7,hds7,hlt7⟩:=drop_atI hza7 hc11
   rw [hd7] at h
   rw [s_StepsOk_L1] at h
   refine Run.skip (Run.seq (Run.block (Run.sr (X.mv ?_))))
   refine X.ix elt95 (idxL_spec hx7).1 (idxL_map eTStep hx7) ?_
   refine X.lc shp141 ?_
   refine X.alloc zer141 (h:=?_)
   refine X.as ?_
   refine X.sl shp141 ?_
   refine X.nil (Run.seq ?_)
   obtain ⟨v12,hv12,h⟩:=bindE h
   obtain ⟨e13,he13,h2⟩:=bindE h
   refine R.drawG [(0,.slice (b0.map eTStep)),(5,.slice (b0.map eTStep)),(6,int (b0.length:Int)),(7,int z8),(36,bool e13)] [] (footOf [(1,([256],[],[],[])),(6,([256],[],[],[])),(21,([256],[],[],[]))]) mixed (by kernel_rfl) (by kernel_rfl) ?_ ?_
   ·clear h;have h:=he13;clear he13 h2
    refine X.fl fld141_0 ?_
    refine X.ld shp3 ?_
    refine X.cp (s_l01In_pc _ _ _ _ hv12) ?_
    refine X.un (h:=?_)
    refine X.mv ?_
    refine X.iG (fun hb14=>?_) (fun hb14=>?_)
    ·replace h:=condF hb14 h
     refine X.fl fld141_1 ?_
     refine X.gy (X.ld shp3 ?_)
     refine X.gy ?_
     obtain ⟨v15,hv15,h⟩:=bindE h
     refine X.cp (s_l01In_pc _ _ _ _ hv15) ?_
     refine X.gy (X.un (h:=?_))
     refine X.pF ?_
     refine X.mv ?_
     refine X.iG (fun hb16=>?_) (fun hb16=>?_)
     ·replace h:=condF hb16 h
      refine X.mv ?_
      refine X.gy (X.bi ?_)
      refine X.gy (X.mv ?_)
      refine X.iG (fun hb17=>?_) (fun hb17=>?_)
      ·replace h:=condT hb17 h
       refine X.mv ?_
       refine X.gy (X.mv ?_)
       refine X.gy (X.sub (by rfl) (by rfl) (by omega) (by rfl) ?_)
       refine X.gy ?_
       obtain ⟨v18,hv18,h⟩:=bindE h
       refine X.ix elt95 (idxL_spec hv18).1 (idxL_map eTStep hv18) ?_
       refine X.gy (X.fieldAddr_c fld141_0 (by rfl) (by rfl) ?_)
       refine X.gy (X.lc shp3 ?_)
       refine X.gy (X.fl fld141_0 ?_)
       refine X.gy (X.ld shp3 ?_)
       refine X.gy (X.bi ?_)
       refine X.gy (X.pT ?_)
       refine X.pF ?_
       cases h
       exact X.eG
      replace h:=condF hb17 h
      refine X.gn (X.gn (X.gn (X.gn (X.gn (X.gn (X.gn (X.gn ?_)))))))
      refine X.gy (X.pF ?_)
      refine X.pF ?_
      cases h
      exact X.eG
     replace h:=condT hb16 h
     refine X.gn (X.gn (X.gU (h:=?_)))
     refine X.gU (h:=?_)
     refine X.gU (h:=?_)
     refine X.gU (h:=?_)
     refine X.gU (h:=?_)
     refine X.gU (h:=?_)
     refine X.gU (h:=?_)
     refine X.gU (h:=?_)
     refine X.gU (h:=?_)
     refine X.gn (X.pT ?_)
     cases h
     exact X.eG
    replace h:=condT hb14 h
    refine X.gn (X.gn (X.gn (X.pT ?_)))
    refine X.mv ?_
    refine X.gn (X.gn (X.gn (X.gU (h:=?_))))
    refine X.gU (h:=?_)
    refine X.gU (h:=?_)
    refine X.gU (h:=?_)
    refine X.gU (h:=?_)
    refine X.gU (h:=?_)
    refine X.gU (h:=?_)
    refine X.gU (h:=?_)
    refine X.gU (h:=?_)
    refine X.gn (X.pT ?_)
    cases h
    exact X.eG
   replace h:=h2;clear h2
   refine R.cd (fun hc19=>?_) (fun hc19=>?_)
   ·replace h:=condT hc19 h
    refine Run.sr (X.an ?_)
    cases h
    have h:=hup2
    replace h:=elimR h
    cases h
    refine R.f1 Tryz.results142 ?_
    rfl
   replace h:=condF hc19 h
   refine Run.skip (Run.blk (Run.reg (X.ad ?_)))
   refine X.mn ?_
   exact R.ag hag7 (n7 - 1) (z8+1) (R.n3 (by first | (rw [hds7];exact h) | (dsimp only;rw [hds7];exact h)))
  rw [drop_endI hza7 hc11] at h
  rw [s_StepsOk_L1] at h
  refine Run.exit (by rfl) ?_
  exact R.mt hmeet3 () (Option.some.inj h)
 rintro p20 rfl
 replace h:=elimL h
 refine Run.seq ?_
 obtain ⟨v22,hv22,h⟩:=bindE h
 obtain ⟨e23,he23,h2⟩:=bindE h
 refine R.regG [(2,bool e23)] [] ?_ ?_
 ·clear h;have h:=he23;clear he23 h2
  refine X.mv ?_
  refine X.ls elt95 ?_
  refine X.cp (s_l01In_pc _ _ _ _ hv22) ?_
  refine X.mv ?_
  refine X.iG (fun hb24=>?_) (fun hb24=>?_)
  ·replace h:=condT hb24 h
   refine X.mv ?_
   refine X.gy ?_
   obtain ⟨v25,hv25,h⟩:=bindE h
   refine X.ix elt95 (idxL_spec hv25).1 (idxL_map eTStep hv25) ?_
   refine X.gy (X.fieldAddr_c fld141_0 (by rfl) (by rfl) ?_)
   refine X.gy (X.lc shp3 ?_)
   refine X.gy (X.bi ?_)
   refine X.pT ?_
   refine X.as ?_
   cases h
   exact X.eG
  replace h:=condF hb24 h
  refine X.gn (X.gn (X.gn (X.gn (X.pF ?_))))
  refine X.as ?_
  cases h
  exact X.eG
 replace h:=h2;clear h2
 cases h
 refine R.f1 Tryz.results142 ?_
 rfl
theorem s_ResourceOk_pc (b0:TResource)(r:Bool)(h:s_ResourceOk b0=some r):PC Tryz.prog 103 [eTResource b0] (bool r):=by
 unfold s_ResourceOk at h
 refine PC.start Tryz.func103 Tryz.ntmps103 rfl (by kernel_rfl) rfl ?_
 refine Run.sr (X.bx ?_)
 refine X.an ?_
 refine Run.seq (Run.sr (X.fl fld97_1 ?_))
 refine X.ld shp76 ?_
 refine X.ls elt76 ?_
 refine X.mn ?_
 obtain ⟨o1,ho1,h⟩:=bindE h
 refine R.join2 (β:=Unit) [(1,.lptr 64 0)] [(64,.blk true [.slice (b0.Steps.map eTStep),.slice (b0.Setup.map l_int)])] (fun p28 S=>S) (fun p28 M=>M) (fun p28=>(Sum.inl p28)=o1) ?_ ?_
 ·intro JJ4 hmeet3
  have hup2:=h;clear h;have h:=ho1;clear ho1
  refine Run.block ?_
  refine R.bndS (t:=8) (by rfl) (fun hbd7=>?_)
  replace hbd7:b0.Setup.length≤9223372036854775807:=by first | (rw [List.length_map] at hbd7;exact hbd7) | simp
  refine R.lp (β:=Int) [(1,.lptr 64 0),(8,.slice (b0.Setup.map l_int)),(9,int (b0.Setup.length:Int))] [(64,.blk true [.slice (b0.Steps.map eTStep),.slice (b0.Setup.map l_int)])] (fun bb S=>(10,int bb)::S) (fun bb M=>M) (fun n bb=>0≤bb∧bb+n=(b0.Setup.length:Int)∧s_ResourceOk_L1 (b0.Setup.drop bb.toNat) bb=some o1) b0.Setup.length (0:Int) ⟨Int.le_refl _,by simp,h⟩ ?_
  clear h
  rintro JJ7 n7 z8 hag7 ⟨hza7,hzb7,h⟩
  refine Run.sr (X.bi ?_)
  refine X.nil (Run.seq ?_)
  refine R.cd (fun hc11=>?_) (fun hc11=>?_)
  ·obtain ⟨x9,xs10,hd7,hx7,hds7,hlt7⟩:=drop_atI hza7 hc11
   rw [hd7] at h
   rw [s_ResourceOk_L1] at h
   refine Run.skip (Run.seq (Run.block (Run.sr (X.ix elt76 (idxL_spec hx7).1 (idxL_map l_int hx7) ?_))))
   refine X.lc shp25 ?_
   refine X.an ?_
   refine Run.seq (Run.sr (X.mv ?_))
   refine X.ls elt25 ?_
   refine X.bi ?_
   refine X.nil ?_
   refine R.cd (fun hc12=>?_) (fun hc12=>?_)
   ·replace h:=condT hc12 h
    refine Run.sr (X.an ?_)
    cases h
    have h:=hup2
    replace h:=elimR h
    cases h
    refine R.f1 Tryz.results103 ?_
    rfl
   replace h:=condF hc12 h
   refine Run.skip (Run.sr (X.mv ?_))
   refine X.ls elt25 ?_
   refine X.mn ?_
   obtain ⟨o13,ho13,h⟩:=bindE h
   refine R.join2 (β:=Unit) [(1,.lptr 64 0),(8,.slice (b0.Setup.map l_int)),(9,int (b0.Setup.length:Int)),(10,int z8)] [(64,.blk true [.slice (b0.Steps.map eTStep),.slice (b0.Setup.map l_int)])] (fun p26 S=>S) (fun p26 M=>M) (fun p26=>(Sum.inl p26)=o13) ?_ ?_
   ·intro JJ16 hmeet15
    have hup14:=h;clear h;have h:=ho13;clear ho13
    refine Run.block ?_
    refine R.bndS (t:=4) (by rfl) (fun hbd19=>?_)
    replace hbd19:x9.length≤9223372036854775807:=by first | (rw [List.length_map] at hbd19;exact hbd19) | simp
    refine R.lp (β:=Int) [(1,.lptr 64 0),(8,.slice (b0.Setup.map l_int)),(9,int (b0.Setup.length:Int)),(10,int z8),(17,.slice (x9.map int)),(18,int (x9.length:Int))] [(64,.blk true [.slice (b0.Steps.map eTStep),.slice (b0.Setup.map l_int)])] (fun bb S=>(19,int bb)::S) (fun bb M=>M) (fun n bb=>0≤bb∧bb+n=(x9.length:Int)∧s_ResourceOk_L2 (x9.drop bb.toNat) bb=some o13) x9.length (0:Int) ⟨Int.le_refl _,by simp,h⟩ ?_
    clear h
    rintro JJ19 n19 z20 hag19 ⟨hza19,hzb19,h⟩
    refine Run.sr (X.bi ?_)
    refine X.nil (Run.seq ?_)
    refine R.cd (fun hc23=>?_) (fun hc23=>?_)
    ·obtain ⟨x21,xs22,hd19,hx19,hds19,hlt19⟩:=drop_atI hza19 hc23
     rw [hd19] at h
     rw [s_ResourceOk_L2] at h
     refine Run.skip (Run.seq (Run.block (Run.sr (X.ix elt25 (idxL_spec hx19).1 (idxL_map int hx19) ?_))))
     refine X.lc shp3 ?_
     refine X.an ?_
     refine Run.sr (X.mv ?_)
     obtain ⟨v24,hv24,h⟩:=bindE h
     refine X.cp (s_l01In_pc _ _ _ _ hv24) ?_
     refine X.un (h:=?_)
     refine X.nil ?_
     refine R.cd (fun hc25=>?_) (fun hc25=>?_)
     ·replace h:=condT hc25 h
      refine Run.sr (X.an ?_)
      cases h
      have h:=hup14
      replace h:=elimR h
      cases h
      have h:=hup2
      replace h:=elimR h
      cases h
      refine R.f1 Tryz.results103 ?_
      rfl
     replace h:=condF hc25 h
     refine Run.skip (Run.blk (Run.reg (X.ad ?_)))
     refine X.mn ?_
     exact R.ag hag19 (n19 - 1) (z20+1) (R.n3 (by first | (rw [hds19];exact h) | (dsimp only;rw [hds19];exact h)))
    rw [drop_endI hza19 hc23] at h
    rw [s_ResourceOk_L2] at h
    refine Run.exit (by rfl) ?_
    exact R.mt hmeet15 () (Option.some.inj h)
   rintro p26 rfl
   replace h:=elimL h
   refine Run.blk (Run.reg (X.ad ?_))
   refine X.mn ?_
   exact R.ag hag7 (n7 - 1) (z8+1) (R.n3 (by first | (rw [hds7];exact h) | (dsimp only;rw [hds7];exact h)))
  rw [drop_endI hza7 hc11] at h
  rw [s_ResourceOk_L1] at h
  refine Run.exit (by rfl) ?_
  exact R.mt hmeet3 () (Option.some.inj h)
 rintro p28 rfl
 replace h:=elimL h
 refine Run.seq ?_
 obtain ⟨v30,hv30,h⟩:=bindE h
 obtain ⟨e31,he31,h2⟩:=bindE h
 refine R.regG [(2,bool e31)] [] ?_ ?_
 ·clear h;have h:=he31;clear he31 h2
  refine X.fl fld97_0 ?_
  refine X.ld shp95 ?_
  refine X.cp (s_StepsOk_pc _ _ hv30) ?_
  refine X.mv ?_
  refine X.iG (fun hb32=>?_) (fun hb32=>?_)
  ·replace h:=condT hb32 h
   refine X.fl fld97_1 ?_
   refine X.gy (X.ld shp76 ?_)
   refine X.gy (X.ls elt76 ?_)
   refine X.gy (X.bi ?_)
   refine X.gy (X.mv ?_)
   refine X.iG (fun hb33=>?_) (fun hb33=>?_)
   ·replace h:=condF hb33 h
    refine X.fl fld97_1 ?_
    refine X.gy (X.ld shp76 ?_)
    refine X.gy (X.ls elt76 ?_)
    refine X.gy (X.bi ?_)
    refine X.gy (X.pF ?_)
    refine X.pT ?_
    refine X.as ?_
    cases h
    exact X.eG
   replace h:=condT hb33 h
   refine X.gn (X.gn (X.gn (X.gy (X.pT ?_))))
   refine X.pT ?_
   refine X.as ?_
   cases h
   exact X.eG
  replace h:=condF hb32 h
  refine X.gn (X.gn (X.gn (X.gn (X.gU (h:=?_)))))
  refine X.gU (h:=?_)
  refine X.gU (h:=?_)
  refine X.gU (h:=?_)
  refine X.gn (X.pF ?_)
  refine X.as ?_
  cases h
  exact X.eG
 replace h:=h2;clear h2
 cases h
 refine R.f1 Tryz.results103 ?_
 rfl
theorem s_ProjectOk_pc (b0:TProject)(r:Bool)(h:s_ProjectOk b0=some r):PC Tryz.prog 75 [eTProject b0] (bool r):=by
 unfold s_ProjectOk at h
 refine PC.start Tryz.func75 Tryz.ntmps75 rfl (by kernel_rfl) rfl ?_
 refine Run.sr (X.bx ?_)
 refine X.an ?_
 refine Run.sr (X.fl fld36_1 ?_)
 refine X.ld shp32 ?_
 refine X.ls elt32 ?_
 refine X.an ?_
 refine Run.seq (Run.seq ?_)
 obtain ⟨v1,hv1,h⟩:=bindE h
 obtain ⟨e2,he2,h2⟩:=bindE h
 refine R.regG [(1,.lptr 64 0),(3,int (b0.Activities.length:Int)),(41,bool e2)] [(64,.blk true [int b0.Deadline,.slice (b0.Activities.map eTActivity),.slice (b0.Links.map eTLink),.slice (b0.Resources.map eTResource),.slice (b0.Stocks.map int)])] ?_ ?_
 ·clear h;have h:=he2;clear he2 h2
  refine X.fl fld36_0 ?_
  refine X.ld shp3 ?_
  refine X.cp (s_l01In_pc _ _ _ _ hv1) ?_
  refine X.un (h:=?_)
  refine X.mv ?_
  refine X.iG (fun hb3=>?_) (fun hb3=>?_)
  ·replace h:=condF hb3 h
   refine X.mv ?_
   refine X.gy ?_
   obtain ⟨v4,hv4,h⟩:=bindE h
   refine X.cp (s_l01In_pc _ _ _ _ hv4) ?_
   refine X.gy (X.un (h:=?_))
   refine X.pF ?_
   refine X.mv ?_
   refine X.iG (fun hb5=>?_) (fun hb5=>?_)
   ·replace h:=condF hb5 h
    refine X.fl fld36_3 ?_
    refine X.gy (X.ld shp34 ?_)
    refine X.gy (X.ls elt34 ?_)
    refine X.gy (X.bi ?_)
    refine X.pF ?_
    refine X.mv ?_
    refine X.iG (fun hb6=>?_) (fun hb6=>?_)
    ·replace h:=condF hb6 h
     refine X.fl fld36_4 ?_
     refine X.gy (X.ld shp25 ?_)
     refine X.gy (X.ls elt25 ?_)
     refine X.gy (X.bi ?_)
     refine X.pF ?_
     refine X.mv ?_
     refine X.iG (fun hb7=>?_) (fun hb7=>?_)
     ·replace h:=condF hb7 h
      refine X.fl fld36_2 ?_
      refine X.gy (X.ld shp33 ?_)
      refine X.gy (X.ls elt33 ?_)
      refine X.gy (X.bi ?_)
      refine X.pF ?_
      cases h
      exact X.eG
     replace h:=condT hb7 h
     refine X.gn (X.gn (X.gn (X.pT ?_)))
     cases h
     exact X.eG
    replace h:=condT hb6 h
    refine X.gn (X.gn (X.gn (X.pT ?_)))
    refine X.mv ?_
    refine X.gn (X.gn (X.gn (X.gn (X.pT ?_))))
    cases h
    exact X.eG
   replace h:=condT hb5 h
   refine X.gn (X.gn (X.gn (X.pT ?_)))
   refine X.mv ?_
   refine X.gn (X.gn (X.gn (X.gn (X.pT ?_))))
   refine X.mv ?_
   refine X.gn (X.gn (X.gn (X.gn (X.pT ?_))))
   cases h
   exact X.eG
  replace h:=condT hb3 h
  refine X.gn (X.gn (X.pT ?_))
  refine X.mv ?_
  refine X.gn (X.gn (X.gn (X.gn (X.pT ?_))))
  refine X.mv ?_
  refine X.gn (X.gn (X.gn (X.gn (X.pT ?_))))
  refine X.mv ?_
  refine X.gn (X.gn (X.gn (X.gn (X.pT ?_))))
  cases h
  exact X.eG
 replace h:=h2;clear h2
 refine R.cd (fun hc8=>?_) (fun hc8=>?_)
 ·replace h:=condT hc8 h
  refine Run.sr (X.an ?_)
  cases h
  refine R.f1 Tryz.results75 ?_
  rfl
 replace h:=condF hc8 h
 refine Run.skip (Run.seq (Run.sr (X.fl fld36_1 ?_)))
 refine X.ld shp32 ?_
 refine X.ls elt32 ?_
 refine X.mn ?_
 obtain ⟨o9,ho9,h⟩:=bindE h
 refine R.join2 (β:=Unit) [(1,.lptr 64 0),(3,int (b0.Activities.length:Int))] [(64,.blk true [int b0.Deadline,.slice (b0.Activities.map eTActivity),.slice (b0.Links.map eTLink),.slice (b0.Resources.map eTResource),.slice (b0.Stocks.map int)])] (fun p25 S=>S) (fun p25 M=>M) (fun p25=>(Sum.inl p25)=o9) ?_ ?_
 ·intro JJ12 hmeet11
  have hup10:=h;clear h;have h:=ho9;clear ho9
  refine Run.block ?_
  refine R.bndS (t:=43) (by rfl) (fun hbd15=>?_)
  replace hbd15:b0.Activities.length≤9223372036854775807:=by first | (rw [List.length_map] at hbd15;exact hbd15) | simp
  refine R.lp (β:=Int) [(1,.lptr 64 0),(3,int (b0.Activities.length:Int)),(43,.slice (b0.Activities.map eTActivity)),(44,int (b0.Activities.length:Int))] [(64,.blk true [int b0.Deadline,.slice (b0.Activities.map eTActivity),.slice (b0.Links.map eTLink),.slice (b0.Resources.map eTResource),.slice (b0.Stocks.map int)])] (fun bb S=>(45,int bb)::S) (fun bb M=>M) (fun n bb=>0≤bb∧bb+n=(b0.Activities.length:Int)∧s_ProjectOk_L1 b0 (b0.Activities.drop bb.toNat) bb=some o9) b0.Activities.length (0:Int) ⟨Int.le_refl _,by simp,h⟩ ?_
  clear h
  rintro JJ15 n15 z16 hag15 ⟨hza15,hzb15,h⟩
  refine Run.sr (X.bi ?_)
  refine X.nil (Run.seq ?_)
  refine R.cd (fun hc19=>?_) (fun hc19=>?_)
  ·obtain ⟨x17,xs18,hd15,hx15,hds15,hlt15⟩:=drop_atI hza15 hc19
   rw [hd15] at h
   rw [s_ProjectOk_L1] at h
   refine Run.skip (Run.seq (Run.block (Run.sr (X.mv ?_))))
   refine X.ix elt32 (idxL_spec hx15).1 (idxL_map eTActivity hx15) ?_
   refine X.lc shp89 ?_
   refine X.alloc zer89 (h:=?_)
   refine X.as ?_
   refine X.sl shp89 ?_
   refine X.nil (Run.seq ?_)
   obtain ⟨v20,hv20,h⟩:=bindE h
   obtain ⟨e21,he21,h2⟩:=bindE h
   refine R.regG [(1,.lptr 64 0),(3,int (b0.Activities.length:Int)),(43,.slice (b0.Activities.map eTActivity)),(44,int (b0.Activities.length:Int)),(45,int z16),(66,bool e21)] [(64,.blk true [int b0.Deadline,.slice (b0.Activities.map eTActivity),.slice (b0.Links.map eTLink),.slice (b0.Resources.map eTResource),.slice (b0.Stocks.map int)])] ?_ ?_
   ·clear h;have h:=he21;clear he21 h2
    refine X.ld shp89 ?_
    refine X.fl fld36_3 ?_
    refine X.ld shp34 ?_
    refine X.ls elt34 ?_
    refine X.fl fld36_4 ?_
    refine X.ld shp25 ?_
    refine X.ls elt25 ?_
    refine X.cp (s_ActivityOk_pc _ _ _ _ hv20) ?_
    refine X.un (h:=?_)
    refine X.mv ?_
    refine X.iG (fun hb22=>?_) (fun hb22=>?_)
    ·replace h:=condF hb22 h
     refine X.ld shp36 ?_
     refine X.gy (X.fl fld89_0 ?_)
     refine X.gy (X.ld shp9 ?_)
     refine X.gy ?_
     obtain ⟨v23,hv23,h⟩:=bindE h
     refine X.cp (s_ActivityIndex_pc _ _ _ hv23) ?_
     refine X.gy (X.mv ?_)
     refine X.gy (X.bi ?_)
     refine X.pF ?_
     cases h
     exact X.eG
    replace h:=condT hb22 h
    refine X.gn (X.gn (X.gn (X.gn (X.gn (X.pT ?_)))))
    cases h
    exact X.eG
   replace h:=h2;clear h2
   refine R.cd (fun hc24=>?_) (fun hc24=>?_)
   ·replace h:=condT hc24 h
    refine Run.sr (X.an ?_)
    cases h
    have h:=hup10
    replace h:=elimR h
    cases h
    refine R.f1 Tryz.results75 ?_
    rfl
   replace h:=condF hc24 h
   refine Run.skip (Run.blk (Run.reg (X.ad ?_)))
   refine X.mn ?_
   exact R.ag hag15 (n15 - 1) (z16+1) (R.n3 (by first | (rw [hds15];exact h) | (dsimp only;rw [hds15];exact h)))
  rw [drop_endI hza15 hc19] at h
  rw [s_ProjectOk_L1] at h
  refine Run.exit (by rfl) ?_
  exact R.mt hmeet11 () (Option.some.inj h)
 rintro p25 rfl
 replace h:=elimL h
 refine Run.seq (Run.sr (X.fl fld36_3 ?_))
 refine X.ld shp34 ?_
 refine X.ls elt34 ?_
 refine X.mn ?_
 obtain ⟨o27,ho27,h⟩:=bindE h
 refine R.join2 (β:=Unit) [(1,.lptr 64 0),(3,int (b0.Activities.length:Int))] [(64,.blk true [int b0.Deadline,.slice (b0.Activities.map eTActivity),.slice (b0.Links.map eTLink),.slice (b0.Resources.map eTResource),.slice (b0.Stocks.map int)])] (fun p40 S=>S) (fun p40 M=>M) (fun p40=>(Sum.inl p40)=o27) ?_ ?_
 ·intro JJ30 hmeet29
  have hup28:=h;clear h;have h:=ho27;clear ho27
  refine Run.block ?_
  refine R.bndS (t:=69) (by rfl) (fun hbd33=>?_)
  replace hbd33:b0.Resources.length≤9223372036854775807:=by first | (rw [List.length_map] at hbd33;exact hbd33) | simp
  refine R.lp (β:=Int) [(1,.lptr 64 0),(3,int (b0.Activities.length:Int)),(69,.slice (b0.Resources.map eTResource)),(70,int (b0.Resources.length:Int))] [(64,.blk true [int b0.Deadline,.slice (b0.Activities.map eTActivity),.slice (b0.Links.map eTLink),.slice (b0.Resources.map eTResource),.slice (b0.Stocks.map int)])] (fun bb S=>(71,int bb)::S) (fun bb M=>M) (fun n bb=>0≤bb∧bb+n=(b0.Resources.length:Int)∧s_ProjectOk_L2 (b0.Resources.drop bb.toNat) bb=some o27) b0.Resources.length (0:Int) ⟨Int.le_refl _,by simp,h⟩ ?_
  clear h
  rintro JJ33 n33 z34 hag33 ⟨hza33,hzb33,h⟩
  refine Run.sr (X.bi ?_)
  refine X.nil (Run.seq ?_)
  refine R.cd (fun hc37=>?_) (fun hc37=>?_)
  ·obtain ⟨x35,xs36,hd33,hx33,hds33,hlt33⟩:=drop_atI hza33 hc37
   rw [hd33] at h
   rw [s_ProjectOk_L2] at h
   refine Run.skip (Run.seq (Run.block (Run.sr (X.ix elt34 (idxL_spec hx33).1 (idxL_map eTResource hx33) ?_))))
   refine X.lc shp97 ?_
   refine X.alloc zer97 (h:=?_)
   refine X.sl shp97 ?_
   refine X.nil (Run.sr (X.ld shp97 ?_))
   obtain ⟨v38,hv38,h⟩:=bindE h
   refine X.cp (s_ResourceOk_pc _ _ hv38) ?_
   refine X.un (h:=?_)
   refine X.nil ?_
   refine R.cd (fun hc39=>?_) (fun hc39=>?_)
   ·replace h:=condT hc39 h
    refine Run.sr (X.an ?_)
    cases h
    have h:=hup28
    replace h:=elimR h
    cases h
    refine R.f1 Tryz.results75 ?_
    rfl
   replace h:=condF hc39 h
   refine Run.skip (Run.blk (Run.reg (X.ad ?_)))
   refine X.mn ?_
   exact R.ag hag33 (n33 - 1) (z34+1) (R.n3 (by first | (rw [hds33];exact h) | (dsimp only;rw [hds33];exact h)))
  rw [drop_endI hza33 hc37] at h
  rw [s_ProjectOk_L2] at h
  refine Run.exit (by rfl) ?_
  exact R.mt hmeet29 () (Option.some.inj h)
 rintro p40 rfl
 replace h:=elimL h
 refine Run.seq (Run.sr (X.fl fld36_4 ?_))
 refine X.ld shp25 ?_
 refine X.ls elt25 ?_
 refine X.mn ?_
 obtain ⟨o42,ho42,h⟩:=bindE h
 refine R.join2 (β:=Unit) [(1,.lptr 64 0),(3,int (b0.Activities.length:Int))] [(64,.blk true [int b0.Deadline,.slice (b0.Activities.map eTActivity),.slice (b0.Links.map eTLink),.slice (b0.Resources.map eTResource),.slice (b0.Stocks.map int)])] (fun p55 S=>S) (fun p55 M=>M) (fun p55=>(Sum.inl p55)=o42) ?_ ?_
 ·intro JJ45 hmeet44
  have hup43:=h;clear h;have h:=ho42;clear ho42
  refine Run.block ?_
  refine R.bndS (t:=80) (by rfl) (fun hbd48=>?_)
  replace hbd48:b0.Stocks.length≤9223372036854775807:=by first | (rw [List.length_map] at hbd48;exact hbd48) | simp
  refine R.lp (β:=Int) [(1,.lptr 64 0),(3,int (b0.Activities.length:Int)),(80,.slice (b0.Stocks.map int)),(81,int (b0.Stocks.length:Int))] [(64,.blk true [int b0.Deadline,.slice (b0.Activities.map eTActivity),.slice (b0.Links.map eTLink),.slice (b0.Resources.map eTResource),.slice (b0.Stocks.map int)])] (fun bb S=>(82,int bb)::S) (fun bb M=>M) (fun n bb=>0≤bb∧bb+n=(b0.Stocks.length:Int)∧s_ProjectOk_L3 (b0.Stocks.drop bb.toNat) bb=some o42) b0.Stocks.length (0:Int) ⟨Int.le_refl _,by simp,h⟩ ?_
  clear h
  rintro JJ48 n48 z49 hag48 ⟨hza48,hzb48,h⟩
  refine Run.sr (X.bi ?_)
  refine X.nil (Run.seq ?_)
  refine R.cd (fun hc52=>?_) (fun hc52=>?_)
  ·obtain ⟨x50,xs51,hd48,hx48,hds48,hlt48⟩:=drop_atI hza48 hc52
   rw [hd48] at h
   rw [s_ProjectOk_L3] at h
   refine Run.skip (Run.seq (Run.block (Run.sr (X.ix elt25 (idxL_spec hx48).1 (idxL_map int hx48) ?_))))
   refine X.lc shp3 ?_
   refine X.an ?_
   refine Run.sr (X.mv ?_)
   obtain ⟨v53,hv53,h⟩:=bindE h
   refine X.cp (s_l01In_pc _ _ _ _ hv53) ?_
   refine X.un (h:=?_)
   refine X.nil ?_
   refine R.cd (fun hc54=>?_) (fun hc54=>?_)
   ·replace h:=condT hc54 h
    refine Run.sr (X.an ?_)
    cases h
    have h:=hup43
    replace h:=elimR h
    cases h
    refine R.f1 Tryz.results75 ?_
    rfl
   replace h:=condF hc54 h
   refine Run.skip (Run.blk (Run.reg (X.ad ?_)))
   refine X.mn ?_
   exact R.ag hag48 (n48 - 1) (z49+1) (R.n3 (by first | (rw [hds48];exact h) | (dsimp only;rw [hds48];exact h)))
  rw [drop_endI hza48 hc52] at h
  rw [s_ProjectOk_L3] at h
  refine Run.exit (by rfl) ?_
  exact R.mt hmeet44 () (Option.some.inj h)
 rintro p55 rfl
 replace h:=elimL h
 refine Run.seq (Run.sr (X.fl fld36_2 ?_))
 refine X.ld shp33 ?_
 refine X.ls elt33 ?_
 refine X.mn ?_
 obtain ⟨o57,ho57,h⟩:=bindE h
 refine R.join2 (β:=Unit) [] [] (fun p76 S=>S) (fun p76 M=>M) (fun p76=>(Sum.inl p76)=o57) ?_ ?_
 ·intro JJ60 hmeet59
  have hup58:=h;clear h;have h:=ho57;clear ho57
  refine Run.block ?_
  refine R.bndS (t:=91) (by rfl) (fun hbd63=>?_)
  replace hbd63:b0.Links.length≤9223372036854775807:=by first | (rw [List.length_map] at hbd63;exact hbd63) | simp
  refine R.lp (β:=Int) [(3,int (b0.Activities.length:Int)),(91,.slice (b0.Links.map eTLink)),(92,int (b0.Links.length:Int))] [] (fun bb S=>(93,int bb)::S) (fun bb M=>M) (fun n bb=>0≤bb∧bb+n=(b0.Links.length:Int)∧s_ProjectOk_L4 b0 (b0.Links.drop bb.toNat) bb=some o57) b0.Links.length (0:Int) ⟨Int.le_refl _,by simp,h⟩ ?_
  clear h
  rintro JJ63 n63 z64 hag63 ⟨hza63,hzb63,h⟩
  refine Run.sr (X.bi ?_)
  refine X.nil (Run.seq ?_)
  refine R.cd (fun hc67=>?_) (fun hc67=>?_)
  ·obtain ⟨x65,xs66,hd63,hx63,hds63,hlt63⟩:=drop_atI hza63 hc67
   rw [hd63] at h
   rw [s_ProjectOk_L4] at h
   refine Run.skip (Run.seq (Run.block (Run.sr (X.ix elt33 (idxL_spec hx63).1 (idxL_map eTLink hx63) ?_))))
   refine X.lc shp92 ?_
   refine X.alloc zer92 (h:=?_)
   refine X.sl shp92 ?_
   refine X.nil (Run.seq ?_)
   obtain ⟨v68,hv68,h⟩:=bindE h
   obtain ⟨e69,he69,h2⟩:=bindE h
   refine R.regG [(3,int (b0.Activities.length:Int)),(91,.slice (b0.Links.map eTLink)),(92,int (b0.Links.length:Int)),(93,int z64),(123,bool e69)] [] ?_ ?_
   ·clear h;have h:=he69;clear he69 h2
    refine X.fl fld92_0 ?_
    refine X.ld shp3 ?_
    refine X.mv ?_
    refine X.subW (h:=?_)
    refine X.cp (s_l01In_pc _ _ _ _ hv68) ?_
    refine X.un (h:=?_)
    refine X.mv ?_
    refine X.iG (fun hb70=>?_) (fun hb70=>?_)
    ·replace h:=condF hb70 h
     refine X.fl fld92_1 ?_
     refine X.gy (X.ld shp3 ?_)
     refine X.gy (X.mv ?_)
     refine X.gy (X.subW (h:=?_))
     refine X.gy ?_
     obtain ⟨v71,hv71,h⟩:=bindE h
     refine X.cp (s_l01In_pc _ _ _ _ hv71) ?_
     refine X.gy (X.un (h:=?_))
     refine X.pF ?_
     refine X.mv ?_
     refine X.iG (fun hb72=>?_) (fun hb72=>?_)
     ·replace h:=condF hb72 h
      refine X.fl fld92_0 ?_
      refine X.gy (X.ld shp3 ?_)
      refine X.gy (X.fl fld92_1 ?_)
      refine X.gy (X.ld shp3 ?_)
      refine X.gy (X.bi ?_)
      refine X.pF ?_
      refine X.mv ?_
      refine X.iG (fun hb73=>?_) (fun hb73=>?_)
      ·replace h:=condF hb73 h
       refine X.fl fld92_3 ?_
       refine X.gy (X.ld shp3 ?_)
       refine X.gy ?_
       obtain ⟨v74,hv74,h⟩:=bindE h
       refine X.cp (s_l01In_pc _ _ _ _ hv74) ?_
       refine X.gy (X.un (h:=?_))
       refine X.pF ?_
       cases h
       exact X.eG
      replace h:=condT hb73 h
      refine X.gn (X.gn (X.gn (X.pT ?_)))
      cases h
      exact X.eG
     replace h:=condT hb72 h
     refine X.gn (X.gn (X.gn (X.gn (X.pT ?_))))
     refine X.mv ?_
     refine X.gn (X.gn (X.gn (X.gn (X.pT ?_))))
     cases h
     exact X.eG
    replace h:=condT hb70 h
    refine X.gn (X.gn (X.gn (X.gn (X.gn (X.pT ?_)))))
    refine X.mv ?_
    refine X.gn (X.gn (X.gn (X.gn (X.gn (X.pT ?_)))))
    refine X.mv ?_
    refine X.gn (X.gn (X.gn (X.gn (X.pT ?_))))
    cases h
    exact X.eG
   replace h:=h2;clear h2
   refine R.cd (fun hc75=>?_) (fun hc75=>?_)
   ·replace h:=condT hc75 h
    refine Run.sr (X.an ?_)
    cases h
    have h:=hup58
    replace h:=elimR h
    cases h
    refine R.f1 Tryz.results75 ?_
    rfl
   replace h:=condF hc75 h
   refine Run.skip (Run.blk (Run.reg (X.ad ?_)))
   refine X.mn ?_
   exact R.ag hag63 (n63 - 1) (z64+1) (R.n3 (by first | (rw [hds63];exact h) | (dsimp only;rw [hds63];exact h)))
  rw [drop_endI hza63 hc67] at h
  rw [s_ProjectOk_L4] at h
  refine Run.exit (by rfl) ?_
  exact R.mt hmeet59 () (Option.some.inj h)
 rintro p76 rfl
 replace h:=elimL h
 refine Run.sr (X.an ?_)
 cases h
 refine R.f1 Tryz.results75 ?_
 rfl
theorem s_IsMachine_pc (b0:TProject)(b1:Int)(r:Bool)(h:s_IsMachine b0 b1=some r):PC Tryz.prog 136 [eTProject b0,int b1] (bool r):=by
 unfold s_IsMachine at h
 refine PC.start Tryz.func136 Tryz.ntmps136 rfl (by kernel_rfl) rfl ?_
 refine Run.sr (X.bx ?_)
 refine X.an ?_
 refine Run.seq ?_
 obtain ⟨v1,hv1,h⟩:=bindE h
 obtain ⟨e2,he2,h2⟩:=bindE h
 refine R.regG [(4,bool e2)] [] ?_ ?_
 ·clear h;have h:=he2;clear he2 h2
  refine X.mv ?_
  refine X.fl fld36_3 ?_
  refine X.ld shp34 ?_
  refine X.ls elt34 ?_
  refine X.subW (h:=?_)
  refine X.cp (s_l01In_pc _ _ _ _ hv1) ?_
  refine X.mv ?_
  refine X.iG (fun hb3=>?_) (fun hb3=>?_)
  ·replace h:=condT hb3 h
   refine X.fl fld36_3 ?_
   refine X.gy (X.ld shp34 ?_)
   refine X.gy (X.mv ?_)
   refine X.gy ?_
   obtain ⟨v4,hv4,h⟩:=bindE h
   refine X.ix elt34 (idxL_spec hv4).1 (idxL_map eTResource hv4) ?_
   refine X.gy (X.fieldAddr_c fld97_1 (by rfl) (by rfl) ?_)
   refine X.gy (X.lc shp76 ?_)
   refine X.gy (X.ls elt76 ?_)
   refine X.gy (X.bi ?_)
   refine X.pT ?_
   refine X.as ?_
   cases h
   exact X.eG
  replace h:=condF hb3 h
  refine X.gn (X.gn (X.gn (X.gn (X.gn (X.gn (X.gn (X.pF ?_)))))))
  refine X.as ?_
  cases h
  exact X.eG
 replace h:=h2;clear h2
 cases h
 refine R.f1 Tryz.results136 ?_
 rfl
theorem s_RuleOk_pc (b0:TProject)(b1:TRule)(r:Bool)(h:s_RuleOk b0 b1=some r):PC Tryz.prog 99 [eTProject b0,eTRule b1] (bool r):=by
 unfold s_RuleOk at h
 refine PC.start Tryz.func99 Tryz.ntmps99 rfl (by kernel_rfl) rfl ?_
 refine Run.sr (X.bx ?_)
 refine X.bx ?_
 refine X.an ?_
 refine Run.sr (X.fl fld36_1 ?_)
 refine X.ld shp32 ?_
 refine X.ls elt32 ?_
 refine X.an ?_
 refine Run.seq (Run.sr (X.ld shp36 ?_))
 obtain ⟨v1,hv1,h⟩:=bindE h
 refine X.cp (s_ProjectOk_pc _ _ hv1) ?_
 refine X.un (h:=?_)
 refine X.nil ?_
 refine R.cd (fun hc2=>?_) (fun hc2=>?_)
 ·replace h:=condT hc2 h
  refine Run.sr (X.an ?_)
  cases h
  refine R.f1 Tryz.results99 ?_
  rfl
 replace h:=condF hc2 h
 refine Run.skip (Run.seq (Run.sr (X.fl fld50_0 ?_)))
 refine X.ld shp3 ?_
 refine X.nil (Run.block (Run.sr (X.bi ?_)))
 refine X.an ?_
 refine R.cd (fun hc3=>?_) (fun hc3=>?_)
 ·replace h:=condT hc3 h
  refine Run.seq ?_
  obtain ⟨v4,hv4,h⟩:=bindE h
  obtain ⟨e5,he5,h2⟩:=bindE h
  refine R.regG [(4,bool e5)] [] ?_ ?_
  ·clear h;have h:=he5;clear he5 h2
   refine X.fl fld50_1 ?_
   refine X.ld shp3 ?_
   refine X.fl fld36_2 ?_
   refine X.ld shp33 ?_
   refine X.ls elt33 ?_
   refine X.subW (h:=?_)
   refine X.cp (s_l01In_pc _ _ _ _ hv4) ?_
   refine X.mv ?_
   refine X.iG (fun hb6=>?_) (fun hb6=>?_)
   ·replace h:=condT hb6 h
    refine X.fl fld50_2 ?_
    refine X.gy (X.ld shp3 ?_)
    refine X.gy (X.bi ?_)
    refine X.pT ?_
    refine X.mv ?_
    refine X.iG (fun hb7=>?_) (fun hb7=>?_)
    ·replace h:=condT hb7 h
     refine X.fl fld50_3 ?_
     refine X.gy (X.ld shp3 ?_)
     refine X.gy (X.bi ?_)
     refine X.pT ?_
     refine X.as ?_
     cases h
     exact X.eG
    replace h:=condF hb7 h
    refine X.gn (X.gn (X.pF ?_))
    refine X.as ?_
    cases h
    exact X.eG
   replace h:=condF hb6 h
   refine X.gn (X.gn (X.pF ?_))
   refine X.mv ?_
   refine X.gn (X.gn (X.gn (X.pF ?_)))
   refine X.as ?_
   cases h
   exact X.eG
  replace h:=h2;clear h2
  cases h
  refine R.f1 Tryz.results99 ?_
  rfl
 replace h:=condF hc3 h
 refine Run.sr (X.bi ?_)
 refine X.an ?_
 refine R.cd (fun hc8=>?_) (fun hc8=>?_)
 ·replace h:=condT hc8 h
  refine Run.seq ?_
  obtain ⟨v9,hv9,h⟩:=bindE h
  obtain ⟨e10,he10,h2⟩:=bindE h
  refine R.regG [(4,bool e10)] [] ?_ ?_
  ·clear h;have h:=he10;clear he10 h2
   refine X.fl fld50_1 ?_
   refine X.ld shp3 ?_
   refine X.mv ?_
   refine X.subW (h:=?_)
   refine X.cp (s_l01In_pc _ _ _ _ hv9) ?_
   refine X.mv ?_
   refine X.iG (fun hb11=>?_) (fun hb11=>?_)
   ·replace h:=condT hb11 h
    refine X.fl fld50_2 ?_
    refine X.gy (X.ld shp3 ?_)
    refine X.gy (X.bi ?_)
    refine X.pT ?_
    refine X.mv ?_
    refine X.iG (fun hb12=>?_) (fun hb12=>?_)
    ·replace h:=condT hb12 h
     refine X.fl fld50_3 ?_
     refine X.gy (X.ld shp3 ?_)
     refine X.gy (X.bi ?_)
     refine X.pT ?_
     refine X.as ?_
     cases h
     exact X.eG
    replace h:=condF hb12 h
    refine X.gn (X.gn (X.pF ?_))
    refine X.as ?_
    cases h
    exact X.eG
   replace h:=condF hb11 h
   refine X.gn (X.gn (X.pF ?_))
   refine X.mv ?_
   refine X.gn (X.gn (X.gn (X.pF ?_)))
   refine X.as ?_
   cases h
   exact X.eG
  replace h:=h2;clear h2
  cases h
  refine R.f1 Tryz.results99 ?_
  rfl
 replace h:=condF hc8 h
 refine Run.sr (X.bi ?_)
 refine X.an ?_
 refine R.cd (fun hc13=>?_) (fun hc13=>?_)
 ·replace h:=condT hc13 h
  refine Run.seq ?_
  obtain ⟨v14,hv14,h⟩:=bindE h
  obtain ⟨e15,he15,h2⟩:=bindE h
  refine R.regG [(4,bool e15)] [] ?_ ?_
  ·clear h;have h:=he15;clear he15 h2
   refine X.fl fld50_1 ?_
   refine X.ld shp3 ?_
   refine X.fl fld36_3 ?_
   refine X.ld shp34 ?_
   refine X.ls elt34 ?_
   refine X.subW (h:=?_)
   refine X.cp (s_l01In_pc _ _ _ _ hv14) ?_
   refine X.mv ?_
   refine X.iG (fun hb16=>?_) (fun hb16=>?_)
   ·replace h:=condT hb16 h
    refine X.fl fld50_2 ?_
    refine X.gy (X.ld shp3 ?_)
    refine X.gy ?_
    obtain ⟨v17,hv17,h⟩:=bindE h
    refine X.cp (s_l01In_pc _ _ _ _ hv17) ?_
    refine X.pT ?_
    refine X.mv ?_
    refine X.iG (fun hb18=>?_) (fun hb18=>?_)
    ·replace h:=condT hb18 h
     refine X.fl fld50_3 ?_
     refine X.gy (X.ld shp3 ?_)
     refine X.gy (X.bi ?_)
     refine X.pT ?_
     refine X.as ?_
     cases h
     exact X.eG
    replace h:=condF hb18 h
    refine X.gn (X.gn (X.pF ?_))
    refine X.as ?_
    cases h
    exact X.eG
   replace h:=condF hb16 h
   refine X.gn (X.gn (X.pF ?_))
   refine X.mv ?_
   refine X.gn (X.gn (X.gn (X.pF ?_)))
   refine X.as ?_
   cases h
   exact X.eG
  replace h:=h2;clear h2
  cases h
  refine R.f1 Tryz.results99 ?_
  rfl
 replace h:=condF hc13 h
 refine Run.sr (X.bi ?_)
 refine X.an ?_
 refine R.cd (fun hc19=>?_) (fun hc19=>?_)
 ·replace h:=condT hc19 h
  refine Run.seq ?_
  obtain ⟨v20,hv20,h⟩:=bindE h
  obtain ⟨e21,he21,h2⟩:=bindE h
  refine R.regG [(4,bool e21)] [] ?_ ?_
  ·clear h;have h:=he21;clear he21 h2
   refine X.fl fld50_1 ?_
   refine X.ld shp3 ?_
   refine X.fl fld36_3 ?_
   refine X.ld shp34 ?_
   refine X.ls elt34 ?_
   refine X.subW (h:=?_)
   refine X.cp (s_l01In_pc _ _ _ _ hv20) ?_
   refine X.mv ?_
   refine X.iG (fun hb22=>?_) (fun hb22=>?_)
   ·replace h:=condT hb22 h
    refine X.fl fld50_2 ?_
    refine X.gy (X.ld shp3 ?_)
    refine X.gy ?_
    obtain ⟨v23,hv23,h⟩:=bindE h
    refine X.cp (s_l01In_pc _ _ _ _ hv23) ?_
    refine X.pT ?_
    refine X.mv ?_
    refine X.iG (fun hb24=>?_) (fun hb24=>?_)
    ·replace h:=condT hb24 h
     refine X.fl fld50_3 ?_
     refine X.gy (X.ld shp3 ?_)
     refine X.gy ?_
     obtain ⟨v25,hv25,h⟩:=bindE h
     refine X.cp (s_l01In_pc _ _ _ _ hv25) ?_
     refine X.pT ?_
     refine X.mv ?_
     refine X.iG (fun hb26=>?_) (fun hb26=>?_)
     ·replace h:=condT hb26 h
      refine X.fl fld50_2 ?_
      refine X.gy (X.ld shp3 ?_)
      refine X.gy (X.fl fld50_3 ?_)
      refine X.gy (X.ld shp3 ?_)
      refine X.gy (X.bi ?_)
      refine X.pT ?_
      refine X.as ?_
      cases h
      exact X.eG
     replace h:=condF hb26 h
     refine X.gn (X.gn (X.gn (X.gn (X.pF ?_))))
     refine X.as ?_
     cases h
     exact X.eG
    replace h:=condF hb24 h
    refine X.gn (X.gn (X.pF ?_))
    refine X.mv ?_
    refine X.gn (X.gn (X.gn (X.gn (X.gn (X.pF ?_)))))
    refine X.as ?_
    cases h
    exact X.eG
   replace h:=condF hb22 h
   refine X.gn (X.gn (X.pF ?_))
   refine X.mv ?_
   refine X.gn (X.gn (X.gn (X.pF ?_)))
   refine X.mv ?_
   refine X.gn (X.gn (X.gn (X.gn (X.gn (X.pF ?_)))))
   refine X.as ?_
   cases h
   exact X.eG
  replace h:=h2;clear h2
  cases h
  refine R.f1 Tryz.results99 ?_
  rfl
 replace h:=condF hc19 h
 refine Run.sr (X.bi ?_)
 refine X.an ?_
 refine R.cd (fun hc27=>?_) (fun hc27=>?_)
 ·replace h:=condT hc27 h
  refine Run.seq ?_
  obtain ⟨v28,hv28,h⟩:=bindE h
  obtain ⟨e29,he29,h2⟩:=bindE h
  refine R.regG [(4,bool e29)] [] ?_ ?_
  ·clear h;have h:=he29;clear he29 h2
   refine X.ld shp36 ?_
   refine X.fl fld50_1 ?_
   refine X.ld shp3 ?_
   refine X.cp (s_IsMachine_pc _ _ _ hv28) ?_
   refine X.mv ?_
   refine X.iG (fun hb30=>?_) (fun hb30=>?_)
   ·replace h:=condT hb30 h
    refine X.fl fld50_2 ?_
    refine X.gy (X.ld shp3 ?_)
    refine X.gy (X.mv ?_)
    refine X.gy (X.subW (h:=?_))
    refine X.gy ?_
    obtain ⟨v31,hv31,h⟩:=bindE h
    refine X.cp (s_l01In_pc _ _ _ _ hv31) ?_
    refine X.pT ?_
    refine X.mv ?_
    refine X.iG (fun hb32=>?_) (fun hb32=>?_)
    ·replace h:=condT hb32 h
     refine X.fl fld50_3 ?_
     refine X.gy (X.ld shp3 ?_)
     refine X.gy (X.mv ?_)
     refine X.gy (X.subW (h:=?_))
     refine X.gy ?_
     obtain ⟨v33,hv33,h⟩:=bindE h
     refine X.cp (s_l01In_pc _ _ _ _ hv33) ?_
     refine X.pT ?_
     refine X.mv ?_
     refine X.iG (fun hb34=>?_) (fun hb34=>?_)
     ·replace h:=condT hb34 h
      refine X.fl fld50_2 ?_
      refine X.gy (X.ld shp3 ?_)
      refine X.gy (X.fl fld50_3 ?_)
      refine X.gy (X.ld shp3 ?_)
      refine X.gy (X.bi ?_)
      refine X.pT ?_
      refine X.as ?_
      cases h
      exact X.eG
     replace h:=condF hb34 h
     refine X.gn (X.gn (X.gn (X.gn (X.pF ?_))))
     refine X.as ?_
     cases h
     exact X.eG
    replace h:=condF hb32 h
    refine X.gn (X.gn (X.gn (X.gn (X.pF ?_))))
    refine X.mv ?_
    refine X.gn (X.gn (X.gn (X.gn (X.gn (X.pF ?_)))))
    refine X.as ?_
    cases h
    exact X.eG
   replace h:=condF hb30 h
   refine X.gn (X.gn (X.gn (X.gn (X.pF ?_))))
   refine X.mv ?_
   refine X.gn (X.gn (X.gn (X.gn (X.gn (X.pF ?_)))))
   refine X.mv ?_
   refine X.gn (X.gn (X.gn (X.gn (X.gn (X.pF ?_)))))
   refine X.as ?_
   cases h
   exact X.eG
  replace h:=h2;clear h2
  cases h
  refine R.f1 Tryz.results99 ?_
  rfl
 replace h:=condF hc27 h
 refine Run.sr (X.bi ?_)
 refine X.an ?_
 refine R.cd (fun hc35=>?_) (fun hc35=>?_)
 ·replace h:=condT hc35 h
  refine Run.seq ?_
  obtain ⟨v36,hv36,h⟩:=bindE h
  obtain ⟨e37,he37,h2⟩:=bindE h
  refine R.regG [(4,bool e37)] [] ?_ ?_
  ·clear h;have h:=he37;clear he37 h2
   refine X.fl fld50_1 ?_
   refine X.ld shp3 ?_
   refine X.fl fld36_4 ?_
   refine X.ld shp25 ?_
   refine X.ls elt25 ?_
   refine X.subW (h:=?_)
   refine X.cp (s_l01In_pc _ _ _ _ hv36) ?_
   refine X.mv ?_
   refine X.iG (fun hb38=>?_) (fun hb38=>?_)
   ·replace h:=condT hb38 h
    refine X.fl fld50_2 ?_
    refine X.gy (X.ld shp3 ?_)
    refine X.gy (X.bi ?_)
    refine X.pT ?_
    refine X.mv ?_
    refine X.iG (fun hb39=>?_) (fun hb39=>?_)
    ·replace h:=condT hb39 h
     refine X.fl fld50_3 ?_
     refine X.gy (X.ld shp3 ?_)
     refine X.gy (X.bi ?_)
     refine X.pT ?_
     refine X.as ?_
     cases h
     exact X.eG
    replace h:=condF hb39 h
    refine X.gn (X.gn (X.pF ?_))
    refine X.as ?_
    cases h
    exact X.eG
   replace h:=condF hb38 h
   refine X.gn (X.gn (X.pF ?_))
   refine X.mv ?_
   refine X.gn (X.gn (X.gn (X.pF ?_)))
   refine X.as ?_
   cases h
   exact X.eG
  replace h:=h2;clear h2
  cases h
  refine R.f1 Tryz.results99 ?_
  rfl
 replace h:=condF hc35 h
 refine Run.skip (Run.blk (Run.sr (X.an ?_)))
 cases h
 refine R.f1 Tryz.results99 ?_
 rfl
theorem s_Join_pc (b0:List ByteArray)(b1:ByteArray)(r:ByteArray)(h:s_Join b0 b1=some r):PC Tryz.prog 44 [.slice (b0.map str),str b1] (str r):=by
 unfold s_Join at h
 refine PC.start Tryz.func44 Tryz.ntmps44 rfl (by kernel_rfl) rfl ?_
 refine Run.sr (X.an ?_)
 refine Run.sr (X.an ?_)
 refine Run.seq (Run.sr (X.mv ?_))
 refine X.ls elt47 ?_
 refine X.mn ?_
 obtain ⟨o1,ho1,h⟩:=bindE h
 refine R.join2 (β:=ByteArray) [] [] (fun p17 S=>(5,str p17)::S) (fun p17 M=>M) (fun p17=>p17=o1) ?_ ?_
 ·intro JJ4 hmeet3
  have hup2:=h;clear h;have h:=ho1;clear ho1
  refine Run.block ?_
  refine R.bndS (t:=0) (by rfl) (fun hbd7=>?_)
  replace hbd7:b0.length≤9223372036854775807:=by first | (rw [List.length_map] at hbd7;exact hbd7) | simp
  refine R.lp (β:=Int×ByteArray) [(1,str b1),(8,.slice (b0.map str)),(9,int (b0.length:Int))] [] (fun bb S=>(5,str bb.2)::(10,int bb.1)::S) (fun bb M=>M) (fun n bb=>0≤bb.1∧bb.1+n=(b0.length:Int)∧s_Join_L1 b1 (b0.drop bb.1.toNat) bb.1 bb.2=some o1) b0.length (0,ByteArray.empty) ⟨Int.le_refl _,by simp,h⟩ ?_
  clear h
  rintro JJ7 n7 ⟨z8,a9⟩ hag7 ⟨hza7,hzb7,h⟩
  dsimp only at hza7 hzb7 h
  refine Run.sr (X.bi ?_)
  refine X.nil (Run.seq ?_)
  refine R.cd (fun hc12=>?_) (fun hc12=>?_)
  ·obtain ⟨x10,xs11,hd7,hx7,hds7,hlt7⟩:=drop_atI hza7 hc12
   rw [hd7] at h
   rw [s_Join_L1] at h
   refine Run.skip (Run.seq (Run.block (Run.sr (X.mv ?_))))
   refine X.ix elt47 (idxL_spec hx7).1 (idxL_map str hx7) ?_
   refine X.lc shp9 ?_
   refine X.as ?_
   refine X.an ?_
   refine Run.seq (Run.sr (X.mv ?_))
   refine X.bi ?_
   refine X.nil ?_
   refine R.cd (fun hc13=>?_) (fun hc13=>?_)
   ·replace h:=condT hc13 h
    refine Run.reg (X.mv ?_)
    refine X.mv ?_
    obtain ⟨v14,hv14,h⟩:=bindE h
    refine X.cat2 hv14 (by rfl) (by rfl) (by rfl) ?_
    refine X.an ?_
    refine Run.reg (X.mv ?_)
    refine X.mv ?_
    obtain ⟨v15,hv15,h⟩:=bindE h
    refine X.cat2 hv15 (by rfl) (by rfl) (by rfl) ?_
    refine X.an ?_
    refine Run.blk (Run.reg (X.ad ?_))
    refine X.mn ?_
    exact R.ag hag7 (n7 - 1) (z8+1,v15) (R.n3 (by first | (rw [hds7];exact h) | (dsimp only;rw [hds7];exact h)))
   replace h:=condF hc13 h
   refine Run.skip (Run.reg (X.mv ?_))
   refine X.mv ?_
   obtain ⟨v16,hv16,h⟩:=bindE h
   refine X.cat2 hv16 (by rfl) (by rfl) (by rfl) ?_
   refine X.an ?_
   refine Run.blk (Run.reg (X.ad ?_))
   refine X.mn ?_
   exact R.ag hag7 (n7 - 1) (z8+1,v16) (R.n3 (by first | (rw [hds7];exact h) | (dsimp only;rw [hds7];exact h)))
  rw [drop_endI hza7 hc12] at h
  rw [s_Join_L1] at h
  refine Run.exit (by rfl) ?_
  exact R.mt hmeet3 a9 (Option.some.inj h)
 rintro p17 rfl
 refine Run.sr (X.mv ?_)
 refine X.an ?_
 cases h
 refine R.f1 Tryz.results44 ?_
 rfl
theorem s_FormatRule_pc (b0:TProject)(b1:TRule)(r:ByteArray)(h:s_FormatRule b0 b1=some r):PC Tryz.prog 71 [eTProject b0,eTRule b1] (str r):=by
 unfold s_FormatRule at h
 refine PC.start Tryz.func71 Tryz.ntmps71 rfl (by kernel_rfl) rfl ?_
 refine Run.sr (X.bx ?_)
 refine X.bx ?_
 refine X.an ?_
 refine Run.seq (Run.sr (X.ld shp36 ?_))
 refine X.ld shp50 ?_
 obtain ⟨v1,hv1,h⟩:=bindE h
 refine X.cp (s_RuleOk_pc _ _ _ hv1) ?_
 refine X.un (h:=?_)
 refine X.nil ?_
 refine R.cd (fun hc2=>?_) (fun hc2=>?_)
 ·replace h:=condT hc2 h
  refine Run.sr (X.an ?_)
  cases h
  refine R.f1 Tryz.results71 ?_
  rfl
 replace h:=condF hc2 h
 refine Run.skip (Run.seq (Run.draw (footOf [(1,([192],[],[],[])),(4,([192],[],[],[])),(6,([1024],[1024],[],[]))]) mixed (by kernel_rfl) (by kernel_rfl) ?_))
 refine X.fl fld50_0 ?_
 refine X.ld shp3 ?_
 obtain ⟨v3,hv3,h⟩:=bindE h
 refine X.cp (s_RuleName_pc _ _ hv3) ?_
 refine X.fl fld50_1 ?_
 refine X.ld shp3 ?_
 obtain ⟨v4,hv4,h⟩:=bindE h
 refine X.cp (s_FormatInt_pc _ _ hv4) ?_
 refine X.buildSlice true elt47 zer9 (by rfl) (by rfl) (by rfl) (by rfl) (by rfl) (by rfl) (by repeat (first | trivial | refine ⟨by first | rfl | simp [setL],?_⟩)) (allSz_spec (by rfl)) (by rfl) (by rfl) (by rfl) ?_
 refine X.an ?_
 refine Run.seq (Run.sr (X.fl fld50_0 ?_))
 refine X.ld shp3 ?_
 refine X.nil (Run.block (Run.sr (X.bi ?_)))
 refine X.an ?_
 obtain ⟨o5,ho5,h⟩:=bindE h
 refine R.join2 (β:=(List ByteArray)) [] [] (fun p23 S=>(5,.own 1024 (p23.map str).length)::S) (fun p23 M=>(1024,.obj true 9 1 (p23.map str))::M) (fun p23=>p23=o5) ?_ ?_
 ·intro JJ8 hmeet7
  have hup6:=h;clear h;have h:=ho5;clear ho5
  refine R.cd (fun hc9=>?_) (fun hc9=>?_)
  ·replace h:=condT hc9 h
   refine Run.reg (X.mv ?_)
   refine X.fl fld36_1 ?_
   refine X.ld shp32 ?_
   refine X.fl fld50_1 ?_
   refine X.ld shp3 ?_
   obtain ⟨v10,hv10,h⟩:=bindE h
   refine X.ix elt32 (idxL_spec hv10).1 (idxL_map eTActivity hv10) ?_
   refine X.fieldAddr_c fld89_0 (by rfl) (by rfl) ?_
   refine X.lc shp9 ?_
   obtain ⟨v11,hv11,h⟩:=bindE h
   refine X.index_xs elt47 (by rfl) (by rfl) (by first | rfl | simp [setL] | omega) (by rfl) (by exact (Int.toNat_of_nonneg (idxL_spec hv11).1).symm) (by have:=idxL_lt hv11;first | exact this | (rw [List.length_map];exact this)) (by rfl) (by rfl) ?_
   refine X.store_es shp9 (by rfl) (by rfl) (by first | rfl | simp [setL] | omega) (idxL_map _ hv11) (by rfl) (by rfl) (by repeat (first | trivial | refine ⟨by first | rfl | simp [setL],?_⟩)) (by rfl) (by rfl) (by rfl) (by rfl) (by exact setL_map _ _ _ v10.Name) ?_
   refine X.nil (R.castS (t:=5) (.own 1024 ((setL ([v3,v4]:List ByteArray) 1 v10.Name).map str).length) (by rfl) (.inl (by first | rfl | simp [setL])) ?_)
   exact R.mt hmeet7 (setL ([v3,v4]:List ByteArray) 1 v10.Name) (Option.some.inj h)
  replace h:=condF hc9 h
  refine Run.sr (X.bi ?_)
  refine X.an ?_
  refine R.cd (fun hc12=>?_) (fun hc12=>?_)
  ·replace h:=condT hc12 h
   refine Run.reg (X.mv ?_)
   refine X.fl fld50_2 ?_
   refine X.ld shp3 ?_
   obtain ⟨v13,hv13,h⟩:=bindE h
   refine X.cp (s_FormatInt_pc _ _ hv13) ?_
   refine X.buildSlice false elt47 zer9 (by rfl) (by rfl) (by rfl) (by rfl) (by rfl) (by rfl) (by repeat (first | trivial | refine ⟨by first | rfl | simp [setL],?_⟩)) (allSz_spec (by rfl)) (by rfl) (by rfl) (by rfl) ?_
   obtain ⟨v14,hv14,h⟩:=bindE h
   refine X.append elt47 zer9 (by rfl) (by rfl) (by first | rfl | simp [setL] | omega) (by rfl) (.own _ _ _ _ _ _ (look_mem (by rfl)) (by first | rfl | simp [setL] | omega)) (allSz_spec (by rfl)) (appL_len str hv14) (appL_map str hv14) (by rfl) (by rfl) (by rfl) (by rfl) ?_
   refine X.an ?_
   exact R.mt hmeet7 v14 (Option.some.inj h)
  replace h:=condF hc12 h
  refine Run.sr (X.bi ?_)
  refine X.an ?_
  refine R.cd (fun hc15=>?_) (fun hc15=>?_)
  ·replace h:=condT hc15 h
   refine Run.draw (footOf [(2,([192],[],[],[])),(5,([192],[],[],[])),(7,([3008],[3008],[],[])),(8,([1024,3008],[1024],[],[]))]) mixed (by kernel_rfl) (by kernel_rfl) ?_
   refine X.mv ?_
   refine X.fl fld50_2 ?_
   refine X.ld shp3 ?_
   obtain ⟨v16,hv16,h⟩:=bindE h
   refine X.cp (s_FormatInt_pc _ _ hv16) ?_
   refine X.fl fld50_3 ?_
   refine X.ld shp3 ?_
   obtain ⟨v17,hv17,h⟩:=bindE h
   refine X.cp (s_FormatInt_pc _ _ hv17) ?_
   refine X.buildSlice false elt47 zer9 (by rfl) (by rfl) (by rfl) (by rfl) (by rfl) (by rfl) (by repeat (first | trivial | refine ⟨by first | rfl | simp [setL],?_⟩)) (allSz_spec (by rfl)) (by rfl) (by rfl) (by rfl) ?_
   obtain ⟨v18,hv18,h⟩:=bindE h
   refine X.append elt47 zer9 (by rfl) (by rfl) (by first | rfl | simp [setL] | omega) (by rfl) (.own _ _ _ _ _ _ (look_mem (by rfl)) (by first | rfl | simp [setL] | omega)) (allSz_spec (by rfl)) (appL_len str hv18) (appL_map str hv18) (by rfl) (by rfl) (by rfl) (by rfl) ?_
   refine X.an ?_
   exact R.mt hmeet7 v18 (Option.some.inj h)
  replace h:=condF hc15 h
  refine Run.sr (X.bi ?_)
  refine X.an ?_
  refine R.cd (fun hc19=>?_) (fun hc19=>?_)
  ·replace h:=condT hc19 h
   refine Run.draw (footOf [(2,([128],[],[],[])),(4,([192],[],[],[])),(9,([128],[],[],[])),(11,([192],[],[],[])),(15,([4224],[4224],[],[])),(16,([1024,4224],[1024],[],[]))]) mixed (by kernel_rfl) (by kernel_rfl) ?_
   refine X.mv ?_
   refine X.fl fld36_1 ?_
   refine X.ld shp32 ?_
   refine X.fl fld50_2 ?_
   refine X.ld shp3 ?_
   obtain ⟨v20,hv20,h⟩:=bindE h
   refine X.ix elt32 (idxL_spec hv20).1 (idxL_map eTActivity hv20) ?_
   refine X.fieldAddr_c fld89_0 (by rfl) (by rfl) ?_
   refine X.lc shp9 ?_
   refine X.fl fld36_1 ?_
   refine X.ld shp32 ?_
   refine X.fl fld50_3 ?_
   refine X.ld shp3 ?_
   obtain ⟨v21,hv21,h⟩:=bindE h
   refine X.ix elt32 (idxL_spec hv21).1 (idxL_map eTActivity hv21) ?_
   refine X.fieldAddr_c fld89_0 (by rfl) (by rfl) ?_
   refine X.lc shp9 ?_
   refine X.buildSlice false elt47 zer9 (by rfl) (by rfl) (by rfl) (by rfl) (by rfl) (by rfl) (by repeat (first | trivial | refine ⟨by first | rfl | simp [setL],?_⟩)) (allSz_spec (by rfl)) (by rfl) (by rfl) (by rfl) ?_
   obtain ⟨v22,hv22,h⟩:=bindE h
   refine X.append elt47 zer9 (by rfl) (by rfl) (by first | rfl | simp [setL] | omega) (by rfl) (.own _ _ _ _ _ _ (look_mem (by rfl)) (by first | rfl | simp [setL] | omega)) (allSz_spec (by rfl)) (appL_len str hv22) (appL_map str hv22) (by rfl) (by rfl) (by rfl) (by rfl) ?_
   refine X.an ?_
   exact R.mt hmeet7 v22 (Option.some.inj h)
  replace h:=condF hc19 h
  refine Run.skip ?_
  exact R.mt hmeet7 ([v3,v4]:List ByteArray) (Option.some.inj h)
 rintro p23 rfl
 refine Run.blk (Run.sr (X.mv ?_))
 obtain ⟨v24,hv24,h⟩:=bindE h
 refine X.callM [(63,1024)] (PC.lend (M0:=[(63,.obj true 9 1 (p23.map str))]) (s_Join_pc _ _ _ hv24) (.lit _) (by rfl) (.own 63 _ _ _ _ _ _ _ (by rfl) (by first | rfl | simp [setL] | omega) (.same _ _ _ (by rfl) .nil))) (by rfl) (by rfl) (.ownB 63 (by rfl) (by first | rfl | simp [setL] | omega) (by rfl) (.pureB (by rfl) (by repeat (first | trivial | refine ⟨by first | rfl | simp [setL],?_⟩)) .nil)) (by rfl) ⟨rfl,rfl,⟨_,by rfl,by constructor⟩,by constructor,trivial⟩ (by rfl) (by rfl) (by rfl) (by rfl) (by rfl) (by rfl) (by rfl) (by rfl) (by rfl) ?_
 refine X.an ?_
 cases h
 refine R.f1 Tryz.results71 ?_
 rfl
theorem s_ParseRule_pc (b0:TProject)(b1:ByteArray)(r:TRule×Bool)(h:s_ParseRule b0 b1=some r):PC Tryz.prog 41 [eTProject b0,str b1] (.tuple [eTRule r.1,bool r.2]):=by
 unfold s_ParseRule at h
 refine PC.start Tryz.func41 Tryz.ntmps41 rfl (by kernel_rfl) rfl ?_
 refine Run.sr (X.bx ?_)
 refine X.alloc zer50 (h:=?_)
 refine X.an ?_
 refine Run.sr (X.mv ?_)
 obtain ⟨v1,hv1,h⟩:=bindE h
 refine X.callF (s_SplitAny_pc _ _ _ hv1) (by rfl) (by rfl) (by rfl) (by trivial) (by rfl) (by rfl) (by rfl) (by rfl) ?_
 refine X.buildSlice false elt47 zer9 (by rfl) (by rfl) (by rfl) (by rfl) (by rfl) (by rfl) (by repeat (first | trivial | refine ⟨by first | rfl | simp [setL],?_⟩)) (allSz_spec (by rfl)) (by rfl) (by rfl) (by rfl) ?_
 obtain ⟨v2,hv2,h⟩:=bindE h
 refine X.append elt47 zer9 (by rfl) (by rfl) (by first | rfl | simp [setL] | omega) (by rfl) (.own _ _ _ _ _ _ (look_mem (by rfl)) (by first | rfl | simp [setL] | omega)) (allSz_spec (by rfl)) (appL_len str hv2) (appL_map str hv2) (by rfl) (by rfl) (by rfl) (by rfl) ?_
 refine X.an ?_
 refine Run.sr ?_
 refine X.build zer50 pl50 (by rfl) (by rfl) (by repeat (first | trivial | refine ⟨by first | rfl | simp [setL],?_⟩)) (by rfl) (by rfl) (by rfl) ?_
 refine X.alloc zer50 (h:=?_)
 refine X.sl shp50 ?_
 refine X.nil (Run.seq (Run.sr (X.an ?_)))
 obtain ⟨o3,ho3,h⟩:=bindE h
 refine R.join2 (β:=Int) [(1,str b1),(2,.lptr 128 0),(4,.lptr 256 0),(7,.lptr 448 0)] [(128,.blk true [int b0.Deadline,.slice (b0.Activities.map eTActivity),.slice (b0.Links.map eTLink),.slice (b0.Resources.map eTResource),.slice (b0.Stocks.map int)]),(256,.blk true [int 0,int 0,int 0,int 0]),(1024,.obj false 9 1 (v2.map str))] (fun p16 S=>(6,.own 1024 (v2.map str).length)::S) (fun p16 M=>(448,.blk true [int p16,int 0,int 0,int 0])::M) (fun p16=>p16=o3) ?_ ?_
 ·intro JJ6 hmeet5
  have hup4:=h;clear h;have h:=ho3;clear ho3
  refine Run.block ?_
  refine R.lp (β:=Int×Int) [(1,str b1),(2,.lptr 128 0),(4,.lptr 256 0),(7,.lptr 448 0)] [(128,.blk true [int b0.Deadline,.slice (b0.Activities.map eTActivity),.slice (b0.Links.map eTLink),.slice (b0.Resources.map eTResource),.slice (b0.Stocks.map int)]),(256,.blk true [int 0,int 0,int 0,int 0]),(1024,.obj false 9 1 (v2.map str))] (fun bb S=>(6,.own 1024 (v2.map str).length)::(8,int bb.1)::S) (fun bb M=>(448,.blk true [int bb.2,int 0,int 0,int 0])::M) (fun n bb=>s_ParseRule_L1 v2 n bb.1 bb.2=some o3) F0 (1,0) h ?_
  clear h
  rintro JJ6 n6 ⟨a8,a9⟩ hag6 h
  dsimp only at h
  obtain _ | n6:=n6
  ·exact absurd h (by simp [s_ParseRule_L1])
  rw [s_ParseRule_L1] at h
  refine Run.seq (Run.sr (X.mv ?_))
  refine X.bi ?_
  refine X.nil ?_
  refine R.cd (fun hc12=>?_) (fun hc12=>?_)
  ·replace h:=condT hc12 h
   refine Run.skip (Run.seq (Run.block (Run.seq (Run.draw (footOf [(3,([1024],[],[],[]))]) mixed (by kernel_rfl) (by kernel_rfl) ?_))))
   refine X.mv ?_
   obtain ⟨v13,hv13,h⟩:=bindE h
   refine X.cp (s_RuleName_pc _ _ hv13) ?_
   refine X.mv ?_
   obtain ⟨v14,hv14,h⟩:=bindE h
   refine X.index_o elt47 (by rfl) (by rfl) (by first | rfl | simp [setL] | omega) (by rfl) (idxL_spec hv14).1 (idxL_map str hv14) (by rfl) (by rfl) (by rfl) ?_
   refine X.lc shp9 ?_
   refine X.bi ?_
   refine X.nil ?_
   refine R.cd (fun hc15=>?_) (fun hc15=>?_)
   ·replace h:=condT hc15 h
    refine Run.reg (X.mv ?_)
    refine X.fl fld50_0 ?_
    refine X.sl shp3 ?_
    refine X.nil (Run.blk (Run.reg (X.mv ?_)))
    refine X.addW (h:=?_)
    refine X.an ?_
    exact hag6 n6 ((W (a8+1)),a8) _ _ (by omega) h (by repeat (first | trivial | refine ⟨by first | rfl | simp [setL],?_⟩)) (by repeat (first | trivial | refine ⟨by first | rfl | simp [setL],?_⟩)) (by rfl) (by rfl)
   replace h:=condF hc15 h
   refine Run.skip (Run.blk (Run.reg (X.mv ?_)))
   refine X.addW (h:=?_)
   refine X.an ?_
   exact hag6 n6 ((W (a8+1)),a9) _ _ (by omega) h (by repeat (first | trivial | refine ⟨by first | rfl | simp [setL],?_⟩)) (by repeat (first | trivial | refine ⟨by first | rfl | simp [setL],?_⟩)) (by rfl) (by rfl)
  replace h:=condF hc12 h
  refine Run.exit (by rfl) ?_
  exact R.mt hmeet5 a9 (Option.some.inj h)
 rintro p16 rfl
 refine Run.sr (X.mv ?_)
 obtain ⟨v17,hv17,h⟩:=bindE h
 refine X.index_o elt47 (by rfl) (by rfl) (by first | rfl | simp [setL] | omega) (by rfl) (idxL_spec hv17).1 (idxL_map str hv17) (by rfl) (by rfl) (by rfl) ?_
 refine X.lc shp9 ?_
 obtain ⟨v18,hv18,h⟩:=bindE h
 refine X.callT (s_ParseInt_pc _ _ hv18) (by rfl) (by rfl) (by rfl) (by trivial) (by rfl) (by rfl) (by rfl) (by rfl) (by rfl) (by rfl) ?_
 refine X.mv ?_
 refine X.extract (h:=?_)
 refine X.extract (h:=?_)
 refine X.as ?_
 refine X.an ?_
 refine Run.sr (X.mv ?_)
 refine X.fl fld50_1 ?_
 refine X.sl shp3 ?_
 refine X.nil (Run.seq (Run.sr (X.fl fld50_0 ?_)))
 refine X.ld shp3 ?_
 refine X.nil (Run.block (Run.sr (X.bi ?_)))
 refine X.an ?_
 obtain ⟨o19,ho19,h⟩:=bindE h
 refine R.join2 (β:=Int×Int×Int) [(1,str b1),(2,.lptr 128 0),(4,.lptr 256 0),(7,.lptr 448 0)] [(128,.blk true [int b0.Deadline,.slice (b0.Activities.map eTActivity),.slice (b0.Links.map eTLink),.slice (b0.Resources.map eTResource),.slice (b0.Stocks.map int)]),(256,.blk true [int 0,int 0,int 0,int 0])] (fun p42 S=>S) (fun p42 M=>(448,.blk true [int p16,int p42.1,int p42.2.1,int p42.2.2])::M) (fun p42=>p42=o19) ?_ ?_
 ·intro JJ22 hmeet21
  have hup20:=h;clear h;have h:=ho19;clear ho19
  refine R.cd (fun hc23=>?_) (fun hc23=>?_)
  ·replace h:=condT hc23 h
   refine Run.draw (footOf [(0,([128],[],[],[])),(2,([1024],[],[],[])),(6,([448],[448],[],[]))]) mixed (by kernel_rfl) (by kernel_rfl) ?_
   refine X.ld shp36 ?_
   refine X.mv ?_
   refine X.index_o elt47 (by rfl) (by rfl) (by first | rfl | simp [setL] | omega) (by rfl) (idxL_spec hv17).1 (idxL_map str hv17) (by rfl) (by rfl) (by rfl) ?_
   refine X.lc shp9 ?_
   obtain ⟨v24,hv24,h⟩:=bindE h
   refine X.cp (s_ActivityIndex_pc _ _ _ hv24) ?_
   refine X.fl fld50_1 ?_
   refine X.sl shp3 ?_
   refine X.nil ?_
   exact R.mt hmeet21 (v24,0,0) (Option.some.inj h)
  replace h:=condF hc23 h
  refine Run.seq (Run.sr (X.bi ?_))
  refine X.an ?_
  obtain ⟨o25,ho25,h⟩:=bindE h
  refine R.join2 (β:=Bool) [(1,str b1),(2,.lptr 128 0),(4,.lptr 256 0),(7,.lptr 448 0),(42,int p16)] [(128,.blk true [int b0.Deadline,.slice (b0.Activities.map eTActivity),.slice (b0.Links.map eTLink),.slice (b0.Resources.map eTResource),.slice (b0.Stocks.map int)]),(256,.blk true [int 0,int 0,int 0,int 0]),(1024,.obj false 9 1 (v2.map str)),(448,.blk true [int p16,int v18.1,int 0,int 0])] (fun p30 S=>(6,.own 1024 (v2.map str).length)::(51,bool p30)::S) (fun p30 M=>M) (fun p30=>p30=o25) ?_ ?_
  ·intro JJ28 hmeet27
   have hup26:=h;clear h;have h:=ho25;clear ho25
   refine R.cd (fun hc29=>?_) (fun hc29=>?_)
   ·replace h:=condT hc29 h
    refine Run.skip ?_
    exact R.mt hmeet27 (p16 == 3) (Option.some.inj h)
   replace h:=condF hc29 h
   refine Run.reg (X.bi ?_)
   refine X.an ?_
   exact R.mt hmeet27 (p16 == 4) (Option.some.inj h)
  rintro p30 rfl
  refine R.cd (fun hc31=>?_) (fun hc31=>?_)
  ·replace h:=condT hc31 h
   refine Run.sr (X.mv ?_)
   obtain ⟨v32,hv32,h⟩:=bindE h
   refine X.index_o elt47 (by rfl) (by rfl) (by first | rfl | simp [setL] | omega) (by rfl) (idxL_spec hv32).1 (idxL_map str hv32) (by rfl) (by rfl) (by rfl) ?_
   refine X.lc shp9 ?_
   obtain ⟨v33,hv33,h⟩:=bindE h
   refine X.callT (s_ParseInt_pc _ _ hv33) (by rfl) (by rfl) (by rfl) (by trivial) (by rfl) (by rfl) (by rfl) (by rfl) (by rfl) (by rfl) ?_
   refine X.mv ?_
   refine X.extract (h:=?_)
   refine X.extract (h:=?_)
   refine X.as ?_
   refine X.an ?_
   refine Run.sr (X.mv ?_)
   refine X.fl fld50_2 ?_
   refine X.sl shp3 ?_
   refine X.nil (Run.sr (X.fl fld50_0 ?_))
   refine X.ld shp3 ?_
   refine X.bi ?_
   refine X.nil ?_
   refine R.cd (fun hc34=>?_) (fun hc34=>?_)
   ·replace h:=condT hc34 h
    refine Run.sr (X.mv ?_)
    obtain ⟨v35,hv35,h⟩:=bindE h
    refine X.index_o elt47 (by rfl) (by rfl) (by first | rfl | simp [setL] | omega) (by rfl) (idxL_spec hv35).1 (idxL_map str hv35) (by rfl) (by rfl) (by rfl) ?_
    refine X.lc shp9 ?_
    obtain ⟨v36,hv36,h⟩:=bindE h
    refine X.callT (s_ParseInt_pc _ _ hv36) (by rfl) (by rfl) (by rfl) (by trivial) (by rfl) (by rfl) (by rfl) (by rfl) (by rfl) (by rfl) ?_
    refine X.mv ?_
    refine X.extract (h:=?_)
    refine X.extract (h:=?_)
    refine X.as ?_
    refine X.an ?_
    refine Run.reg (X.mv ?_)
    refine X.fl fld50_3 ?_
    refine X.sl shp3 ?_
    refine X.nil ?_
    exact R.mt hmeet21 (v18.1,v33.1,v36.1) (Option.some.inj h)
   replace h:=condF hc34 h
   refine Run.skip ?_
   exact R.mt hmeet21 (v18.1,v33.1,0) (Option.some.inj h)
  replace h:=condF hc31 h
  refine Run.sr (X.bi ?_)
  refine X.an ?_
  refine R.cd (fun hc37=>?_) (fun hc37=>?_)
  ·replace h:=condT hc37 h
   refine Run.seq (Run.draw (footOf [(0,([128],[],[],[])),(2,([1024],[],[],[])),(6,([448],[448],[],[]))]) mixed (by kernel_rfl) (by kernel_rfl) ?_)
   refine X.ld shp36 ?_
   refine X.mv ?_
   obtain ⟨v38,hv38,h⟩:=bindE h
   refine X.index_o elt47 (by rfl) (by rfl) (by first | rfl | simp [setL] | omega) (by rfl) (idxL_spec hv38).1 (idxL_map str hv38) (by rfl) (by rfl) (by rfl) ?_
   refine X.lc shp9 ?_
   obtain ⟨v39,hv39,h⟩:=bindE h
   refine X.cp (s_ActivityIndex_pc _ _ _ hv39) ?_
   refine X.fl fld50_2 ?_
   refine X.sl shp3 ?_
   refine X.nil (Run.draw (footOf [(0,([128],[],[],[])),(2,([1024],[],[],[])),(6,([448],[448],[],[]))]) mixed (by kernel_rfl) (by kernel_rfl) ?_)
   refine X.ld shp36 ?_
   refine X.mv ?_
   obtain ⟨v40,hv40,h⟩:=bindE h
   refine X.index_o elt47 (by rfl) (by rfl) (by first | rfl | simp [setL] | omega) (by rfl) (idxL_spec hv40).1 (idxL_map str hv40) (by rfl) (by rfl) (by rfl) ?_
   refine X.lc shp9 ?_
   obtain ⟨v41,hv41,h⟩:=bindE h
   refine X.cp (s_ActivityIndex_pc _ _ _ hv41) ?_
   refine X.fl fld50_3 ?_
   refine X.sl shp3 ?_
   refine X.nil ?_
   exact R.mt hmeet21 (v18.1,v39,v41) (Option.some.inj h)
  replace h:=condF hc37 h
  refine Run.skip ?_
  exact R.mt hmeet21 (v18.1,0,0) (Option.some.inj h)
 rintro p42 rfl
 refine Run.blk (Run.seq (Run.seq ?_))
 obtain ⟨v43,hv43,h⟩:=bindE h
 obtain ⟨e44,he44,h2⟩:=bindE h
 refine R.regG [(4,.lptr 256 0),(7,.lptr 448 0),(99,bool e44)] [(256,.blk true [int 0,int 0,int 0,int 0]),(448,.blk true [int p16,int p42.1,int p42.2.1,int p42.2.2])] ?_ ?_
 ·clear h;have h:=he44;clear he44 h2
  refine X.ld shp36 ?_
  refine X.ld shp50 ?_
  refine X.cp (s_FormatRule_pc _ _ _ hv43) ?_
  refine X.bi ?_
  refine X.mv ?_
  refine X.iG (fun hb45=>?_) (fun hb45=>?_)
  ·replace h:=condF hb45 h
   refine X.ld shp36 ?_
   refine X.gy (X.ld shp50 ?_)
   refine X.gy ?_
   obtain ⟨v46,hv46,h⟩:=bindE h
   refine X.cp (s_FormatRule_pc _ _ _ hv46) ?_
   refine X.gy (X.mv ?_)
   refine X.gy (X.bi ?_)
   refine X.pF ?_
   cases h
   exact X.eG
  replace h:=condT hb45 h
  refine X.gn (X.gn (X.gn (X.gn (X.pT ?_))))
  cases h
  exact X.eG
 replace h:=h2;clear h2
 refine R.cd (fun hc47=>?_) (fun hc47=>?_)
 ·replace h:=condT hc47 h
  refine Run.sr ?_
  refine X.build zer50 pl50 (by rfl) (by rfl) (by repeat (first | trivial | refine ⟨by first | rfl | simp [setL],?_⟩)) (by rfl) (by rfl) (by rfl) ?_
  refine X.sl shp50 ?_
  refine X.an ?_
  cases h
  refine R.finC2 Tryz.results41 shp50 (by rfl) (by rfl) (by rfl) (by rfl) (by rfl) (by rfl) (by repeat (first | trivial | refine ⟨by first | rfl | simp [setL],?_⟩)) ?_
  rfl
 replace h:=condF hc47 h
 refine Run.skip (Run.sr (X.ld shp50 ?_))
 refine X.sl shp50 ?_
 refine X.an ?_
 cases h
 refine R.finC2 Tryz.results41 shp50 (by rfl) (by rfl) (by rfl) (by rfl) (by rfl) (by rfl) (by repeat (first | trivial | refine ⟨by first | rfl | simp [setL],?_⟩)) ?_
 rfl
theorem s_LiteralOk_pc (b0:TProject)(b1:TLiteral)(r:Bool)(h:s_LiteralOk b0 b1=some r):PC Tryz.prog 137 [eTProject b0,eTLiteral b1] (bool r):=by
 unfold s_LiteralOk at h
 refine PC.start Tryz.func137 Tryz.ntmps137 rfl (by kernel_rfl) rfl ?_
 refine Run.sr (X.bx ?_)
 refine X.bx ?_
 refine X.an ?_
 refine Run.seq (Run.seq ?_)
 obtain ⟨v1,hv1,h⟩:=bindE h
 obtain ⟨e2,he2,h2⟩:=bindE h
 refine R.regG [(2,.lptr 128 0),(3,.lptr 192 0),(17,bool e2)] [(128,.blk true [int b0.Deadline,.slice (b0.Activities.map eTActivity),.slice (b0.Links.map eTLink),.slice (b0.Resources.map eTResource),.slice (b0.Stocks.map int)]),(192,.blk true [int b1.Kind,int b1.Activity,int b1.Value])] ?_ ?_
 ·clear h;have h:=he2;clear he2 h2
  refine X.ld shp36 ?_
  refine X.cp (s_ProjectOk_pc _ _ hv1) ?_
  refine X.un (h:=?_)
  refine X.mv ?_
  refine X.iG (fun hb3=>?_) (fun hb3=>?_)
  ·replace h:=condF hb3 h
   refine X.fl fld114_1 ?_
   refine X.gy (X.ld shp3 ?_)
   refine X.gy (X.fl fld36_1 ?_)
   refine X.gy (X.ld shp32 ?_)
   refine X.gy (X.ls elt32 ?_)
   refine X.gy (X.subW (h:=?_))
   refine X.gy ?_
   obtain ⟨v4,hv4,h⟩:=bindE h
   refine X.cp (s_l01In_pc _ _ _ _ hv4) ?_
   refine X.gy (X.un (h:=?_))
   refine X.pF ?_
   cases h
   exact X.eG
  replace h:=condT hb3 h
  refine X.gn (X.gn (X.gn (X.gn (X.gn (X.gn (X.gn (X.pT ?_)))))))
  cases h
  exact X.eG
 replace h:=h2;clear h2
 refine R.cd (fun hc5=>?_) (fun hc5=>?_)
 ·replace h:=condT hc5 h
  refine Run.sr (X.an ?_)
  cases h
  refine R.f1 Tryz.results137 ?_
  rfl
 replace h:=condF hc5 h
 refine Run.skip (Run.seq (Run.sr (X.fl fld114_0 ?_)))
 refine X.ld shp3 ?_
 refine X.nil (Run.block (Run.seq (Run.sr (X.bi ?_))))
 refine X.an ?_
 obtain ⟨o6,ho6,h⟩:=bindE h
 refine R.join2 (β:=Bool) [(2,.lptr 128 0),(3,.lptr 192 0),(19,int b1.Kind)] [(128,.blk true [int b0.Deadline,.slice (b0.Activities.map eTActivity),.slice (b0.Links.map eTLink),.slice (b0.Resources.map eTResource),.slice (b0.Stocks.map int)]),(192,.blk true [int b1.Kind,int b1.Activity,int b1.Value])] (fun p11 S=>(20,bool p11)::S) (fun p11 M=>M) (fun p11=>p11=o6) ?_ ?_
 ·intro JJ9 hmeet8
  have hup7:=h;clear h;have h:=ho6;clear ho6
  refine R.cd (fun hc10=>?_) (fun hc10=>?_)
  ·replace h:=condT hc10 h
   refine Run.skip ?_
   exact R.mt hmeet8 (b1.Kind == 1) (Option.some.inj h)
  replace h:=condF hc10 h
  refine Run.reg (X.bi ?_)
  refine X.an ?_
  exact R.mt hmeet8 (b1.Kind == 2) (Option.some.inj h)
 rintro p11 rfl
 refine R.cd (fun hc12=>?_) (fun hc12=>?_)
 ·replace h:=condT hc12 h
  refine Run.sr (X.fl fld114_2 ?_)
  refine X.ld shp3 ?_
  obtain ⟨v13,hv13,h⟩:=bindE h
  refine X.cp (s_l01In_pc _ _ _ _ hv13) ?_
  refine X.an ?_
  cases h
  refine R.f1 Tryz.results137 ?_
  rfl
 replace h:=condF hc12 h
 refine Run.seq (Run.sr (X.bi ?_))
 refine X.an ?_
 obtain ⟨o14,ho14,h⟩:=bindE h
 refine R.join2 (β:=Bool) [(2,.lptr 128 0),(3,.lptr 192 0)] [(128,.blk true [int b0.Deadline,.slice (b0.Activities.map eTActivity),.slice (b0.Links.map eTLink),.slice (b0.Resources.map eTResource),.slice (b0.Stocks.map int)]),(192,.blk true [int b1.Kind,int b1.Activity,int b1.Value])] (fun p19 S=>(26,bool p19)::S) (fun p19 M=>M) (fun p19=>p19=o14) ?_ ?_
 ·intro JJ17 hmeet16
  have hup15:=h;clear h;have h:=ho14;clear ho14
  refine R.cd (fun hc18=>?_) (fun hc18=>?_)
  ·replace h:=condT hc18 h
   refine Run.skip ?_
   exact R.mt hmeet16 (b1.Kind == 3) (Option.some.inj h)
  replace h:=condF hc18 h
  refine Run.reg (X.bi ?_)
  refine X.an ?_
  exact R.mt hmeet16 (b1.Kind == 4) (Option.some.inj h)
 rintro p19 rfl
 refine R.cd (fun hc20=>?_) (fun hc20=>?_)
 ·replace h:=condT hc20 h
  refine Run.seq (Run.draw (footOf [(1,([192],[],[],[])),(3,([128],[],[],[])),(5,([192],[],[],[]))]) mixed (by kernel_rfl) (by kernel_rfl) ?_)
  refine X.fl fld114_2 ?_
  refine X.ld shp3 ?_
  refine X.fl fld36_1 ?_
  refine X.ld shp32 ?_
  refine X.fl fld114_1 ?_
  refine X.ld shp3 ?_
  obtain ⟨v21,hv21,h⟩:=bindE h
  refine X.ix elt32 (idxL_spec hv21).1 (idxL_map eTActivity hv21) ?_
  refine X.fieldAddr_c fld89_2 (by rfl) (by rfl) ?_
  refine X.lc shp87 ?_
  refine X.ls elt87 ?_
  refine X.subW (h:=?_)
  obtain ⟨v22,hv22,h⟩:=bindE h
  refine X.cp (s_l01In_pc _ _ _ _ hv22) ?_
  refine X.an ?_
  cases h
  refine R.f1 Tryz.results137 ?_
  rfl
 replace h:=condF hc20 h
 refine Run.skip (Run.blk (Run.sr (X.an ?_)))
 cases h
 refine R.f1 Tryz.results137 ?_
 rfl
theorem s_LiteralSign_pc (b0:Int)(r:ByteArray)(h:s_LiteralSign b0=some r):PC Tryz.prog 138 [int b0] (str r):=by
 unfold s_LiteralSign at h
 refine PC.start Tryz.func138 Tryz.ntmps138 rfl (by kernel_rfl) rfl ?_
 refine Run.sr (X.an ?_)
 refine Run.seq (Run.sr (X.mv ?_))
 obtain ⟨v1,hv1,h⟩:=bindE h
 refine X.cp (s_l01In_pc _ _ _ _ hv1) ?_
 refine X.un (h:=?_)
 refine X.nil ?_
 refine R.cd (fun hc2=>?_) (fun hc2=>?_)
 ·replace h:=condT hc2 h
  refine Run.sr (X.an ?_)
  cases h
  refine R.f1 Tryz.results138 ?_
  rfl
 replace h:=condF hc2 h
 refine Run.skip (Run.sr ?_)
 refine X.buildSlice false elt47 zer9 (by rfl) (by rfl) (by rfl) (by rfl) (by rfl) (by rfl) (by repeat (first | trivial | refine ⟨by first | rfl | simp [setL],?_⟩)) (allSz_spec (by rfl)) (by rfl) (by rfl) (by rfl) ?_
 refine X.mv ?_
 obtain ⟨v3,hv3,h⟩:=bindE h
 refine X.index_o elt47 (by rfl) (by rfl) (by first | rfl | simp [setL] | omega) (by rfl) (idxL_spec hv3).1 (idxL_map str hv3) (by rfl) (by rfl) (by rfl) ?_
 refine X.lc shp9 ?_
 refine X.an ?_
 cases h
 refine R.f1 Tryz.results138 ?_
 rfl
theorem s_FormatLiteral_pc (b0:TProject)(b1:TLiteral)(r:ByteArray)(h:s_FormatLiteral b0 b1=some r):PC Tryz.prog 100 [eTProject b0,eTLiteral b1] (str r):=by
 unfold s_FormatLiteral at h
 refine PC.start Tryz.func100 Tryz.ntmps100 rfl (by kernel_rfl) rfl ?_
 refine Run.sr (X.bx ?_)
 refine X.bx ?_
 refine X.an ?_
 refine Run.seq (Run.sr (X.ld shp36 ?_))
 refine X.ld shp114 ?_
 obtain ⟨v1,hv1,h⟩:=bindE h
 refine X.cp (s_LiteralOk_pc _ _ _ hv1) ?_
 refine X.un (h:=?_)
 refine X.nil ?_
 refine R.cd (fun hc2=>?_) (fun hc2=>?_)
 ·replace h:=condT hc2 h
  refine Run.sr (X.an ?_)
  cases h
  refine R.f1 Tryz.results100 ?_
  rfl
 replace h:=condF hc2 h
 refine Run.skip (Run.seq (Run.draw (footOf [(1,([128],[],[],[])),(3,([192],[],[],[])),(8,([192],[],[],[])),(12,([192],[],[],[]))]) mixed (by kernel_rfl) (by kernel_rfl) ?_))
 refine X.fl fld36_1 ?_
 refine X.ld shp32 ?_
 refine X.fl fld114_1 ?_
 refine X.ld shp3 ?_
 obtain ⟨v3,hv3,h⟩:=bindE h
 refine X.ix elt32 (idxL_spec hv3).1 (idxL_map eTActivity hv3) ?_
 refine X.fieldAddr_c fld89_0 (by rfl) (by rfl) ?_
 refine X.lc shp9 ?_
 refine X.fl fld114_0 ?_
 refine X.ld shp3 ?_
 obtain ⟨v4,hv4,h⟩:=bindE h
 refine X.cp (s_LiteralSign_pc _ _ hv4) ?_
 obtain ⟨v5,hv5,h⟩:=bindE h
 refine X.cat2 hv5 (by rfl) (by rfl) (by rfl) ?_
 refine X.fl fld114_2 ?_
 refine X.ld shp3 ?_
 obtain ⟨v6,hv6,h⟩:=bindE h
 refine X.cp (s_FormatInt_pc _ _ hv6) ?_
 obtain ⟨v7,hv7,h⟩:=bindE h
 refine X.cat2 hv7 (by rfl) (by rfl) (by rfl) ?_
 refine X.an ?_
 cases h
 refine R.f1 Tryz.results100 ?_
 rfl
theorem s_ParseLiteral_pc (b0:TProject)(b1:ByteArray)(r:TLiteral×Bool)(h:s_ParseLiteral b0 b1=some r):PC Tryz.prog 72 [eTProject b0,str b1] (.tuple [eTLiteral r.1,bool r.2]):=by
 unfold s_ParseLiteral at h
 refine PC.start Tryz.func72 Tryz.ntmps72 rfl (by kernel_rfl) rfl ?_
 refine Run.sr (X.bx ?_)
 refine X.alloc zer114 (h:=?_)
 refine X.an ?_
 refine Run.sr (X.mv ?_)
 obtain ⟨v1,hv1,h⟩:=bindE h
 refine X.callF (s_SplitAny_pc _ _ _ hv1) (by rfl) (by rfl) (by rfl) (by trivial) (by rfl) (by rfl) (by rfl) (by rfl) ?_
 refine X.an ?_
 refine Run.sr (X.mv ?_)
 refine X.mv ?_
 refine X.len_o elt47 (by rfl) (by rfl) (by first | rfl | simp [setL] | omega) (by first | exact List.length_map .. | rfl) (by rfl) (by rfl) ?_
 refine X.subW (h:=?_)
 obtain ⟨v2,hv2,h⟩:=bindE h
 refine X.index_o elt47 (by rfl) (by rfl) (by first | rfl | simp [setL] | omega) (by rfl) (idxL_spec hv2).1 (idxL_map str hv2) (by rfl) (by rfl) (by rfl) ?_
 refine X.lc shp9 ?_
 obtain ⟨v3,hv3,h⟩:=bindE h
 refine X.callT (s_ParseInt_pc _ _ hv3) (by rfl) (by rfl) (by rfl) (by trivial) (by rfl) (by rfl) (by rfl) (by rfl) (by rfl) (by rfl) ?_
 refine X.mv ?_
 refine X.extract (h:=?_)
 refine X.extract (h:=?_)
 refine X.as ?_
 refine X.an ?_
 refine Run.seq (Run.sr (X.an ?_))
 obtain ⟨o4,ho4,h⟩:=bindE h
 refine R.join2 (β:=Unit) [(4,.lptr 256 0)] [(256,.blk true [int 0,int 0,int 0])] (fun p19 S=>S) (fun p19 M=>M) (fun p19=>(Sum.inl p19)=o4) ?_ ?_
 ·intro JJ7 hmeet6
  have hup5:=h;clear h;have h:=ho4;clear ho4
  refine Run.block ?_
  refine R.lp (β:=Int) [(1,str b1),(2,.lptr 128 0),(4,.lptr 256 0),(7,int v3.1)] [(128,.blk true [int b0.Deadline,.slice (b0.Activities.map eTActivity),.slice (b0.Links.map eTLink),.slice (b0.Resources.map eTResource),.slice (b0.Stocks.map int)]),(256,.blk true [int 0,int 0,int 0]),(768,.obj false 9 1 (v1.map str))] (fun bb S=>(6,.own 768 (v1.map str).length)::(9,int bb)::S) (fun bb M=>M) (fun n bb=>s_ParseLiteral_L1 b0 b1 v1 v3 n bb=some o4) F0 1 h ?_
  clear h
  rintro JJ7 n7 a9 hag7 h
  obtain _ | n7:=n7
  ·exact absurd h (by simp [s_ParseLiteral_L1])
  rw [s_ParseLiteral_L1] at h
  refine Run.seq (Run.sr (X.mv ?_))
  refine X.bi ?_
  refine X.nil ?_
  refine R.cd (fun hc12=>?_) (fun hc12=>?_)
  ·replace h:=condT hc12 h
   refine Run.skip (Run.seq (Run.block (Run.seq (Run.draw2 (footOf [(1,([128],[],[],[])),(3,([768],[],[],[])),(8,([640],[640],[],[])),(9,([640],[640],[],[]))]) mixed (by kernel_rfl) (by kernel_rfl) ?_))))
   refine X.mv ?_
   refine X.ld shp36 ?_
   refine X.mv ?_
   obtain ⟨v13,hv13,h⟩:=bindE h
   refine X.index_o elt47 (by rfl) (by rfl) (by first | rfl | simp [setL] | omega) (by rfl) (idxL_spec hv13).1 (idxL_map str hv13) (by rfl) (by rfl) (by rfl) ?_
   refine X.lc shp9 ?_
   obtain ⟨v14,hv14,h⟩:=bindE h
   refine X.cp (s_ActivityIndex_pc _ _ _ hv14) ?_
   refine X.mv ?_
   refine X.build zer114 pl114 (by rfl) (by rfl) (by repeat (first | trivial | refine ⟨by first | rfl | simp [setL],?_⟩)) (by rfl) (by rfl) (by rfl) ?_
   refine X.alloc zer114 (h:=?_)
   refine X.sl shp114 ?_
   refine X.nil (Run.seq ?_)
   obtain ⟨v15,hv15,h⟩:=bindE h
   obtain ⟨e16,he16,h2⟩:=bindE h
   refine R.regG [(1,str b1),(2,.lptr 128 0),(4,.lptr 256 0),(6,.own 768 (v1.map str).length),(7,int v3.1),(9,int a9),(10,.lptr 640 0),(43,bool e16)] [(128,.blk true [int b0.Deadline,.slice (b0.Activities.map eTActivity),.slice (b0.Links.map eTLink),.slice (b0.Resources.map eTResource),.slice (b0.Stocks.map int)]),(256,.blk true [int 0,int 0,int 0]),(768,.obj false 9 1 (v1.map str)),(640,.blk true [int a9,int v14,int v3.1])] ?_ ?_
   ·clear h;have h:=he16;clear he16 h2
    refine X.ld shp36 ?_
    refine X.ld shp114 ?_
    refine X.cp (s_FormatLiteral_pc _ _ _ hv15) ?_
    refine X.mv ?_
    refine X.bi ?_
    refine X.mv ?_
    refine X.iG (fun hb17=>?_) (fun hb17=>?_)
    ·replace h:=condT hb17 h
     refine X.mv ?_
     refine X.gy (X.bi ?_)
     refine X.pT ?_
     cases h
     exact X.eG
    replace h:=condF hb17 h
    refine X.gn (X.pF ?_)
    cases h
    exact X.eG
   replace h:=h2;clear h2
   refine R.cd (fun hc18=>?_) (fun hc18=>?_)
   ·replace h:=condT hc18 h
    refine Run.sr (X.ld shp114 ?_)
    refine X.sl shp114 ?_
    refine X.an ?_
    cases h
    have h:=hup5
    replace h:=elimR h
    cases h
    refine R.finC2 Tryz.results72 shp114 (by rfl) (by rfl) (by rfl) (by rfl) (by rfl) (by rfl) (by repeat (first | trivial | refine ⟨by first | rfl | simp [setL],?_⟩)) ?_
    rfl
   replace h:=condF hc18 h
   refine Run.skip (Run.blk (Run.reg (X.mv ?_)))
   refine X.addW (h:=?_)
   refine X.an ?_
   exact hag7 n7 (W (a9+1)) _ _ (by omega) h (by repeat (first | trivial | refine ⟨by first | rfl | simp [setL],?_⟩)) (by repeat (first | trivial | refine ⟨by first | rfl | simp [setL],?_⟩)) (by rfl) (by rfl)
  replace h:=condF hc12 h
  refine Run.exit (by rfl) ?_
  exact R.mt hmeet6 () (Option.some.inj h)
 rintro p19 rfl
 replace h:=elimL h
 refine Run.sr ?_
 refine X.build zer114 pl114 (by rfl) (by rfl) (by repeat (first | trivial | refine ⟨by first | rfl | simp [setL],?_⟩)) (by rfl) (by rfl) (by rfl) ?_
 refine X.sl shp114 ?_
 refine X.an ?_
 cases h
 refine R.finC2 Tryz.results72 shp114 (by rfl) (by rfl) (by rfl) (by rfl) (by rfl) (by rfl) (by repeat (first | trivial | refine ⟨by first | rfl | simp [setL],?_⟩)) ?_
 rfl
theorem s_l11Sign_pc (b0:Int)(b1:Int)(r:Int)(h:s_l11Sign b0 b1=some r):PC Tryz.prog 161 [int b0,int b1] (int r):=by
 unfold s_l11Sign at h
 refine PC.start Tryz.func161 Tryz.ntmps161 rfl (by kernel_rfl) rfl ?_
 refine Run.sr (X.an ?_)
 refine Run.seq (Run.sr (X.mv ?_))
 refine X.mv ?_
 refine X.bi ?_
 refine X.nil ?_
 refine R.cd (fun hc1=>?_) (fun hc1=>?_)
 ·replace h:=condT hc1 h
  refine Run.sr (X.an ?_)
  cases h
  refine R.f1 Tryz.results161 ?_
  rfl
 replace h:=condF hc1 h
 refine Run.skip (Run.seq (Run.sr (X.mv ?_)))
 refine X.mv ?_
 refine X.bi ?_
 refine X.nil ?_
 refine R.cd (fun hc2=>?_) (fun hc2=>?_)
 ·replace h:=condT hc2 h
  refine Run.sr (X.an ?_)
  cases h
  refine R.f1 Tryz.results161 ?_
  rfl
 replace h:=condF hc2 h
 refine Run.skip (Run.sr (X.an ?_))
 cases h
 refine R.f1 Tryz.results161 ?_
 rfl
theorem s_CompareLiterals_pc (b0:TLiteral)(b1:TLiteral)(r:Int)(h:s_CompareLiterals b0 b1=some r):PC Tryz.prog 139 [eTLiteral b0,eTLiteral b1] (int r):=by
 unfold s_CompareLiterals at h
 refine PC.start Tryz.func139 Tryz.ntmps139 rfl (by kernel_rfl) rfl ?_
 refine Run.sr (X.bx ?_)
 refine X.bx ?_
 refine X.an ?_
 refine Run.seq (Run.sr (X.fl fld114_1 ?_))
 refine X.ld shp3 ?_
 refine X.fl fld114_1 ?_
 refine X.ld shp3 ?_
 refine X.bi ?_
 refine X.nil ?_
 refine R.cd (fun hc1=>?_) (fun hc1=>?_)
 ·replace h:=condT hc1 h
  refine Run.sr (X.fl fld114_1 ?_)
  refine X.ld shp3 ?_
  refine X.fl fld114_1 ?_
  refine X.ld shp3 ?_
  obtain ⟨v2,hv2,h⟩:=bindE h
  refine X.cp (s_l11Sign_pc _ _ _ hv2) ?_
  refine X.an ?_
  cases h
  refine R.f1 Tryz.results139 ?_
  rfl
 replace h:=condF hc1 h
 refine Run.skip (Run.seq (Run.sr (X.fl fld114_0 ?_)))
 refine X.ld shp3 ?_
 refine X.fl fld114_0 ?_
 refine X.ld shp3 ?_
 refine X.bi ?_
 refine X.nil ?_
 refine R.cd (fun hc3=>?_) (fun hc3=>?_)
 ·replace h:=condT hc3 h
  refine Run.sr (X.fl fld114_0 ?_)
  refine X.ld shp3 ?_
  refine X.fl fld114_0 ?_
  refine X.ld shp3 ?_
  obtain ⟨v4,hv4,h⟩:=bindE h
  refine X.cp (s_l11Sign_pc _ _ _ hv4) ?_
  refine X.an ?_
  cases h
  refine R.f1 Tryz.results139 ?_
  rfl
 replace h:=condF hc3 h
 refine Run.skip (Run.sr (X.fl fld114_2 ?_))
 refine X.ld shp3 ?_
 refine X.fl fld114_2 ?_
 refine X.ld shp3 ?_
 obtain ⟨v5,hv5,h⟩:=bindE h
 refine X.cp (s_l11Sign_pc _ _ _ hv5) ?_
 refine X.an ?_
 cases h
 refine R.f1 Tryz.results139 ?_
 rfl
theorem s_ClauseOk_pc (b0:TProject)(b1:List TLiteral)(r:Bool)(h:s_ClauseOk b0 b1=some r):PC Tryz.prog 101 [eTProject b0,.slice (b1.map eTLiteral)] (bool r):=by
 unfold s_ClauseOk at h
 refine PC.start Tryz.func101 Tryz.ntmps101 rfl (by kernel_rfl) rfl ?_
 refine Run.sr (X.bx ?_)
 refine X.an ?_
 refine Run.seq (Run.sr (X.mv ?_))
 refine X.ls elt51 ?_
 refine X.mn ?_
 obtain ⟨o1,ho1,h⟩:=bindE h
 refine R.join2 (β:=Unit) [(1,.slice (b1.map eTLiteral))] [] (fun p19 S=>S) (fun p19 M=>M) (fun p19=>(Sum.inl p19)=o1) ?_ ?_
 ·intro JJ4 hmeet3
  have hup2:=h;clear h;have h:=ho1;clear ho1
  refine Run.block ?_
  refine R.bndS (t:=1) (by rfl) (fun hbd7=>?_)
  replace hbd7:b1.length≤9223372036854775807:=by first | (rw [List.length_map] at hbd7;exact hbd7) | simp
  refine R.lp (β:=Int) [(1,.slice (b1.map eTLiteral)),(2,.lptr 128 0),(7,.slice (b1.map eTLiteral)),(8,int (b1.length:Int))] [(128,.blk true [int b0.Deadline,.slice (b0.Activities.map eTActivity),.slice (b0.Links.map eTLink),.slice (b0.Resources.map eTResource),.slice (b0.Stocks.map int)])] (fun bb S=>(9,int bb)::S) (fun bb M=>M) (fun n bb=>0≤bb∧bb+n=(b1.length:Int)∧s_ClauseOk_L1 b0 b1 (b1.drop bb.toNat) bb=some o1) b1.length (0:Int) ⟨Int.le_refl _,by simp,h⟩ ?_
  clear h
  rintro JJ7 n7 z8 hag7 ⟨hza7,hzb7,h⟩
  refine Run.sr (X.bi ?_)
  refine X.nil (Run.seq ?_)
  refine R.cd (fun hc11=>?_) (fun hc11=>?_)
  ·obtain ⟨x9,xs10,hd7,hx7,hds7,hlt7⟩:=drop_atI hza7 hc11
   rw [hd7] at h
   rw [s_ClauseOk_L1] at h
   refine Run.skip (Run.seq (Run.block (Run.sr (X.mv ?_))))
   refine X.ix elt51 (idxL_spec hx7).1 (idxL_map eTLiteral hx7) ?_
   refine X.lc shp114 ?_
   refine X.alloc zer114 (h:=?_)
   refine X.as ?_
   refine X.sl shp114 ?_
   refine X.nil (Run.seq ?_)
   obtain ⟨v12,hv12,h⟩:=bindE h
   obtain ⟨e13,he13,h2⟩:=bindE h
   refine R.drawG [(1,.slice (b1.map eTLiteral)),(2,.lptr 128 0),(7,.slice (b1.map eTLiteral)),(8,int (b1.length:Int)),(9,int z8),(31,bool e13)] [(128,.blk true [int b0.Deadline,.slice (b0.Activities.map eTActivity),.slice (b0.Links.map eTLink),.slice (b0.Resources.map eTResource),.slice (b0.Stocks.map int)])] (footOf [(0,([128],[],[],[])),(1,([384],[],[],[])),(13,([384],[],[],[]))]) mixed (by kernel_rfl) (by kernel_rfl) ?_ ?_
   ·clear h;have h:=he13;clear he13 h2
    refine X.ld shp36 ?_
    refine X.ld shp114 ?_
    refine X.cp (s_LiteralOk_pc _ _ _ hv12) ?_
    refine X.un (h:=?_)
    refine X.mv ?_
    refine X.iG (fun hb14=>?_) (fun hb14=>?_)
    ·replace h:=condF hb14 h
     refine X.mv ?_
     refine X.gy (X.bi ?_)
     refine X.gy (X.mv ?_)
     refine X.iG (fun hb15=>?_) (fun hb15=>?_)
     ·replace h:=condT hb15 h
      refine X.mv ?_
      refine X.gy (X.mv ?_)
      refine X.gy (X.sub (by rfl) (by rfl) (by omega) (by rfl) ?_)
      refine X.gy ?_
      obtain ⟨v16,hv16,h⟩:=bindE h
      refine X.ix elt51 (idxL_spec hv16).1 (idxL_map eTLiteral hv16) ?_
      refine X.gy (X.lc shp114 ?_)
      refine X.gy (X.ld shp114 ?_)
      refine X.gy ?_
      obtain ⟨v17,hv17,h⟩:=bindE h
      refine X.cp (s_CompareLiterals_pc _ _ _ hv17) ?_
      refine X.gy (X.bi ?_)
      refine X.gy (X.pT ?_)
      refine X.pF ?_
      cases h
      exact X.eG
     replace h:=condF hb15 h
     refine X.gn (X.gn (X.gn (X.gn (X.gn (X.gn (X.gn (X.gy ?_)))))))
     refine X.pF ?_
     refine X.pF ?_
     cases h
     exact X.eG
    replace h:=condT hb14 h
    refine X.gn (X.gn (X.gU (h:=?_)))
    refine X.gU (h:=?_)
    refine X.gU (h:=?_)
    refine X.gU (h:=?_)
    refine X.gU (h:=?_)
    refine X.gU (h:=?_)
    refine X.gU (h:=?_)
    refine X.gU (h:=?_)
    refine X.gn (X.pT ?_)
    cases h
    exact X.eG
   replace h:=h2;clear h2
   refine R.cd (fun hc18=>?_) (fun hc18=>?_)
   ·replace h:=condT hc18 h
    refine Run.sr (X.an ?_)
    cases h
    have h:=hup2
    replace h:=elimR h
    cases h
    refine R.f1 Tryz.results101 ?_
    rfl
   replace h:=condF hc18 h
   refine Run.skip (Run.blk (Run.reg (X.ad ?_)))
   refine X.mn ?_
   exact R.ag hag7 (n7 - 1) (z8+1) (R.n3 (by first | (rw [hds7];exact h) | (dsimp only;rw [hds7];exact h)))
  rw [drop_endI hza7 hc11] at h
  rw [s_ClauseOk_L1] at h
  refine Run.exit (by rfl) ?_
  exact R.mt hmeet3 () (Option.some.inj h)
 rintro p19 rfl
 replace h:=elimL h
 refine Run.sr (X.mv ?_)
 refine X.ls elt51 ?_
 refine X.bi ?_
 refine X.an ?_
 cases h
 refine R.f1 Tryz.results101 ?_
 rfl
theorem s_FormatClause_pc (b0:TProject)(b1:List TLiteral)(r:ByteArray)(h:s_FormatClause b0 b1=some r):PC Tryz.prog 73 [eTProject b0,.slice (b1.map eTLiteral)] (str r):=by
 unfold s_FormatClause at h
 refine PC.start Tryz.func73 Tryz.ntmps73 rfl (by kernel_rfl) rfl ?_
 refine Run.sr (X.bx ?_)
 refine X.an ?_
 refine Run.seq (Run.sr (X.ld shp36 ?_))
 refine X.mv ?_
 obtain ⟨v1,hv1,h⟩:=bindE h
 refine X.cp (s_ClauseOk_pc _ _ _ hv1) ?_
 refine X.un (h:=?_)
 refine X.nil ?_
 refine R.cd (fun hc2=>?_) (fun hc2=>?_)
 ·replace h:=condT hc2 h
  refine Run.sr (X.an ?_)
  cases h
  refine R.f1 Tryz.results73 ?_
  rfl
 replace h:=condF hc2 h
 refine Run.skip (Run.sr ?_)
 refine X.buildSlice false elt47 zer9 (by rfl) (by rfl) (by rfl) (by rfl) (by rfl) (by rfl) (by repeat (first | trivial | refine ⟨by first | rfl | simp [setL],?_⟩)) (allSz_spec (by rfl)) (by rfl) (by rfl) (by rfl) ?_
 refine X.an ?_
 refine Run.seq (Run.sr (X.mv ?_))
 refine X.ls elt51 ?_
 refine X.mn ?_
 obtain ⟨o3,ho3,h⟩:=bindE h
 refine R.join2 (β:=(List ByteArray)) [] [] (fun p17 S=>(5,.own 768 (p17.map str).length)::S) (fun p17 M=>(768,.obj false 9 1 (p17.map str))::M) (fun p17=>p17=o3) ?_ ?_
 ·intro JJ6 hmeet5
  have hup4:=h;clear h;have h:=ho3;clear ho3
  refine Run.block ?_
  refine R.bndS (t:=1) (by rfl) (fun hbd9=>?_)
  replace hbd9:b1.length≤9223372036854775807:=by first | (rw [List.length_map] at hbd9;exact hbd9) | simp
  refine R.lp (β:=Int×(List ByteArray)) [(2,.lptr 128 0),(13,.slice (b1.map eTLiteral)),(14,int (b1.length:Int))] [(128,.blk true [int b0.Deadline,.slice (b0.Activities.map eTActivity),.slice (b0.Links.map eTLink),.slice (b0.Resources.map eTResource),.slice (b0.Stocks.map int)])] (fun bb S=>(5,.own 768 (bb.2.map str).length)::(15,int bb.1)::S) (fun bb M=>(768,.obj false 9 1 (bb.2.map str))::M) (fun n bb=>0≤bb.1∧bb.1+n=(b1.length:Int)∧s_FormatClause_L1 b0 (b1.drop bb.1.toNat) bb.1 bb.2=some o3) b1.length (0,([]:List ByteArray)) ⟨Int.le_refl _,by simp,h⟩ ?_
  clear h
  rintro JJ9 n9 ⟨z10,a11⟩ hag9 ⟨hza9,hzb9,h⟩
  dsimp only at hza9 hzb9 h
  refine Run.sr (X.bi ?_)
  refine X.nil (Run.seq ?_)
  refine R.cd (fun hc14=>?_) (fun hc14=>?_)
  ·obtain ⟨x12,xs13,hd9,hx9,hds9,hlt9⟩:=drop_atI hza9 hc14
   rw [hd9] at h
   rw [s_FormatClause_L1] at h
   refine Run.skip (Run.seq (Run.block (Run.sr (X.ix elt51 (idxL_spec hx9).1 (idxL_map eTLiteral hx9) ?_))))
   refine X.lc shp114 ?_
   refine X.alloc zer114 (h:=?_)
   refine X.sl shp114 ?_
   refine X.nil (Run.reg (X.mv ?_))
   refine X.ld shp36 ?_
   refine X.ld shp114 ?_
   obtain ⟨v15,hv15,h⟩:=bindE h
   refine X.cp (s_FormatLiteral_pc _ _ _ hv15) ?_
   refine X.buildSlice false elt47 zer9 (by rfl) (by rfl) (by rfl) (by rfl) (by rfl) (by rfl) (by repeat (first | trivial | refine ⟨by first | rfl | simp [setL],?_⟩)) (allSz_spec (by rfl)) (by rfl) (by rfl) (by rfl) ?_
   obtain ⟨v16,hv16,h⟩:=bindE h
   refine X.append elt47 zer9 (by rfl) (by rfl) (by first | rfl | simp [setL] | omega) (by rfl) (.own _ _ _ _ _ _ (look_mem (by rfl)) (by first | rfl | simp [setL] | omega)) (allSz_spec (by rfl)) (appL_len str hv16) (appL_map str hv16) (by rfl) (by rfl) (by rfl) (by rfl) ?_
   refine X.an ?_
   refine Run.blk (Run.reg (X.ad ?_))
   refine X.mn ?_
   exact R.ag hag9 (n9 - 1) (z10+1,v16) (R.n3 (by first | (rw [hds9];exact h) | (dsimp only;rw [hds9];exact h)))
  rw [drop_endI hza9 hc14] at h
  rw [s_FormatClause_L1] at h
  refine Run.exit (by rfl) ?_
  exact R.mt hmeet5 a11 (Option.some.inj h)
 rintro p17 rfl
 refine Run.seq (Run.sr (X.mv ?_))
 refine X.len_o elt47 (by rfl) (by rfl) (by first | rfl | simp [setL] | omega) (by first | exact List.length_map .. | rfl) (by rfl) (by rfl) ?_
 refine X.bi ?_
 refine X.nil ?_
 refine R.cd (fun hc18=>?_) (fun hc18=>?_)
 ·replace h:=condT hc18 h
  refine Run.sr (X.an ?_)
  cases h
  refine R.f1 Tryz.results73 ?_
  rfl
 replace h:=condF hc18 h
 refine Run.skip (Run.sr (X.mv ?_))
 obtain ⟨v19,hv19,h⟩:=bindE h
 refine X.cp (s_Join_pc _ _ _ hv19) ?_
 refine X.an ?_
 cases h
 refine R.f1 Tryz.results73 ?_
 rfl
theorem s_ParseClause_pc (b0:TProject)(b1:ByteArray)(r:(List TLiteral)×Bool)(h:s_ParseClause b0 b1=some r):PC Tryz.prog 43 [eTProject b0,str b1] (.tuple [.fresh false 114 3 (r.1.map eTLiteral),bool r.2]):=by
 unfold s_ParseClause at h
 refine PC.start Tryz.func43 Tryz.ntmps43 rfl (by kernel_rfl) rfl ?_
 refine Run.sr (X.bx ?_)
 refine X.as ?_
 refine X.an ?_
 refine Run.sr ?_
 refine X.buildSlice false elt51 zer114 (by rfl) (by rfl) (by rfl) (by rfl) (by rfl) (by rfl) (by repeat (first | trivial | refine ⟨by first | rfl | simp [setL],?_⟩)) (allSz_spec (by rfl)) (by rfl) (by rfl) (by rfl) ?_
 refine X.an ?_
 refine Run.seq (Run.sr (X.mv ?_))
 refine X.bi ?_
 refine X.nil ?_
 refine R.cd (fun hc1=>?_) (fun hc1=>?_)
 ·replace h:=condT hc1 h
  refine Run.sr (X.mv ?_)
  refine X.as ?_
  refine X.an ?_
  cases h
  refine R.fin2 Tryz.results43 (by rfl) (by rfl) (by rfl) (by repeat (first | trivial | refine ⟨by first | rfl | simp [setL],?_⟩)) ?_
  rfl
 replace h:=condF hc1 h
 refine Run.skip (Run.seq (Run.sr (X.mv ?_)))
 obtain ⟨v2,hv2,h⟩:=bindE h
 refine X.callF (s_SplitAny_pc _ _ _ hv2) (by rfl) (by rfl) (by rfl) (by trivial) (by rfl) (by rfl) (by rfl) (by rfl) ?_
 refine X.len_o elt47 (by rfl) (by rfl) (by first | rfl | simp [setL] | omega) (by first | exact List.length_map .. | rfl) (by rfl) (by rfl) ?_
 refine X.mn ?_
 obtain ⟨o3,ho3,h⟩:=bindE h
 refine R.join2 (β:=(List TLiteral)) [(1,str b1),(2,.lptr 128 0)] [(128,.blk true [int b0.Deadline,.slice (b0.Activities.map eTActivity),.slice (b0.Links.map eTLink),.slice (b0.Resources.map eTResource),.slice (b0.Stocks.map int)])] (fun p18 S=>(6,.own 704 (p18.map eTLiteral).length)::S) (fun p18 M=>(704,.obj false 114 3 (p18.map eTLiteral))::M) (fun p18=>(Sum.inl p18)=o3) ?_ ?_
 ·intro JJ6 hmeet5
  have hup4:=h;clear h;have h:=ho3;clear ho3
  refine Run.block ?_
  refine R.bndO (n:=1024) (by rfl) (fun hbd9=>?_)
  replace hbd9:v2.length≤9223372036854775807:=by first | (rw [List.length_map] at hbd9;exact hbd9) | simp
  refine R.lp (β:=Int×(List TLiteral)) [(1,str b1),(2,.lptr 128 0),(17,int (v2.length:Int))] [(128,.blk true [int b0.Deadline,.slice (b0.Activities.map eTActivity),.slice (b0.Links.map eTLink),.slice (b0.Resources.map eTResource),.slice (b0.Stocks.map int)]),(1024,.obj false 9 1 (v2.map str))] (fun bb S=>(6,.own 704 (bb.2.map eTLiteral).length)::(16,.own 1024 (v2.map str).length)::(18,int bb.1)::S) (fun bb M=>(704,.obj false 114 3 (bb.2.map eTLiteral))::M) (fun n bb=>0≤bb.1∧bb.1+n=(v2.length:Int)∧s_ParseClause_L1 b0 (v2.drop bb.1.toNat) bb.1 bb.2=some o3) v2.length (0,([]:List TLiteral)) ⟨Int.le_refl _,by simp,h⟩ ?_
  clear h
  rintro JJ9 n9 ⟨z10,a11⟩ hag9 ⟨hza9,hzb9,h⟩
  dsimp only at hza9 hzb9 h
  refine Run.sr (X.bi ?_)
  refine X.nil (Run.seq ?_)
  refine R.cd (fun hc14=>?_) (fun hc14=>?_)
  ·obtain ⟨x12,xs13,hd9,hx9,hds9,hlt9⟩:=drop_atI hza9 hc14
   rw [hd9] at h
   rw [s_ParseClause_L1] at h
   refine Run.skip (Run.seq (Run.block (Run.sr (X.index_o elt47 (by rfl) (by rfl) (by first | rfl | simp [setL] | omega) (by rfl) (idxL_spec hx9).1 (idxL_map str hx9) (by rfl) (by rfl) (by rfl) ?_))))
   refine X.lc shp9 ?_
   refine X.an ?_
   refine Run.sr (X.ld shp36 ?_)
   refine X.mv ?_
   obtain ⟨v15,hv15,h⟩:=bindE h
   refine X.callT2 (s_ParseLiteral_pc _ _ _ hv15) (by rfl) (by rfl) (by rfl) (by trivial) (by rfl) (by rfl) (by rfl) (by rfl) (by rfl) (by rfl) ?_
   refine X.mv ?_
   refine X.extract (h:=?_)
   refine X.extract (h:=?_)
   refine X.alloc zer114 (h:=?_)
   refine X.sl shp114 ?_
   refine X.an ?_
   refine Run.seq (Run.sr (X.mv ?_))
   refine X.un (h:=?_)
   refine X.nil ?_
   refine R.cd (fun hc16=>?_) (fun hc16=>?_)
   ·replace h:=condT hc16 h
    refine Run.sr (X.as ?_)
    refine X.an ?_
    cases h
    have h:=hup4
    replace h:=elimR h
    cases h
    refine R.nilOwnS (t:=4) 296 false 114 3 (by rfl) (by rfl) (by rfl) ?_
    refine R.fin2 Tryz.results43 (by rfl) (by rfl) (by rfl) (by repeat (first | trivial | refine ⟨by first | rfl | simp [setL],?_⟩)) ?_
    rfl
   replace h:=condF hc16 h
   refine Run.skip (Run.reg (X.mv ?_))
   refine X.ld shp114 ?_
   refine X.buildSlice false elt51 zer114 (by rfl) (by rfl) (by rfl) (by rfl) (by rfl) (by rfl) (by repeat (first | trivial | refine ⟨by first | rfl | simp [setL],?_⟩)) (allSz_spec (by rfl)) (by rfl) (by rfl) (by rfl) ?_
   obtain ⟨v17,hv17,h⟩:=bindE h
   refine X.append elt51 zer114 (by rfl) (by rfl) (by first | rfl | simp [setL] | omega) (by rfl) (.own _ _ _ _ _ _ (look_mem (by rfl)) (by first | rfl | simp [setL] | omega)) (allSz_spec (by rfl)) (appL_len eTLiteral hv17) (appL_map eTLiteral hv17) (by rfl) (by rfl) (by rfl) (by rfl) ?_
   refine X.an ?_
   refine Run.blk (Run.reg (X.ad ?_))
   refine X.mn ?_
   exact R.ag hag9 (n9 - 1) (z10+1,v17) (R.n3 (by first | (rw [hds9];exact h) | (dsimp only;rw [hds9];exact h)))
  rw [drop_endI hza9 hc14] at h
  rw [s_ParseClause_L1] at h
  refine Run.exit (by rfl) ?_
  exact R.mt hmeet5 a11 (Option.some.inj h)
 rintro p18 rfl
 replace h:=elimL h
 refine Run.seq (Run.sr (X.ld shp36 ?_))
 refine X.mv ?_
 obtain ⟨v20,hv20,h⟩:=bindE h
 refine X.cp (s_FormatClause_pc _ _ _ hv20) ?_
 refine X.mv ?_
 refine X.bi ?_
 refine X.nil ?_
 refine R.cd (fun hc21=>?_) (fun hc21=>?_)
 ·replace h:=condT hc21 h
  refine Run.sr (X.as ?_)
  refine X.an ?_
  cases h
  refine R.nilOwnS (t:=4) 296 false 114 3 (by rfl) (by rfl) (by rfl) ?_
  refine R.fin2 Tryz.results43 (by rfl) (by rfl) (by rfl) (by repeat (first | trivial | refine ⟨by first | rfl | simp [setL],?_⟩)) ?_
  rfl
 replace h:=condF hc21 h
 refine Run.skip (Run.sr (X.mv ?_))
 refine X.as ?_
 refine X.an ?_
 cases h
 refine R.fin2 Tryz.results43 (by rfl) (by rfl) (by rfl) (by repeat (first | trivial | refine ⟨by first | rfl | simp [setL],?_⟩)) ?_
 rfl
theorem s_LineOk_pc (b0:TProject)(b1:TLine)(r:Bool)(h:s_LineOk b0 b1=some r):PC Tryz.prog 74 [eTProject b0,eTLine b1] (bool r):=by
 unfold s_LineOk at h
 refine PC.start Tryz.func74 Tryz.ntmps74 rfl (by kernel_rfl) rfl ?_
 refine Run.sr (X.bx ?_)
 refine X.bx ?_
 refine X.an ?_
 refine Run.seq ?_
 obtain ⟨v1,hv1,h⟩:=bindE h
 obtain ⟨e2,he2,h2⟩:=bindE h
 refine R.regG [(4,bool e2)] [] ?_ ?_
 ·clear h;have h:=he2;clear he2 h2
  refine X.ld shp36 ?_
  refine X.fl fld53_2 ?_
  refine X.ld shp51 ?_
  refine X.cp (s_ClauseOk_pc _ _ _ hv1) ?_
  refine X.mv ?_
  refine X.iG (fun hb3=>?_) (fun hb3=>?_)
  ·replace h:=condT hb3 h
   refine X.fl fld53_0 ?_
   refine X.gy (X.ld shp3 ?_)
   refine X.gy (X.bi ?_)
   refine X.gy (X.mv ?_)
   refine X.iG (fun hb4=>?_) (fun hb4=>?_)
   ·replace h:=condF hb4 h
    refine X.fl fld53_0 ?_
    refine X.gy (X.ld shp3 ?_)
    refine X.gy (X.bi ?_)
    refine X.gy (X.mv ?_)
    refine X.iG (fun hb5=>?_) (fun hb5=>?_)
    ·replace h:=condT hb5 h
     refine X.fl fld53_1 ?_
     refine X.gy (X.ld shp50 ?_)
     refine X.gy ?_
     refine X.build zer50 pl50 (by rfl) (by rfl) (by repeat (first | trivial | refine ⟨by first | rfl | simp [setL],?_⟩)) (by rfl) (by rfl) (by rfl) ?_
     refine X.gy (X.eqlAgg flat50 (by rfl) (by rfl) (by rfl) (by rfl) ?_)
     refine X.gy (X.pT ?_)
     refine X.gy (X.pF ?_)
     refine X.pT ?_
     refine X.as ?_
     cases h
     exact X.eG
    replace h:=condF hb5 h
    refine X.gn (X.gn (X.gn (X.gy (X.pF ?_))))
    refine X.gy (X.pF ?_)
    refine X.pT ?_
    refine X.as ?_
    cases h
    exact X.eG
   replace h:=condT hb4 h
   refine X.gn (X.gn (X.gn (X.gU (h:=?_))))
   refine X.gU (h:=?_)
   refine X.gU (h:=?_)
   refine X.gU (h:=?_)
   refine X.gn (X.gy (X.pT ?_))
   refine X.pT ?_
   refine X.as ?_
   cases h
   exact X.eG
  replace h:=condF hb3 h
  refine X.gn (X.gn (X.gn (X.gU (h:=?_))))
  refine X.gU (h:=?_)
  refine X.gU (h:=?_)
  refine X.gU (h:=?_)
  refine X.gU (h:=?_)
  refine X.gU (h:=?_)
  refine X.gU (h:=?_)
  refine X.gU (h:=?_)
  refine X.gU (h:=?_)
  refine X.gn (X.pF ?_)
  refine X.as ?_
  cases h
  exact X.eG
 replace h:=h2;clear h2
 cases h
 refine R.f1 Tryz.results74 ?_
 rfl
theorem s_FormatLine_pc (b0:TProject)(b1:TLine)(r:ByteArray)(h:s_FormatLine b0 b1=some r):PC Tryz.prog 45 [eTProject b0,eTLine b1] (str r):=by
 unfold s_FormatLine at h
 refine PC.start Tryz.func45 Tryz.ntmps45 rfl (by kernel_rfl) rfl ?_
 refine Run.sr (X.bx ?_)
 refine X.bx ?_
 refine X.an ?_
 refine Run.seq (Run.seq ?_)
 obtain ⟨v1,hv1,h⟩:=bindE h
 obtain ⟨e2,he2,h2⟩:=bindE h
 refine R.regG [(2,.lptr 128 0),(3,.lptr 192 0),(14,bool e2)] [(128,.blk true [int b0.Deadline,.slice (b0.Activities.map eTActivity),.slice (b0.Links.map eTLink),.slice (b0.Resources.map eTResource),.slice (b0.Stocks.map int)]),(192,.blk true [int b1.Kind,int b1.Rule.Kind,int b1.Rule.A,int b1.Rule.B,int b1.Rule.C,.slice (b1.Clause.map eTLiteral)])] ?_ ?_
 ·clear h;have h:=he2;clear he2 h2
  refine X.ld shp36 ?_
  refine X.ld shp53 ?_
  refine X.cp (s_LineOk_pc _ _ _ hv1) ?_
  refine X.un (h:=?_)
  refine X.mv ?_
  refine X.iG (fun hb3=>?_) (fun hb3=>?_)
  ·replace h:=condF hb3 h
   refine X.ld shp36 ?_
   refine X.gy ?_
   obtain ⟨v4,hv4,h⟩:=bindE h
   refine X.cp (s_ProjectOk_pc _ _ hv4) ?_
   refine X.gy (X.un (h:=?_))
   refine X.pF ?_
   cases h
   exact X.eG
  replace h:=condT hb3 h
  refine X.gn (X.gn (X.pT ?_))
  cases h
  exact X.eG
 replace h:=h2;clear h2
 refine R.cd (fun hc5=>?_) (fun hc5=>?_)
 ·replace h:=condT hc5 h
  refine Run.sr (X.an ?_)
  cases h
  refine R.f1 Tryz.results45 ?_
  rfl
 replace h:=condF hc5 h
 refine Run.skip (Run.seq (Run.sr (X.fl fld53_0 ?_)))
 refine X.ld shp3 ?_
 refine X.bi ?_
 refine X.nil ?_
 refine R.cd (fun hc6=>?_) (fun hc6=>?_)
 ·replace h:=condT hc6 h
  refine Run.sr (X.ld shp36 ?_)
  refine X.fl fld53_2 ?_
  refine X.ld shp51 ?_
  obtain ⟨v7,hv7,h⟩:=bindE h
  refine X.cp (s_FormatClause_pc _ _ _ hv7) ?_
  obtain ⟨v8,hv8,h⟩:=bindE h
  refine X.cat2 hv8 (by rfl) (by rfl) (by rfl) ?_
  refine X.an ?_
  cases h
  refine R.f1 Tryz.results45 ?_
  rfl
 replace h:=condF hc6 h
 refine Run.skip (Run.sr (X.ld shp36 ?_))
 refine X.fl fld53_1 ?_
 refine X.ld shp50 ?_
 obtain ⟨v9,hv9,h⟩:=bindE h
 refine X.cp (s_FormatRule_pc _ _ _ hv9) ?_
 refine X.an ?_
 refine Run.seq (Run.sr (X.mv ?_))
 refine X.bi ?_
 refine X.nil ?_
 obtain ⟨o10,ho10,h⟩:=bindE h
 refine R.join2 (β:=ByteArray) [(2,.lptr 128 0),(3,.lptr 192 0)] [(128,.blk true [int b0.Deadline,.slice (b0.Activities.map eTActivity),.slice (b0.Links.map eTLink),.slice (b0.Resources.map eTResource),.slice (b0.Stocks.map int)]),(192,.blk true [int b1.Kind,int b1.Rule.Kind,int b1.Rule.A,int b1.Rule.B,int b1.Rule.C,.slice (b1.Clause.map eTLiteral)])] (fun p16 S=>(5,str p16)::S) (fun p16 M=>M) (fun p16=>p16=o10) ?_ ?_
 ·intro JJ13 hmeet12
  have hup11:=h;clear h;have h:=ho10;clear ho10
  refine R.cd (fun hc14=>?_) (fun hc14=>?_)
  ·replace h:=condT hc14 h
   refine Run.reg ?_
   obtain ⟨v15,hv15,h⟩:=bindE h
   refine X.cp (s_RuleName_pc _ _ hv15) ?_
   refine X.an ?_
   exact R.mt hmeet12 v15 (Option.some.inj h)
  replace h:=condF hc14 h
  refine Run.skip ?_
  exact R.mt hmeet12 v9 (Option.some.inj h)
 rintro p16 rfl
 refine Run.seq (Run.draw (footOf [(4,([128],[],[],[])),(6,([192],[],[],[]))]) mixed (by kernel_rfl) (by kernel_rfl) ?_)
 refine X.mv ?_
 obtain ⟨v17,hv17,h⟩:=bindE h
 refine X.cp (s_l21Swap_pc _ _ _ _ hv17) ?_
 obtain ⟨v18,hv18,h⟩:=bindE h
 refine X.cat2 hv18 (by rfl) (by rfl) (by rfl) ?_
 obtain ⟨v19,hv19,h⟩:=bindE h
 refine X.cat2 hv19 (by rfl) (by rfl) (by rfl) ?_
 refine X.ld shp36 ?_
 refine X.fl fld53_2 ?_
 refine X.ld shp51 ?_
 obtain ⟨v20,hv20,h⟩:=bindE h
 refine X.cp (s_FormatClause_pc _ _ _ hv20) ?_
 obtain ⟨v21,hv21,h⟩:=bindE h
 refine X.cat2 hv21 (by rfl) (by rfl) (by rfl) ?_
 refine X.an ?_
 cases h
 refine R.f1 Tryz.results45 ?_
 rfl
theorem s_ParseLine_pc (b0:TProject)(b1:ByteArray)(r:TLine×Bool)(h:s_ParseLine b0 b1=some r):PC Tryz.prog 18 [eTProject b0,str b1] (.tuple [.agg [int r.1.Kind,int r.1.Rule.Kind,int r.1.Rule.A,int r.1.Rule.B,int r.1.Rule.C,.fresh false 114 3 (r.1.Clause.map eTLiteral)],bool r.2]):=by
 unfold s_ParseLine at h
 refine PC.start Tryz.func18 Tryz.ntmps18 rfl (by kernel_rfl) rfl ?_
 refine Run.sr (X.bx ?_)
 refine X.alloc zer53 (h:=?_)
 refine X.an ?_
 refine Run.sr (X.mv ?_)
 obtain ⟨v1,hv1,h⟩:=bindE h
 refine X.callF (s_SplitAny_pc _ _ _ hv1) (by rfl) (by rfl) (by rfl) (by trivial) (by rfl) (by rfl) (by rfl) (by rfl) ?_
 refine X.an ?_
 refine Run.sr ?_
 refine X.build zer53 pl53 (by rfl) (by rfl) (by repeat (first | trivial | refine ⟨by first | rfl | simp [setL],?_⟩)) (by rfl) (by rfl) (by rfl) ?_
 refine X.alloc zer53 (h:=?_)
 refine X.sl shp53 ?_
 refine X.nil (Run.sr (X.an ?_))
 refine Run.seq (Run.seq ?_)
 obtain ⟨v2,hv2,h⟩:=bindE h
 obtain ⟨e3,he3,h2⟩:=bindE h
 refine R.regG [(1,str b1),(2,.lptr 128 0),(4,.lptr 256 0),(6,.own 768 (v1.map str).length),(7,.lptr 448 0),(8,int 2),(22,bool e3)] [(128,.blk true [int b0.Deadline,.slice (b0.Activities.map eTActivity),.slice (b0.Links.map eTLink),.slice (b0.Resources.map eTResource),.slice (b0.Stocks.map int)]),(256,.blk true [int 0,int 0,int 0,int 0,int 0,.nils]),(768,.obj false 9 1 (v1.map str)),(448,.blk true [int 2,int 0,int 0,int 0,int 0,.nils])] ?_ ?_
 ·clear h;have h:=he3;clear he3 h2
  refine X.mv ?_
  refine X.index_o elt47 (by rfl) (by rfl) (by first | rfl | simp [setL] | omega) (by rfl) (idxL_spec hv2).1 (idxL_map str hv2) (by rfl) (by rfl) (by rfl) ?_
  refine X.lc shp9 ?_
  refine X.bi ?_
  refine X.mv ?_
  refine X.iG (fun hb4=>?_) (fun hb4=>?_)
  ·replace h:=condT hb4 h
   refine X.mv ?_
   refine X.gy (X.len_o elt47 (by rfl) (by rfl) (by first | rfl | simp [setL] | omega) (by first | exact List.length_map .. | rfl) (by rfl) (by rfl) ?_)
   refine X.gy (X.bi ?_)
   refine X.pT ?_
   cases h
   exact X.eG
  replace h:=condF hb4 h
  refine X.gn (X.gn (X.pF ?_))
  cases h
  exact X.eG
 replace h:=h2;clear h2
 obtain ⟨o5,ho5,h⟩:=bindE h
 refine R.join2 (β:=Int×Int×Int×Int×Int×Int) [(1,str b1),(2,.lptr 128 0),(4,.lptr 256 0),(7,.lptr 448 0)] [(128,.blk true [int b0.Deadline,.slice (b0.Activities.map eTActivity),.slice (b0.Links.map eTLink),.slice (b0.Resources.map eTResource),.slice (b0.Stocks.map int)]),(256,.blk true [int 0,int 0,int 0,int 0,int 0,.nils]),(768,.obj false 9 1 (v1.map str))] (fun p13 S=>(6,.own 768 (v1.map str).length)::(8,int p13.1)::S) (fun p13 M=>(448,.blk true [int p13.2.1,int p13.2.2.1,int p13.2.2.2.1,int p13.2.2.2.2.1,int p13.2.2.2.2.2,.nils])::M) (fun p13=>p13=o5) ?_ ?_
 ·intro JJ8 hmeet7
  have hup6:=h;clear h;have h:=ho5;clear ho5
  refine R.cd (fun hc9=>?_) (fun hc9=>?_)
  ·replace h:=condT hc9 h
   refine Run.sr (X.fl fld53_0 ?_)
   refine X.sl shp3 ?_
   refine X.nil (Run.seq (Run.draw (footOf [(0,([128],[],[],[])),(2,([768],[],[],[])),(10,([448],[448],[],[]))]) mixed (by kernel_rfl) (by kernel_rfl) ?_))
   refine X.ld shp36 ?_
   refine X.mv ?_
   obtain ⟨v10,hv10,h⟩:=bindE h
   refine X.index_o elt47 (by rfl) (by rfl) (by first | rfl | simp [setL] | omega) (by rfl) (idxL_spec hv10).1 (idxL_map str hv10) (by rfl) (by rfl) (by rfl) ?_
   refine X.lc shp9 ?_
   obtain ⟨v11,hv11,h⟩:=bindE h
   refine X.cp (s_l21Swap_pc _ _ _ _ hv11) ?_
   obtain ⟨v12,hv12,h⟩:=bindE h
   refine X.callT2 (s_ParseRule_pc _ _ _ hv12) (by rfl) (by rfl) (by rfl) (by trivial) (by rfl) (by rfl) (by rfl) (by rfl) (by rfl) (by rfl) ?_
   refine X.mv ?_
   refine X.extract (h:=?_)
   refine X.extract (h:=?_)
   refine X.fl fld53_1 ?_
   refine X.sl shp50 ?_
   refine X.nil (Run.reg (X.an ?_))
   exact R.mt hmeet7 (3,1,v12.1.Kind,v12.1.A,v12.1.B,v12.1.C) (Option.some.inj h)
  replace h:=condF hc9 h
  refine Run.skip ?_
  exact R.mt hmeet7 (2,2,0,0,0,0) (Option.some.inj h)
 rintro p13 rfl
 refine Run.seq (Run.sr (X.mv ?_))
 refine X.len_o elt47 (by rfl) (by rfl) (by first | rfl | simp [setL] | omega) (by first | exact List.length_map .. | rfl) (by rfl) (by rfl) ?_
 refine X.mv ?_
 refine X.bi ?_
 refine X.nil ?_
 refine R.cd (fun hc14=>?_) (fun hc14=>?_)
 ·replace h:=condT hc14 h
  refine Run.sr ?_
  refine X.build zer53 pl53 (by rfl) (by rfl) (by repeat (first | trivial | refine ⟨by first | rfl | simp [setL],?_⟩)) (by rfl) (by rfl) (by rfl) ?_
  refine X.sl shp53 ?_
  refine X.an ?_
  cases h
  refine R.nilOwnB (m:=256) 5 301 false 114 3 (by rfl) (by rfl) (by rfl) (by rfl) (by rfl) ?_
  refine R.finC2 Tryz.results18 shp53 (by rfl) (by rfl) (by rfl) (by rfl) (by rfl) (by rfl) (by repeat (first | trivial | refine ⟨by first | rfl | simp [setL],?_⟩)) ?_
  rfl
 replace h:=condF hc14 h
 refine Run.skip (Run.seq (Run.draw (footOf [(0,([128],[],[],[])),(3,([768],[],[],[])),(5,([],[2880],[],[]))]) mixed (by kernel_rfl) (by kernel_rfl) ?_))
 refine X.ld shp36 ?_
 refine X.mv ?_
 refine X.mv ?_
 obtain ⟨v15,hv15,h⟩:=bindE h
 refine X.sliceO2 elt47 (by rfl) (by rfl) (by first | rfl | simp [setL] | omega) ⟨_,by rfl⟩ (by first | rfl | simp [Bound]) (subL_le _ hv15) (subL_map _ hv15) (by rfl) (by rfl) ?_
 obtain ⟨v16,hv16,h⟩:=bindE h
 refine X.cp (s_Join_pc _ _ _ hv16) ?_
 obtain ⟨v17,hv17,h⟩:=bindE h
 refine X.callT (s_ParseClause_pc _ _ _ hv17) (by rfl) (by rfl) (by rfl) (by trivial) (by rfl) (by rfl) (by rfl) (by rfl) (by rfl) (by rfl) ?_
 refine X.mv ?_
 refine X.extract (h:=?_)
 refine X.extract (h:=?_)
 refine X.as ?_
 refine X.an ?_
 refine Run.sr (X.mv ?_)
 refine X.fl fld53_2 ?_
 refine X.sl shp51 ?_
 refine X.nil (Run.seq (Run.seq ?_))
 obtain ⟨e18,he18,h2⟩:=bindE h
 refine R.regG [(4,.lptr 256 0),(7,.lptr 448 0),(58,bool e18)] [(256,.blk true [int 0,int 0,int 0,int 0,int 0,.nils]),(448,.blk true [int p13.2.1,int p13.2.2.1,int p13.2.2.2.1,int p13.2.2.2.2.1,int p13.2.2.2.2.2,.own 2880 (v17.1.map eTLiteral).length]),(2880,.obj false 114 3 (v17.1.map eTLiteral))] ?_ ?_
 ·clear h;have h:=he18;clear he18 h2
  refine X.mv ?_
  refine X.un (h:=?_)
  refine X.mv ?_
  refine X.iG (fun hb19=>?_) (fun hb19=>?_)
  ·replace h:=condF hb19 h
   refine X.ld shp36 ?_
   refine X.gy (X.ld shp53 ?_)
   refine X.gy ?_
   obtain ⟨v20,hv20,h⟩:=bindE h
   refine X.cp (s_FormatLine_pc _ _ _ hv20) ?_
   refine X.gy (X.mv ?_)
   refine X.gy (X.bi ?_)
   refine X.pF ?_
   cases h
   exact X.eG
  replace h:=condT hb19 h
  refine X.gn (X.gn (X.gn (X.gn (X.pT ?_))))
  cases h
  exact X.eG
 replace h:=h2;clear h2
 refine R.cd (fun hc21=>?_) (fun hc21=>?_)
 ·replace h:=condT hc21 h
  refine Run.sr ?_
  refine X.build zer53 pl53 (by rfl) (by rfl) (by repeat (first | trivial | refine ⟨by first | rfl | simp [setL],?_⟩)) (by rfl) (by rfl) (by rfl) ?_
  refine X.sl shp53 ?_
  refine X.an ?_
  cases h
  refine R.nilOwnB (m:=256) 5 301 false 114 3 (by rfl) (by rfl) (by rfl) (by rfl) (by rfl) ?_
  refine R.finC2 Tryz.results18 shp53 (by rfl) (by rfl) (by rfl) (by rfl) (by rfl) (by rfl) (by repeat (first | trivial | refine ⟨by first | rfl | simp [setL],?_⟩)) ?_
  rfl
 replace h:=condF hc21 h
 refine Run.skip (Run.sr (X.ld shp53 ?_))
 refine X.sl shp53 ?_
 refine X.an ?_
 cases h
 refine R.finC2 Tryz.results18 shp53 (by rfl) (by rfl) (by rfl) (by rfl) (by rfl) (by rfl) (by repeat (first | trivial | refine ⟨by first | rfl | simp [setL],?_⟩)) ?_
 rfl
theorem s_FormatProof_pc (b0:TProject)(b1:List TLine)(r:ByteArray)(h:s_FormatProof b0 b1=some r):PC Tryz.prog 19 [eTProject b0,.slice (b1.map eTLine)] (str r):=by
 unfold s_FormatProof at h
 refine PC.start Tryz.func19 Tryz.ntmps19 rfl (by kernel_rfl) rfl ?_
 refine Run.sr (X.bx ?_)
 refine X.an ?_
 refine Run.sr (X.an ?_)
 refine Run.seq (Run.sr (X.mv ?_))
 refine X.ls elt29 ?_
 refine X.mn ?_
 obtain ⟨o1,ho1,h⟩:=bindE h
 refine R.join2 (β:=ByteArray) [] [] (fun p17 S=>(5,str p17)::S) (fun p17 M=>M) (fun p17=>(Sum.inl p17)=o1) ?_ ?_
 ·intro JJ4 hmeet3
  have hup2:=h;clear h;have h:=ho1;clear ho1
  refine Run.block ?_
  refine R.bndS (t:=1) (by rfl) (fun hbd7=>?_)
  replace hbd7:b1.length≤9223372036854775807:=by first | (rw [List.length_map] at hbd7;exact hbd7) | simp
  refine R.lp (β:=Int×ByteArray) [(2,.lptr 128 0),(9,.slice (b1.map eTLine)),(10,int (b1.length:Int))] [(128,.blk true [int b0.Deadline,.slice (b0.Activities.map eTActivity),.slice (b0.Links.map eTLink),.slice (b0.Resources.map eTResource),.slice (b0.Stocks.map int)])] (fun bb S=>(5,str bb.2)::(11,int bb.1)::S) (fun bb M=>M) (fun n bb=>0≤bb.1∧bb.1+n=(b1.length:Int)∧s_FormatProof_L1 b0 (b1.drop bb.1.toNat) bb.1 bb.2=some o1) b1.length (0,ByteArray.empty) ⟨Int.le_refl _,by simp,h⟩ ?_
  clear h
  rintro JJ7 n7 ⟨z8,a9⟩ hag7 ⟨hza7,hzb7,h⟩
  dsimp only at hza7 hzb7 h
  refine Run.sr (X.bi ?_)
  refine X.nil (Run.seq ?_)
  refine R.cd (fun hc12=>?_) (fun hc12=>?_)
  ·obtain ⟨x10,xs11,hd7,hx7,hds7,hlt7⟩:=drop_atI hza7 hc12
   rw [hd7] at h
   rw [s_FormatProof_L1] at h
   refine Run.skip (Run.seq (Run.block (Run.sr (X.ix elt29 (idxL_spec hx7).1 (idxL_map eTLine hx7) ?_))))
   refine X.lc shp53 ?_
   refine X.alloc zer53 (h:=?_)
   refine X.sl shp53 ?_
   refine X.nil (Run.sr (X.ld shp36 ?_))
   refine X.ld shp53 ?_
   obtain ⟨v13,hv13,h⟩:=bindE h
   refine X.cp (s_FormatLine_pc _ _ _ hv13) ?_
   refine X.an ?_
   refine Run.seq (Run.sr (X.mv ?_))
   refine X.bi ?_
   refine X.nil ?_
   refine R.cd (fun hc14=>?_) (fun hc14=>?_)
   ·replace h:=condT hc14 h
    refine Run.sr (X.an ?_)
    cases h
    have h:=hup2
    replace h:=elimR h
    cases h
    refine R.f1 Tryz.results19 ?_
    rfl
   replace h:=condF hc14 h
   refine Run.skip (Run.reg (X.mv ?_))
   refine X.mv ?_
   obtain ⟨v15,hv15,h⟩:=bindE h
   refine X.cat2 hv15 (by rfl) (by rfl) (by rfl) ?_
   obtain ⟨v16,hv16,h⟩:=bindE h
   refine X.cat2 hv16 (by rfl) (by rfl) (by rfl) ?_
   refine X.an ?_
   refine Run.blk (Run.reg (X.ad ?_))
   refine X.mn ?_
   exact R.ag hag7 (n7 - 1) (z8+1,v16) (R.n3 (by first | (rw [hds7];exact h) | (dsimp only;rw [hds7];exact h)))
  rw [drop_endI hza7 hc12] at h
  rw [s_FormatProof_L1] at h
  refine Run.exit (by rfl) ?_
  exact R.mt hmeet3 a9 (Option.some.inj h)
 rintro p17 rfl
 replace h:=elimL h
 refine Run.sr (X.mv ?_)
 refine X.an ?_
 cases h
 refine R.f1 Tryz.results19 ?_
 rfl
theorem s_ParseProof_pc (b0:TProject)(b1:ByteArray)(r:(List TLine)×Bool)(h:s_ParseProof b0 b1=some r):PC Tryz.prog 5 [eTProject b0,str b1] (.tuple [.fresh false 53 6 (r.1.map eTLine),bool r.2]):=by
 unfold s_ParseProof at h
 refine PC.start Tryz.func5 Tryz.ntmps5 rfl (by kernel_rfl) rfl ?_
 refine Run.sr (X.bx ?_)
 refine X.as ?_
 refine X.an ?_
 refine Run.sr ?_
 refine X.buildSlice false elt29 zer53 (by rfl) (by rfl) (by rfl) (by rfl) (by rfl) (by rfl) (by repeat (first | trivial | refine ⟨by first | rfl | simp [setL],?_⟩)) (allSz_spec (by rfl)) (by rfl) (by rfl) (by rfl) ?_
 refine X.an ?_
 refine Run.seq (Run.sr (X.mv ?_))
 obtain ⟨v1,hv1,h⟩:=bindE h
 refine X.cp (s_SplitLines_pc _ _ hv1) ?_
 refine X.ls elt47 ?_
 refine X.mn ?_
 obtain ⟨o2,ho2,h⟩:=bindE h
 refine R.join2 (β:=(List TLine)) [(1,str b1),(2,.lptr 128 0)] [(128,.blk true [int b0.Deadline,.slice (b0.Activities.map eTActivity),.slice (b0.Links.map eTLink),.slice (b0.Resources.map eTResource),.slice (b0.Stocks.map int)])] (fun p19 S=>(6,.own 704 (p19.map eTLine).length)::S) (fun p19 M=>(704,.obj false 53 6 (p19.map eTLine))::M) (fun p19=>(Sum.inl p19)=o2) ?_ ?_
 ·intro JJ5 hmeet4
  have hup3:=h;clear h;have h:=ho2;clear ho2
  refine Run.block ?_
  refine R.bndS (t:=13) (by rfl) (fun hbd8=>?_)
  replace hbd8:v1.length≤9223372036854775807:=by first | (rw [List.length_map] at hbd8;exact hbd8) | simp
  refine R.lp (β:=Int×(List TLine)) [(1,str b1),(2,.lptr 128 0),(13,.slice (v1.map str)),(14,int (v1.length:Int))] [(128,.blk true [int b0.Deadline,.slice (b0.Activities.map eTActivity),.slice (b0.Links.map eTLink),.slice (b0.Resources.map eTResource),.slice (b0.Stocks.map int)])] (fun bb S=>(6,.own 704 (bb.2.map eTLine).length)::(15,int bb.1)::S) (fun bb M=>(704,.obj false 53 6 (bb.2.map eTLine))::M) (fun n bb=>0≤bb.1∧bb.1+n=(v1.length:Int)∧s_ParseProof_L1 b0 (v1.drop bb.1.toNat) bb.1 bb.2=some o2) v1.length (0,([]:List TLine)) ⟨Int.le_refl _,by simp,h⟩ ?_
  clear h
  rintro JJ8 n8 ⟨z9,a10⟩ hag8 ⟨hza8,hzb8,h⟩
  dsimp only at hza8 hzb8 h
  refine Run.sr (X.bi ?_)
  refine X.nil (Run.seq ?_)
  refine R.cd (fun hc13=>?_) (fun hc13=>?_)
  ·obtain ⟨x11,xs12,hd8,hx8,hds8,hlt8⟩:=drop_atI hza8 hc13
   rw [hd8] at h
   rw [s_ParseProof_L1] at h
   refine Run.skip (Run.seq (Run.block (Run.sr (X.ix elt47 (idxL_spec hx8).1 (idxL_map str hx8) ?_))))
   refine X.lc shp9 ?_
   refine X.an ?_
   refine Run.sr (X.ld shp36 ?_)
   refine X.mv ?_
   obtain ⟨v14,hv14,h⟩:=bindE h
   refine X.callT2 (s_ParseLine_pc _ _ _ hv14) (by rfl) (by rfl) (by rfl) (by trivial) (by rfl) (by rfl) (by rfl) (by rfl) (by rfl) (by rfl) ?_
   refine X.mv ?_
   refine X.extract (h:=?_)
   refine X.extract (h:=?_)
   refine X.alloc zer53 (h:=?_)
   refine X.sl shp53 ?_
   refine X.an ?_
   refine Run.seq (Run.seq ?_)
   obtain ⟨e15,he15,h2⟩:=bindE h
   refine R.regG [(1,str b1),(2,.lptr 128 0),(6,.own 704 (a10.map eTLine).length),(9,.lptr 576 0),(13,.slice (v1.map str)),(14,int (v1.length:Int)),(15,int z9),(31,bool e15)] [(128,.blk true [int b0.Deadline,.slice (b0.Activities.map eTActivity),.slice (b0.Links.map eTLink),.slice (b0.Resources.map eTResource),.slice (b0.Stocks.map int)]),(704,.obj false 53 6 (a10.map eTLine)),(576,.blk true [int v14.1.Kind,int v14.1.Rule.Kind,int v14.1.Rule.A,int v14.1.Rule.B,int v14.1.Rule.C,.own 1408 (v14.1.Clause.map eTLiteral).length]),(1408,.obj false 114 3 (v14.1.Clause.map eTLiteral))] ?_ ?_
   ·clear h;have h:=he15;clear he15 h2
    refine X.mv ?_
    refine X.un (h:=?_)
    refine X.mv ?_
    refine X.iG (fun hb16=>?_) (fun hb16=>?_)
    ·replace h:=condF hb16 h
     refine X.mv ?_
     refine X.gy (X.len_o elt29 (by rfl) (by rfl) (by first | rfl | simp [setL] | omega) (by first | exact List.length_map .. | rfl) (by rfl) (by rfl) ?_)
     refine X.gy (X.bi ?_)
     refine X.pF ?_
     cases h
     exact X.eG
    replace h:=condT hb16 h
    refine X.gn (X.gn (X.pT ?_))
    cases h
    exact X.eG
   replace h:=h2;clear h2
   refine R.cd (fun hc17=>?_) (fun hc17=>?_)
   ·replace h:=condT hc17 h
    refine Run.sr (X.as ?_)
    refine X.an ?_
    cases h
    have h:=hup3
    replace h:=elimR h
    cases h
    refine R.nilOwnS (t:=4) 296 false 53 6 (by rfl) (by rfl) (by rfl) ?_
    refine R.fin2 Tryz.results5 (by rfl) (by rfl) (by rfl) (by repeat (first | trivial | refine ⟨by first | rfl | simp [setL],?_⟩)) ?_
    rfl
   replace h:=condF hc17 h
   refine Run.skip (Run.reg (X.mv ?_))
   refine X.ld shp53 ?_
   refine X.buildSlice false elt29 zer53 (by rfl) (by rfl) (by rfl) (by rfl) (by rfl) (by rfl) (by repeat (first | trivial | refine ⟨by first | rfl | simp [setL],?_⟩)) (allSz_spec (by rfl)) (by rfl) (by rfl) (by rfl) ?_
   obtain ⟨v18,hv18,h⟩:=bindE h
   refine X.append elt29 zer53 (by rfl) (by rfl) (by first | rfl | simp [setL] | omega) (by rfl) (.own _ _ _ _ _ _ (look_mem (by rfl)) (by first | rfl | simp [setL] | omega)) (allSz_spec (by rfl)) (appL_len eTLine hv18) (appL_map eTLine hv18) (by rfl) (by rfl) (by rfl) (by rfl) ?_
   refine X.an ?_
   refine Run.blk (Run.reg (X.ad ?_))
   refine X.mn ?_
   exact R.ag hag8 (n8 - 1) (z9+1,v18) (R.n3 (by first | (rw [hds8];exact h) | (dsimp only;rw [hds8];exact h)))
  rw [drop_endI hza8 hc13] at h
  rw [s_ParseProof_L1] at h
  refine Run.exit (by rfl) ?_
  exact R.mt hmeet4 a10 (Option.some.inj h)
 rintro p19 rfl
 replace h:=elimL h
 refine Run.seq (Run.sr (X.ld shp36 ?_))
 refine X.mv ?_
 obtain ⟨v21,hv21,h⟩:=bindE h
 refine X.cp (s_FormatProof_pc _ _ _ hv21) ?_
 refine X.mv ?_
 refine X.bi ?_
 refine X.nil ?_
 refine R.cd (fun hc22=>?_) (fun hc22=>?_)
 ·replace h:=condT hc22 h
  refine Run.sr (X.as ?_)
  refine X.an ?_
  cases h
  refine R.nilOwnS (t:=4) 296 false 53 6 (by rfl) (by rfl) (by rfl) ?_
  refine R.fin2 Tryz.results5 (by rfl) (by rfl) (by rfl) (by repeat (first | trivial | refine ⟨by first | rfl | simp [setL],?_⟩)) ?_
  rfl
 replace h:=condF hc22 h
 refine Run.skip (Run.sr (X.mv ?_))
 refine X.as ?_
 refine X.an ?_
 cases h
 refine R.fin2 Tryz.results5 (by rfl) (by rfl) (by rfl) (by repeat (first | trivial | refine ⟨by first | rfl | simp [setL],?_⟩)) ?_
 rfl
theorem strings_IndexByte_pc (b0:ByteArray)(b1:Int)(r:Int)(h:strings_IndexByte b0 b1=some r):PC Tryz.prog 79 [str b0,e_u8 b1] (int r):=PC.indexByte (by kernel_rfl) (fun s c w=>Tryz.strings_IndexByte s c w) b0 b1 r h
theorem i_SplitAny_pc (b0:ByteArray)(b1:ByteArray)(r:List ByteArray)(h:i_SplitAny b0 b1=some r):PC Tryz.prog 49 [str b0,str b1] (.fresh false 9 1 (r.map str)):=by
 unfold i_SplitAny at h
 refine PC.start Tryz.func49 Tryz.ntmps49 rfl (by kernel_rfl) rfl ?_
 refine Run.sr (X.an ?_)
 refine Run.sr ?_
 refine X.buildSlice false elt47 zer9 (by rfl) (by rfl) (by rfl) (by rfl) (by rfl) (by rfl) (by repeat (first | trivial | refine ⟨by first | rfl | simp [setL],?_⟩)) (allSz_spec (by rfl)) (by rfl) (by rfl) (by rfl) ?_
 refine X.as ?_
 refine X.an ?_
 refine Run.seq (Run.sr (X.mv ?_))
 refine X.lenStr Tryz.underlying9 (by rfl) (by rfl) ?_
 refine X.mn ?_
 obtain ⟨o1,ho1,h⟩:=bindE h
 refine R.join2 (β:=Int×(List ByteArray)) [(0,str b0)] [] (fun p18 S=>(5,.own 512 (p18.2.map str).length)::(6,int p18.1)::S) (fun p18 M=>(512,.obj false 9 1 (p18.2.map str))::M) (fun p18=>p18=o1) ?_ ?_
 ·intro JJ4 hmeet3
  have hup2:=h;clear h;have h:=ho1;clear ho1
  refine Run.block ?_
  refine R.lp (β:=Int×Int×(List ByteArray)) [(0,str b0),(1,str b1),(10,int (b0.size:Int))] [] (fun bb S=>(5,.own 512 (bb.2.2.map str).length)::(6,int bb.1)::(11,int bb.2.1)::S) (fun bb M=>(512,.obj false 9 1 (bb.2.2.map str))::M) (fun n bb=>i_SplitAny_L1 b0 b1 n bb.1 bb.2.1 bb.2.2=some o1) F0 (0,0,([]:List ByteArray)) h ?_
  clear h
  rintro JJ5 n5 ⟨a7,a8,a9⟩ hag5 h
  dsimp only at h
  obtain _ | n5:=n5
  ·exact absurd h (by simp [i_SplitAny_L1])
  rw [i_SplitAny_L1] at h
  refine Run.sr (X.bi ?_)
  refine X.nil (Run.seq ?_)
  refine R.cd (fun hc12=>?_) (fun hc12=>?_)
  ·replace h:=condT hc12 h
   refine Run.skip (Run.seq (Run.block (Run.sr (X.mv ?_))))
   refine X.an ?_
   refine Run.sr (X.mv ?_)
   refine X.mv ?_
   refine X.mv ?_
   obtain ⟨v13,hv13,h⟩:=bindE h
   refine X.indexStr2 hv13 Tryz.underlying9 (by rfl) (by rfl) (by rfl) ?_
   obtain ⟨v14,hv14,h⟩:=bindE h
   refine X.cp (strings_IndexByte_pc _ _ _ hv14) ?_
   refine X.bi ?_
   refine X.nil ?_
   refine R.cd (fun hc15=>?_) (fun hc15=>?_)
   ·replace h:=condT hc15 h
    refine Run.sr (X.mv ?_)
    refine X.mv ?_
    refine X.mv ?_
    refine X.mv ?_
    obtain ⟨v16,hv16,h⟩:=bindE h
    refine X.sliceStr2 hv16 Tryz.underlying9 (by rfl) ⟨_,by rfl⟩ ⟨_,by rfl⟩ (by rfl) ?_
    refine X.buildSlice false elt47 zer9 (by rfl) (by rfl) (by rfl) (by rfl) (by rfl) (by rfl) (by repeat (first | trivial | refine ⟨by first | rfl | simp [setL],?_⟩)) (allSz_spec (by rfl)) (by rfl) (by rfl) (by rfl) ?_
    obtain ⟨v17,hv17,h⟩:=bindE h
    refine X.append elt47 zer9 (by rfl) (by rfl) (by first | rfl | simp [setL] | omega) (by rfl) (.own _ _ _ _ _ _ (look_mem (by rfl)) (by first | rfl | simp [setL] | omega)) (allSz_spec (by rfl)) (appL_len str hv17) (appL_map str hv17) (by rfl) (by rfl) (by rfl) (by rfl) ?_
    refine X.an ?_
    refine Run.reg (X.mv ?_)
    refine X.addW (h:=?_)
    refine X.an ?_
    refine Run.blk (Run.reg (X.addW (h:=?_)))
    refine X.mn ?_
    exact hag5 n5 ((W (a8+1)),(W (a8+1)),v17) _ _ (by omega) h (by repeat (first | trivial | refine ⟨by first | rfl | simp [setL],?_⟩)) (by repeat (first | trivial | refine ⟨by first | rfl | simp [setL],?_⟩)) (by rfl) (by rfl)
   replace h:=condF hc15 h
   refine Run.skip (Run.blk (Run.reg (X.addW (h:=?_))))
   refine X.mn ?_
   exact hag5 n5 (a7,(W (a8+1)),a9) _ _ (by omega) h (by repeat (first | trivial | refine ⟨by first | rfl | simp [setL],?_⟩)) (by repeat (first | trivial | refine ⟨by first | rfl | simp [setL],?_⟩)) (by rfl) (by rfl)
  replace h:=condF hc12 h
  refine Run.exit (by rfl) ?_
  exact R.mt hmeet3 (a7,a9) (Option.some.inj h)
 rintro p18 rfl
 refine Run.sr (X.mv ?_)
 refine X.mv ?_
 refine X.mv ?_
 obtain ⟨v19,hv19,h⟩:=bindE h
 refine X.sliceStr2 hv19 Tryz.underlying9 (by rfl) ⟨_,by rfl⟩ (by rfl) (by rfl) ?_
 refine X.buildSlice false elt47 zer9 (by rfl) (by rfl) (by rfl) (by rfl) (by rfl) (by rfl) (by repeat (first | trivial | refine ⟨by first | rfl | simp [setL],?_⟩)) (allSz_spec (by rfl)) (by rfl) (by rfl) (by rfl) ?_
 obtain ⟨v20,hv20,h⟩:=bindE h
 refine X.append elt47 zer9 (by rfl) (by rfl) (by first | rfl | simp [setL] | omega) (by rfl) (.own _ _ _ _ _ _ (look_mem (by rfl)) (by first | rfl | simp [setL] | omega)) (allSz_spec (by rfl)) (appL_len str hv20) (appL_map str hv20) (by rfl) (by rfl) (by rfl) (by rfl) ?_
 refine X.an ?_
 cases h
 refine R.fin1o Tryz.results49 (by rfl) (by rfl) (by first | rfl | simp [setL] | omega) ?_
 rfl
theorem i_SplitLines_pc (b0:ByteArray)(r:List ByteArray)(h:i_SplitLines b0=some r):PC Tryz.prog 24 [str b0] (.slice (r.map str)):=by
 unfold i_SplitLines at h
 refine PC.start Tryz.func24 Tryz.ntmps24 rfl (by kernel_rfl) rfl ?_
 refine Run.sr (X.an ?_)
 refine Run.sr (X.mv ?_)
 obtain ⟨v1,hv1,h⟩:=bindE h
 refine X.callF (i_SplitAny_pc _ _ _ hv1) (by rfl) (by rfl) (by rfl) (by trivial) (by rfl) (by rfl) (by rfl) (by rfl) ?_
 refine X.an ?_
 refine Run.seq (Run.sr (X.mv ?_))
 refine X.mv ?_
 refine X.len_o elt47 (by rfl) (by rfl) (by first | rfl | simp [setL] | omega) (by first | exact List.length_map .. | rfl) (by rfl) (by rfl) ?_
 refine X.subW (h:=?_)
 obtain ⟨v2,hv2,h⟩:=bindE h
 refine X.index_o elt47 (by rfl) (by rfl) (by first | rfl | simp [setL] | omega) (by rfl) (idxL_spec hv2).1 (idxL_map str hv2) (by rfl) (by rfl) (by rfl) ?_
 refine X.lc shp9 ?_
 refine X.bi ?_
 refine X.nil ?_
 refine R.cd (fun hc3=>?_) (fun hc3=>?_)
 ·replace h:=condT hc3 h
  refine Run.reg (X.mv ?_)
  refine X.mv ?_
  refine X.len_o elt47 (by rfl) (by rfl) (by first | rfl | simp [setL] | omega) (by first | exact List.length_map .. | rfl) (by rfl) (by rfl) ?_
  refine X.subW (h:=?_)
  obtain ⟨v4,hv4,h⟩:=bindE h
  refine X.sliceO2 elt47 (by rfl) (by rfl) (by first | rfl | simp [setL] | omega) (by rfl) ⟨_,by rfl⟩ (subL_le _ hv4) (subL_map _ hv4) (by rfl) (by rfl) ?_
  refine X.an ?_
  refine Run.sr (X.mv ?_)
  refine X.an ?_
  cases h
  refine R.f1 Tryz.results24 ?_
  rfl
 replace h:=condF hc3 h
 refine Run.skip (Run.sr (X.mv ?_))
 refine X.an ?_
 cases h
 refine R.castS (t:=2) _ (by rfl) (.inr (.inr ⟨_,_,_,_,_,rfl,(by rfl),(by first | rfl | simp [setL] | omega),rfl⟩)) ?_
 refine R.f1 Tryz.results24 ?_
 rfl
theorem strings_Cut_pc (b0:ByteArray)(b1:ByteArray)(r:ByteArray×ByteArray×Bool)(h:strings_Cut b0 b1=some r):PC Tryz.prog 50 [str b0,str b1] (.tuple [str r.1,str r.2.1,bool r.2.2]):=PC.cut (by kernel_rfl) (by kernel_rfl) (fun s sep m w h1 h2=>Tryz.strings_Cut s sep m w h1 h2) b0 b1 r h
theorem i_LiteralSign_pc (b0:Int)(r:ByteArray)(h:i_LiteralSign b0=some r):PC Tryz.prog 108 [int b0] (str r):=by
 unfold i_LiteralSign at h
 refine PC.start Tryz.func108 Tryz.ntmps108 rfl (by kernel_rfl) rfl ?_
 refine Run.sr (X.an ?_)
 refine Run.seq (Run.sr (X.mn ?_))
 refine Run.block (Run.sr (X.bi ?_))
 refine X.an ?_
 refine R.cd (fun hc1=>?_) (fun hc1=>?_)
 ·replace h:=condT hc1 h
  refine Run.sr (X.an ?_)
  cases h
  refine R.f1 Tryz.results108 ?_
  rfl
 replace h:=condF hc1 h
 refine Run.sr (X.bi ?_)
 refine X.an ?_
 refine R.cd (fun hc2=>?_) (fun hc2=>?_)
 ·replace h:=condT hc2 h
  refine Run.sr (X.an ?_)
  cases h
  refine R.f1 Tryz.results108 ?_
  rfl
 replace h:=condF hc2 h
 refine Run.sr (X.bi ?_)
 refine X.an ?_
 refine R.cd (fun hc3=>?_) (fun hc3=>?_)
 ·replace h:=condT hc3 h
  refine Run.sr (X.an ?_)
  cases h
  refine R.f1 Tryz.results108 ?_
  rfl
 replace h:=condF hc3 h
 refine Run.sr (X.bi ?_)
 refine X.an ?_
 refine R.cd (fun hc4=>?_) (fun hc4=>?_)
 ·replace h:=condT hc4 h
  refine Run.sr (X.an ?_)
  cases h
  refine R.f1 Tryz.results108 ?_
  rfl
 replace h:=condF hc4 h
 refine Run.skip (Run.blk (Run.sr (X.an ?_)))
 cases h
 refine R.f1 Tryz.results108 ?_
 rfl
theorem strconv_Atoi_pc (b0:ByteArray)(r:Int×Bool)(h:strconv_Atoi b0=some r):PC Tryz.prog 114 [str b0] (.tuple [int r.1,.err r.2]):=PC.atoi (by kernel_rfl) (by rfl) (by rfl) (fun s v w h1 h2=>Tryz.strconv_Atoi_ok s h1 v h2 w) (fun s tp p w h1 h2 h3=>Tryz.strconv_Atoi_syntax_var s h1 h2 tp p w h3) (fun s tp p w h1 h2 h3=>Tryz.strconv_Atoi_range_var s h1 h2 tp p w h3) b0 r h
theorem i_within_pc (b0:Int)(b1:Int)(b2:Int)(r:Bool)(h:i_within b0 b1 b2=some r):PC Tryz.prog 113 [int b0,int b1,int b2] (bool r):=by
 unfold i_within at h
 refine PC.start Tryz.func113 Tryz.ntmps113 rfl (by kernel_rfl) rfl ?_
 refine Run.sr (X.an ?_)
 refine Run.seq ?_
 obtain ⟨e1,he1,h2⟩:=bindE h
 refine R.regG [(6,bool e1)] [] ?_ ?_
 ·clear h;have h:=he1;clear he1 h2
  refine X.mv ?_
  refine X.mv ?_
  refine X.bi ?_
  refine X.mv ?_
  refine X.iG (fun hb2=>?_) (fun hb2=>?_)
  ·replace h:=condT hb2 h
   refine X.mv ?_
   refine X.gy (X.mv ?_)
   refine X.gy (X.bi ?_)
   refine X.pT ?_
   refine X.as ?_
   cases h
   exact X.eG
  replace h:=condF hb2 h
  refine X.gn (X.gn (X.pF ?_))
  refine X.as ?_
  cases h
  exact X.eG
 replace h:=h2;clear h2
 cases h
 refine R.f1 Tryz.results113 ?_
 rfl
theorem strconv_Itoa_pc (b0:Int)(r:ByteArray)(h:strconv_Itoa b0=some r):PC Tryz.prog 151 [int b0] (str r):=PC.itoa (by kernel_rfl) (by rfl) (fun n w h1 h2 h3=>Tryz.strconv_Itoa n h1 h2 w h3) b0 r h
theorem i_FormatInt_pc (b0:Int)(r:ByteArray)(h:i_FormatInt b0=some r):PC Tryz.prog 115 [int b0] (str r):=by
 unfold i_FormatInt at h
 refine PC.start Tryz.func115 Tryz.ntmps115 rfl (by kernel_rfl) rfl ?_
 refine Run.sr (X.an ?_)
 refine Run.seq (Run.sr (X.mv ?_))
 obtain ⟨v1,hv1,h⟩:=bindE h
 refine X.cp (i_within_pc _ _ _ _ hv1) ?_
 refine X.un (h:=?_)
 refine X.nil ?_
 refine R.cd (fun hc2=>?_) (fun hc2=>?_)
 ·replace h:=condT hc2 h
  refine Run.sr (X.an ?_)
  cases h
  refine R.f1 Tryz.results115 ?_
  rfl
 replace h:=condF hc2 h
 refine Run.skip (Run.sr (X.mv ?_))
 obtain ⟨v3,hv3,h⟩:=bindE h
 refine X.cp (strconv_Itoa_pc _ _ hv3) ?_
 refine X.an ?_
 cases h
 refine R.f1 Tryz.results115 ?_
 rfl
theorem i_ParseInt_pc (b0:ByteArray)(r:Int×Bool)(h:i_ParseInt b0=some r):PC Tryz.prog 85 [str b0] (.tuple [int r.1,bool r.2]):=by
 unfold i_ParseInt at h
 refine PC.start Tryz.func85 Tryz.ntmps85 rfl (by kernel_rfl) rfl ?_
 refine Run.sr (X.as ?_)
 refine X.an ?_
 refine Run.sr (X.mv ?_)
 obtain ⟨v1,hv1,h⟩:=bindE h
 refine X.callT (strconv_Atoi_pc _ _ hv1) (by rfl) (by rfl) (by rfl) (by trivial) (by rfl) (by rfl) (by rfl) (by rfl) (by rfl) (by rfl) ?_
 refine X.mv ?_
 refine X.extract (h:=?_)
 refine X.extract (h:=?_)
 refine X.as ?_
 refine X.an ?_
 refine Run.seq (Run.seq ?_)
 obtain ⟨e2,he2,h2⟩:=bindE h
 refine R.regG [(4,int v1.1),(22,bool e2)] [] ?_ ?_
 ·clear h;have h:=he2;clear he2 h2
  refine X.mv ?_
  refine X.neqErr Tryz.underlying156 (by rfl) (by rfl) ?_
  refine X.mv ?_
  refine X.iG (fun hb3=>?_) (fun hb3=>?_)
  ·replace h:=condF hb3 h
   refine X.mv ?_
   refine X.gy (X.bi ?_)
   refine X.pF ?_
   refine X.mv ?_
   refine X.iG (fun hb4=>?_) (fun hb4=>?_)
   ·replace h:=condF hb4 h
    refine X.mv ?_
    refine X.gy ?_
    obtain ⟨v5,hv5,h⟩:=bindE h
    refine X.cp (i_FormatInt_pc _ _ hv5) ?_
    refine X.gy (X.mv ?_)
    refine X.gy (X.bi ?_)
    refine X.pF ?_
    cases h
    exact X.eG
   replace h:=condT hb4 h
   refine X.gn (X.gn (X.gn (X.pT ?_)))
   cases h
   exact X.eG
  replace h:=condT hb3 h
  refine X.gn (X.pT ?_)
  refine X.mv ?_
  refine X.gn (X.gn (X.gn (X.gn (X.pT ?_))))
  cases h
  exact X.eG
 replace h:=h2;clear h2
 refine R.cd (fun hc6=>?_) (fun hc6=>?_)
 ·replace h:=condT hc6 h
  refine Run.sr (X.as ?_)
  refine X.an ?_
  cases h
  refine R.fin2 Tryz.results85 (by rfl) (by rfl) (by rfl) (by repeat (first | trivial | refine ⟨by first | rfl | simp [setL],?_⟩)) ?_
  rfl
 replace h:=condF hc6 h
 refine Run.skip (Run.sr (X.mv ?_))
 refine X.as ?_
 refine X.an ?_
 cases h
 refine R.fin2 Tryz.results85 (by rfl) (by rfl) (by rfl) (by repeat (first | trivial | refine ⟨by first | rfl | simp [setL],?_⟩)) ?_
 rfl
theorem i_ActivityIndex_c1_pc (b0:TActivity)(c1:ByteArray)(r:Bool)(h:i_ActivityIndex_c1 b0 c1=some r):PC Tryz.prog 117 [eTActivity b0,.cptr (str c1:PV).cells 0] (bool r):=by
 unfold i_ActivityIndex_c1 at h
 refine PC.start Tryz.func117 Tryz.ntmps117 rfl (by kernel_rfl) rfl ?_
 refine Run.sr (X.bx ?_)
 refine X.an ?_
 refine Run.sr (X.fl fld89_0 ?_)
 refine X.ld shp9 ?_
 refine X.lc shp9 ?_
 refine X.bi ?_
 refine X.an ?_
 cases h
 refine R.f1 Tryz.results117 ?_
 rfl
theorem slices_IndexFunc_Activity_pc (b0:List TActivity)(g1:TActivity→Option Bool)(g1id:Nat)(g1c:List PV)(hg1:∀(x0:TActivity) v,g1 x0=some v→PC Tryz.prog g1id ([eTActivity x0] ++ g1c) (bool v))(r:Int)(h:slices_IndexFunc_Activity b0 g1=some r):PC Tryz.prog 116 [.slice (b0.map eTActivity),.fn g1id g1c] (int r):=by
 unfold slices_IndexFunc_Activity at h
 refine PC.start Tryz.func116 Tryz.ntmps116 rfl (by kernel_rfl) rfl ?_
 refine Run.sr (X.an ?_)
 refine Run.seq (Run.sr (X.mv ?_))
 refine X.ls elt32 ?_
 refine X.mn ?_
 obtain ⟨o1,ho1,h⟩:=bindE h
 refine R.join2 (β:=Unit) [] [] (fun p14 S=>S) (fun p14 M=>M) (fun p14=>(Sum.inl p14)=o1) ?_ ?_
 ·intro JJ4 hmeet3
  have hup2:=h;clear h;have h:=ho1;clear ho1
  refine Run.block ?_
  refine R.bndS (t:=0) (by rfl) (fun hbd7=>?_)
  replace hbd7:b0.length≤9223372036854775807:=by first | (rw [List.length_map] at hbd7;exact hbd7) | simp
  refine R.lp (β:=Int) [(0,.slice (b0.map eTActivity)),(1,.fn g1id g1c),(7,int (b0.length:Int))] [] (fun bb S=>(8,int bb)::S) (fun bb M=>M) (fun n bb=>0≤bb∧bb+n=(b0.length:Int)∧slices_IndexFunc_Activity_L1 g1 (b0.drop bb.toNat) bb=some o1) b0.length (0:Int) ⟨Int.le_refl _,by simp,h⟩ ?_
  clear h
  rintro JJ7 n7 z8 hag7 ⟨hza7,hzb7,h⟩
  refine Run.sr (X.bi ?_)
  refine X.nil (Run.seq ?_)
  refine R.cd (fun hc11=>?_) (fun hc11=>?_)
  ·obtain ⟨x9,xs10,hd7,hx7,hds7,hlt7⟩:=drop_atI hza7 hc11
   rw [hd7] at h
   rw [slices_IndexFunc_Activity_L1] at h
   refine Run.skip (Run.seq (Run.block (Run.sr (X.mv ?_))))
   refine X.an ?_
   refine Run.sr (X.mv ?_)
   refine X.mv ?_
   refine X.mv ?_
   refine X.ix elt32 (idxL_spec hx7).1 (idxL_map eTActivity hx7) ?_
   refine X.lc shp89 ?_
   obtain ⟨v12,hv12,h⟩:=bindE h
   refine X.cp (hg1 _ _ hv12) ?_
   refine X.nil ?_
   refine R.cd (fun hc13=>?_) (fun hc13=>?_)
   ·replace h:=condT hc13 h
    refine Run.sr (X.mv ?_)
    refine X.an ?_
    cases h
    have h:=hup2
    replace h:=elimR h
    cases h
    refine R.f1 Tryz.results116 ?_
    rfl
   replace h:=condF hc13 h
   refine Run.skip (Run.blk (Run.reg (X.ad ?_)))
   refine X.mn ?_
   exact R.ag hag7 (n7 - 1) (z8+1) (R.n3 (by first | (rw [hds7];exact h) | (dsimp only;rw [hds7];exact h)))
  rw [drop_endI hza7 hc11] at h
  rw [slices_IndexFunc_Activity_L1] at h
  refine Run.exit (by rfl) ?_
  exact R.mt hmeet3 () (Option.some.inj h)
 rintro p14 rfl
 replace h:=elimL h
 refine Run.sr (X.an ?_)
 cases h
 refine R.f1 Tryz.results116 ?_
 rfl
theorem i_ActivityIndex_pc (b0:TProject)(b1:ByteArray)(r:Int)(h:i_ActivityIndex b0 b1=some r):PC Tryz.prog 86 [eTProject b0,str b1] (int r):=by
 unfold i_ActivityIndex at h
 refine PC.start Tryz.func86 Tryz.ntmps86 rfl (by kernel_rfl) rfl ?_
 refine Run.sr (X.bx ?_)
 refine X.bx ?_
 refine X.an ?_
 refine Run.seq ?_
 refine R.pubBlk (n:=192) (by rfl) (by rfl) (by repeat (first | trivial | refine ⟨by first | rfl | simp [setL],?_⟩)) ?_
 refine Run.reg (X.fl fld36_1 ?_)
 refine X.ld shp32 ?_
 refine X.makeFunc (by rfl) (by rfl) (by repeat (first | trivial | refine ⟨by first | rfl | simp [setL],?_⟩)) (by rfl) (by rfl) ?_
 obtain ⟨v1,hv1,h⟩:=bindE h
 refine X.cp (slices_IndexFunc_Activity_pc _ (fun x0=>i_ActivityIndex_c1 x0 b1) _ _ (fun x0 v hv=>i_ActivityIndex_c1_pc _ _ _ hv) _ hv1) ?_
 refine X.an ?_
 cases h
 refine R.f1 Tryz.results86 ?_
 rfl
end Go.Px.YtoajaeffpalmlaaGreatDoor
