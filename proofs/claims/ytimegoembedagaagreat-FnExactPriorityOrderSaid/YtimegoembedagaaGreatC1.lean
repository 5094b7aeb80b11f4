/-
  PROVED: contracts of functions of the program over pure values. No condition beyond those that each theorem names.
-/
import Derived.Test.YtimegoembedagaaGreatProg
import Derived.Test.YtimegoembedagaaGreatD1
namespace Go.Px.YtimegoembedagaaGreat
set_option linter.unusedSimpArgs false
set_option linter.unusedVariables false
open Go.Px Go.Proofs
theorem shp27:shp Tryz.prog 27=some (true,5):=by kernel_rfl
theorem J1w:C0g Tryz.prog 27 1=some 1:=by kernel_rfl
theorem shp22:shp Tryz.prog 22=some (false,1):=by kernel_rfl
theorem elt22:eltOf Tryz.prog 22=some (77,3,48):=by kernel_rfl
theorem shp77:shp Tryz.prog 77=some (true,3):=by kernel_rfl
theorem J1k:C0g Tryz.prog 77 0=some 0:=by kernel_rfl
theorem shp9:shp Tryz.prog 9=some (false,1):=by kernel_rfl
theorem J1t:C0g Tryz.prog 77 2=some 2:=by kernel_rfl
theorem shp75:shp Tryz.prog 75=some (false,1):=by kernel_rfl
theorem elt75:eltOf Tryz.prog 75=some (147,3,56):=by kernel_rfl
theorem L1d:shp Tryz.prog 147=some (true,3):=by kernel_rfl
theorem G1e:C0g Tryz.prog 147 1=some 1:=by kernel_rfl
theorem shp25:shp Tryz.prog 25=some (false,1):=by kernel_rfl
theorem elt25:eltOf Tryz.prog 25=some (3,1,8):=by kernel_rfl
theorem G1n:C0g Tryz.prog 147 2=some 2:=by kernel_rfl
theorem J1a:C0g Tryz.prog 27 2=some 2:=by kernel_rfl
theorem shp23:shp Tryz.prog 23=some (false,1):=by kernel_rfl
theorem elt23:eltOf Tryz.prog 23=some (93,4,32):=by kernel_rfl
theorem J1b:C0g Tryz.prog 27 3=some 3:=by kernel_rfl
theorem shp24:shp Tryz.prog 24=some (false,1):=by kernel_rfl
theorem elt24:eltOf Tryz.prog 24=some (81,2,48):=by kernel_rfl
theorem shp81:shp Tryz.prog 81=some (true,2):=by kernel_rfl
theorem J1p:C0g Tryz.prog 81 0=some 0:=by kernel_rfl
theorem shp79:shp Tryz.prog 79=some (false,1):=by kernel_rfl
theorem elt79:eltOf Tryz.prog 79=some (150,2,16):=by kernel_rfl
theorem J1s:C0g Tryz.prog 81 1=some 1:=by kernel_rfl
theorem shp59:shp Tryz.prog 59=some (false,1):=by kernel_rfl
theorem elt59:eltOf Tryz.prog 59=some (25,1,24):=by kernel_rfl
theorem H1r:C0g Tryz.prog 27 4=some 4:=by kernel_rfl
theorem zer34:F0d Tryz.prog 34=some [.lit (.int .i64 0),.nils,.nils,.nils,.nils]:=by kernel_rfl
theorem L1g:C0g Tryz.prog 27 0=some 0:=by kernel_rfl
theorem shp3:shp Tryz.prog 3=some (false,1):=by kernel_rfl
theorem T0l:C0g Tryz.prog 34 0=some 0:=by kernel_rfl
theorem elt30:eltOf Tryz.prog 30=some (50,3,48):=by kernel_rfl
theorem zer50:F0d Tryz.prog 50=some [.lit (.string ByteArray.empty),.lit (.int .i64 0),.nils]:=by kernel_rfl
theorem P0n:C0g Tryz.prog 50 0=some 0:=by kernel_rfl
theorem L1m:C0g Tryz.prog 77 1=some 1:=by kernel_rfl
theorem W0b:C0g Tryz.prog 50 1=some 1:=by kernel_rfl
theorem elt48:eltOf Tryz.prog 48=some (100,3,56):=by kernel_rfl
theorem R0g:F0d Tryz.prog 100=some [.lit (.int .i64 0),.nils,.nils]:=by kernel_rfl
theorem K1o:C0g Tryz.prog 147 0=some 0:=by kernel_rfl
theorem L0t:C0g Tryz.prog 100 0=some 0:=by kernel_rfl
theorem zer3:F0d Tryz.prog 3=some [.lit (.int .i64 0)]:=by kernel_rfl
theorem S0d:C0g Tryz.prog 100 1=some 1:=by kernel_rfl
theorem S0g:C0g Tryz.prog 100 2=some 2:=by kernel_rfl
theorem L0g:shp Tryz.prog 100=some (true,3):=by kernel_rfl
theorem M0k:C0g Tryz.prog 50 2=some 2:=by kernel_rfl
theorem shp48:shp Tryz.prog 48=some (false,1):=by kernel_rfl
theorem shp50:shp Tryz.prog 50=some (true,3):=by kernel_rfl
theorem D0p:C0g Tryz.prog 34 1=some 1:=by kernel_rfl
theorem shp30:shp Tryz.prog 30=some (false,1):=by kernel_rfl
theorem elt31:eltOf Tryz.prog 31=some (87,4,32):=by kernel_rfl
theorem zer87:F0d Tryz.prog 87=some [.lit (.int .i64 0),.lit (.int .i64 0),.lit (.bool false),.lit (.int .i64 0)]:=by kernel_rfl
theorem shp93:shp Tryz.prog 93=some (true,4):=by kernel_rfl
theorem L1l:C0g Tryz.prog 93 0=some 0:=by kernel_rfl
theorem G0x:C0g Tryz.prog 87 0=some 0:=by kernel_rfl
theorem L1z:C0g Tryz.prog 93 1=some 1:=by kernel_rfl
theorem J0c:C0g Tryz.prog 87 1=some 1:=by kernel_rfl
theorem L1s:C0g Tryz.prog 93 2=some 2:=by kernel_rfl
theorem shp4:shp Tryz.prog 4=some (false,1):=by kernel_rfl
theorem W0e:C0g Tryz.prog 87 2=some 2:=by kernel_rfl
theorem L1r:C0g Tryz.prog 93 3=some 3:=by kernel_rfl
theorem P0o:C0g Tryz.prog 87 3=some 3:=by kernel_rfl
theorem shp87:shp Tryz.prog 87=some (true,4):=by kernel_rfl
theorem G0s:C0g Tryz.prog 34 2=some 2:=by kernel_rfl
theorem shp31:shp Tryz.prog 31=some (false,1):=by kernel_rfl
theorem elt32:eltOf Tryz.prog 32=some (61,2,48):=by kernel_rfl
theorem zer61:F0d Tryz.prog 61=some [.nils,.nils]:=by kernel_rfl
theorem elt58:eltOf Tryz.prog 58=some (136,2,16):=by kernel_rfl
theorem D1g:F0d Tryz.prog 136=some [.lit (.int .i64 0),.lit (.int .i64 0)]:=by kernel_rfl
theorem M1c:shp Tryz.prog 150=some (true,2):=by kernel_rfl
theorem K1d:C0g Tryz.prog 150 0=some 0:=by kernel_rfl
theorem J0a:C0g Tryz.prog 136 0=some 0:=by kernel_rfl
theorem K1k:C0g Tryz.prog 150 1=some 1:=by kernel_rfl
theorem S0j:C0g Tryz.prog 136 1=some 1:=by kernel_rfl
theorem S0u:shp Tryz.prog 136=some (true,2):=by kernel_rfl
theorem W0i:C0g Tryz.prog 61 0=some 0:=by kernel_rfl
theorem shp58:shp Tryz.prog 58=some (false,1):=by kernel_rfl
theorem zer25:F0d Tryz.prog 25=some [.nils]:=by kernel_rfl
theorem P0m:C0g Tryz.prog 61 1=some 1:=by kernel_rfl
theorem shp61:shp Tryz.prog 61=some (true,2):=by kernel_rfl
theorem P0k:C0g Tryz.prog 34 3=some 3:=by kernel_rfl
theorem shp32:shp Tryz.prog 32=some (false,1):=by kernel_rfl
theorem P0j:C0g Tryz.prog 34 4=some 4:=by kernel_rfl
theorem shp34:shp Tryz.prog 34=some (true,5):=by kernel_rfl
theorem mixed:Tryz.prog.follows .mixedOrders=true:=by kernel_rfl
theorem ok153:okFn Tryz.prog 153=true:=by kernel_rfl
theorem ok134:okFn Tryz.prog 134=true:=by kernel_rfl
theorem ok93:okFn Tryz.prog 93=true:=by kernel_rfl
theorem W0u:eltOf Tryz.prog 111=some (112,1,24):=by kernel_rfl
theorem M1i:F0d Tryz.prog 112=some [.nils]:=by kernel_rfl
theorem zer59:F0d Tryz.prog 59=some [.nils]:=by kernel_rfl
theorem M1n:F0d Tryz.prog 111=some [.nils]:=by kernel_rfl
theorem W0s:shp Tryz.prog 111=some (false,1):=by kernel_rfl
theorem Y0c:eltOf Tryz.prog 112=some (4,1,1):=by kernel_rfl
theorem zer4:F0d Tryz.prog 4=some [.lit (.bool false)]:=by kernel_rfl
theorem Z0u:shp Tryz.prog 112=some (false,1):=by kernel_rfl
theorem ok94:okFn Tryz.prog 94=true:=by kernel_rfl
theorem ok44:okFn Tryz.prog 44=true:=by kernel_rfl
theorem ok51:okFn Tryz.prog 51=true:=by kernel_rfl
theorem ok13:okFn Tryz.prog 13=true:=by kernel_rfl
theorem ok149:okFn Tryz.prog 149=true:=by kernel_rfl
theorem ok129:okFn Tryz.prog 129=true:=by kernel_rfl
theorem ok87:okFn Tryz.prog 87=true:=by kernel_rfl
theorem ok38:okFn Tryz.prog 38=true:=by kernel_rfl
theorem ok88:okFn Tryz.prog 88=true:=by kernel_rfl
theorem ok39:okFn Tryz.prog 39=true:=by kernel_rfl
theorem ok150:okFn Tryz.prog 150=true:=by kernel_rfl
theorem ok130:okFn Tryz.prog 130=true:=by kernel_rfl
theorem ok131:okFn Tryz.prog 131=true:=by kernel_rfl
theorem ok89:okFn Tryz.prog 89=true:=by kernel_rfl
theorem ok40:okFn Tryz.prog 40=true:=by kernel_rfl
theorem ok10:okFn Tryz.prog 10=true:=by kernel_rfl
theorem ok91:okFn Tryz.prog 91=true:=by kernel_rfl
theorem ok41:okFn Tryz.prog 41=true:=by kernel_rfl
theorem K1t:eltOf Tryz.prog 110=some (9,1,16):=by kernel_rfl
theorem zer9:F0d Tryz.prog 9=some [.lit (.string ByteArray.empty)]:=by kernel_rfl
theorem ok42:okFn Tryz.prog 42=true:=by kernel_rfl
theorem ok92:okFn Tryz.prog 92=true:=by kernel_rfl
theorem ok43:okFn Tryz.prog 43=true:=by kernel_rfl
theorem ok11:okFn Tryz.prog 11=true:=by kernel_rfl
theorem shp70:shp Tryz.prog 70=some (false,1):=by kernel_rfl
theorem ok137:okFn Tryz.prog 137=true:=by kernel_rfl
theorem ok98:okFn Tryz.prog 98=true:=by kernel_rfl
theorem ok97:okFn Tryz.prog 97=true:=by kernel_rfl
theorem ok154:okFn Tryz.prog 154=true:=by kernel_rfl
theorem ok174:okFn Tryz.prog 174=true:=by kernel_rfl
theorem ok167:okFn Tryz.prog 167=true:=by kernel_rfl
theorem ok155:okFn Tryz.prog 155=true:=by kernel_rfl
theorem ok136:okFn Tryz.prog 136=true:=by kernel_rfl
theorem ok96:okFn Tryz.prog 96=true:=by kernel_rfl
theorem ok45:okFn Tryz.prog 45=true:=by kernel_rfl
theorem ok46:okFn Tryz.prog 46=true:=by kernel_rfl
theorem ok47:okFn Tryz.prog 47=true:=by kernel_rfl
theorem ok48:okFn Tryz.prog 48=true:=by kernel_rfl
theorem ok50:okFn Tryz.prog 50=true:=by kernel_rfl
theorem ok49:okFn Tryz.prog 49=true:=by kernel_rfl
theorem ok12:okFn Tryz.prog 12=true:=by kernel_rfl
theorem M1o:eltOf Tryz.prog 143=some (5,1,1):=by kernel_rfl
theorem zer5:F0d Tryz.prog 5=some [.lit (.int .u8 0)]:=by kernel_rfl
theorem ok101:okFn Tryz.prog 101=true:=by kernel_rfl
theorem ok15:okFn Tryz.prog 15=true:=by kernel_rfl
theorem ok102:okFn Tryz.prog 102=true:=by kernel_rfl
theorem ok52:okFn Tryz.prog 52=true:=by kernel_rfl
theorem ok53:okFn Tryz.prog 53=true:=by kernel_rfl
theorem ok103:okFn Tryz.prog 103=true:=by kernel_rfl
theorem ok104:okFn Tryz.prog 104=true:=by kernel_rfl
theorem ok54:okFn Tryz.prog 54=true:=by kernel_rfl
theorem ok14:okFn Tryz.prog 14=true:=by kernel_rfl
theorem ok16:okFn Tryz.prog 16=true:=by kernel_rfl
theorem ok4:okFn Tryz.prog 4=true:=by kernel_rfl
theorem Q0j (b0:List Int)(b1:Int)(r:Int)(h:P0d b0 b1=some r):PC Tryz.prog 22 [.slice (b0.map int),int b1] (int r):=by
 unfold P0d at h
 refine PC.start Tryz.func22 Tryz.ntmps22 rfl (by kernel_rfl) rfl ?_
 refine Run.sr (X.an ?_)
 refine Run.sr (X.mv ?_)
 refine X.mv ?_
 refine X.ls elt25 ?_
 refine X.subW (h:=?_)
 refine X.an ?_
 refine Run.seq (Run.sr (X.mv ?_))
 refine X.bi ?_
 refine X.nil ?_
 refine R.cd (fun hc1=>?_) (fun hc1=>?_)
 ·replace h:=condT hc1 h
  refine Run.sr (X.an ?_)
  cases h
  refine R.f1 Tryz.results22 ?_
  rfl
 replace h:=condF hc1 h
 refine Run.skip (Run.sr (X.mv ?_))
 refine X.an ?_
 cases h
 refine R.f1 Tryz.results22 ?_
 rfl
theorem F1n (b0:TMode)(b1:Int)(r:Int)(h:S0b b0 b1=some r):PC Tryz.prog 143 [B0l b0,int b1] (int r):=by
 unfold S0b at h
 refine PC.start Tryz.func143 Tryz.ntmps143 rfl (by kernel_rfl) rfl ?_
 refine Run.sr (X.bx ?_)
 refine X.an ?_
 refine Run.sr (X.fl G1e ?_)
 refine X.ld shp25 ?_
 refine X.mv ?_
 obtain ⟨v1,hv1,h⟩:=bindE h
 refine X.cp (Q0j _ _ _ hv1) ?_
 refine X.an ?_
 refine Run.seq (Run.sr (X.mv ?_))
 refine X.bi ?_
 refine X.nil ?_
 refine R.cd (fun hc2=>?_) (fun hc2=>?_)
 ·replace h:=condT hc2 h
  refine Run.sr (X.an ?_)
  cases h
  refine R.f1 Tryz.results143 ?_
  rfl
 replace h:=condF hc2 h
 refine Run.skip (Run.sr (X.fl G1n ?_))
 refine X.ld shp25 ?_
 refine X.mv ?_
 obtain ⟨v3,hv3,h⟩:=bindE h
 refine X.cp (Q0j _ _ _ hv3) ?_
 refine X.an ?_
 refine Run.seq (Run.sr (X.mv ?_))
 refine X.bi ?_
 refine X.nil ?_
 refine R.cd (fun hc4=>?_) (fun hc4=>?_)
 ·replace h:=condT hc4 h
  refine Run.sr (X.an ?_)
  cases h
  refine R.f1 Tryz.results143 ?_
  rfl
 replace h:=condF hc4 h
 refine Run.skip (Run.sr (X.mv ?_))
 refine X.an ?_
 cases h
 refine R.f1 Tryz.results143 ?_
 rfl
theorem C1l (b0:List TMode)(b1:Int)(r:Int)(h:U0r b0 b1=some r):PC Tryz.prog 109 [.slice (b0.map B0l),int b1] (int r):=by
 unfold U0r at h
 refine PC.start Tryz.func109 Tryz.ntmps109 rfl (by kernel_rfl) rfl ?_
 refine Run.sr (X.an ?_)
 refine Run.sr (X.mv ?_)
 refine X.mv ?_
 refine X.ls elt75 ?_
 refine X.subW (h:=?_)
 refine X.an ?_
 refine Run.seq (Run.sr (X.mv ?_))
 refine X.bi ?_
 refine X.nil ?_
 refine R.cd (fun hc1=>?_) (fun hc1=>?_)
 ·replace h:=condT hc1 h
  refine Run.sr (X.an ?_)
  cases h
  refine R.f1 Tryz.results109 ?_
  rfl
 replace h:=condF hc1 h
 refine Run.skip (Run.seq (Run.sr (X.an ?_)))
 obtain ⟨o2,ho2,h⟩:=bindE h
 refine R.join2 (β:=Int) [] [] (fun p16 S=>(1,int p16)::S) (fun p16 M=>M) (fun p16=>(Sum.inl p16)=o2) ?_ ?_
 ·intro JJ5 hmeet4
  have hup3:=h;clear h;have h:=ho2;clear ho2
  refine Run.block ?_
  refine R.bndS (t:=0) (by rfl) (fun hbd8=>?_)
  replace hbd8:b0.length≤9223372036854775807:=by first | (rw [List.length_map] at hbd8;exact hbd8) | simp
  refine R.lp (β:=Int×Int) [(0,.slice (b0.map B0l))] [] (fun bb S=>(1,int bb.2)::(5,int bb.1)::S) (fun bb M=>M) (fun n bb=>0≤bb.1∧bb.1+n=(b0.length:Int)∧K0r (b0.drop bb.1.toNat) bb.1 bb.2=some o2) b0.length (0,(W (b1 - (b0.length:Int)))) ⟨Int.le_refl _,by simp,h⟩ ?_
  clear h
  rintro JJ8 n8 ⟨z9,a10⟩ hag8 ⟨hza8,hzb8,h⟩
  dsimp only at hza8 hzb8 h
  refine Run.seq (Run.sr (X.mv ?_))
  refine X.mv ?_
  refine X.ls elt75 ?_
  refine X.bi ?_
  refine X.nil ?_
  refine R.cd (fun hc13=>?_) (fun hc13=>?_)
  ·obtain ⟨x11,xs12,hd8,hx8,hds8,hlt8⟩:=A0q hza8 hc13
   rw [hd8] at h
   rw [K0r] at h
   refine Run.skip (Run.seq (Run.block (Run.sr (X.mv ?_))))
   refine X.mv ?_
   refine X.ix elt75 (A0a hx8).1 (A0b B0l hx8) ?_
   refine X.lc L1d ?_
   refine X.mv ?_
   obtain ⟨v14,hv14,h⟩:=bindE h
   refine X.cp (F1n _ _ _ hv14) ?_
   refine X.an ?_
   refine Run.sr (X.mv ?_)
   refine X.bi ?_
   refine X.nil ?_
   refine R.cd (fun hc15=>?_) (fun hc15=>?_)
   ·replace h:=condT hc15 h
    refine Run.sr (X.an ?_)
    cases h
    have h:=hup3
    replace h:=elimR h
    cases h
    refine R.f1 Tryz.results109 ?_
    rfl
   replace h:=condF hc15 h
   refine Run.skip (Run.blk (Run.reg (X.mv ?_)))
   refine X.ad ?_
   refine X.an ?_
   exact R.ag hag8 (n8 - 1) (z9+1,v14) (R.n3 (by first | (rw [hds8];exact h) | (dsimp only;rw [hds8];exact h)))
  rw [A0j hza8 hc13] at h
  rw [K0r] at h
  refine Run.exit (by rfl) ?_
  exact R.mt hmeet4 a10 (Option.some.inj h)
 rintro p16 rfl
 replace h:=elimL h
 refine Run.sr (X.mv ?_)
 refine X.an ?_
 cases h
 refine R.f1 Tryz.results109 ?_
 rfl
theorem Y0u (b0:A0g)(b1:Int)(r:Int)(h:K0v b0 b1=some r):PC Tryz.prog 57 [A0c b0,int b1] (int r):=by
 unfold K0v at h
 refine PC.start Tryz.func57 Tryz.ntmps57 rfl (by kernel_rfl) rfl ?_
 refine Run.sr (X.bx ?_)
 refine X.an ?_
 refine Run.sr (X.mv ?_)
 refine X.fl J1k ?_
 refine X.ld shp9 ?_
 refine X.lenStr Tryz.underlying9 (by rfl) (by rfl) ?_
 refine X.subW (h:=?_)
 refine X.an ?_
 refine Run.seq (Run.sr (X.mv ?_))
 refine X.bi ?_
 refine X.nil ?_
 refine R.cd (fun hc1=>?_) (fun hc1=>?_)
 ·replace h:=condT hc1 h
  refine Run.sr (X.an ?_)
  cases h
  refine R.f1 Tryz.results57 ?_
  rfl
 replace h:=condF hc1 h
 refine Run.skip (Run.sr (X.fl J1t ?_))
 refine X.ld shp75 ?_
 refine X.mv ?_
 obtain ⟨v2,hv2,h⟩:=bindE h
 refine X.cp (C1l _ _ _ hv2) ?_
 refine X.an ?_
 refine Run.seq (Run.sr (X.mv ?_))
 refine X.bi ?_
 refine X.nil ?_
 refine R.cd (fun hc3=>?_) (fun hc3=>?_)
 ·replace h:=condT hc3 h
  refine Run.sr (X.an ?_)
  cases h
  refine R.f1 Tryz.results57 ?_
  rfl
 replace h:=condF hc3 h
 refine Run.skip (Run.sr (X.mv ?_))
 refine X.an ?_
 cases h
 refine R.f1 Tryz.results57 ?_
 rfl
theorem X0v (b0:List A0g)(b1:Int)(r:Int)(h:M0z b0 b1=some r):PC Tryz.prog 19 [.slice (b0.map A0c),int b1] (int r):=by
 unfold M0z at h
 refine PC.start Tryz.func19 Tryz.ntmps19 rfl (by kernel_rfl) rfl ?_
 refine Run.sr (X.an ?_)
 refine Run.sr (X.mv ?_)
 refine X.mv ?_
 refine X.ls elt22 ?_
 refine X.subW (h:=?_)
 refine X.an ?_
 refine Run.seq (Run.sr (X.mv ?_))
 refine X.bi ?_
 refine X.nil ?_
 refine R.cd (fun hc1=>?_) (fun hc1=>?_)
 ·replace h:=condT hc1 h
  refine Run.sr (X.an ?_)
  cases h
  refine R.f1 Tryz.results19 ?_
  rfl
 replace h:=condF hc1 h
 refine Run.skip (Run.seq (Run.sr (X.an ?_)))
 obtain ⟨o2,ho2,h⟩:=bindE h
 refine R.join2 (β:=Int) [] [] (fun p16 S=>(1,int p16)::S) (fun p16 M=>M) (fun p16=>(Sum.inl p16)=o2) ?_ ?_
 ·intro JJ5 hmeet4
  have hup3:=h;clear h;have h:=ho2;clear ho2
  refine Run.block ?_
  refine R.bndS (t:=0) (by rfl) (fun hbd8=>?_)
  replace hbd8:b0.length≤9223372036854775807:=by first | (rw [List.length_map] at hbd8;exact hbd8) | simp
  refine R.lp (β:=Int×Int) [(0,.slice (b0.map A0c))] [] (fun bb S=>(1,int bb.2)::(5,int bb.1)::S) (fun bb M=>M) (fun n bb=>0≤bb.1∧bb.1+n=(b0.length:Int)∧F0x (b0.drop bb.1.toNat) bb.1 bb.2=some o2) b0.length (0,(W (b1 - (b0.length:Int)))) ⟨Int.le_refl _,by simp,h⟩ ?_
  clear h
  rintro JJ8 n8 ⟨z9,a10⟩ hag8 ⟨hza8,hzb8,h⟩
  dsimp only at hza8 hzb8 h
  refine Run.seq (Run.sr (X.mv ?_))
  refine X.mv ?_
  refine X.ls elt22 ?_
  refine X.bi ?_
  refine X.nil ?_
  refine R.cd (fun hc13=>?_) (fun hc13=>?_)
  ·obtain ⟨x11,xs12,hd8,hx8,hds8,hlt8⟩:=A0q hza8 hc13
   rw [hd8] at h
   rw [F0x] at h
   refine Run.skip (Run.seq (Run.block (Run.sr (X.mv ?_))))
   refine X.mv ?_
   refine X.ix elt22 (A0a hx8).1 (A0b A0c hx8) ?_
   refine X.lc shp77 ?_
   refine X.mv ?_
   obtain ⟨v14,hv14,h⟩:=bindE h
   refine X.cp (Y0u _ _ _ hv14) ?_
   refine X.an ?_
   refine Run.sr (X.mv ?_)
   refine X.bi ?_
   refine X.nil ?_
   refine R.cd (fun hc15=>?_) (fun hc15=>?_)
   ·replace h:=condT hc15 h
    refine Run.sr (X.an ?_)
    cases h
    have h:=hup3
    replace h:=elimR h
    cases h
    refine R.f1 Tryz.results19 ?_
    rfl
   replace h:=condF hc15 h
   refine Run.skip (Run.blk (Run.reg (X.mv ?_)))
   refine X.ad ?_
   refine X.an ?_
   exact R.ag hag8 (n8 - 1) (z9+1,v14) (R.n3 (by first | (rw [hds8];exact h) | (dsimp only;rw [hds8];exact h)))
  rw [A0j hza8 hc13] at h
  rw [F0x] at h
  refine Run.exit (by rfl) ?_
  exact R.mt hmeet4 a10 (Option.some.inj h)
 rintro p16 rfl
 replace h:=elimL h
 refine Run.sr (X.mv ?_)
 refine X.an ?_
 cases h
 refine R.f1 Tryz.results19 ?_
 rfl
theorem C1i (b0:List TLink)(b1:Int)(r:Int)(h:T0w b0 b1=some r):PC Tryz.prog 20 [.slice (b0.map A0k),int b1] (int r):=by
 unfold T0w at h
 refine PC.start Tryz.func20 Tryz.ntmps20 rfl (by kernel_rfl) rfl ?_
 refine Run.sr (X.an ?_)
 refine Run.sr (X.mv ?_)
 refine X.mv ?_
 refine X.ls elt23 ?_
 refine X.subW (h:=?_)
 refine X.an ?_
 refine Run.seq (Run.sr (X.mv ?_))
 refine X.bi ?_
 refine X.nil ?_
 refine R.cd (fun hc1=>?_) (fun hc1=>?_)
 ·replace h:=condT hc1 h
  refine Run.sr (X.an ?_)
  cases h
  refine R.f1 Tryz.results20 ?_
  rfl
 replace h:=condF hc1 h
 refine Run.skip (Run.sr (X.mv ?_))
 refine X.an ?_
 cases h
 refine R.f1 Tryz.results20 ?_
 rfl
theorem D1c (b0:List TStep)(b1:Int)(r:Int)(h:V0h b0 b1=some r):PC Tryz.prog 110 [.slice (b0.map B0m),int b1] (int r):=by
 unfold V0h at h
 refine PC.start Tryz.func110 Tryz.ntmps110 rfl (by kernel_rfl) rfl ?_
 refine Run.sr (X.an ?_)
 refine Run.sr (X.mv ?_)
 refine X.mv ?_
 refine X.ls elt79 ?_
 refine X.subW (h:=?_)
 refine X.an ?_
 refine Run.seq (Run.sr (X.mv ?_))
 refine X.bi ?_
 refine X.nil ?_
 refine R.cd (fun hc1=>?_) (fun hc1=>?_)
 ·replace h:=condT hc1 h
  refine Run.sr (X.an ?_)
  cases h
  refine R.f1 Tryz.results110 ?_
  rfl
 replace h:=condF hc1 h
 refine Run.skip (Run.sr (X.mv ?_))
 refine X.an ?_
 cases h
 refine R.f1 Tryz.results110 ?_
 rfl
theorem B1z (b0:List (List Int))(b1:Int)(r:Int)(h:U0j b0 b1=some r):PC Tryz.prog 111 [.slice (b0.map l_int),int b1] (int r):=by
 unfold U0j at h
 refine PC.start Tryz.func111 Tryz.ntmps111 rfl (by kernel_rfl) rfl ?_
 refine Run.sr (X.an ?_)
 refine Run.sr (X.mv ?_)
 refine X.mv ?_
 refine X.ls elt59 ?_
 refine X.subW (h:=?_)
 refine X.an ?_
 refine Run.seq (Run.sr (X.mv ?_))
 refine X.bi ?_
 refine X.nil ?_
 refine R.cd (fun hc1=>?_) (fun hc1=>?_)
 ·replace h:=condT hc1 h
  refine Run.sr (X.an ?_)
  cases h
  refine R.f1 Tryz.results111 ?_
  rfl
 replace h:=condF hc1 h
 refine Run.skip (Run.seq (Run.sr (X.an ?_)))
 obtain ⟨o2,ho2,h⟩:=bindE h
 refine R.join2 (β:=Int) [] [] (fun p16 S=>(1,int p16)::S) (fun p16 M=>M) (fun p16=>(Sum.inl p16)=o2) ?_ ?_
 ·intro JJ5 hmeet4
  have hup3:=h;clear h;have h:=ho2;clear ho2
  refine Run.block ?_
  refine R.bndS (t:=0) (by rfl) (fun hbd8=>?_)
  replace hbd8:b0.length≤9223372036854775807:=by first | (rw [List.length_map] at hbd8;exact hbd8) | simp
  refine R.lp (β:=Int×Int) [(0,.slice (b0.map l_int))] [] (fun bb S=>(1,int bb.2)::(5,int bb.1)::S) (fun bb M=>M) (fun n bb=>0≤bb.1∧bb.1+n=(b0.length:Int)∧K0u (b0.drop bb.1.toNat) bb.1 bb.2=some o2) b0.length (0,(W (b1 - (b0.length:Int)))) ⟨Int.le_refl _,by simp,h⟩ ?_
  clear h
  rintro JJ8 n8 ⟨z9,a10⟩ hag8 ⟨hza8,hzb8,h⟩
  dsimp only at hza8 hzb8 h
  refine Run.seq (Run.sr (X.mv ?_))
  refine X.mv ?_
  refine X.ls elt59 ?_
  refine X.bi ?_
  refine X.nil ?_
  refine R.cd (fun hc13=>?_) (fun hc13=>?_)
  ·obtain ⟨x11,xs12,hd8,hx8,hds8,hlt8⟩:=A0q hza8 hc13
   rw [hd8] at h
   rw [K0u] at h
   refine Run.skip (Run.seq (Run.block (Run.sr (X.mv ?_))))
   refine X.mv ?_
   refine X.ix elt59 (A0a hx8).1 (A0b l_int hx8) ?_
   refine X.lc shp25 ?_
   refine X.mv ?_
   obtain ⟨v14,hv14,h⟩:=bindE h
   refine X.cp (Q0j _ _ _ hv14) ?_
   refine X.an ?_
   refine Run.sr (X.mv ?_)
   refine X.bi ?_
   refine X.nil ?_
   refine R.cd (fun hc15=>?_) (fun hc15=>?_)
   ·replace h:=condT hc15 h
    refine Run.sr (X.an ?_)
    cases h
    have h:=hup3
    replace h:=elimR h
    cases h
    refine R.f1 Tryz.results111 ?_
    rfl
   replace h:=condF hc15 h
   refine Run.skip (Run.blk (Run.reg (X.mv ?_)))
   refine X.ad ?_
   refine X.an ?_
   exact R.ag hag8 (n8 - 1) (z9+1,v14) (R.n3 (by first | (rw [hds8];exact h) | (dsimp only;rw [hds8];exact h)))
  rw [A0j hza8 hc13] at h
  rw [K0u] at h
  refine Run.exit (by rfl) ?_
  exact R.mt hmeet4 a10 (Option.some.inj h)
 rintro p16 rfl
 replace h:=elimL h
 refine Run.sr (X.mv ?_)
 refine X.an ?_
 cases h
 refine R.f1 Tryz.results111 ?_
 rfl
theorem Y0o (b0:A0n)(b1:Int)(r:Int)(h:K0t b0 b1=some r):PC Tryz.prog 58 [A0e b0,int b1] (int r):=by
 unfold K0t at h
 refine PC.start Tryz.func58 Tryz.ntmps58 rfl (by kernel_rfl) rfl ?_
 refine Run.sr (X.bx ?_)
 refine X.an ?_
 refine Run.sr (X.fl J1p ?_)
 refine X.ld shp79 ?_
 refine X.mv ?_
 obtain ⟨v1,hv1,h⟩:=bindE h
 refine X.cp (D1c _ _ _ hv1) ?_
 refine X.an ?_
 refine Run.seq (Run.sr (X.mv ?_))
 refine X.bi ?_
 refine X.nil ?_
 refine R.cd (fun hc2=>?_) (fun hc2=>?_)
 ·replace h:=condT hc2 h
  refine Run.sr (X.an ?_)
  cases h
  refine R.f1 Tryz.results58 ?_
  rfl
 replace h:=condF hc2 h
 refine Run.skip (Run.sr (X.fl J1s ?_))
 refine X.ld shp59 ?_
 refine X.mv ?_
 obtain ⟨v3,hv3,h⟩:=bindE h
 refine X.cp (B1z _ _ _ hv3) ?_
 refine X.an ?_
 refine Run.seq (Run.sr (X.mv ?_))
 refine X.bi ?_
 refine X.nil ?_
 refine R.cd (fun hc4=>?_) (fun hc4=>?_)
 ·replace h:=condT hc4 h
  refine Run.sr (X.an ?_)
  cases h
  refine R.f1 Tryz.results58 ?_
  rfl
 replace h:=condF hc4 h
 refine Run.skip (Run.sr (X.mv ?_))
 refine X.an ?_
 cases h
 refine R.f1 Tryz.results58 ?_
 rfl
theorem X0w (b0:List A0n)(b1:Int)(r:Int)(h:M0u b0 b1=some r):PC Tryz.prog 21 [.slice (b0.map A0e),int b1] (int r):=by
 unfold M0u at h
 refine PC.start Tryz.func21 Tryz.ntmps21 rfl (by kernel_rfl) rfl ?_
 refine Run.sr (X.an ?_)
 refine Run.sr (X.mv ?_)
 refine X.mv ?_
 refine X.ls elt24 ?_
 refine X.subW (h:=?_)
 refine X.an ?_
 refine Run.seq (Run.sr (X.mv ?_))
 refine X.bi ?_
 refine X.nil ?_
 refine R.cd (fun hc1=>?_) (fun hc1=>?_)
 ·replace h:=condT hc1 h
  refine Run.sr (X.an ?_)
  cases h
  refine R.f1 Tryz.results21 ?_
  rfl
 replace h:=condF hc1 h
 refine Run.skip (Run.seq (Run.sr (X.an ?_)))
 obtain ⟨o2,ho2,h⟩:=bindE h
 refine R.join2 (β:=Int) [] [] (fun p16 S=>(1,int p16)::S) (fun p16 M=>M) (fun p16=>(Sum.inl p16)=o2) ?_ ?_
 ·intro JJ5 hmeet4
  have hup3:=h;clear h;have h:=ho2;clear ho2
  refine Run.block ?_
  refine R.bndS (t:=0) (by rfl) (fun hbd8=>?_)
  replace hbd8:b0.length≤9223372036854775807:=by first | (rw [List.length_map] at hbd8;exact hbd8) | simp
  refine R.lp (β:=Int×Int) [(0,.slice (b0.map A0e))] [] (fun bb S=>(1,int bb.2)::(5,int bb.1)::S) (fun bb M=>M) (fun n bb=>0≤bb.1∧bb.1+n=(b0.length:Int)∧F0y (b0.drop bb.1.toNat) bb.1 bb.2=some o2) b0.length (0,(W (b1 - (b0.length:Int)))) ⟨Int.le_refl _,by simp,h⟩ ?_
  clear h
  rintro JJ8 n8 ⟨z9,a10⟩ hag8 ⟨hza8,hzb8,h⟩
  dsimp only at hza8 hzb8 h
  refine Run.seq (Run.sr (X.mv ?_))
  refine X.mv ?_
  refine X.ls elt24 ?_
  refine X.bi ?_
  refine X.nil ?_
  refine R.cd (fun hc13=>?_) (fun hc13=>?_)
  ·obtain ⟨x11,xs12,hd8,hx8,hds8,hlt8⟩:=A0q hza8 hc13
   rw [hd8] at h
   rw [F0y] at h
   refine Run.skip (Run.seq (Run.block (Run.sr (X.mv ?_))))
   refine X.mv ?_
   refine X.ix elt24 (A0a hx8).1 (A0b A0e hx8) ?_
   refine X.lc shp81 ?_
   refine X.mv ?_
   obtain ⟨v14,hv14,h⟩:=bindE h
   refine X.cp (Y0o _ _ _ hv14) ?_
   refine X.an ?_
   refine Run.sr (X.mv ?_)
   refine X.bi ?_
   refine X.nil ?_
   refine R.cd (fun hc15=>?_) (fun hc15=>?_)
   ·replace h:=condT hc15 h
    refine Run.sr (X.an ?_)
    cases h
    have h:=hup3
    replace h:=elimR h
    cases h
    refine R.f1 Tryz.results21 ?_
    rfl
   replace h:=condF hc15 h
   refine Run.skip (Run.blk (Run.reg (X.mv ?_)))
   refine X.ad ?_
   refine X.an ?_
   exact R.ag hag8 (n8 - 1) (z9+1,v14) (R.n3 (by first | (rw [hds8];exact h) | (dsimp only;rw [hds8];exact h)))
  rw [A0j hza8 hc13] at h
  rw [F0y] at h
  refine Run.exit (by rfl) ?_
  exact R.mt hmeet4 a10 (Option.some.inj h)
 rintro p16 rfl
 replace h:=elimL h
 refine Run.sr (X.mv ?_)
 refine X.an ?_
 cases h
 refine R.f1 Tryz.results21 ?_
 rfl
theorem A1e (b0:A0d)(b1:Int)(r:Int)(h:N0q b0 b1=some r):PC Tryz.prog 6 [A0v b0,int b1] (int r):=by
 unfold N0q at h
 refine PC.start Tryz.func6 Tryz.ntmps6 rfl (by kernel_rfl) rfl ?_
 refine Run.sr (X.bx ?_)
 refine X.an ?_
 refine Run.sr (X.fl J1w ?_)
 refine X.ld shp22 ?_
 refine X.mv ?_
 obtain ⟨v1,hv1,h⟩:=bindE h
 refine X.cp (X0v _ _ _ hv1) ?_
 refine X.an ?_
 refine Run.seq (Run.sr (X.mv ?_))
 refine X.bi ?_
 refine X.nil ?_
 refine R.cd (fun hc2=>?_) (fun hc2=>?_)
 ·replace h:=condT hc2 h
  refine Run.sr (X.an ?_)
  cases h
  refine R.f1 Tryz.results6 ?_
  rfl
 replace h:=condF hc2 h
 refine Run.skip (Run.sr (X.fl J1a ?_))
 refine X.ld shp23 ?_
 refine X.mv ?_
 obtain ⟨v3,hv3,h⟩:=bindE h
 refine X.cp (C1i _ _ _ hv3) ?_
 refine X.an ?_
 refine Run.seq (Run.sr (X.mv ?_))
 refine X.bi ?_
 refine X.nil ?_
 refine R.cd (fun hc4=>?_) (fun hc4=>?_)
 ·replace h:=condT hc4 h
  refine Run.sr (X.an ?_)
  cases h
  refine R.f1 Tryz.results6 ?_
  rfl
 replace h:=condF hc4 h
 refine Run.skip (Run.sr (X.fl J1b ?_))
 refine X.ld shp24 ?_
 refine X.mv ?_
 obtain ⟨v5,hv5,h⟩:=bindE h
 refine X.cp (X0w _ _ _ hv5) ?_
 refine X.an ?_
 refine Run.seq (Run.sr (X.mv ?_))
 refine X.bi ?_
 refine X.nil ?_
 refine R.cd (fun hc6=>?_) (fun hc6=>?_)
 ·replace h:=condT hc6 h
  refine Run.sr (X.an ?_)
  cases h
  refine R.f1 Tryz.results6 ?_
  rfl
 replace h:=condF hc6 h
 refine Run.skip (Run.sr (X.fl H1r ?_))
 refine X.ld shp25 ?_
 refine X.mv ?_
 obtain ⟨v7,hv7,h⟩:=bindE h
 refine X.cp (Q0j _ _ _ hv7) ?_
 refine X.an ?_
 refine Run.seq (Run.sr (X.mv ?_))
 refine X.bi ?_
 refine X.nil ?_
 refine R.cd (fun hc8=>?_) (fun hc8=>?_)
 ·replace h:=condT hc8 h
  refine Run.sr (X.an ?_)
  cases h
  refine R.f1 Tryz.results6 ?_
  rfl
 replace h:=condF hc8 h
 refine Run.skip (Run.sr (X.mv ?_))
 refine X.an ?_
 cases h
 refine R.f1 Tryz.results6 ?_
 rfl
theorem Q0q (b0:List Int)(r:List Int)(h:Q0g b0=some r):PCM Tryz.prog 32 [.yng 63 (.slice (b0.map int))] [(63,.yreg false false)] (.fresh false 3 1 (r.map int)) [(63,.yreg false false)]:=by
 unfold Q0g at h
 refine PCM.start Tryz.func32 Tryz.ntmps32 rfl (by kernel_rfl) rfl (by rfl) (by rfl) (by rfl) (by rfl) (by rfl) ?_
 refine Run.sr (X.an ?_)
 refine Run.sr (X.mv ?_)
 refine X.lenY false 63 elt25 (by rfl) (by exact List.length_map ..) (by rfl) ?_
 obtain ⟨v1,hv1,h⟩:=bindE h
 refine X.makeSlice2 int hv1 elt25 zer3 (by rfl) (by rfl) (by rfl) (by simp [PV.plain]) (by rfl) (by rfl) (by rfl) (by rfl) (by rfl) (by rfl) ?_
 refine X.an ?_
 refine Run.seq (Run.sr (X.an ?_))
 obtain ⟨o2,ho2,h⟩:=bindE h
 refine R.join2 (β:=(List Int)) [] [(63,.yreg false false)] (fun p15 S=>(3,.own 448 (p15.map int).length)::S) (fun p15 M=>(448,.obj true 3 1 (p15.map int))::M) (fun p15=>p15=o2) ?_ ?_
 ·intro JJ5 hmeet4
  have hup3:=h;clear h;have h:=ho2;clear ho2
  refine Run.block ?_
  refine R.bndY false 63 (t:=0) (by rfl) (fun hbd8=>?_)
  replace hbd8:b0.length≤9223372036854775807:=by first | (rw [List.length_map] at hbd8;exact hbd8) | simp
  refine R.lp (β:=Int×(List Int)) [(0,.yng 63 (.slice (b0.map int)))] [(63,.yreg false false)] (fun bb S=>(3,.own 448 (bb.2.map int).length)::(4,int bb.1)::S) (fun bb M=>(448,.obj true 3 1 (bb.2.map int))::M) (fun n bb=>0≤bb.1∧bb.1+n=(b0.length:Int)∧K0k (b0.drop bb.1.toNat) bb.1 bb.2=some o2) b0.length (0,v1) ⟨Int.le_refl _,by simp,h⟩ ?_
  clear h
  rintro JJ8 n8 ⟨z9,a10⟩ hag8 ⟨hza8,hzb8,h⟩
  dsimp only at hza8 hzb8 h
  refine Run.seq (Run.sr (X.mv ?_))
  refine X.mv ?_
  refine X.lenY false 63 elt25 (by rfl) (by exact List.length_map ..) (by rfl) ?_
  refine X.bi ?_
  refine X.nil ?_
  refine R.cd (fun hc13=>?_) (fun hc13=>?_)
  ·obtain ⟨x11,xs12,hd8,hx8,hds8,hlt8⟩:=A0q hza8 hc13
   rw [hd8] at h
   rw [K0k] at h
   refine Run.skip (Run.seq (Run.block (Run.reg (X.mv ?_))))
   refine X.mv ?_
   refine X.mv ?_
   refine X.mv ?_
   refine X.indexY false 63 elt25 (by rfl) (by rfl) (A0a hx8).1 (A0b int hx8) (by rfl) (by rfl) ?_
   refine X.loadY false 63 shp3 (by rfl) (by rfl) (by rfl) (by rfl) ?_
   obtain ⟨v14,hv14,h⟩:=bindE h
   refine X.index_xs elt25 (by rfl) (by rfl) (by first | rfl | simp [setL] | omega) (by rfl) (by exact (Int.toNat_of_nonneg (A0a hv14).1).symm) (by have:=A0o hv14;first | exact this | (rw [List.length_map];exact this)) (by rfl) (by rfl) ?_
   refine X.store_es shp3 (by rfl) (by rfl) (by first | rfl | simp [setL] | omega) (A0b _ hv14) (by rfl) (by rfl) (by repeat (first | trivial | refine ⟨by first | rfl | simp [setL],?_⟩)) (by rfl) (by rfl) (by rfl) (by rfl) (by exact C0w _ _ _ x11) ?_
   refine X.nil (Run.blk (Run.reg (X.mv ?_)))
   refine X.ad ?_
   refine X.an ?_
   refine R.castS (t:=3) (.own 448 ((setL a10 z9 x11).map int).length) (by rfl) (.inl (by first | rfl | simp [setL])) ?_
   exact R.ag hag8 (n8 - 1) (z9+1,(setL a10 z9 x11)) (R.n3 (by first | (rw [hds8];exact h) | (dsimp only;rw [hds8];exact h)))
  rw [A0j hza8 hc13] at h
  rw [K0k] at h
  refine Run.exit (by rfl) ?_
  exact R.mt hmeet4 a10 (Option.some.inj h)
 rintro p15 rfl
 refine Run.sr (X.mv ?_)
 refine X.an ?_
 cases h
 refine R.pubObj (n:=448) (by rfl) ?_
 exact R.finM1o Tryz.results32 (by rfl) (by rfl) (by first | rfl | simp [setL] | omega) (by rfl) (by repeat (first | exact trivial | refine ⟨by rfl,?_⟩)) rfl
theorem E1e (b0:TMode)(r:TMode)(h:V0t b0=some r):PCM Tryz.prog 145 [.agg [int b0.Duration,.yng 63 (.slice (b0.Usage.map int)),.yng 63 (.slice (b0.Consumption.map int))]] [(63,.yreg false false)] (.agg [int r.Duration,.fresh false 3 1 (r.Usage.map int),.fresh false 3 1 (r.Consumption.map int)]) [(63,.yreg false false)]:=by
 unfold V0t at h
 refine PCM.start Tryz.func145 Tryz.ntmps145 rfl (by kernel_rfl) rfl (by rfl) (by rfl) (by rfl) (by rfl) (by rfl) ?_
 refine Run.sr (X.bx ?_)
 refine X.alloc R0g (h:=?_)
 refine X.nil (Run.sr (X.alloc R0g (h:=?_)))
 refine X.nil (Run.sr (X.fl K1o ?_))
 refine X.ld shp3 ?_
 refine X.fl L0t ?_
 refine X.sl shp3 ?_
 refine X.nil (Run.sr (X.fl G1e ?_))
 refine X.ld shp25 ?_
 obtain ⟨v1,hv1,h⟩:=bindE h
 refine X.callM [(63,63)] (Q0q _ _ hv1) (by rfl) (by rfl) (.yngB 63 (by rfl) (by rfl) .nil) (by rfl) ⟨rfl,rfl,⟨_,by rfl,by constructor⟩,by constructor,trivial⟩ (by rfl) (by rfl) (by rfl) (by rfl) (by rfl) (by rfl) (by rfl) (by rfl) (by rfl) ?_
 refine X.fl S0d ?_
 refine X.sl shp25 ?_
 refine X.nil (Run.sr (X.fl G1n ?_))
 refine X.ld shp25 ?_
 obtain ⟨v2,hv2,h⟩:=bindE h
 refine X.callM [(63,63)] (Q0q _ _ hv2) (by rfl) (by rfl) (.yngB 63 (by rfl) (by rfl) .nil) (by rfl) ⟨rfl,rfl,⟨_,by rfl,by constructor⟩,by constructor,trivial⟩ (by rfl) (by rfl) (by rfl) (by rfl) (by rfl) (by rfl) (by rfl) (by rfl) (by rfl) ?_
 refine X.fl S0g ?_
 refine X.sl shp25 ?_
 refine X.nil (Run.sr (X.ld L0g ?_))
 refine X.sl L0g ?_
 refine X.nil ?_
 cases h
 exact R.finMC Tryz.results145 L0g (by rfl) (by rfl) (by rfl) (by rfl) (by repeat (first | trivial | refine ⟨by first | rfl | simp [setL],?_⟩)) (by rfl) (by repeat (first | exact trivial | refine ⟨by rfl,?_⟩)) rfl
theorem C1p (b0:List TMode)(r:List TMode)(h:V0k b0=some r):PCM Tryz.prog 119 [.yng 63 (.slice (b0.map B0l))] [(63,.yreg false false)] (.fresh false 100 3 (r.map B0l)) [(63,.yreg false false)]:=by
 unfold V0k at h
 refine PCM.start Tryz.func119 Tryz.ntmps119 rfl (by kernel_rfl) rfl (by rfl) (by rfl) (by rfl) (by rfl) (by rfl) ?_
 refine Run.sr (X.an ?_)
 refine Run.sr (X.mv ?_)
 refine X.lenY false 63 elt75 (by rfl) (by exact List.length_map ..) (by rfl) ?_
 obtain ⟨v1,hv1,h⟩:=bindE h
 refine X.makeSlice2 B0l hv1 elt48 R0g (by rfl) (by rfl) (by rfl) (by simp [PV.plain]) (by rfl) (by rfl) (by rfl) (by rfl) (by rfl) (by rfl) ?_
 refine X.an ?_
 refine Run.seq (Run.sr (X.an ?_))
 obtain ⟨o2,ho2,h⟩:=bindE h
 refine R.join2 (β:=(List TMode)) [] [(63,.yreg false false)] (fun p16 S=>(3,.own 448 (p16.map B0l).length)::S) (fun p16 M=>(448,.obj true 100 3 (p16.map B0l))::M) (fun p16=>p16=o2) ?_ ?_
 ·intro JJ5 hmeet4
  have hup3:=h;clear h;have h:=ho2;clear ho2
  refine Run.block ?_
  refine R.bndY false 63 (t:=0) (by rfl) (fun hbd8=>?_)
  replace hbd8:b0.length≤9223372036854775807:=by first | (rw [List.length_map] at hbd8;exact hbd8) | simp
  refine R.lp (β:=Int×(List TMode)) [(0,.yng 63 (.slice (b0.map B0l)))] [(63,.yreg false false)] (fun bb S=>(3,.own 448 (bb.2.map B0l).length)::(4,int bb.1)::S) (fun bb M=>(448,.obj true 100 3 (bb.2.map B0l))::M) (fun n bb=>0≤bb.1∧bb.1+n=(b0.length:Int)∧J0l (b0.drop bb.1.toNat) bb.1 bb.2=some o2) b0.length (0,v1) ⟨Int.le_refl _,by simp,h⟩ ?_
  clear h
  rintro JJ8 n8 ⟨z9,a10⟩ hag8 ⟨hza8,hzb8,h⟩
  dsimp only at hza8 hzb8 h
  refine Run.seq (Run.sr (X.mv ?_))
  refine X.mv ?_
  refine X.lenY false 63 elt75 (by rfl) (by exact List.length_map ..) (by rfl) ?_
  refine X.bi ?_
  refine X.nil ?_
  refine R.cd (fun hc13=>?_) (fun hc13=>?_)
  ·obtain ⟨x11,xs12,hd8,hx8,hds8,hlt8⟩:=A0q hza8 hc13
   rw [hd8] at h
   rw [J0l] at h
   refine Run.skip (Run.seq (Run.block (Run.reg (X.mv ?_))))
   refine X.mv ?_
   refine X.mv ?_
   refine X.mv ?_
   refine X.indexY false 63 elt75 (by rfl) (by rfl) (A0a hx8).1 (A0b B0l hx8) (by rfl) (by rfl) ?_
   refine X.loadY false 63 L1d (by rfl) (by rfl) (by rfl) (by rfl) ?_
   obtain ⟨v14,hv14,h⟩:=bindE h
   refine X.callM [(63,63)] (E1e _ _ hv14) (by rfl) (by rfl) (.agg _ _ _ _ _ _ (.pureB (by rfl) (by repeat (first | trivial | refine ⟨by first | rfl | simp [setL],?_⟩)) (.yngB 63 (by rfl) (by rfl) (.yngB 63 (by rfl) (by rfl) .nil))) .nil) (by rfl) ⟨rfl,rfl,⟨_,by rfl,by constructor⟩,by constructor,trivial⟩ (by rfl) (by rfl) (by rfl) (by rfl) (by rfl) (by rfl) (by rfl) (by rfl) (by rfl) ?_
   obtain ⟨v15,hv15,h⟩:=bindE h
   refine X.index_xs elt48 (by rfl) (by rfl) (by first | rfl | simp [setL] | omega) (by rfl) (by exact (Int.toNat_of_nonneg (A0a hv15).1).symm) (by have:=A0o hv15;first | exact this | (rw [List.length_map];exact this)) (by rfl) (by rfl) ?_
   refine X.store_es L0g (by rfl) (by rfl) (by first | rfl | simp [setL] | omega) (A0b _ hv15) (by rfl) (by rfl) (by repeat (first | trivial | refine ⟨by first | rfl | simp [setL],?_⟩)) (by rfl) (by rfl) (by rfl) (by rfl) (by exact C0w _ _ _ v14) ?_
   refine X.nil (Run.blk (Run.reg (X.mv ?_)))
   refine X.ad ?_
   refine X.an ?_
   refine R.castS (t:=3) (.own 448 ((setL a10 z9 v14).map B0l).length) (by rfl) (.inl (by first | rfl | simp [setL])) ?_
   exact R.ag hag8 (n8 - 1) (z9+1,(setL a10 z9 v14)) (R.n3 (by first | (rw [hds8];exact h) | (dsimp only;rw [hds8];exact h)))
  rw [A0j hza8 hc13] at h
  rw [J0l] at h
  refine Run.exit (by rfl) ?_
  exact R.mt hmeet4 a10 (Option.some.inj h)
 rintro p16 rfl
 refine Run.sr (X.mv ?_)
 refine X.an ?_
 cases h
 refine R.pubObj (n:=448) (by rfl) ?_
 exact R.finM1o Tryz.results119 (by rfl) (by rfl) (by first | rfl | simp [setL] | omega) (by rfl) (by repeat (first | exact trivial | refine ⟨by rfl,?_⟩)) rfl
theorem Y0x (b0:A0g)(r:A0g)(h:M0a b0=some r):PCM Tryz.prog 68 [.agg [str b0.Name,int b0.Family,.yng 63 (.slice (b0.Modes.map B0l))]] [(63,.yreg false false)] (.agg [str r.Name,int r.Family,.fresh false 100 3 (r.Modes.map B0l)]) [(63,.yreg false false)]:=by
 unfold M0a at h
 refine PCM.start Tryz.func68 Tryz.ntmps68 rfl (by kernel_rfl) rfl (by rfl) (by rfl) (by rfl) (by rfl) (by rfl) ?_
 refine Run.sr (X.bx ?_)
 refine X.alloc zer50 (h:=?_)
 refine X.nil (Run.sr (X.alloc zer50 (h:=?_)))
 refine X.nil (Run.sr (X.fl J1k ?_))
 refine X.ld shp9 ?_
 refine X.fl P0n ?_
 refine X.sl shp9 ?_
 refine X.nil (Run.sr (X.fl L1m ?_))
 refine X.ld shp3 ?_
 refine X.fl W0b ?_
 refine X.sl shp3 ?_
 refine X.nil (Run.sr (X.fl J1t ?_))
 refine X.ld shp75 ?_
 obtain ⟨v1,hv1,h⟩:=bindE h
 refine X.callM [(63,63)] (C1p _ _ hv1) (by rfl) (by rfl) (.yngB 63 (by rfl) (by rfl) .nil) (by rfl) ⟨rfl,rfl,⟨_,by rfl,by constructor⟩,by constructor,trivial⟩ (by rfl) (by rfl) (by rfl) (by rfl) (by rfl) (by rfl) (by rfl) (by rfl) (by rfl) ?_
 refine X.fl M0k ?_
 refine X.sl shp48 ?_
 refine X.nil (Run.sr (X.ld shp50 ?_))
 refine X.sl shp50 ?_
 refine X.nil ?_
 cases h
 exact R.finMC Tryz.results68 shp50 (by rfl) (by rfl) (by rfl) (by rfl) (by repeat (first | trivial | refine ⟨by first | rfl | simp [setL],?_⟩)) (by rfl) (by repeat (first | exact trivial | refine ⟨by rfl,?_⟩)) rfl
theorem X0q (b0:List A0g)(r:List A0g)(h:N0c b0=some r):PCM Tryz.prog 29 [.yng 63 (.slice (b0.map A0c))] [(63,.yreg false false)] (.fresh false 50 3 (r.map A0c)) [(63,.yreg false false)]:=by
 unfold N0c at h
 refine PCM.start Tryz.func29 Tryz.ntmps29 rfl (by kernel_rfl) rfl (by rfl) (by rfl) (by rfl) (by rfl) (by rfl) ?_
 refine Run.sr (X.an ?_)
 refine Run.sr (X.mv ?_)
 refine X.lenY false 63 elt22 (by rfl) (by exact List.length_map ..) (by rfl) ?_
 obtain ⟨v1,hv1,h⟩:=bindE h
 refine X.makeSlice2 A0c hv1 elt30 zer50 (by rfl) (by rfl) (by rfl) (by simp [PV.plain]) (by rfl) (by rfl) (by rfl) (by rfl) (by rfl) (by rfl) ?_
 refine X.an ?_
 refine Run.seq (Run.sr (X.an ?_))
 obtain ⟨o2,ho2,h⟩:=bindE h
 refine R.join2 (β:=(List A0g)) [] [(63,.yreg false false)] (fun p16 S=>(3,.own 448 (p16.map A0c).length)::S) (fun p16 M=>(448,.obj true 50 3 (p16.map A0c))::M) (fun p16=>p16=o2) ?_ ?_
 ·intro JJ5 hmeet4
  have hup3:=h;clear h;have h:=ho2;clear ho2
  refine Run.block ?_
  refine R.bndY false 63 (t:=0) (by rfl) (fun hbd8=>?_)
  replace hbd8:b0.length≤9223372036854775807:=by first | (rw [List.length_map] at hbd8;exact hbd8) | simp
  refine R.lp (β:=Int×(List A0g)) [(0,.yng 63 (.slice (b0.map A0c)))] [(63,.yreg false false)] (fun bb S=>(3,.own 448 (bb.2.map A0c).length)::(4,int bb.1)::S) (fun bb M=>(448,.obj true 50 3 (bb.2.map A0c))::M) (fun n bb=>0≤bb.1∧bb.1+n=(b0.length:Int)∧F0b (b0.drop bb.1.toNat) bb.1 bb.2=some o2) b0.length (0,v1) ⟨Int.le_refl _,by simp,h⟩ ?_
  clear h
  rintro JJ8 n8 ⟨z9,a10⟩ hag8 ⟨hza8,hzb8,h⟩
  dsimp only at hza8 hzb8 h
  refine Run.seq (Run.sr (X.mv ?_))
  refine X.mv ?_
  refine X.lenY false 63 elt22 (by rfl) (by exact List.length_map ..) (by rfl) ?_
  refine X.bi ?_
  refine X.nil ?_
  refine R.cd (fun hc13=>?_) (fun hc13=>?_)
  ·obtain ⟨x11,xs12,hd8,hx8,hds8,hlt8⟩:=A0q hza8 hc13
   rw [hd8] at h
   rw [F0b] at h
   refine Run.skip (Run.seq (Run.block (Run.reg (X.mv ?_))))
   refine X.mv ?_
   refine X.mv ?_
   refine X.mv ?_
   refine X.indexY false 63 elt22 (by rfl) (by rfl) (A0a hx8).1 (A0b A0c hx8) (by rfl) (by rfl) ?_
   refine X.loadY false 63 shp77 (by rfl) (by rfl) (by rfl) (by rfl) ?_
   obtain ⟨v14,hv14,h⟩:=bindE h
   refine X.callM [(63,63)] (Y0x _ _ hv14) (by rfl) (by rfl) (.agg _ _ _ _ _ _ (.pureB (by rfl) (by repeat (first | trivial | refine ⟨by first | rfl | simp [setL],?_⟩)) (.pureB (by rfl) (by repeat (first | trivial | refine ⟨by first | rfl | simp [setL],?_⟩)) (.yngB 63 (by rfl) (by rfl) .nil))) .nil) (by rfl) ⟨rfl,rfl,⟨_,by rfl,by constructor⟩,by constructor,trivial⟩ (by rfl) (by rfl) (by rfl) (by rfl) (by rfl) (by rfl) (by rfl) (by rfl) (by rfl) ?_
   obtain ⟨v15,hv15,h⟩:=bindE h
   refine X.index_xs elt30 (by rfl) (by rfl) (by first | rfl | simp [setL] | omega) (by rfl) (by exact (Int.toNat_of_nonneg (A0a hv15).1).symm) (by have:=A0o hv15;first | exact this | (rw [List.length_map];exact this)) (by rfl) (by rfl) ?_
   refine X.store_es shp50 (by rfl) (by rfl) (by first | rfl | simp [setL] | omega) (A0b _ hv15) (by rfl) (by rfl) (by repeat (first | trivial | refine ⟨by first | rfl | simp [setL],?_⟩)) (by rfl) (by rfl) (by rfl) (by rfl) (by exact C0w _ _ _ v14) ?_
   refine X.nil (Run.blk (Run.reg (X.mv ?_)))
   refine X.ad ?_
   refine X.an ?_
   refine R.castS (t:=3) (.own 448 ((setL a10 z9 v14).map A0c).length) (by rfl) (.inl (by first | rfl | simp [setL])) ?_
   exact R.ag hag8 (n8 - 1) (z9+1,(setL a10 z9 v14)) (R.n3 (by first | (rw [hds8];exact h) | (dsimp only;rw [hds8];exact h)))
  rw [A0j hza8 hc13] at h
  rw [F0b] at h
  refine Run.exit (by rfl) ?_
  exact R.mt hmeet4 a10 (Option.some.inj h)
 rintro p16 rfl
 refine Run.sr (X.mv ?_)
 refine X.an ?_
 cases h
 refine R.pubObj (n:=448) (by rfl) ?_
 exact R.finM1o Tryz.results29 (by rfl) (by rfl) (by first | rfl | simp [setL] | omega) (by rfl) (by repeat (first | exact trivial | refine ⟨by rfl,?_⟩)) rfl
theorem F1e (b0:TLink)(r:TLink)(h:T0t b0=some r):PC Tryz.prog 69 [A0k b0] (A0k r):=by
 unfold T0t at h
 refine PC.start Tryz.func69 Tryz.ntmps69 rfl (by kernel_rfl) rfl ?_
 refine Run.sr (X.bx ?_)
 refine X.alloc zer87 (h:=?_)
 refine X.nil (Run.sr (X.alloc zer87 (h:=?_)))
 refine X.nil (Run.sr (X.fl L1l ?_))
 refine X.ld shp3 ?_
 refine X.fl G0x ?_
 refine X.sl shp3 ?_
 refine X.nil (Run.sr (X.fl L1z ?_))
 refine X.ld shp3 ?_
 refine X.fl J0c ?_
 refine X.sl shp3 ?_
 refine X.nil (Run.sr (X.fl L1s ?_))
 refine X.ld shp4 ?_
 refine X.fl W0e ?_
 refine X.sl shp4 ?_
 refine X.nil (Run.sr (X.fl L1r ?_))
 refine X.ld shp3 ?_
 refine X.fl P0o ?_
 refine X.sl shp3 ?_
 refine X.nil (Run.sr (X.ld shp87 ?_))
 refine X.sl shp87 ?_
 refine X.nil ?_
 cases h
 refine R.finC Tryz.results69 shp87 (by rfl) (by rfl) (by rfl) (by rfl) (by repeat (first | trivial | refine ⟨by first | rfl | simp [setL],?_⟩)) ?_
 rfl
theorem D1t (b0:List TLink)(r:List TLink)(h:V0c b0=some r):PCM Tryz.prog 30 [.yng 63 (.slice (b0.map A0k))] [(63,.yreg false false)] (.fresh false 87 4 (r.map A0k)) [(63,.yreg false false)]:=by
 unfold V0c at h
 refine PCM.start Tryz.func30 Tryz.ntmps30 rfl (by kernel_rfl) rfl (by rfl) (by rfl) (by rfl) (by rfl) (by rfl) ?_
 refine Run.sr (X.an ?_)
 refine Run.sr (X.mv ?_)
 refine X.lenY false 63 elt23 (by rfl) (by exact List.length_map ..) (by rfl) ?_
 obtain ⟨v1,hv1,h⟩:=bindE h
 refine X.makeSlice2 A0k hv1 elt31 zer87 (by rfl) (by rfl) (by rfl) (by simp [PV.plain]) (by rfl) (by rfl) (by rfl) (by rfl) (by rfl) (by rfl) ?_
 refine X.an ?_
 refine Run.seq (Run.sr (X.an ?_))
 obtain ⟨o2,ho2,h⟩:=bindE h
 refine R.join2 (β:=(List TLink)) [] [(63,.yreg false false)] (fun p16 S=>(3,.own 448 (p16.map A0k).length)::S) (fun p16 M=>(448,.obj true 87 4 (p16.map A0k))::M) (fun p16=>p16=o2) ?_ ?_
 ·intro JJ5 hmeet4
  have hup3:=h;clear h;have h:=ho2;clear ho2
  refine Run.block ?_
  refine R.bndY false 63 (t:=0) (by rfl) (fun hbd8=>?_)
  replace hbd8:b0.length≤9223372036854775807:=by first | (rw [List.length_map] at hbd8;exact hbd8) | simp
  refine R.lp (β:=Int×(List TLink)) [(0,.yng 63 (.slice (b0.map A0k)))] [(63,.yreg false false)] (fun bb S=>(3,.own 448 (bb.2.map A0k).length)::(4,int bb.1)::S) (fun bb M=>(448,.obj true 87 4 (bb.2.map A0k))::M) (fun n bb=>0≤bb.1∧bb.1+n=(b0.length:Int)∧J0i (b0.drop bb.1.toNat) bb.1 bb.2=some o2) b0.length (0,v1) ⟨Int.le_refl _,by simp,h⟩ ?_
  clear h
  rintro JJ8 n8 ⟨z9,a10⟩ hag8 ⟨hza8,hzb8,h⟩
  dsimp only at hza8 hzb8 h
  refine Run.seq (Run.sr (X.mv ?_))
  refine X.mv ?_
  refine X.lenY false 63 elt23 (by rfl) (by exact List.length_map ..) (by rfl) ?_
  refine X.bi ?_
  refine X.nil ?_
  refine R.cd (fun hc13=>?_) (fun hc13=>?_)
  ·obtain ⟨x11,xs12,hd8,hx8,hds8,hlt8⟩:=A0q hza8 hc13
   rw [hd8] at h
   rw [J0i] at h
   refine Run.skip (Run.seq (Run.block (Run.reg (X.mv ?_))))
   refine X.mv ?_
   refine X.mv ?_
   refine X.mv ?_
   refine X.indexY false 63 elt23 (by rfl) (by rfl) (A0a hx8).1 (A0b A0k hx8) (by rfl) (by rfl) ?_
   refine X.loadY false 63 shp93 (by rfl) (by rfl) (by rfl) (by rfl) ?_
   obtain ⟨v14,hv14,h⟩:=bindE h
   refine X.callA (F1e _ _ hv14) (by rfl) (by rfl) (by rfl) (by trivial) (by rfl) (by rfl) (by rfl) (by rfl) (by rfl) (by rfl) ?_
   obtain ⟨v15,hv15,h⟩:=bindE h
   refine X.index_xs elt31 (by rfl) (by rfl) (by first | rfl | simp [setL] | omega) (by rfl) (by exact (Int.toNat_of_nonneg (A0a hv15).1).symm) (by have:=A0o hv15;first | exact this | (rw [List.length_map];exact this)) (by rfl) (by rfl) ?_
   refine X.store_es shp87 (by rfl) (by rfl) (by first | rfl | simp [setL] | omega) (A0b _ hv15) (by rfl) (by rfl) (by repeat (first | trivial | refine ⟨by first | rfl | simp [setL],?_⟩)) (by rfl) (by rfl) (by rfl) (by rfl) (by exact C0w _ _ _ v14) ?_
   refine X.nil (Run.blk (Run.reg (X.mv ?_)))
   refine X.ad ?_
   refine X.an ?_
   refine R.castS (t:=3) (.own 448 ((setL a10 z9 v14).map A0k).length) (by rfl) (.inl (by first | rfl | simp [setL])) ?_
   exact R.ag hag8 (n8 - 1) (z9+1,(setL a10 z9 v14)) (R.n3 (by first | (rw [hds8];exact h) | (dsimp only;rw [hds8];exact h)))
  rw [A0j hza8 hc13] at h
  rw [J0i] at h
  refine Run.exit (by rfl) ?_
  exact R.mt hmeet4 a10 (Option.some.inj h)
 rintro p16 rfl
 refine Run.sr (X.mv ?_)
 refine X.an ?_
 cases h
 refine R.pubObj (n:=448) (by rfl) ?_
 exact R.finM1o Tryz.results30 (by rfl) (by rfl) (by first | rfl | simp [setL] | omega) (by rfl) (by repeat (first | exact trivial | refine ⟨by rfl,?_⟩)) rfl
theorem E1a (b0:TStep)(r:TStep)(h:U0a b0=some r):PC Tryz.prog 146 [B0m b0] (B0m r):=by
 unfold U0a at h
 refine PC.start Tryz.func146 Tryz.ntmps146 rfl (by kernel_rfl) rfl ?_
 refine Run.sr (X.bx ?_)
 refine X.alloc D1g (h:=?_)
 refine X.nil (Run.sr (X.alloc D1g (h:=?_)))
 refine X.nil (Run.sr (X.fl K1d ?_))
 refine X.ld shp3 ?_
 refine X.fl J0a ?_
 refine X.sl shp3 ?_
 refine X.nil (Run.sr (X.fl K1k ?_))
 refine X.ld shp3 ?_
 refine X.fl S0j ?_
 refine X.sl shp3 ?_
 refine X.nil (Run.sr (X.ld S0u ?_))
 refine X.sl S0u ?_
 refine X.nil ?_
 cases h
 refine R.finC Tryz.results146 S0u (by rfl) (by rfl) (by rfl) (by rfl) (by repeat (first | trivial | refine ⟨by first | rfl | simp [setL],?_⟩)) ?_
 rfl
theorem C1w (b0:List TStep)(r:List TStep)(h:T0q b0=some r):PCM Tryz.prog 120 [.yng 63 (.slice (b0.map B0m))] [(63,.yreg false false)] (.fresh false 136 2 (r.map B0m)) [(63,.yreg false false)]:=by
 unfold T0q at h
 refine PCM.start Tryz.func120 Tryz.ntmps120 rfl (by kernel_rfl) rfl (by rfl) (by rfl) (by rfl) (by rfl) (by rfl) ?_
 refine Run.sr (X.an ?_)
 refine Run.sr (X.mv ?_)
 refine X.lenY false 63 elt79 (by rfl) (by exact List.length_map ..) (by rfl) ?_
 obtain ⟨v1,hv1,h⟩:=bindE h
 refine X.makeSlice2 B0m hv1 elt58 D1g (by rfl) (by rfl) (by rfl) (by simp [PV.plain]) (by rfl) (by rfl) (by rfl) (by rfl) (by rfl) (by rfl) ?_
 refine X.an ?_
 refine Run.seq (Run.sr (X.an ?_))
 obtain ⟨o2,ho2,h⟩:=bindE h
 refine R.join2 (β:=(List TStep)) [] [(63,.yreg false false)] (fun p16 S=>(3,.own 448 (p16.map B0m).length)::S) (fun p16 M=>(448,.obj true 136 2 (p16.map B0m))::M) (fun p16=>p16=o2) ?_ ?_
 ·intro JJ5 hmeet4
  have hup3:=h;clear h;have h:=ho2;clear ho2
  refine Run.block ?_
  refine R.bndY false 63 (t:=0) (by rfl) (fun hbd8=>?_)
  replace hbd8:b0.length≤9223372036854775807:=by first | (rw [List.length_map] at hbd8;exact hbd8) | simp
  refine R.lp (β:=Int×(List TStep)) [(0,.yng 63 (.slice (b0.map B0m)))] [(63,.yreg false false)] (fun bb S=>(3,.own 448 (bb.2.map B0m).length)::(4,int bb.1)::S) (fun bb M=>(448,.obj true 136 2 (bb.2.map B0m))::M) (fun n bb=>0≤bb.1∧bb.1+n=(b0.length:Int)∧J0g (b0.drop bb.1.toNat) bb.1 bb.2=some o2) b0.length (0,v1) ⟨Int.le_refl _,by simp,h⟩ ?_
  clear h
  rintro JJ8 n8 ⟨z9,a10⟩ hag8 ⟨hza8,hzb8,h⟩
  dsimp only at hza8 hzb8 h
  refine Run.seq (Run.sr (X.mv ?_))
  refine X.mv ?_
  refine X.lenY false 63 elt79 (by rfl) (by exact List.length_map ..) (by rfl) ?_
  refine X.bi ?_
  refine X.nil ?_
  refine R.cd (fun hc13=>?_) (fun hc13=>?_)
  ·obtain ⟨x11,xs12,hd8,hx8,hds8,hlt8⟩:=A0q hza8 hc13
   rw [hd8] at h
   rw [J0g] at h
   refine Run.skip (Run.seq (Run.block (Run.reg (X.mv ?_))))
   refine X.mv ?_
   refine X.mv ?_
   refine X.mv ?_
   refine X.indexY false 63 elt79 (by rfl) (by rfl) (A0a hx8).1 (A0b B0m hx8) (by rfl) (by rfl) ?_
   refine X.loadY false 63 M1c (by rfl) (by rfl) (by rfl) (by rfl) ?_
   obtain ⟨v14,hv14,h⟩:=bindE h
   refine X.callA (E1a _ _ hv14) (by rfl) (by rfl) (by rfl) (by trivial) (by rfl) (by rfl) (by rfl) (by rfl) (by rfl) (by rfl) ?_
   obtain ⟨v15,hv15,h⟩:=bindE h
   refine X.index_xs elt58 (by rfl) (by rfl) (by first | rfl | simp [setL] | omega) (by rfl) (by exact (Int.toNat_of_nonneg (A0a hv15).1).symm) (by have:=A0o hv15;first | exact this | (rw [List.length_map];exact this)) (by rfl) (by rfl) ?_
   refine X.store_es S0u (by rfl) (by rfl) (by first | rfl | simp [setL] | omega) (A0b _ hv15) (by rfl) (by rfl) (by repeat (first | trivial | refine ⟨by first | rfl | simp [setL],?_⟩)) (by rfl) (by rfl) (by rfl) (by rfl) (by exact C0w _ _ _ v14) ?_
   refine X.nil (Run.blk (Run.reg (X.mv ?_)))
   refine X.ad ?_
   refine X.an ?_
   refine R.castS (t:=3) (.own 448 ((setL a10 z9 v14).map B0m).length) (by rfl) (.inl (by first | rfl | simp [setL])) ?_
   exact R.ag hag8 (n8 - 1) (z9+1,(setL a10 z9 v14)) (R.n3 (by first | (rw [hds8];exact h) | (dsimp only;rw [hds8];exact h)))
  rw [A0j hza8 hc13] at h
  rw [J0g] at h
  refine Run.exit (by rfl) ?_
  exact R.mt hmeet4 a10 (Option.some.inj h)
 rintro p16 rfl
 refine Run.sr (X.mv ?_)
 refine X.an ?_
 cases h
 refine R.pubObj (n:=448) (by rfl) ?_
 exact R.finM1o Tryz.results120 (by rfl) (by rfl) (by first | rfl | simp [setL] | omega) (by rfl) (by repeat (first | exact trivial | refine ⟨by rfl,?_⟩)) rfl
theorem D1j (b0:List (List Int))(r:List (List Int))(h:T0y b0=some r):PCM Tryz.prog 121 [.yng 63 (.slice (b0.map l_int))] [(63,.yreg false false)] (.fresh false 25 1 (r.map l_int)) [(63,.yreg false false)]:=by
 unfold T0y at h
 refine PCM.start Tryz.func121 Tryz.ntmps121 rfl (by kernel_rfl) rfl (by rfl) (by rfl) (by rfl) (by rfl) (by rfl) ?_
 refine Run.sr (X.an ?_)
 refine Run.sr (X.mv ?_)
 refine X.lenY false 63 elt59 (by rfl) (by exact List.length_map ..) (by rfl) ?_
 obtain ⟨v1,hv1,h⟩:=bindE h
 refine X.makeSlice2 l_int hv1 elt59 zer25 (by rfl) (by rfl) (by rfl) (by simp [PV.plain]) (by rfl) (by rfl) (by rfl) (by rfl) (by rfl) (by rfl) ?_
 refine X.an ?_
 refine Run.seq (Run.sr (X.an ?_))
 obtain ⟨o2,ho2,h⟩:=bindE h
 refine R.join2 (β:=(List (List Int))) [] [(63,.yreg false false)] (fun p16 S=>(3,.own 448 (p16.map l_int).length)::S) (fun p16 M=>(448,.obj true 25 1 (p16.map l_int))::M) (fun p16=>p16=o2) ?_ ?_
 ·intro JJ5 hmeet4
  have hup3:=h;clear h;have h:=ho2;clear ho2
  refine Run.block ?_
  refine R.bndY false 63 (t:=0) (by rfl) (fun hbd8=>?_)
  replace hbd8:b0.length≤9223372036854775807:=by first | (rw [List.length_map] at hbd8;exact hbd8) | simp
  refine R.lp (β:=Int×(List (List Int))) [(0,.yng 63 (.slice (b0.map l_int)))] [(63,.yreg false false)] (fun bb S=>(3,.own 448 (bb.2.map l_int).length)::(4,int bb.1)::S) (fun bb M=>(448,.obj true 25 1 (bb.2.map l_int))::M) (fun n bb=>0≤bb.1∧bb.1+n=(b0.length:Int)∧J0f (b0.drop bb.1.toNat) bb.1 bb.2=some o2) b0.length (0,v1) ⟨Int.le_refl _,by simp,h⟩ ?_
  clear h
  rintro JJ8 n8 ⟨z9,a10⟩ hag8 ⟨hza8,hzb8,h⟩
  dsimp only at hza8 hzb8 h
  refine Run.seq (Run.sr (X.mv ?_))
  refine X.mv ?_
  refine X.lenY false 63 elt59 (by rfl) (by exact List.length_map ..) (by rfl) ?_
  refine X.bi ?_
  refine X.nil ?_
  refine R.cd (fun hc13=>?_) (fun hc13=>?_)
  ·obtain ⟨x11,xs12,hd8,hx8,hds8,hlt8⟩:=A0q hza8 hc13
   rw [hd8] at h
   rw [J0f] at h
   refine Run.skip (Run.seq (Run.block (Run.reg (X.mv ?_))))
   refine X.mv ?_
   refine X.mv ?_
   refine X.mv ?_
   refine X.indexY false 63 elt59 (by rfl) (by rfl) (A0a hx8).1 (A0b l_int hx8) (by rfl) (by rfl) ?_
   refine X.loadY false 63 shp25 (by rfl) (by rfl) (by rfl) (by rfl) ?_
   obtain ⟨v14,hv14,h⟩:=bindE h
   refine X.callM [(63,63)] (Q0q _ _ hv14) (by rfl) (by rfl) (.yngB 63 (by rfl) (by rfl) .nil) (by rfl) ⟨rfl,rfl,⟨_,by rfl,by constructor⟩,by constructor,trivial⟩ (by rfl) (by rfl) (by rfl) (by rfl) (by rfl) (by rfl) (by rfl) (by rfl) (by rfl) ?_
   obtain ⟨v15,hv15,h⟩:=bindE h
   refine X.index_xs elt59 (by rfl) (by rfl) (by first | rfl | simp [setL] | omega) (by rfl) (by exact (Int.toNat_of_nonneg (A0a hv15).1).symm) (by have:=A0o hv15;first | exact this | (rw [List.length_map];exact this)) (by rfl) (by rfl) ?_
   refine X.store_es shp25 (by rfl) (by rfl) (by first | rfl | simp [setL] | omega) (A0b _ hv15) (by rfl) (by rfl) (by repeat (first | trivial | refine ⟨by first | rfl | simp [setL],?_⟩)) (by rfl) (by rfl) (by rfl) (by rfl) (by exact C0w _ _ _ v14) ?_
   refine X.nil (Run.blk (Run.reg (X.mv ?_)))
   refine X.ad ?_
   refine X.an ?_
   refine R.castS (t:=3) (.own 448 ((setL a10 z9 v14).map l_int).length) (by rfl) (.inl (by first | rfl | simp [setL])) ?_
   exact R.ag hag8 (n8 - 1) (z9+1,(setL a10 z9 v14)) (R.n3 (by first | (rw [hds8];exact h) | (dsimp only;rw [hds8];exact h)))
  rw [A0j hza8 hc13] at h
  rw [J0f] at h
  refine Run.exit (by rfl) ?_
  exact R.mt hmeet4 a10 (Option.some.inj h)
 rintro p16 rfl
 refine Run.sr (X.mv ?_)
 refine X.an ?_
 cases h
 refine R.pubObj (n:=448) (by rfl) ?_
 exact R.finM1o Tryz.results121 (by rfl) (by rfl) (by first | rfl | simp [setL] | omega) (by rfl) (by repeat (first | exact trivial | refine ⟨by rfl,?_⟩)) rfl
theorem Y0m (b0:A0n)(r:A0n)(h:M0b b0=some r):PCM Tryz.prog 70 [.agg [.yng 63 (.slice (b0.Steps.map B0m)),.yng 63 (.slice (b0.Setup.map l_int))]] [(63,.yreg false false)] (.agg [.fresh false 136 2 (r.Steps.map B0m),.fresh false 25 1 (r.Setup.map l_int)]) [(63,.yreg false false)]:=by
 unfold M0b at h
 refine PCM.start Tryz.func70 Tryz.ntmps70 rfl (by kernel_rfl) rfl (by rfl) (by rfl) (by rfl) (by rfl) (by rfl) ?_
 refine Run.sr (X.bx ?_)
 refine X.alloc zer61 (h:=?_)
 refine X.nil (Run.sr (X.alloc zer61 (h:=?_)))
 refine X.nil (Run.sr (X.fl J1p ?_))
 refine X.ld shp79 ?_
 obtain ⟨v1,hv1,h⟩:=bindE h
 refine X.callM [(63,63)] (C1w _ _ hv1) (by rfl) (by rfl) (.yngB 63 (by rfl) (by rfl) .nil) (by rfl) ⟨rfl,rfl,⟨_,by rfl,by constructor⟩,by constructor,trivial⟩ (by rfl) (by rfl) (by rfl) (by rfl) (by rfl) (by rfl) (by rfl) (by rfl) (by rfl) ?_
 refine X.fl W0i ?_
 refine X.sl shp58 ?_
 refine X.nil (Run.sr (X.fl J1s ?_))
 refine X.ld shp59 ?_
 obtain ⟨v2,hv2,h⟩:=bindE h
 refine X.callM [(63,63)] (D1j _ _ hv2) (by rfl) (by rfl) (.yngB 63 (by rfl) (by rfl) .nil) (by rfl) ⟨rfl,rfl,⟨_,by rfl,by constructor⟩,by constructor,trivial⟩ (by rfl) (by rfl) (by rfl) (by rfl) (by rfl) (by rfl) (by rfl) (by rfl) (by rfl) ?_
 refine X.fl P0m ?_
 refine X.sl shp59 ?_
 refine X.nil (Run.sr (X.ld shp61 ?_))
 refine X.sl shp61 ?_
 refine X.nil ?_
 cases h
 exact R.finMC Tryz.results70 shp61 (by rfl) (by rfl) (by rfl) (by rfl) (by repeat (first | trivial | refine ⟨by first | rfl | simp [setL],?_⟩)) (by rfl) (by repeat (first | exact trivial | refine ⟨by rfl,?_⟩)) rfl
theorem X0c (b0:List A0n)(r:List A0n)(h:M0o b0=some r):PCM Tryz.prog 31 [.yng 63 (.slice (b0.map A0e))] [(63,.yreg false false)] (.fresh false 61 2 (r.map A0e)) [(63,.yreg false false)]:=by
 unfold M0o at h
 refine PCM.start Tryz.func31 Tryz.ntmps31 rfl (by kernel_rfl) rfl (by rfl) (by rfl) (by rfl) (by rfl) (by rfl) ?_
 refine Run.sr (X.an ?_)
 refine Run.sr (X.mv ?_)
 refine X.lenY false 63 elt24 (by rfl) (by exact List.length_map ..) (by rfl) ?_
 obtain ⟨v1,hv1,h⟩:=bindE h
 refine X.makeSlice2 A0e hv1 elt32 zer61 (by rfl) (by rfl) (by rfl) (by simp [PV.plain]) (by rfl) (by rfl) (by rfl) (by rfl) (by rfl) (by rfl) ?_
 refine X.an ?_
 refine Run.seq (Run.sr (X.an ?_))
 obtain ⟨o2,ho2,h⟩:=bindE h
 refine R.join2 (β:=(List A0n)) [] [(63,.yreg false false)] (fun p16 S=>(3,.own 448 (p16.map A0e).length)::S) (fun p16 M=>(448,.obj true 61 2 (p16.map A0e))::M) (fun p16=>p16=o2) ?_ ?_
 ·intro JJ5 hmeet4
  have hup3:=h;clear h;have h:=ho2;clear ho2
  refine Run.block ?_
  refine R.bndY false 63 (t:=0) (by rfl) (fun hbd8=>?_)
  replace hbd8:b0.length≤9223372036854775807:=by first | (rw [List.length_map] at hbd8;exact hbd8) | simp
  refine R.lp (β:=Int×(List A0n)) [(0,.yng 63 (.slice (b0.map A0e)))] [(63,.yreg false false)] (fun bb S=>(3,.own 448 (bb.2.map A0e).length)::(4,int bb.1)::S) (fun bb M=>(448,.obj true 61 2 (bb.2.map A0e))::M) (fun n bb=>0≤bb.1∧bb.1+n=(b0.length:Int)∧E0x (b0.drop bb.1.toNat) bb.1 bb.2=some o2) b0.length (0,v1) ⟨Int.le_refl _,by simp,h⟩ ?_
  clear h
  rintro JJ8 n8 ⟨z9,a10⟩ hag8 ⟨hza8,hzb8,h⟩
  dsimp only at hza8 hzb8 h
  refine Run.seq (Run.sr (X.mv ?_))
  refine X.mv ?_
  refine X.lenY false 63 elt24 (by rfl) (by exact List.length_map ..) (by rfl) ?_
  refine X.bi ?_
  refine X.nil ?_
  refine R.cd (fun hc13=>?_) (fun hc13=>?_)
  ·obtain ⟨x11,xs12,hd8,hx8,hds8,hlt8⟩:=A0q hza8 hc13
   rw [hd8] at h
   rw [E0x] at h
   refine Run.skip (Run.seq (Run.block (Run.reg (X.mv ?_))))
   refine X.mv ?_
   refine X.mv ?_
   refine X.mv ?_
   refine X.indexY false 63 elt24 (by rfl) (by rfl) (A0a hx8).1 (A0b A0e hx8) (by rfl) (by rfl) ?_
   refine X.loadY false 63 shp81 (by rfl) (by rfl) (by rfl) (by rfl) ?_
   obtain ⟨v14,hv14,h⟩:=bindE h
   refine X.callM [(63,63)] (Y0m _ _ hv14) (by rfl) (by rfl) (.agg _ _ _ _ _ _ (.yngB 63 (by rfl) (by rfl) (.yngB 63 (by rfl) (by rfl) .nil)) .nil) (by rfl) ⟨rfl,rfl,⟨_,by rfl,by constructor⟩,by constructor,trivial⟩ (by rfl) (by rfl) (by rfl) (by rfl) (by rfl) (by rfl) (by rfl) (by rfl) (by rfl) ?_
   obtain ⟨v15,hv15,h⟩:=bindE h
   refine X.index_xs elt32 (by rfl) (by rfl) (by first | rfl | simp [setL] | omega) (by rfl) (by exact (Int.toNat_of_nonneg (A0a hv15).1).symm) (by have:=A0o hv15;first | exact this | (rw [List.length_map];exact this)) (by rfl) (by rfl) ?_
   refine X.store_es shp61 (by rfl) (by rfl) (by first | rfl | simp [setL] | omega) (A0b _ hv15) (by rfl) (by rfl) (by repeat (first | trivial | refine ⟨by first | rfl | simp [setL],?_⟩)) (by rfl) (by rfl) (by rfl) (by rfl) (by exact C0w _ _ _ v14) ?_
   refine X.nil (Run.blk (Run.reg (X.mv ?_)))
   refine X.ad ?_
   refine X.an ?_
   refine R.castS (t:=3) (.own 448 ((setL a10 z9 v14).map A0e).length) (by rfl) (.inl (by first | rfl | simp [setL])) ?_
   exact R.ag hag8 (n8 - 1) (z9+1,(setL a10 z9 v14)) (R.n3 (by first | (rw [hds8];exact h) | (dsimp only;rw [hds8];exact h)))
  rw [A0j hza8 hc13] at h
  rw [E0x] at h
  refine Run.exit (by rfl) ?_
  exact R.mt hmeet4 a10 (Option.some.inj h)
 rintro p16 rfl
 refine Run.sr (X.mv ?_)
 refine X.an ?_
 cases h
 refine R.pubObj (n:=448) (by rfl) ?_
 exact R.finM1o Tryz.results31 (by rfl) (by rfl) (by first | rfl | simp [setL] | omega) (by rfl) (by repeat (first | exact trivial | refine ⟨by rfl,?_⟩)) rfl
theorem L0x (b0:A0d)(r:A0d)(h:J0e b0=some r):PCM Tryz.prog 8 [.agg [int b0.Deadline,.yng 63 (.slice (b0.Activities.map A0c)),.yng 63 (.slice (b0.Links.map A0k)),.yng 63 (.slice (b0.Resources.map A0e)),.yng 63 (.slice (b0.Stocks.map int))]] [(63,.yreg false false)] (.agg [int r.Deadline,.fresh false 50 3 (r.Activities.map A0c),.fresh false 87 4 (r.Links.map A0k),.fresh false 61 2 (r.Resources.map A0e),.fresh false 3 1 (r.Stocks.map int)]) [(63,.yreg false false)]:=by
 unfold J0e at h
 refine PCM.start Tryz.func8 Tryz.ntmps8 rfl (by kernel_rfl) rfl (by rfl) (by rfl) (by rfl) (by rfl) (by rfl) ?_
 refine Run.sr (X.bx ?_)
 refine X.alloc zer34 (h:=?_)
 refine X.nil (Run.sr (X.alloc zer34 (h:=?_)))
 refine X.nil (Run.sr (X.fl L1g ?_))
 refine X.ld shp3 ?_
 refine X.fl T0l ?_
 refine X.sl shp3 ?_
 refine X.nil (Run.sr (X.fl J1w ?_))
 refine X.ld shp22 ?_
 obtain ⟨v1,hv1,h⟩:=bindE h
 refine X.callM [(63,63)] (X0q _ _ hv1) (by rfl) (by rfl) (.yngB 63 (by rfl) (by rfl) .nil) (by rfl) ⟨rfl,rfl,⟨_,by rfl,by constructor⟩,by constructor,trivial⟩ (by rfl) (by rfl) (by rfl) (by rfl) (by rfl) (by rfl) (by rfl) (by rfl) (by rfl) ?_
 refine X.fl D0p ?_
 refine X.sl shp30 ?_
 refine X.nil (Run.sr (X.fl J1a ?_))
 refine X.ld shp23 ?_
 obtain ⟨v2,hv2,h⟩:=bindE h
 refine X.callM [(63,63)] (D1t _ _ hv2) (by rfl) (by rfl) (.yngB 63 (by rfl) (by rfl) .nil) (by rfl) ⟨rfl,rfl,⟨_,by rfl,by constructor⟩,by constructor,trivial⟩ (by rfl) (by rfl) (by rfl) (by rfl) (by rfl) (by rfl) (by rfl) (by rfl) (by rfl) ?_
 refine X.fl G0s ?_
 refine X.sl shp31 ?_
 refine X.nil (Run.sr (X.fl J1b ?_))
 refine X.ld shp24 ?_
 obtain ⟨v3,hv3,h⟩:=bindE h
 refine X.callM [(63,63)] (X0c _ _ hv3) (by rfl) (by rfl) (.yngB 63 (by rfl) (by rfl) .nil) (by rfl) ⟨rfl,rfl,⟨_,by rfl,by constructor⟩,by constructor,trivial⟩ (by rfl) (by rfl) (by rfl) (by rfl) (by rfl) (by rfl) (by rfl) (by rfl) (by rfl) ?_
 refine X.fl P0k ?_
 refine X.sl shp32 ?_
 refine X.nil (Run.sr (X.fl H1r ?_))
 refine X.ld shp25 ?_
 obtain ⟨v4,hv4,h⟩:=bindE h
 refine X.callM [(63,63)] (Q0q _ _ hv4) (by rfl) (by rfl) (.yngB 63 (by rfl) (by rfl) .nil) (by rfl) ⟨rfl,rfl,⟨_,by rfl,by constructor⟩,by constructor,trivial⟩ (by rfl) (by rfl) (by rfl) (by rfl) (by rfl) (by rfl) (by rfl) (by rfl) (by rfl) ?_
 refine X.fl P0j ?_
 refine X.sl shp25 ?_
 refine X.nil (Run.sr (X.ld shp34 ?_))
 refine X.sl shp34 ?_
 refine X.nil ?_
 cases h
 exact R.finMC Tryz.results8 shp34 (by rfl) (by rfl) (by rfl) (by rfl) (by repeat (first | trivial | refine ⟨by first | rfl | simp [setL],?_⟩)) (by rfl) (by repeat (first | exact trivial | refine ⟨by rfl,?_⟩)) rfl
theorem C0p (b0:Int)(b1:Int)(b2:Int)(r:Bool)(h:E0c b0 b1 b2=some r):PC Tryz.prog 59 [int b0,int b1,int b2] (bool r):=by
 unfold E0c at h
 refine PC.start Tryz.func59 Tryz.ntmps59 rfl (by kernel_rfl) rfl ?_
 refine Run.sr (X.an ?_)
 refine Run.seq ?_
 obtain ⟨e1,he1,h2⟩:=bindE h
 refine R.regG [(6,bool e1)] [] ?_ ?_
 ·clear h;have h:=he1;clear he1 h2
  refine X.mv ?_
  refine X.mv ?_
  refine X.bi ?_
  refine X.mv ?_
  refine X.iG (fun hb2=>?_) (fun hb2=>?_)
  ·replace h:=condT hb2 h
   refine X.mv ?_
   refine X.gy (X.mv ?_)
   refine X.gy (X.bi ?_)
   refine X.pT ?_
   refine X.as ?_
   cases h
   exact X.eG
  replace h:=condF hb2 h
  refine X.gn (X.gn (X.pF ?_))
  refine X.as ?_
  cases h
  exact X.eG
 replace h:=h2;clear h2
 cases h
 refine R.f1 Tryz.results59 ?_
 rfl
theorem W0w (b0:List Int)(b1:Int)(r:Bool)(h:K0z b0 b1=some r):PC Tryz.prog 144 [.slice (b0.map int),int b1] (bool r):=by
 unfold K0z at h
 refine PC.start Tryz.func144 Tryz.ntmps144 rfl (by kernel_rfl) rfl ?_
 refine Run.sr (X.an ?_)
 refine Run.seq (Run.sr (X.mv ?_))
 refine X.ls elt25 ?_
 refine X.mn ?_
 obtain ⟨o1,ho1,h⟩:=bindE h
 refine R.join2 (β:=Unit) [(0,.slice (b0.map int)),(1,int b1)] [] (fun p14 S=>S) (fun p14 M=>M) (fun p14=>(Sum.inl p14)=o1) ?_ ?_
 ·intro JJ4 hmeet3
  have hup2:=h;clear h;have h:=ho1;clear ho1
  refine Run.block ?_
  refine R.bndS (t:=0) (by rfl) (fun hbd7=>?_)
  replace hbd7:b0.length≤9223372036854775807:=by first | (rw [List.length_map] at hbd7;exact hbd7) | simp
  refine R.lp (β:=Int) [(0,.slice (b0.map int)),(1,int b1),(7,.slice (b0.map int)),(8,int (b0.length:Int))] [] (fun bb S=>(9,int bb)::S) (fun bb M=>M) (fun n bb=>0≤bb∧bb+n=(b0.length:Int)∧G0h (b0.drop bb.toNat) bb=some o1) b0.length (0:Int) ⟨Int.le_refl _,by simp,h⟩ ?_
  clear h
  rintro JJ7 n7 z8 hag7 ⟨hza7,hzb7,h⟩
  refine Run.sr (X.bi ?_)
  refine X.nil (Run.seq ?_)
  refine R.cd (fun hc11=>?_) (fun hc11=>?_)
  ·obtain ⟨x9,xs10,hd7,hx7,hds7,hlt7⟩:=A0q hza7 hc11
   rw [hd7] at h
   rw [G0h] at h
   refine Run.skip (Run.seq (Run.block (Run.sr (X.ix elt25 (A0a hx7).1 (A0b int hx7) ?_))))
   refine X.lc shp3 ?_
   refine X.an ?_
   refine Run.sr (X.mv ?_)
   obtain ⟨v12,hv12,h⟩:=bindE h
   refine X.cp (C0p _ _ _ _ hv12) ?_
   refine X.un (h:=?_)
   refine X.nil ?_
   refine R.cd (fun hc13=>?_) (fun hc13=>?_)
   ·replace h:=condT hc13 h
    refine Run.sr (X.an ?_)
    cases h
    have h:=hup2
    replace h:=elimR h
    cases h
    refine R.f1 Tryz.results144 ?_
    rfl
   replace h:=condF hc13 h
   refine Run.skip (Run.blk (Run.reg (X.ad ?_)))
   refine X.mn ?_
   exact R.ag hag7 (n7 - 1) (z8+1) (R.n3 (by first | (rw [hds7];exact h) | (dsimp only;rw [hds7];exact h)))
  rw [A0j hza7 hc11] at h
  rw [G0h] at h
  refine Run.exit (by rfl) ?_
  exact R.mt hmeet3 () (Option.some.inj h)
 rintro p14 rfl
 replace h:=elimL h
 refine Run.sr (X.mv ?_)
 refine X.ls elt25 ?_
 refine X.mv ?_
 refine X.bi ?_
 refine X.an ?_
 cases h
 refine R.f1 Tryz.results144 ?_
 rfl
theorem E1u (b0:TMode)(b1:Int)(b2:Int)(r:Bool)(h:M0q b0 b1 b2=some r):PC Tryz.prog 112 [B0l b0,int b1,int b2] (bool r):=by
 unfold M0q at h
 refine PC.start Tryz.func112 Tryz.ntmps112 rfl (by kernel_rfl) rfl ?_
 refine Run.sr (X.bx ?_)
 refine X.an ?_
 refine Run.seq ?_
 obtain ⟨v1,hv1,h⟩:=bindE h
 obtain ⟨e2,he2,h2⟩:=bindE h
 refine R.regG [(6,bool e2)] [] ?_ ?_
 ·clear h;have h:=he2;clear he2 h2
  refine X.fl L0t ?_
  refine X.ld shp3 ?_
  refine X.cp (C0p _ _ _ _ hv1) ?_
  refine X.mv ?_
  refine X.iG (fun hb3=>?_) (fun hb3=>?_)
  ·replace h:=condT hb3 h
   refine X.fl S0d ?_
   refine X.gy (X.ld shp25 ?_)
   refine X.gy (X.mv ?_)
   refine X.gy ?_
   obtain ⟨v4,hv4,h⟩:=bindE h
   refine X.cp (W0w _ _ _ hv4) ?_
   refine X.pT ?_
   refine X.mv ?_
   refine X.iG (fun hb5=>?_) (fun hb5=>?_)
   ·replace h:=condT hb5 h
    refine X.fl S0g ?_
    refine X.gy (X.ld shp25 ?_)
    refine X.gy (X.mv ?_)
    refine X.gy ?_
    obtain ⟨v6,hv6,h⟩:=bindE h
    refine X.cp (W0w _ _ _ hv6) ?_
    refine X.pT ?_
    refine X.as ?_
    cases h
    exact X.eG
   replace h:=condF hb5 h
   refine X.gn (X.gn (X.gn (X.pF ?_)))
   refine X.as ?_
   cases h
   exact X.eG
  replace h:=condF hb3 h
  refine X.gn (X.gn (X.gn (X.pF ?_)))
  refine X.mv ?_
  refine X.gn (X.gn (X.gn (X.gn (X.pF ?_))))
  refine X.as ?_
  cases h
  exact X.eG
 replace h:=h2;clear h2
 cases h
 refine R.f1 Tryz.results112 ?_
 rfl
theorem F1j (b0:ByteArray)(r:Bool)(h:P0h b0=some r):PC Tryz.prog 113 [str b0] (bool r):=by
 unfold P0h at h
 refine PC.start Tryz.func113 Tryz.ntmps113 rfl (by kernel_rfl) rfl ?_
 refine Run.sr (X.an ?_)
 refine Run.seq (Run.sr (X.an ?_))
 obtain ⟨o1,ho1,h⟩:=bindE h
 refine R.join2 (β:=Unit) [(0,str b0)] [] (fun p19 S=>S) (fun p19 M=>M) (fun p19=>(Sum.inl p19)=o1) ?_ ?_
 ·intro JJ4 hmeet3
  have hup2:=h;clear h;have h:=ho1;clear ho1
  refine Run.block ?_
  refine R.lp (β:=Int) [(0,str b0)] [] (fun bb S=>(3,int bb)::S) (fun bb M=>M) (fun n bb=>F0t b0 n bb=some o1) F0 0 h ?_
  clear h
  rintro JJ5 n5 a7 hag5 h
  obtain _ | n5:=n5
  ·exact absurd h (by simp [F0t])
  rw [F0t] at h
  refine Run.seq (Run.sr (X.mv ?_))
  refine X.mv ?_
  refine X.lenStr Tryz.underlying9 (by rfl) (by rfl) ?_
  refine X.bi ?_
  refine X.nil ?_
  refine R.cd (fun hc10=>?_) (fun hc10=>?_)
  ·replace h:=condT hc10 h
   refine Run.skip (Run.seq (Run.block (Run.seq ?_)))
   obtain ⟨v11,hv11,h⟩:=bindE h
   obtain ⟨e12,he12,h2⟩:=bindE h
   refine R.regG [(0,str b0),(3,int a7),(4,bool e12)] [] ?_ ?_
   ·clear h;have h:=he12;clear he12 h2
    refine X.mv ?_
    refine X.mv ?_
    refine X.indexStr2 hv11 Tryz.underlying9 (by rfl) (by rfl) (by rfl) ?_
    refine X.bi ?_
    refine X.mv ?_
    refine X.iG (fun hb13=>?_) (fun hb13=>?_)
    ·replace h:=condT hb13 h
     refine X.mv ?_
     refine X.gy (X.mv ?_)
     refine X.gy (X.indexStr2 hv11 Tryz.underlying9 (by rfl) (by rfl) (by rfl) ?_)
     refine X.gy (X.bi ?_)
     refine X.pT ?_
     refine X.as ?_
     cases h
     exact X.eG
    replace h:=condF hb13 h
    refine X.gn (X.gn (X.gn (X.pF ?_)))
    refine X.as ?_
    cases h
    exact X.eG
   replace h:=h2;clear h2
   refine Run.seq ?_
   obtain ⟨e14,he14,h2⟩:=bindE h
   refine R.regG [(0,str b0),(3,int a7),(38,bool e14)] [] ?_ ?_
   ·clear h;have h:=he14;clear he14 h2
    refine X.mv ?_
    refine X.un (h:=?_)
    refine X.mv ?_
    refine X.iG (fun hb15=>?_) (fun hb15=>?_)
    ·replace h:=condT hb15 h
     refine X.mv ?_
     refine X.gy (X.bi ?_)
     refine X.gy (X.mv ?_)
     refine X.iG (fun hb16=>?_) (fun hb16=>?_)
     ·replace h:=condF hb16 h
      refine X.mv ?_
      refine X.gy (X.mv ?_)
      refine X.gy (X.indexStr2 hv11 Tryz.underlying9 (by rfl) (by rfl) (by rfl) ?_)
      refine X.gy (X.bi ?_)
      refine X.gy (X.pF ?_)
      refine X.gy (X.mv ?_)
      refine X.iG (fun hb17=>?_) (fun hb17=>?_)
      ·replace h:=condF hb17 h
       refine X.mv ?_
       refine X.gy (X.mv ?_)
       refine X.gy (X.indexStr2 hv11 Tryz.underlying9 (by rfl) (by rfl) (by rfl) ?_)
       refine X.gy (X.bi ?_)
       refine X.gy (X.pF ?_)
       refine X.pT ?_
       cases h
       exact X.eG
      replace h:=condT hb17 h
      refine X.gn (X.gn (X.gn (X.gy (X.pT ?_))))
      refine X.pT ?_
      cases h
      exact X.eG
     replace h:=condT hb16 h
     refine X.gn (X.gn (X.gn (X.gy (X.pT ?_))))
     refine X.gy (X.mv ?_)
     refine X.gn (X.gn (X.gn (X.gn (X.gy (X.pT ?_)))))
     refine X.pT ?_
     cases h
     exact X.eG
    replace h:=condF hb15 h
    refine X.gn (X.gn (X.gU (h:=?_)))
    refine X.gU (h:=?_)
    refine X.gU (h:=?_)
    refine X.gU (h:=?_)
    refine X.gn (X.gn (X.gU (h:=?_)))
    refine X.gU (h:=?_)
    refine X.gU (h:=?_)
    refine X.gU (h:=?_)
    refine X.gn (X.pF ?_)
    cases h
    exact X.eG
   replace h:=h2;clear h2
   refine R.cd (fun hc18=>?_) (fun hc18=>?_)
   ·replace h:=condT hc18 h
    refine Run.sr (X.an ?_)
    cases h
    have h:=hup2
    replace h:=elimR h
    cases h
    refine R.f1 Tryz.results113 ?_
    rfl
   replace h:=condF hc18 h
   refine Run.skip (Run.blk (Run.reg (X.mv ?_)))
   refine X.addW (h:=?_)
   refine X.an ?_
   exact hag5 n5 (W (a7+1)) _ _ (by omega) h (by trivial) (by trivial) (by rfl) (by rfl)
  replace h:=condF hc10 h
  refine Run.exit (by rfl) ?_
  exact R.mt hmeet3 () (Option.some.inj h)
 rintro p19 rfl
 replace h:=elimL h
 refine Run.sr (X.mv ?_)
 refine X.lenStr Tryz.underlying9 (by rfl) (by rfl) ?_
 obtain ⟨v21,hv21,h⟩:=bindE h
 refine X.cp (C0p _ _ _ _ hv21) ?_
 refine X.an ?_
 cases h
 refine R.f1 Tryz.results113 ?_
 rfl
theorem Z0q (b0:A0g)(b1:Int)(b2:Int)(r:Bool)(h:E0l b0 b1 b2=some r):PC Tryz.prog 60 [A0c b0,int b1,int b2] (bool r):=by
 unfold E0l at h
 refine PC.start Tryz.func60 Tryz.ntmps60 rfl (by kernel_rfl) rfl ?_
 refine Run.sr (X.bx ?_)
 refine X.an ?_
 refine Run.seq (Run.sr (X.fl M0k ?_))
 refine X.ld shp48 ?_
 refine X.ls elt48 ?_
 refine X.mn ?_
 obtain ⟨o1,ho1,h⟩:=bindE h
 refine R.join2 (β:=Unit) [(3,.lptr 192 0)] [(192,.blk true [str b0.Name,int b0.Family,.slice (b0.Modes.map B0l)])] (fun p14 S=>S) (fun p14 M=>M) (fun p14=>(Sum.inl p14)=o1) ?_ ?_
 ·intro JJ4 hmeet3
  have hup2:=h;clear h;have h:=ho1;clear ho1
  refine Run.block ?_
  refine R.bndS (t:=10) (by rfl) (fun hbd7=>?_)
  replace hbd7:b0.Modes.length≤9223372036854775807:=by first | (rw [List.length_map] at hbd7;exact hbd7) | simp
  refine R.lp (β:=Int) [(1,int b1),(2,int b2),(3,.lptr 192 0),(10,.slice (b0.Modes.map B0l)),(11,int (b0.Modes.length:Int))] [(192,.blk true [str b0.Name,int b0.Family,.slice (b0.Modes.map B0l)])] (fun bb S=>(12,int bb)::S) (fun bb M=>M) (fun n bb=>0≤bb∧bb+n=(b0.Modes.length:Int)∧D0o b1 b2 (b0.Modes.drop bb.toNat) bb=some o1) b0.Modes.length (0:Int) ⟨Int.le_refl _,by simp,h⟩ ?_
  clear h
  rintro JJ7 n7 z8 hag7 ⟨hza7,hzb7,h⟩
  refine Run.sr (X.bi ?_)
  refine X.nil (Run.seq ?_)
  refine R.cd (fun hc11=>?_) (fun hc11=>?_)
  ·obtain ⟨x9,xs10,hd7,hx7,hds7,hlt7⟩:=A0q hza7 hc11
   rw [hd7] at h
   rw [D0o] at h
   refine Run.skip (Run.seq (Run.block (Run.sr (X.ix elt48 (A0a hx7).1 (A0b B0l hx7) ?_))))
   refine X.lc L0g ?_
   refine X.alloc R0g (h:=?_)
   refine X.sl L0g ?_
   refine X.nil (Run.sr (X.ld L0g ?_))
   refine X.mv ?_
   refine X.mv ?_
   obtain ⟨v12,hv12,h⟩:=bindE h
   refine X.cp (E1u _ _ _ _ hv12) ?_
   refine X.un (h:=?_)
   refine X.nil ?_
   refine R.cd (fun hc13=>?_) (fun hc13=>?_)
   ·replace h:=condT hc13 h
    refine Run.sr (X.an ?_)
    cases h
    have h:=hup2
    replace h:=elimR h
    cases h
    refine R.f1 Tryz.results60 ?_
    rfl
   replace h:=condF hc13 h
   refine Run.skip (Run.blk (Run.reg (X.ad ?_)))
   refine X.mn ?_
   exact R.ag hag7 (n7 - 1) (z8+1) (R.n3 (by first | (rw [hds7];exact h) | (dsimp only;rw [hds7];exact h)))
  rw [A0j hza7 hc11] at h
  rw [D0o] at h
  refine Run.exit (by rfl) ?_
  exact R.mt hmeet3 () (Option.some.inj h)
 rintro p14 rfl
 replace h:=elimL h
 refine Run.seq ?_
 obtain ⟨v16,hv16,h⟩:=bindE h
 obtain ⟨e17,he17,h2⟩:=bindE h
 refine R.regG [(6,bool e17)] [] ?_ ?_
 ·clear h;have h:=he17;clear he17 h2
  refine X.fl P0n ?_
  refine X.ld shp9 ?_
  refine X.cp (F1j _ _ hv16) ?_
  refine X.mv ?_
  refine X.iG (fun hb18=>?_) (fun hb18=>?_)
  ·replace h:=condT hb18 h
   refine X.fl W0b ?_
   refine X.gy (X.ld shp3 ?_)
   refine X.gy ?_
   obtain ⟨v19,hv19,h⟩:=bindE h
   refine X.cp (C0p _ _ _ _ hv19) ?_
   refine X.pT ?_
   refine X.mv ?_
   refine X.iG (fun hb20=>?_) (fun hb20=>?_)
   ·replace h:=condT hb20 h
    refine X.fl M0k ?_
    refine X.gy (X.ld shp48 ?_)
    refine X.gy (X.ls elt48 ?_)
    refine X.gy ?_
    obtain ⟨v21,hv21,h⟩:=bindE h
    refine X.cp (C0p _ _ _ _ hv21) ?_
    refine X.pT ?_
    refine X.as ?_
    cases h
    exact X.eG
   replace h:=condF hb20 h
   refine X.gn (X.gn (X.gn (X.pF ?_)))
   refine X.as ?_
   cases h
   exact X.eG
  replace h:=condF hb18 h
  refine X.gn (X.gn (X.pF ?_))
  refine X.mv ?_
  refine X.gn (X.gn (X.gn (X.gn (X.pF ?_))))
  refine X.as ?_
  cases h
  exact X.eG
 replace h:=h2;clear h2
 cases h
 refine R.f1 Tryz.results60 ?_
 rfl
theorem V0g (b0:A0d)(b1:ByteArray)(r:Int)(h:D0k b0 b1=some r):PC Tryz.prog 61 [A0v b0,str b1] (int r):=by
 unfold D0k at h
 refine PC.start Tryz.func61 Tryz.ntmps61 rfl (by kernel_rfl) rfl ?_
 refine Run.sr (X.bx ?_)
 refine X.an ?_
 refine Run.seq (Run.sr (X.fl D0p ?_))
 refine X.ld shp30 ?_
 refine X.ls elt30 ?_
 refine X.mn ?_
 obtain ⟨o1,ho1,h⟩:=bindE h
 refine R.join2 (β:=Unit) [] [] (fun p13 S=>S) (fun p13 M=>M) (fun p13=>(Sum.inl p13)=o1) ?_ ?_
 ·intro JJ4 hmeet3
  have hup2:=h;clear h;have h:=ho1;clear ho1
  refine Run.block ?_
  refine R.bndS (t:=8) (by rfl) (fun hbd7=>?_)
  replace hbd7:b0.Activities.length≤9223372036854775807:=by first | (rw [List.length_map] at hbd7;exact hbd7) | simp
  refine R.lp (β:=Int) [(1,str b1),(8,.slice (b0.Activities.map A0c)),(9,int (b0.Activities.length:Int))] [] (fun bb S=>(10,int bb)::S) (fun bb M=>M) (fun n bb=>0≤bb∧bb+n=(b0.Activities.length:Int)∧B0p b1 (b0.Activities.drop bb.toNat) bb=some o1) b0.Activities.length (0:Int) ⟨Int.le_refl _,by simp,h⟩ ?_
  clear h
  rintro JJ7 n7 z8 hag7 ⟨hza7,hzb7,h⟩
  refine Run.sr (X.bi ?_)
  refine X.nil (Run.seq ?_)
  refine R.cd (fun hc11=>?_) (fun hc11=>?_)
  ·obtain ⟨x9,xs10,hd7,hx7,hds7,hlt7⟩:=A0q hza7 hc11
   rw [hd7] at h
   rw [B0p] at h
   refine Run.skip (Run.seq (Run.block (Run.sr (X.mv ?_))))
   refine X.ix elt30 (A0a hx7).1 (A0b A0c hx7) ?_
   refine X.lc shp50 ?_
   refine X.alloc zer50 (h:=?_)
   refine X.as ?_
   refine X.sl shp50 ?_
   refine X.nil (Run.sr (X.fl P0n ?_))
   refine X.ld shp9 ?_
   refine X.mv ?_
   refine X.bi ?_
   refine X.nil ?_
   refine R.cd (fun hc12=>?_) (fun hc12=>?_)
   ·replace h:=condT hc12 h
    refine Run.sr (X.mv ?_)
    refine X.an ?_
    cases h
    have h:=hup2
    replace h:=elimR h
    cases h
    refine R.f1 Tryz.results61 ?_
    rfl
   replace h:=condF hc12 h
   refine Run.skip (Run.blk (Run.reg (X.ad ?_)))
   refine X.mn ?_
   exact R.ag hag7 (n7 - 1) (z8+1) (R.n3 (by first | (rw [hds7];exact h) | (dsimp only;rw [hds7];exact h)))
  rw [A0j hza7 hc11] at h
  rw [B0p] at h
  refine Run.exit (by rfl) ?_
  exact R.mt hmeet3 () (Option.some.inj h)
 rintro p13 rfl
 replace h:=elimL h
 refine Run.sr (X.an ?_)
 cases h
 refine R.f1 Tryz.results61 ?_
 rfl
theorem B1y (b0:List TStep)(r:Bool)(h:J0o b0=some r):PC Tryz.prog 114 [.slice (b0.map B0m)] (bool r):=by
 unfold J0o at h
 refine PC.start Tryz.func114 Tryz.ntmps114 rfl (by kernel_rfl) rfl ?_
 refine Run.sr (X.an ?_)
 refine Run.seq (Run.sr (X.mv ?_))
 refine X.ls elt58 ?_
 refine X.mn ?_
 obtain ⟨o1,ho1,h⟩:=bindE h
 refine R.join2 (β:=Unit) [(0,.slice (b0.map B0m))] [] (fun p20 S=>S) (fun p20 M=>M) (fun p20=>(Sum.inl p20)=o1) ?_ ?_
 ·intro JJ4 hmeet3
  have hup2:=h;clear h;have h:=ho1;clear ho1
  refine Run.block ?_
  refine R.bndS (t:=0) (by rfl) (fun hbd7=>?_)
  replace hbd7:b0.length≤9223372036854775807:=by first | (rw [List.length_map] at hbd7;exact hbd7) | simp
  refine R.lp (β:=Int) [(0,.slice (b0.map B0m)),(5,.slice (b0.map B0m)),(6,int (b0.length:Int))] [] (fun bb S=>(7,int bb)::S) (fun bb M=>M) (fun n bb=>0≤bb∧bb+n=(b0.length:Int)∧D0d b0 (b0.drop bb.toNat) bb=some o1) b0.length (0:Int) ⟨Int.le_refl _,by simp,h⟩ ?_
  clear h
  rintro JJ7 n7 z8 hag7 ⟨hza7,hzb7,h⟩
  refine Run.sr (X.bi ?_)
  refine X.nil (Run.seq ?_)
  refine R.cd (fun hc11=>?_) (fun hc11=>?_)
  ·obtain ⟨x9,xs10,hd7,hx7,hds7,hlt7⟩:=A0q hza7 hc11
   rw [hd7] at h
   rw [D0d] at h
   refine Run.skip (Run.seq (Run.block (Run.sr (X.mv ?_))))
   refine X.ix elt58 (A0a hx7).1 (A0b B0m hx7) ?_
   refine X.lc S0u ?_
   refine X.alloc D1g (h:=?_)
   refine X.as ?_
   refine X.sl S0u ?_
   refine X.nil (Run.seq ?_)
   obtain ⟨v12,hv12,h⟩:=bindE h
   obtain ⟨e13,he13,h2⟩:=bindE h
   refine R.drawG [(0,.slice (b0.map B0m)),(5,.slice (b0.map B0m)),(6,int (b0.length:Int)),(7,int z8),(36,bool e13)] [] (D0a [(1,([256],[],[],[])),(6,([256],[],[],[])),(21,([256],[],[],[]))]) mixed (by kernel_rfl) (by kernel_rfl) ?_ ?_
   ·clear h;have h:=he13;clear he13 h2
    refine X.fl J0a ?_
    refine X.ld shp3 ?_
    refine X.cp (C0p _ _ _ _ hv12) ?_
    refine X.un (h:=?_)
    refine X.mv ?_
    refine X.iG (fun hb14=>?_) (fun hb14=>?_)
    ·replace h:=condF hb14 h
     refine X.fl S0j ?_
     refine X.gy (X.ld shp3 ?_)
     refine X.gy ?_
     obtain ⟨v15,hv15,h⟩:=bindE h
     refine X.cp (C0p _ _ _ _ hv15) ?_
     refine X.gy (X.un (h:=?_))
     refine X.pF ?_
     refine X.mv ?_
     refine X.iG (fun hb16=>?_) (fun hb16=>?_)
     ·replace h:=condF hb16 h
      refine X.mv ?_
      refine X.gy (X.bi ?_)
      refine X.gy (X.mv ?_)
      refine X.iG (fun hb17=>?_) (fun hb17=>?_)
      ·replace h:=condT hb17 h
       refine X.mv ?_
       refine X.gy (X.mv ?_)
       refine X.gy (X.sub (by rfl) (by rfl) (by omega) (by rfl) ?_)
       refine X.gy ?_
       obtain ⟨v18,hv18,h⟩:=bindE h
       refine X.ix elt58 (A0a hv18).1 (A0b B0m hv18) ?_
       refine X.gy (X.fieldAddr_c J0a (by rfl) (by rfl) ?_)
       refine X.gy (X.lc shp3 ?_)
       refine X.gy (X.fl J0a ?_)
       refine X.gy (X.ld shp3 ?_)
       refine X.gy (X.bi ?_)
       refine X.gy (X.pT ?_)
       refine X.pF ?_
       cases h
       exact X.eG
      replace h:=condF hb17 h
      refine X.gn (X.gn (X.gn (X.gn (X.gn (X.gn (X.gn (X.gn ?_)))))))
      refine X.gy (X.pF ?_)
      refine X.pF ?_
      cases h
      exact X.eG
     replace h:=condT hb16 h
     refine X.gn (X.gn (X.gU (h:=?_)))
     refine X.gU (h:=?_)
     refine X.gU (h:=?_)
     refine X.gU (h:=?_)
     refine X.gU (h:=?_)
     refine X.gU (h:=?_)
     refine X.gU (h:=?_)
     refine X.gU (h:=?_)
     refine X.gU (h:=?_)
     refine X.gn (X.pT ?_)
     cases h
     exact X.eG
    replace h:=condT hb14 h
    refine X.gn (X.gn (X.gn (X.pT ?_)))
    refine X.mv ?_
    refine X.gn (X.gn (X.gn (X.gU (h:=?_))))
    refine X.gU (h:=?_)
    refine X.gU (h:=?_)
    refine X.gU (h:=?_)
    refine X.gU (h:=?_)
    refine X.gU (h:=?_)
    refine X.gU (h:=?_)
    refine X.gU (h:=?_)
    refine X.gU (h:=?_)
    refine X.gn (X.pT ?_)
    cases h
    exact X.eG
   replace h:=h2;clear h2
   refine R.cd (fun hc19=>?_) (fun hc19=>?_)
   ·replace h:=condT hc19 h
    refine Run.sr (X.an ?_)
    cases h
    have h:=hup2
    replace h:=elimR h
    cases h
    refine R.f1 Tryz.results114 ?_
    rfl
   replace h:=condF hc19 h
   refine Run.skip (Run.blk (Run.reg (X.ad ?_)))
   refine X.mn ?_
   exact R.ag hag7 (n7 - 1) (z8+1) (R.n3 (by first | (rw [hds7];exact h) | (dsimp only;rw [hds7];exact h)))
  rw [A0j hza7 hc11] at h
  rw [D0d] at h
  refine Run.exit (by rfl) ?_
  exact R.mt hmeet3 () (Option.some.inj h)
 rintro p20 rfl
 replace h:=elimL h
 refine Run.seq ?_
 obtain ⟨v22,hv22,h⟩:=bindE h
 obtain ⟨e23,he23,h2⟩:=bindE h
 refine R.regG [(2,bool e23)] [] ?_ ?_
 ·clear h;have h:=he23;clear he23 h2
  refine X.mv ?_
  refine X.ls elt58 ?_
  refine X.cp (C0p _ _ _ _ hv22) ?_
  refine X.mv ?_
  refine X.iG (fun hb24=>?_) (fun hb24=>?_)
  ·replace h:=condT hb24 h
   refine X.mv ?_
   refine X.gy ?_
   obtain ⟨v25,hv25,h⟩:=bindE h
   refine X.ix elt58 (A0a hv25).1 (A0b B0m hv25) ?_
   refine X.gy (X.fieldAddr_c J0a (by rfl) (by rfl) ?_)
   refine X.gy (X.lc shp3 ?_)
   refine X.gy (X.bi ?_)
   refine X.pT ?_
   refine X.as ?_
   cases h
   exact X.eG
  replace h:=condF hb24 h
  refine X.gn (X.gn (X.gn (X.gn (X.pF ?_))))
  refine X.as ?_
  cases h
  exact X.eG
 replace h:=h2;clear h2
 cases h
 refine R.f1 Tryz.results114 ?_
 rfl
theorem Y0w (b0:A0n)(r:Bool)(h:F0j b0=some r):PC Tryz.prog 62 [A0e b0] (bool r):=by
 unfold F0j at h
 refine PC.start Tryz.func62 Tryz.ntmps62 rfl (by kernel_rfl) rfl ?_
 refine Run.sr (X.bx ?_)
 refine X.an ?_
 refine Run.seq (Run.sr (X.fl P0m ?_))
 refine X.ld shp59 ?_
 refine X.ls elt59 ?_
 refine X.mn ?_
 obtain ⟨o1,ho1,h⟩:=bindE h
 refine R.join2 (β:=Unit) [(1,.lptr 64 0)] [(64,.blk true [.slice (b0.Steps.map B0m),.slice (b0.Setup.map l_int)])] (fun p28 S=>S) (fun p28 M=>M) (fun p28=>(Sum.inl p28)=o1) ?_ ?_
 ·intro JJ4 hmeet3
  have hup2:=h;clear h;have h:=ho1;clear ho1
  refine Run.block ?_
  refine R.bndS (t:=8) (by rfl) (fun hbd7=>?_)
  replace hbd7:b0.Setup.length≤9223372036854775807:=by first | (rw [List.length_map] at hbd7;exact hbd7) | simp
  refine R.lp (β:=Int) [(1,.lptr 64 0),(8,.slice (b0.Setup.map l_int)),(9,int (b0.Setup.length:Int))] [(64,.blk true [.slice (b0.Steps.map B0m),.slice (b0.Setup.map l_int)])] (fun bb S=>(10,int bb)::S) (fun bb M=>M) (fun n bb=>0≤bb∧bb+n=(b0.Setup.length:Int)∧B0f (b0.Setup.drop bb.toNat) bb=some o1) b0.Setup.length (0:Int) ⟨Int.le_refl _,by simp,h⟩ ?_
  clear h
  rintro JJ7 n7 z8 hag7 ⟨hza7,hzb7,h⟩
  refine Run.sr (X.bi ?_)
  refine X.nil (Run.seq ?_)
  refine R.cd (fun hc11=>?_) (fun hc11=>?_)
  ·obtain ⟨x9,xs10,hd7,hx7,hds7,hlt7⟩:=A0q hza7 hc11
   rw [hd7] at h
   rw [B0f] at h
   refine Run.skip (Run.seq (Run.block (Run.sr (X.ix elt59 (A0a hx7).1 (A0b l_int hx7) ?_))))
   refine X.lc shp25 ?_
   refine X.an ?_
   refine Run.seq (Run.sr (X.mv ?_))
   refine X.ls elt25 ?_
   refine X.bi ?_
   refine X.nil ?_
   refine R.cd (fun hc12=>?_) (fun hc12=>?_)
   ·replace h:=condT hc12 h
    refine Run.sr (X.an ?_)
    cases h
    have h:=hup2
    replace h:=elimR h
    cases h
    refine R.f1 Tryz.results62 ?_
    rfl
   replace h:=condF hc12 h
   refine Run.skip (Run.sr (X.mv ?_))
   refine X.ls elt25 ?_
   refine X.mn ?_
   obtain ⟨o13,ho13,h⟩:=bindE h
   refine R.join2 (β:=Unit) [(1,.lptr 64 0),(8,.slice (b0.Setup.map l_int)),(9,int (b0.Setup.length:Int)),(10,int z8)] [(64,.blk true [.slice (b0.Steps.map B0m),.slice (b0.Setup.map l_int)])] (fun p26 S=>S) (fun p26 M=>M) (fun p26=>(Sum.inl p26)=o13) ?_ ?_
   ·intro JJ16 hmeet15
    have hup14:=h;clear h;have h:=ho13;clear ho13
    refine Run.block ?_
    refine R.bndS (t:=4) (by rfl) (fun hbd19=>?_)
    replace hbd19:x9.length≤9223372036854775807:=by first | (rw [List.length_map] at hbd19;exact hbd19) | simp
    refine R.lp (β:=Int) [(1,.lptr 64 0),(8,.slice (b0.Setup.map l_int)),(9,int (b0.Setup.length:Int)),(10,int z8),(17,.slice (x9.map int)),(18,int (x9.length:Int))] [(64,.blk true [.slice (b0.Steps.map B0m),.slice (b0.Setup.map l_int)])] (fun bb S=>(19,int bb)::S) (fun bb M=>M) (fun n bb=>0≤bb∧bb+n=(x9.length:Int)∧C0d (x9.drop bb.toNat) bb=some o13) x9.length (0:Int) ⟨Int.le_refl _,by simp,h⟩ ?_
    clear h
    rintro JJ19 n19 z20 hag19 ⟨hza19,hzb19,h⟩
    refine Run.sr (X.bi ?_)
    refine X.nil (Run.seq ?_)
    refine R.cd (fun hc23=>?_) (fun hc23=>?_)
    ·obtain ⟨x21,xs22,hd19,hx19,hds19,hlt19⟩:=A0q hza19 hc23
     rw [hd19] at h
     rw [C0d] at h
     refine Run.skip (Run.seq (Run.block (Run.sr (X.ix elt25 (A0a hx19).1 (A0b int hx19) ?_))))
     refine X.lc shp3 ?_
     refine X.an ?_
     refine Run.sr (X.mv ?_)
     obtain ⟨v24,hv24,h⟩:=bindE h
     refine X.cp (C0p _ _ _ _ hv24) ?_
     refine X.un (h:=?_)
     refine X.nil ?_
     refine R.cd (fun hc25=>?_) (fun hc25=>?_)
     ·replace h:=condT hc25 h
      refine Run.sr (X.an ?_)
      cases h
      have h:=hup14
      replace h:=elimR h
      cases h
      have h:=hup2
      replace h:=elimR h
      cases h
      refine R.f1 Tryz.results62 ?_
      rfl
     replace h:=condF hc25 h
     refine Run.skip (Run.blk (Run.reg (X.ad ?_)))
     refine X.mn ?_
     exact R.ag hag19 (n19 - 1) (z20+1) (R.n3 (by first | (rw [hds19];exact h) | (dsimp only;rw [hds19];exact h)))
    rw [A0j hza19 hc23] at h
    rw [C0d] at h
    refine Run.exit (by rfl) ?_
    exact R.mt hmeet15 () (Option.some.inj h)
   rintro p26 rfl
   replace h:=elimL h
   refine Run.blk (Run.reg (X.ad ?_))
   refine X.mn ?_
   exact R.ag hag7 (n7 - 1) (z8+1) (R.n3 (by first | (rw [hds7];exact h) | (dsimp only;rw [hds7];exact h)))
  rw [A0j hza7 hc11] at h
  rw [B0f] at h
  refine Run.exit (by rfl) ?_
  exact R.mt hmeet3 () (Option.some.inj h)
 rintro p28 rfl
 replace h:=elimL h
 refine Run.seq ?_
 obtain ⟨v30,hv30,h⟩:=bindE h
 obtain ⟨e31,he31,h2⟩:=bindE h
 refine R.regG [(2,bool e31)] [] ?_ ?_
 ·clear h;have h:=he31;clear he31 h2
  refine X.fl W0i ?_
  refine X.ld shp58 ?_
  refine X.cp (B1y _ _ hv30) ?_
  refine X.mv ?_
  refine X.iG (fun hb32=>?_) (fun hb32=>?_)
  ·replace h:=condT hb32 h
   refine X.fl P0m ?_
   refine X.gy (X.ld shp59 ?_)
   refine X.gy (X.ls elt59 ?_)
   refine X.gy (X.bi ?_)
   refine X.gy (X.mv ?_)
   refine X.iG (fun hb33=>?_) (fun hb33=>?_)
   ·replace h:=condF hb33 h
    refine X.fl P0m ?_
    refine X.gy (X.ld shp59 ?_)
    refine X.gy (X.ls elt59 ?_)
    refine X.gy (X.bi ?_)
    refine X.gy (X.pF ?_)
    refine X.pT ?_
    refine X.as ?_
    cases h
    exact X.eG
   replace h:=condT hb33 h
   refine X.gn (X.gn (X.gn (X.gy (X.pT ?_))))
   refine X.pT ?_
   refine X.as ?_
   cases h
   exact X.eG
  replace h:=condF hb32 h
  refine X.gn (X.gn (X.gn (X.gn (X.gU (h:=?_)))))
  refine X.gU (h:=?_)
  refine X.gU (h:=?_)
  refine X.gU (h:=?_)
  refine X.gn (X.pF ?_)
  refine X.as ?_
  cases h
  exact X.eG
 replace h:=h2;clear h2
 cases h
 refine R.f1 Tryz.results62 ?_
 rfl
theorem S0r (b0:A0d)(r:Bool)(h:H0o b0=some r):PC Tryz.prog 23 [A0v b0] (bool r):=by
 unfold H0o at h
 refine PC.start Tryz.func23 Tryz.ntmps23 rfl (by kernel_rfl) rfl ?_
 refine Run.sr (X.bx ?_)
 refine X.an ?_
 refine Run.sr (X.fl D0p ?_)
 refine X.ld shp30 ?_
 refine X.ls elt30 ?_
 refine X.an ?_
 refine Run.seq (Run.seq ?_)
 obtain ⟨v1,hv1,h⟩:=bindE h
 obtain ⟨e2,he2,h2⟩:=bindE h
 refine R.regG [(1,.lptr 64 0),(3,int (b0.Activities.length:Int)),(41,bool e2)] [(64,.blk true [int b0.Deadline,.slice (b0.Activities.map A0c),.slice (b0.Links.map A0k),.slice (b0.Resources.map A0e),.slice (b0.Stocks.map int)])] ?_ ?_
 ·clear h;have h:=he2;clear he2 h2
  refine X.fl T0l ?_
  refine X.ld shp3 ?_
  refine X.cp (C0p _ _ _ _ hv1) ?_
  refine X.un (h:=?_)
  refine X.mv ?_
  refine X.iG (fun hb3=>?_) (fun hb3=>?_)
  ·replace h:=condF hb3 h
   refine X.mv ?_
   refine X.gy ?_
   obtain ⟨v4,hv4,h⟩:=bindE h
   refine X.cp (C0p _ _ _ _ hv4) ?_
   refine X.gy (X.un (h:=?_))
   refine X.pF ?_
   refine X.mv ?_
   refine X.iG (fun hb5=>?_) (fun hb5=>?_)
   ·replace h:=condF hb5 h
    refine X.fl P0k ?_
    refine X.gy (X.ld shp32 ?_)
    refine X.gy (X.ls elt32 ?_)
    refine X.gy (X.bi ?_)
    refine X.pF ?_
    refine X.mv ?_
    refine X.iG (fun hb6=>?_) (fun hb6=>?_)
    ·replace h:=condF hb6 h
     refine X.fl P0j ?_
     refine X.gy (X.ld shp25 ?_)
     refine X.gy (X.ls elt25 ?_)
     refine X.gy (X.bi ?_)
     refine X.pF ?_
     refine X.mv ?_
     refine X.iG (fun hb7=>?_) (fun hb7=>?_)
     ·replace h:=condF hb7 h
      refine X.fl G0s ?_
      refine X.gy (X.ld shp31 ?_)
      refine X.gy (X.ls elt31 ?_)
      refine X.gy (X.bi ?_)
      refine X.pF ?_
      cases h
      exact X.eG
     replace h:=condT hb7 h
     refine X.gn (X.gn (X.gn (X.pT ?_)))
     cases h
     exact X.eG
    replace h:=condT hb6 h
    refine X.gn (X.gn (X.gn (X.pT ?_)))
    refine X.mv ?_
    refine X.gn (X.gn (X.gn (X.gn (X.pT ?_))))
    cases h
    exact X.eG
   replace h:=condT hb5 h
   refine X.gn (X.gn (X.gn (X.pT ?_)))
   refine X.mv ?_
   refine X.gn (X.gn (X.gn (X.gn (X.pT ?_))))
   refine X.mv ?_
   refine X.gn (X.gn (X.gn (X.gn (X.pT ?_))))
   cases h
   exact X.eG
  replace h:=condT hb3 h
  refine X.gn (X.gn (X.pT ?_))
  refine X.mv ?_
  refine X.gn (X.gn (X.gn (X.gn (X.pT ?_))))
  refine X.mv ?_
  refine X.gn (X.gn (X.gn (X.gn (X.pT ?_))))
  refine X.mv ?_
  refine X.gn (X.gn (X.gn (X.gn (X.pT ?_))))
  cases h
  exact X.eG
 replace h:=h2;clear h2
 refine R.cd (fun hc8=>?_) (fun hc8=>?_)
 ·replace h:=condT hc8 h
  refine Run.sr (X.an ?_)
  cases h
  refine R.f1 Tryz.results23 ?_
  rfl
 replace h:=condF hc8 h
 refine Run.skip (Run.seq (Run.sr (X.fl D0p ?_)))
 refine X.ld shp30 ?_
 refine X.ls elt30 ?_
 refine X.mn ?_
 obtain ⟨o9,ho9,h⟩:=bindE h
 refine R.join2 (β:=Unit) [(1,.lptr 64 0),(3,int (b0.Activities.length:Int))] [(64,.blk true [int b0.Deadline,.slice (b0.Activities.map A0c),.slice (b0.Links.map A0k),.slice (b0.Resources.map A0e),.slice (b0.Stocks.map int)])] (fun p25 S=>S) (fun p25 M=>M) (fun p25=>(Sum.inl p25)=o9) ?_ ?_
 ·intro JJ12 hmeet11
  have hup10:=h;clear h;have h:=ho9;clear ho9
  refine Run.block ?_
  refine R.bndS (t:=43) (by rfl) (fun hbd15=>?_)
  replace hbd15:b0.Activities.length≤9223372036854775807:=by first | (rw [List.length_map] at hbd15;exact hbd15) | simp
  refine R.lp (β:=Int) [(1,.lptr 64 0),(3,int (b0.Activities.length:Int)),(43,.slice (b0.Activities.map A0c)),(44,int (b0.Activities.length:Int))] [(64,.blk true [int b0.Deadline,.slice (b0.Activities.map A0c),.slice (b0.Links.map A0k),.slice (b0.Resources.map A0e),.slice (b0.Stocks.map int)])] (fun bb S=>(45,int bb)::S) (fun bb M=>M) (fun n bb=>0≤bb∧bb+n=(b0.Activities.length:Int)∧E0e b0 (b0.Activities.drop bb.toNat) bb=some o9) b0.Activities.length (0:Int) ⟨Int.le_refl _,by simp,h⟩ ?_
  clear h
  rintro JJ15 n15 z16 hag15 ⟨hza15,hzb15,h⟩
  refine Run.sr (X.bi ?_)
  refine X.nil (Run.seq ?_)
  refine R.cd (fun hc19=>?_) (fun hc19=>?_)
  ·obtain ⟨x17,xs18,hd15,hx15,hds15,hlt15⟩:=A0q hza15 hc19
   rw [hd15] at h
   rw [E0e] at h
   refine Run.skip (Run.seq (Run.block (Run.sr (X.mv ?_))))
   refine X.ix elt30 (A0a hx15).1 (A0b A0c hx15) ?_
   refine X.lc shp50 ?_
   refine X.alloc zer50 (h:=?_)
   refine X.as ?_
   refine X.sl shp50 ?_
   refine X.nil (Run.seq ?_)
   obtain ⟨v20,hv20,h⟩:=bindE h
   obtain ⟨e21,he21,h2⟩:=bindE h
   refine R.regG [(1,.lptr 64 0),(3,int (b0.Activities.length:Int)),(43,.slice (b0.Activities.map A0c)),(44,int (b0.Activities.length:Int)),(45,int z16),(66,bool e21)] [(64,.blk true [int b0.Deadline,.slice (b0.Activities.map A0c),.slice (b0.Links.map A0k),.slice (b0.Resources.map A0e),.slice (b0.Stocks.map int)])] ?_ ?_
   ·clear h;have h:=he21;clear he21 h2
    refine X.ld shp50 ?_
    refine X.fl P0k ?_
    refine X.ld shp32 ?_
    refine X.ls elt32 ?_
    refine X.fl P0j ?_
    refine X.ld shp25 ?_
    refine X.ls elt25 ?_
    refine X.cp (Z0q _ _ _ _ hv20) ?_
    refine X.un (h:=?_)
    refine X.mv ?_
    refine X.iG (fun hb22=>?_) (fun hb22=>?_)
    ·replace h:=condF hb22 h
     refine X.ld shp34 ?_
     refine X.gy (X.fl P0n ?_)
     refine X.gy (X.ld shp9 ?_)
     refine X.gy ?_
     obtain ⟨v23,hv23,h⟩:=bindE h
     refine X.cp (V0g _ _ _ hv23) ?_
     refine X.gy (X.mv ?_)
     refine X.gy (X.bi ?_)
     refine X.pF ?_
     cases h
     exact X.eG
    replace h:=condT hb22 h
    refine X.gn (X.gn (X.gn (X.gn (X.gn (X.pT ?_)))))
    cases h
    exact X.eG
   replace h:=h2;clear h2
   refine R.cd (fun hc24=>?_) (fun hc24=>?_)
   ·replace h:=condT hc24 h
    refine Run.sr (X.an ?_)
    cases h
    have h:=hup10
    replace h:=elimR h
    cases h
    refine R.f1 Tryz.results23 ?_
    rfl
   replace h:=condF hc24 h
   refine Run.skip (Run.blk (Run.reg (X.ad ?_)))
   refine X.mn ?_
   exact R.ag hag15 (n15 - 1) (z16+1) (R.n3 (by first | (rw [hds15];exact h) | (dsimp only;rw [hds15];exact h)))
  rw [A0j hza15 hc19] at h
  rw [E0e] at h
  refine Run.exit (by rfl) ?_
  exact R.mt hmeet11 () (Option.some.inj h)
 rintro p25 rfl
 replace h:=elimL h
 refine Run.seq (Run.sr (X.fl P0k ?_))
 refine X.ld shp32 ?_
 refine X.ls elt32 ?_
 refine X.mn ?_
 obtain ⟨o27,ho27,h⟩:=bindE h
 refine R.join2 (β:=Unit) [(1,.lptr 64 0),(3,int (b0.Activities.length:Int))] [(64,.blk true [int b0.Deadline,.slice (b0.Activities.map A0c),.slice (b0.Links.map A0k),.slice (b0.Resources.map A0e),.slice (b0.Stocks.map int)])] (fun p40 S=>S) (fun p40 M=>M) (fun p40=>(Sum.inl p40)=o27) ?_ ?_
 ·intro JJ30 hmeet29
  have hup28:=h;clear h;have h:=ho27;clear ho27
  refine Run.block ?_
  refine R.bndS (t:=69) (by rfl) (fun hbd33=>?_)
  replace hbd33:b0.Resources.length≤9223372036854775807:=by first | (rw [List.length_map] at hbd33;exact hbd33) | simp
  refine R.lp (β:=Int) [(1,.lptr 64 0),(3,int (b0.Activities.length:Int)),(69,.slice (b0.Resources.map A0e)),(70,int (b0.Resources.length:Int))] [(64,.blk true [int b0.Deadline,.slice (b0.Activities.map A0c),.slice (b0.Links.map A0k),.slice (b0.Resources.map A0e),.slice (b0.Stocks.map int)])] (fun bb S=>(71,int bb)::S) (fun bb M=>M) (fun n bb=>0≤bb∧bb+n=(b0.Resources.length:Int)∧E0g (b0.Resources.drop bb.toNat) bb=some o27) b0.Resources.length (0:Int) ⟨Int.le_refl _,by simp,h⟩ ?_
  clear h
  rintro JJ33 n33 z34 hag33 ⟨hza33,hzb33,h⟩
  refine Run.sr (X.bi ?_)
  refine X.nil (Run.seq ?_)
  refine R.cd (fun hc37=>?_) (fun hc37=>?_)
  ·obtain ⟨x35,xs36,hd33,hx33,hds33,hlt33⟩:=A0q hza33 hc37
   rw [hd33] at h
   rw [E0g] at h
   refine Run.skip (Run.seq (Run.block (Run.sr (X.ix elt32 (A0a hx33).1 (A0b A0e hx33) ?_))))
   refine X.lc shp61 ?_
   refine X.alloc zer61 (h:=?_)
   refine X.sl shp61 ?_
   refine X.nil (Run.sr (X.ld shp61 ?_))
   obtain ⟨v38,hv38,h⟩:=bindE h
   refine X.cp (Y0w _ _ hv38) ?_
   refine X.un (h:=?_)
   refine X.nil ?_
   refine R.cd (fun hc39=>?_) (fun hc39=>?_)
   ·replace h:=condT hc39 h
    refine Run.sr (X.an ?_)
    cases h
    have h:=hup28
    replace h:=elimR h
    cases h
    refine R.f1 Tryz.results23 ?_
    rfl
   replace h:=condF hc39 h
   refine Run.skip (Run.blk (Run.reg (X.ad ?_)))
   refine X.mn ?_
   exact R.ag hag33 (n33 - 1) (z34+1) (R.n3 (by first | (rw [hds33];exact h) | (dsimp only;rw [hds33];exact h)))
  rw [A0j hza33 hc37] at h
  rw [E0g] at h
  refine Run.exit (by rfl) ?_
  exact R.mt hmeet29 () (Option.some.inj h)
 rintro p40 rfl
 replace h:=elimL h
 refine Run.seq (Run.sr (X.fl P0j ?_))
 refine X.ld shp25 ?_
 refine X.ls elt25 ?_
 refine X.mn ?_
 obtain ⟨o42,ho42,h⟩:=bindE h
 refine R.join2 (β:=Unit) [(1,.lptr 64 0),(3,int (b0.Activities.length:Int))] [(64,.blk true [int b0.Deadline,.slice (b0.Activities.map A0c),.slice (b0.Links.map A0k),.slice (b0.Resources.map A0e),.slice (b0.Stocks.map int)])] (fun p55 S=>S) (fun p55 M=>M) (fun p55=>(Sum.inl p55)=o42) ?_ ?_
 ·intro JJ45 hmeet44
  have hup43:=h;clear h;have h:=ho42;clear ho42
  refine Run.block ?_
  refine R.bndS (t:=80) (by rfl) (fun hbd48=>?_)
  replace hbd48:b0.Stocks.length≤9223372036854775807:=by first | (rw [List.length_map] at hbd48;exact hbd48) | simp
  refine R.lp (β:=Int) [(1,.lptr 64 0),(3,int (b0.Activities.length:Int)),(80,.slice (b0.Stocks.map int)),(81,int (b0.Stocks.length:Int))] [(64,.blk true [int b0.Deadline,.slice (b0.Activities.map A0c),.slice (b0.Links.map A0k),.slice (b0.Resources.map A0e),.slice (b0.Stocks.map int)])] (fun bb S=>(82,int bb)::S) (fun bb M=>M) (fun n bb=>0≤bb∧bb+n=(b0.Stocks.length:Int)∧E0d (b0.Stocks.drop bb.toNat) bb=some o42) b0.Stocks.length (0:Int) ⟨Int.le_refl _,by simp,h⟩ ?_
  clear h
  rintro JJ48 n48 z49 hag48 ⟨hza48,hzb48,h⟩
  refine Run.sr (X.bi ?_)
  refine X.nil (Run.seq ?_)
  refine R.cd (fun hc52=>?_) (fun hc52=>?_)
  ·obtain ⟨x50,xs51,hd48,hx48,hds48,hlt48⟩:=A0q hza48 hc52
   rw [hd48] at h
   rw [E0d] at h
   refine Run.skip (Run.seq (Run.block (Run.sr (X.ix elt25 (A0a hx48).1 (A0b int hx48) ?_))))
   refine X.lc shp3 ?_
   refine X.an ?_
   refine Run.sr (X.mv ?_)
   obtain ⟨v53,hv53,h⟩:=bindE h
   refine X.cp (C0p _ _ _ _ hv53) ?_
   refine X.un (h:=?_)
   refine X.nil ?_
   refine R.cd (fun hc54=>?_) (fun hc54=>?_)
   ·replace h:=condT hc54 h
    refine Run.sr (X.an ?_)
    cases h
    have h:=hup43
    replace h:=elimR h
    cases h
    refine R.f1 Tryz.results23 ?_
    rfl
   replace h:=condF hc54 h
   refine Run.skip (Run.blk (Run.reg (X.ad ?_)))
   refine X.mn ?_
   exact R.ag hag48 (n48 - 1) (z49+1) (R.n3 (by first | (rw [hds48];exact h) | (dsimp only;rw [hds48];exact h)))
  rw [A0j hza48 hc52] at h
  rw [E0d] at h
  refine Run.exit (by rfl) ?_
  exact R.mt hmeet44 () (Option.some.inj h)
 rintro p55 rfl
 replace h:=elimL h
 refine Run.seq (Run.sr (X.fl G0s ?_))
 refine X.ld shp31 ?_
 refine X.ls elt31 ?_
 refine X.mn ?_
 obtain ⟨o57,ho57,h⟩:=bindE h
 refine R.join2 (β:=Unit) [] [] (fun p76 S=>S) (fun p76 M=>M) (fun p76=>(Sum.inl p76)=o57) ?_ ?_
 ·intro JJ60 hmeet59
  have hup58:=h;clear h;have h:=ho57;clear ho57
  refine Run.block ?_
  refine R.bndS (t:=91) (by rfl) (fun hbd63=>?_)
  replace hbd63:b0.Links.length≤9223372036854775807:=by first | (rw [List.length_map] at hbd63;exact hbd63) | simp
  refine R.lp (β:=Int) [(3,int (b0.Activities.length:Int)),(91,.slice (b0.Links.map A0k)),(92,int (b0.Links.length:Int))] [] (fun bb S=>(93,int bb)::S) (fun bb M=>M) (fun n bb=>0≤bb∧bb+n=(b0.Links.length:Int)∧B0w b0 (b0.Links.drop bb.toNat) bb=some o57) b0.Links.length (0:Int) ⟨Int.le_refl _,by simp,h⟩ ?_
  clear h
  rintro JJ63 n63 z64 hag63 ⟨hza63,hzb63,h⟩
  refine Run.sr (X.bi ?_)
  refine X.nil (Run.seq ?_)
  refine R.cd (fun hc67=>?_) (fun hc67=>?_)
  ·obtain ⟨x65,xs66,hd63,hx63,hds63,hlt63⟩:=A0q hza63 hc67
   rw [hd63] at h
   rw [B0w] at h
   refine Run.skip (Run.seq (Run.block (Run.sr (X.ix elt31 (A0a hx63).1 (A0b A0k hx63) ?_))))
   refine X.lc shp87 ?_
   refine X.alloc zer87 (h:=?_)
   refine X.sl shp87 ?_
   refine X.nil (Run.seq ?_)
   obtain ⟨v68,hv68,h⟩:=bindE h
   obtain ⟨e69,he69,h2⟩:=bindE h
   refine R.regG [(3,int (b0.Activities.length:Int)),(91,.slice (b0.Links.map A0k)),(92,int (b0.Links.length:Int)),(93,int z64),(123,bool e69)] [] ?_ ?_
   ·clear h;have h:=he69;clear he69 h2
    refine X.fl G0x ?_
    refine X.ld shp3 ?_
    refine X.mv ?_
    refine X.subW (h:=?_)
    refine X.cp (C0p _ _ _ _ hv68) ?_
    refine X.un (h:=?_)
    refine X.mv ?_
    refine X.iG (fun hb70=>?_) (fun hb70=>?_)
    ·replace h:=condF hb70 h
     refine X.fl J0c ?_
     refine X.gy (X.ld shp3 ?_)
     refine X.gy (X.mv ?_)
     refine X.gy (X.subW (h:=?_))
     refine X.gy ?_
     obtain ⟨v71,hv71,h⟩:=bindE h
     refine X.cp (C0p _ _ _ _ hv71) ?_
     refine X.gy (X.un (h:=?_))
     refine X.pF ?_
     refine X.mv ?_
     refine X.iG (fun hb72=>?_) (fun hb72=>?_)
     ·replace h:=condF hb72 h
      refine X.fl G0x ?_
      refine X.gy (X.ld shp3 ?_)
      refine X.gy (X.fl J0c ?_)
      refine X.gy (X.ld shp3 ?_)
      refine X.gy (X.bi ?_)
      refine X.pF ?_
      refine X.mv ?_
      refine X.iG (fun hb73=>?_) (fun hb73=>?_)
      ·replace h:=condF hb73 h
       refine X.fl P0o ?_
       refine X.gy (X.ld shp3 ?_)
       refine X.gy ?_
       obtain ⟨v74,hv74,h⟩:=bindE h
       refine X.cp (C0p _ _ _ _ hv74) ?_
       refine X.gy (X.un (h:=?_))
       refine X.pF ?_
       cases h
       exact X.eG
      replace h:=condT hb73 h
      refine X.gn (X.gn (X.gn (X.pT ?_)))
      cases h
      exact X.eG
     replace h:=condT hb72 h
     refine X.gn (X.gn (X.gn (X.gn (X.pT ?_))))
     refine X.mv ?_
     refine X.gn (X.gn (X.gn (X.gn (X.pT ?_))))
     cases h
     exact X.eG
    replace h:=condT hb70 h
    refine X.gn (X.gn (X.gn (X.gn (X.gn (X.pT ?_)))))
    refine X.mv ?_
    refine X.gn (X.gn (X.gn (X.gn (X.gn (X.pT ?_)))))
    refine X.mv ?_
    refine X.gn (X.gn (X.gn (X.gn (X.pT ?_))))
    cases h
    exact X.eG
   replace h:=h2;clear h2
   refine R.cd (fun hc75=>?_) (fun hc75=>?_)
   ·replace h:=condT hc75 h
    refine Run.sr (X.an ?_)
    cases h
    have h:=hup58
    replace h:=elimR h
    cases h
    refine R.f1 Tryz.results23 ?_
    rfl
   replace h:=condF hc75 h
   refine Run.skip (Run.blk (Run.reg (X.ad ?_)))
   refine X.mn ?_
   exact R.ag hag63 (n63 - 1) (z64+1) (R.n3 (by first | (rw [hds63];exact h) | (dsimp only;rw [hds63];exact h)))
  rw [A0j hza63 hc67] at h
  rw [B0w] at h
  refine Run.exit (by rfl) ?_
  exact R.mt hmeet59 () (Option.some.inj h)
 rintro p76 rfl
 replace h:=elimL h
 refine Run.sr (X.an ?_)
 cases h
 refine R.f1 Tryz.results23 ?_
 rfl
theorem B1b (b0:Int)(r:List Int)(h:L0m b0=some r):PC Tryz.prog 66 [int b0] (.fresh false 3 1 (r.map int)):=by
 unfold L0m at h
 refine PC.start Tryz.func66 Tryz.ntmps66 rfl (by kernel_rfl) rfl ?_
 refine Run.sr (X.an ?_)
 refine Run.sr ?_
 refine X.buildSlice false elt25 zer3 (by rfl) (by rfl) (by rfl) (by rfl) (by rfl) (by rfl) (by repeat (first | trivial | refine ⟨by first | rfl | simp [setL],?_⟩)) (A0w (by rfl)) (by rfl) (by rfl) (by rfl) ?_
 refine X.an ?_
 refine Run.seq (Run.sr (X.mv ?_))
 obtain ⟨v1,hv1,h⟩:=bindE h
 refine X.cp (C0p _ _ _ _ hv1) ?_
 refine X.un (h:=?_)
 refine X.nil ?_
 refine R.cd (fun hc2=>?_) (fun hc2=>?_)
 ·replace h:=condT hc2 h
  refine Run.sr (X.an ?_)
  cases h
  refine R.fin1n (x:=false) (e:=3) (sz:=1) Tryz.results66 (by rfl) (by decide) ?_
  rfl
 replace h:=condF hc2 h
 refine Run.skip (Run.seq (Run.sr (X.an ?_)))
 obtain ⟨o3,ho3,h⟩:=bindE h
 refine R.join2 (β:=(List Int)) [] [] (fun p15 S=>(3,.own 320 (p15.map int).length)::S) (fun p15 M=>(320,.obj false 3 1 (p15.map int))::M) (fun p15=>p15=o3) ?_ ?_
 ·intro JJ6 hmeet5
  have hup4:=h;clear h;have h:=ho3;clear ho3
  refine Run.block ?_
  refine R.lp (β:=Int×(List Int)) [(0,int b0)] [] (fun bb S=>(3,.own 320 (bb.2.map int).length)::(4,int bb.1)::S) (fun bb M=>(320,.obj false 3 1 (bb.2.map int))::M) (fun n bb=>F0f b0 n bb.1 bb.2=some o3) F0 (0,([]:List Int)) h ?_
  clear h
  rintro JJ7 n7 ⟨a9,a10⟩ hag7 h
  dsimp only at h
  obtain _ | n7:=n7
  ·exact absurd h (by simp [F0f])
  rw [F0f] at h
  refine Run.seq (Run.sr (X.mv ?_))
  refine X.mv ?_
  refine X.bi ?_
  refine X.nil ?_
  refine R.cd (fun hc13=>?_) (fun hc13=>?_)
  ·replace h:=condT hc13 h
   refine Run.skip (Run.seq (Run.block (Run.reg (X.mv ?_))))
   refine X.mv ?_
   refine X.buildSlice false elt25 zer3 (by rfl) (by rfl) (by rfl) (by rfl) (by rfl) (by rfl) (by repeat (first | trivial | refine ⟨by first | rfl | simp [setL],?_⟩)) (A0w (by rfl)) (by rfl) (by rfl) (by rfl) ?_
   obtain ⟨v14,hv14,h⟩:=bindE h
   refine X.append elt25 zer3 (by rfl) (by rfl) (by first | rfl | simp [setL] | omega) (by rfl) (.own _ _ _ _ _ _ (A0f (by rfl)) (by first | rfl | simp [setL] | omega)) (A0w (by rfl)) (G0u int hv14) (G0t int hv14) (by rfl) (by rfl) (by rfl) (by rfl) ?_
   refine X.an ?_
   refine Run.blk (Run.reg (X.mv ?_))
   refine X.addW (h:=?_)
   refine X.an ?_
   exact hag7 n7 ((W (a9+1)),v14) _ _ (by omega) h (by repeat (first | trivial | refine ⟨by first | rfl | simp [setL],?_⟩)) (by repeat (first | trivial | refine ⟨by first | rfl | simp [setL],?_⟩)) (by rfl) (by rfl)
  replace h:=condF hc13 h
  refine Run.exit (by rfl) ?_
  exact R.mt hmeet5 a10 (Option.some.inj h)
 rintro p15 rfl
 refine Run.sr (X.mv ?_)
 refine X.an ?_
 cases h
 refine R.fin1o Tryz.results66 (by rfl) (by rfl) (by first | rfl | simp [setL] | omega) ?_
 rfl
theorem R0a (b0:A0g)(r:List Int)(h:F0e b0=some r):PC Tryz.prog 27 [A0c b0] (.fresh false 3 1 (r.map int)):=by
 unfold F0e at h
 refine PC.start Tryz.func27 Tryz.ntmps27 rfl (by kernel_rfl) rfl ?_
 refine Run.sr (X.bx ?_)
 refine X.an ?_
 refine Run.sr (X.fl M0k ?_)
 refine X.ld shp48 ?_
 refine X.ls elt48 ?_
 obtain ⟨v1,hv1,h⟩:=bindE h
 refine X.callF (B1b _ _ hv1) (by rfl) (by rfl) (by rfl) (by trivial) (by rfl) (by rfl) (by rfl) (by rfl) ?_
 refine X.an ?_
 cases h
 refine R.fin1o Tryz.results27 (by rfl) (by rfl) (by first | rfl | simp [setL] | omega) ?_
 rfl
theorem D1z (b0:List Int)(b1:Int)(r:Bool)(h:V0p b0 b1=some r):PC Tryz.prog 116 [.slice (b0.map int),int b1] (bool r):=by
 unfold V0p at h
 refine PC.start Tryz.func116 Tryz.ntmps116 rfl (by kernel_rfl) rfl ?_
 refine Run.sr (X.an ?_)
 refine Run.seq (Run.sr (X.mv ?_))
 refine X.ls elt25 ?_
 refine X.mn ?_
 obtain ⟨o1,ho1,h⟩:=bindE h
 refine R.join2 (β:=Unit) [] [] (fun p13 S=>S) (fun p13 M=>M) (fun p13=>(Sum.inl p13)=o1) ?_ ?_
 ·intro JJ4 hmeet3
  have hup2:=h;clear h;have h:=ho1;clear ho1
  refine Run.block ?_
  refine R.bndS (t:=0) (by rfl) (fun hbd7=>?_)
  replace hbd7:b0.length≤9223372036854775807:=by first | (rw [List.length_map] at hbd7;exact hbd7) | simp
  refine R.lp (β:=Int) [(1,int b1),(7,.slice (b0.map int)),(8,int (b0.length:Int))] [] (fun bb S=>(9,int bb)::S) (fun bb M=>M) (fun n bb=>0≤bb∧bb+n=(b0.length:Int)∧K0d b1 (b0.drop bb.toNat) bb=some o1) b0.length (0:Int) ⟨Int.le_refl _,by simp,h⟩ ?_
  clear h
  rintro JJ7 n7 z8 hag7 ⟨hza7,hzb7,h⟩
  refine Run.sr (X.bi ?_)
  refine X.nil (Run.seq ?_)
  refine R.cd (fun hc11=>?_) (fun hc11=>?_)
  ·obtain ⟨x9,xs10,hd7,hx7,hds7,hlt7⟩:=A0q hza7 hc11
   rw [hd7] at h
   rw [K0d] at h
   refine Run.skip (Run.seq (Run.block (Run.sr (X.ix elt25 (A0a hx7).1 (A0b int hx7) ?_))))
   refine X.lc shp3 ?_
   refine X.an ?_
   refine Run.sr (X.mv ?_)
   refine X.mv ?_
   refine X.bi ?_
   refine X.nil ?_
   refine R.cd (fun hc12=>?_) (fun hc12=>?_)
   ·replace h:=condT hc12 h
    refine Run.sr (X.an ?_)
    cases h
    have h:=hup2
    replace h:=elimR h
    cases h
    refine R.f1 Tryz.results116 ?_
    rfl
   replace h:=condF hc12 h
   refine Run.skip (Run.blk (Run.reg (X.ad ?_)))
   refine X.mn ?_
   exact R.ag hag7 (n7 - 1) (z8+1) (R.n3 (by first | (rw [hds7];exact h) | (dsimp only;rw [hds7];exact h)))
  rw [A0j hza7 hc11] at h
  rw [K0d] at h
  refine Run.exit (by rfl) ?_
  exact R.mt hmeet3 () (Option.some.inj h)
 rintro p13 rfl
 replace h:=elimL h
 refine Run.sr (X.an ?_)
 cases h
 refine R.f1 Tryz.results116 ?_
 rfl
theorem Q0w (b0:A0g)(b1:List Int)(r:Int)(h:G0c b0 b1=some r):PC Tryz.prog 115 [A0c b0,.slice (b1.map int)] (int r):=by
 unfold G0c at h
 refine PC.start Tryz.func115 Tryz.ntmps115 rfl (by kernel_rfl) rfl ?_
 refine Run.sr (X.bx ?_)
 refine X.an ?_
 refine Run.sr (X.an ?_)
 refine Run.sr (X.an ?_)
 refine Run.seq (Run.sr (X.fl M0k ?_))
 refine X.ld shp48 ?_
 refine X.ls elt48 ?_
 refine X.mn ?_
 obtain ⟨o1,ho1,h⟩:=bindE h
 refine R.join2 (β:=Int) [] [] (fun p19 S=>(5,int p19)::S) (fun p19 M=>M) (fun p19=>p19=o1) ?_ ?_
 ·intro JJ4 hmeet3
  have hup2:=h;clear h;have h:=ho1;clear ho1
  refine Run.block ?_
  refine R.bndS (t:=10) (by rfl) (fun hbd7=>?_)
  replace hbd7:b0.Modes.length≤9223372036854775807:=by first | (rw [List.length_map] at hbd7;exact hbd7) | simp
  refine R.lp (β:=Int×Int×Bool) [(1,.slice (b1.map int)),(10,.slice (b0.Modes.map B0l)),(11,int (b0.Modes.length:Int))] [] (fun bb S=>(5,int bb.2.1)::(6,bool bb.2.2)::(12,int bb.1)::S) (fun bb M=>M) (fun n bb=>0≤bb.1∧bb.1+n=(b0.Modes.length:Int)∧D0u b1 (b0.Modes.drop bb.1.toNat) bb.1 bb.2.1 bb.2.2=some o1) b0.Modes.length (0,0,false) ⟨Int.le_refl _,by simp,h⟩ ?_
  clear h
  rintro JJ7 n7 ⟨z8,a9,a10⟩ hag7 ⟨hza7,hzb7,h⟩
  dsimp only at hza7 hzb7 h
  refine Run.sr (X.bi ?_)
  refine X.nil (Run.seq ?_)
  refine R.cd (fun hc13=>?_) (fun hc13=>?_)
  ·obtain ⟨x11,xs12,hd7,hx7,hds7,hlt7⟩:=A0q hza7 hc13
   rw [hd7] at h
   rw [D0u] at h
   refine Run.skip (Run.seq (Run.block (Run.sr (X.mv ?_))))
   refine X.ix elt48 (A0a hx7).1 (A0b B0l hx7) ?_
   refine X.lc L0g ?_
   refine X.alloc R0g (h:=?_)
   refine X.as ?_
   refine X.sl L0g ?_
   refine X.nil (Run.seq ?_)
   obtain ⟨v14,hv14,h⟩:=bindE h
   obtain ⟨e15,he15,h2⟩:=bindE h
   refine R.regG [(1,.slice (b1.map int)),(5,int a9),(6,bool a10),(8,.lptr 512 0),(10,.slice (b0.Modes.map B0l)),(11,int (b0.Modes.length:Int)),(12,int z8),(29,bool e15)] [(512,.blk true [int x11.Duration,.slice (x11.Usage.map int),.slice (x11.Consumption.map int)])] ?_ ?_
   ·clear h;have h:=he15;clear he15 h2
    refine X.mv ?_
    refine X.mv ?_
    refine X.cp (D1z _ _ _ hv14) ?_
    refine X.mv ?_
    refine X.iG (fun hb16=>?_) (fun hb16=>?_)
    ·replace h:=condT hb16 h
     refine X.mv ?_
     refine X.gy (X.un (h:=?_))
     refine X.gy (X.mv ?_)
     refine X.iG (fun hb17=>?_) (fun hb17=>?_)
     ·replace h:=condF hb17 h
      refine X.fl L0t ?_
      refine X.gy (X.ld shp3 ?_)
      refine X.gy (X.mv ?_)
      refine X.gy (X.bi ?_)
      refine X.gy (X.pF ?_)
      refine X.pT ?_
      cases h
      exact X.eG
     replace h:=condT hb17 h
     refine X.gn (X.gn (X.gn (X.gy (X.pT ?_))))
     refine X.pT ?_
     cases h
     exact X.eG
    replace h:=condF hb16 h
    refine X.gn (X.gn (X.gU (h:=?_)))
    refine X.gU (h:=?_)
    refine X.gU (h:=?_)
    refine X.gU (h:=?_)
    refine X.gn (X.pF ?_)
    cases h
    exact X.eG
   replace h:=h2;clear h2
   refine R.cd (fun hc18=>?_) (fun hc18=>?_)
   ·replace h:=condT hc18 h
    refine Run.sr (X.fl L0t ?_)
    refine X.ld shp3 ?_
    refine X.an ?_
    refine Run.reg (X.an ?_)
    refine Run.blk (Run.reg (X.ad ?_))
    refine X.mn ?_
    exact R.ag hag7 (n7 - 1) (z8+1,x11.Duration,true) (R.n3 (by first | (rw [hds7];exact h) | (dsimp only;rw [hds7];exact h)))
   replace h:=condF hc18 h
   refine Run.skip (Run.blk (Run.reg (X.ad ?_)))
   refine X.mn ?_
   exact R.ag hag7 (n7 - 1) (z8+1,a9,a10) (R.n3 (by first | (rw [hds7];exact h) | (dsimp only;rw [hds7];exact h)))
  rw [A0j hza7 hc13] at h
  rw [D0u] at h
  refine Run.exit (by rfl) ?_
  exact R.mt hmeet3 a9 (Option.some.inj h)
 rintro p19 rfl
 refine Run.sr (X.mv ?_)
 refine X.an ?_
 cases h
 refine R.f1 Tryz.results115 ?_
 rfl
theorem F1l (b0:A0d)(b1:Int)(b2:List Int)(r:Int)(h:U0o b0 b1 b2=some r):PC Tryz.prog 166 [A0v b0,int b1,.slice (b2.map int)] (int r):=by
 unfold U0o at h
 refine PC.start Tryz.func166 Tryz.ntmps166 rfl (by kernel_rfl) rfl ?_
 refine Run.sr (X.bx ?_)
 refine X.an ?_
 refine Run.sr (X.fl G0s ?_)
 refine X.ld shp31 ?_
 refine X.mv ?_
 obtain ⟨v1,hv1,h⟩:=bindE h
 refine X.ix elt31 (A0a hv1).1 (A0b A0k hv1) ?_
 refine X.lc shp87 ?_
 refine X.alloc zer87 (h:=?_)
 refine X.sl shp87 ?_
 refine X.nil (Run.seq (Run.sr (X.fl W0e ?_)))
 refine X.ld shp4 ?_
 refine X.nil ?_
 refine R.cd (fun hc2=>?_) (fun hc2=>?_)
 ·replace h:=condT hc2 h
  refine Run.seq (Run.draw (D0a [(1,([448],[],[],[])),(3,([192],[],[],[])),(5,([448],[],[],[]))]) mixed (by kernel_rfl) (by kernel_rfl) ?_)
  refine X.fl P0o ?_
  refine X.ld shp3 ?_
  refine X.fl D0p ?_
  refine X.ld shp30 ?_
  refine X.fl G0x ?_
  refine X.ld shp3 ?_
  obtain ⟨v3,hv3,h⟩:=bindE h
  refine X.ix elt30 (A0a hv3).1 (A0b A0c hv3) ?_
  refine X.lc shp50 ?_
  refine X.mv ?_
  obtain ⟨v4,hv4,h⟩:=bindE h
  refine X.cp (Q0w _ _ _ hv4) ?_
  refine X.addW (h:=?_)
  refine X.an ?_
  cases h
  refine R.f1 Tryz.results166 ?_
  rfl
 replace h:=condF hc2 h
 refine Run.skip (Run.sr (X.fl P0o ?_))
 refine X.ld shp3 ?_
 refine X.an ?_
 cases h
 refine R.f1 Tryz.results166 ?_
 rfl
theorem Z0y (b0:A0d)(b1:Int)(r:Int)(h:L0v b0 b1=some r):PC Tryz.prog 152 [A0v b0,int b1] (int r):=by
 unfold L0v at h
 refine PC.start Tryz.func152 Tryz.ntmps152 rfl (by kernel_rfl) rfl ?_
 refine Run.sr (X.bx ?_)
 refine X.an ?_
 refine Run.seq (Run.draw (D0a [(0,([128],[],[],[])),(3,([128],[],[],[])),(5,([128],[],[],[])),(12,([],[1088],[],[])),(13,([1088],[],[],[]))]) mixed (by kernel_rfl) (by kernel_rfl) ?_)
 refine X.ld shp34 ?_
 refine X.mv ?_
 refine X.fl D0p ?_
 refine X.ld shp30 ?_
 refine X.fl G0s ?_
 refine X.ld shp31 ?_
 refine X.mv ?_
 obtain ⟨v1,hv1,h⟩:=bindE h
 refine X.ix elt31 (A0a hv1).1 (A0b A0k hv1) ?_
 refine X.fieldAddr_c G0x (by rfl) (by rfl) ?_
 refine X.lc shp3 ?_
 obtain ⟨v2,hv2,h⟩:=bindE h
 refine X.ix elt30 (A0a hv2).1 (A0b A0c hv2) ?_
 refine X.lc shp50 ?_
 obtain ⟨v3,hv3,h⟩:=bindE h
 refine X.callF (R0a _ _ hv3) (by rfl) (by rfl) (by rfl) (by trivial) (by rfl) (by rfl) (by rfl) (by rfl) ?_
 obtain ⟨v4,hv4,h⟩:=bindE h
 refine X.cp (F1l _ _ _ _ hv4) ?_
 refine X.an ?_
 cases h
 refine R.f1 Tryz.results152 ?_
 rfl
theorem A1g (rec:A0d→(List Int)→Int→Option (List Int))(hrec:∀(b0:A0d) (b1:List Int) (b2:Int) (r:List Int),rec b0 b1 b2=some r→PC Tryz.prog 151 [A0v b0,.slice (b1.map int),int b2] (.slice (r.map int)))(b0:A0d)(b1:List Int)(b2:Int)(r:List Int)(h:N0n rec b0 b1 b2=some r):PC Tryz.prog 151 [A0v b0,.slice (b1.map int),int b2] (.slice (r.map int)):=by
 unfold N0n at h
 refine PC.start Tryz.func151 Tryz.ntmps151 rfl (by kernel_rfl) rfl ?_
 refine Run.sr (X.bx ?_)
 refine X.an ?_
 refine Run.seq (Run.draw (D0a [(1,([192],[],[],[]))]) mixed (by kernel_rfl) (by kernel_rfl) ?_)
 refine X.fl G0s ?_
 refine X.ld shp31 ?_
 refine X.mv ?_
 obtain ⟨v1,hv1,h⟩:=bindE h
 refine X.ix elt25 (A0a hv1).1 (A0b int hv1) ?_
 refine X.lc shp3 ?_
 obtain ⟨v2,hv2,h⟩:=bindE h
 refine X.ix elt31 (A0a hv2).1 (A0b A0k hv2) ?_
 refine X.fieldAddr_c G0x (by rfl) (by rfl) ?_
 refine X.lc shp3 ?_
 refine X.an ?_
 refine Run.seq (Run.draw (D0a [(1,([192],[],[],[]))]) mixed (by kernel_rfl) (by kernel_rfl) ?_)
 refine X.fl G0s ?_
 refine X.ld shp31 ?_
 refine X.mv ?_
 refine X.mv ?_
 refine X.ls elt25 ?_
 refine X.subW (h:=?_)
 obtain ⟨v3,hv3,h⟩:=bindE h
 refine X.ix elt25 (A0a hv3).1 (A0b int hv3) ?_
 refine X.lc shp3 ?_
 obtain ⟨v4,hv4,h⟩:=bindE h
 refine X.ix elt31 (A0a hv4).1 (A0b A0k hv4) ?_
 refine X.fieldAddr_c J0c (by rfl) (by rfl) ?_
 refine X.lc shp3 ?_
 refine X.an ?_
 refine Run.seq (Run.sr (X.mv ?_))
 refine X.mv ?_
 refine X.bi ?_
 refine X.nil ?_
 refine R.cd (fun hc5=>?_) (fun hc5=>?_)
 ·replace h:=condT hc5 h
  refine Run.sr (X.an ?_)
  refine Run.seq (Run.sr (X.mv ?_))
  refine X.ls elt25 ?_
  refine X.mn ?_
  obtain ⟨o6,ho6,h⟩:=bindE h
  refine R.join2 (β:=Int) [(1,.slice (b1.map int)),(2,int b2)] [] (fun p19 S=>(9,int p19)::S) (fun p19 M=>M) (fun p19=>p19=o6) ?_ ?_
  ·intro JJ9 hmeet8
   have hup7:=h;clear h;have h:=ho6;clear ho6
   refine Run.block ?_
   refine R.bndS (t:=1) (by rfl) (fun hbd12=>?_)
   replace hbd12:b1.length≤9223372036854775807:=by first | (rw [List.length_map] at hbd12;exact hbd12) | simp
   refine R.lp (β:=Int×Int) [(1,.slice (b1.map int)),(2,int b2),(3,.lptr 192 0),(39,.slice (b1.map int)),(40,int (b1.length:Int))] [(192,.blk true [int b0.Deadline,.slice (b0.Activities.map A0c),.slice (b0.Links.map A0k),.slice (b0.Resources.map A0e),.slice (b0.Stocks.map int)])] (fun bb S=>(9,int bb.2)::(41,int bb.1)::S) (fun bb M=>M) (fun n bb=>0≤bb.1∧bb.1+n=(b1.length:Int)∧D0c b0 (b1.drop bb.1.toNat) bb.1 bb.2=some o6) b1.length (0,0) ⟨Int.le_refl _,by simp,h⟩ ?_
   clear h
   rintro JJ12 n12 ⟨z13,a14⟩ hag12 ⟨hza12,hzb12,h⟩
   dsimp only at hza12 hzb12 h
   refine Run.sr (X.bi ?_)
   refine X.nil (Run.seq ?_)
   refine R.cd (fun hc17=>?_) (fun hc17=>?_)
   ·obtain ⟨x15,xs16,hd12,hx12,hds12,hlt12⟩:=A0q hza12 hc17
    rw [hd12] at h
    rw [D0c] at h
    refine Run.skip (Run.seq (Run.block (Run.sr (X.ix elt25 (A0a hx12).1 (A0b int hx12) ?_))))
    refine X.lc shp3 ?_
    refine X.an ?_
    refine Run.reg (X.mv ?_)
    refine X.ld shp34 ?_
    refine X.mv ?_
    obtain ⟨v18,hv18,h⟩:=bindE h
    refine X.cp (Z0y _ _ _ hv18) ?_
    refine X.addW (h:=?_)
    refine X.an ?_
    refine Run.blk (Run.reg (X.ad ?_))
    refine X.mn ?_
    exact R.ag hag12 (n12 - 1) (z13+1,(W (a14+v18))) (R.n3 (by first | (rw [hds12];exact h) | (dsimp only;rw [hds12];exact h)))
   rw [A0j hza12 hc17] at h
   rw [D0c] at h
   refine Run.exit (by rfl) ?_
   exact R.mt hmeet8 a14 (Option.some.inj h)
  rintro p19 rfl
  refine Run.seq (Run.seq ?_)
  obtain ⟨e20,he20,h2⟩:=bindE h
  refine R.regG [(1,.slice (b1.map int)),(58,bool e20)] [] ?_ ?_
  ·clear h;have h:=he20;clear he20 h2
   refine X.mv ?_
   refine X.bi ?_
   refine X.mv ?_
   refine X.iG (fun hb21=>?_) (fun hb21=>?_)
   ·replace h:=condT hb21 h
    refine X.mv ?_
    refine X.gy (X.ls elt25 ?_)
    refine X.gy (X.mv ?_)
    refine X.gy (X.bi ?_)
    refine X.pT ?_
    cases h
    exact X.eG
   replace h:=condF hb21 h
   refine X.gn (X.gn (X.gn (X.pF ?_)))
   cases h
   exact X.eG
  replace h:=h2;clear h2
  refine R.cd (fun hc22=>?_) (fun hc22=>?_)
  ·replace h:=condT hc22 h
   refine Run.sr (X.mv ?_)
   refine X.an ?_
   cases h
   refine R.f1 Tryz.results151 ?_
   rfl
  replace h:=condF hc22 h
  refine Run.skip (Run.sr (X.an ?_))
  cases h
  refine R.castS (t:=6) (.slice []) (by rfl) (.inr (.inl ⟨rfl,rfl⟩)) ?_
  refine R.f1 Tryz.results151 ?_
  rfl
 replace h:=condF hc5 h
 refine Run.skip (Run.seq (Run.sr (X.mv ?_)))
 refine X.ls elt25 ?_
 refine X.mv ?_
 refine X.bi ?_
 refine X.nil ?_
 refine R.cd (fun hc23=>?_) (fun hc23=>?_)
 ·replace h:=condT hc23 h
  refine Run.sr (X.an ?_)
  cases h
  refine R.castS (t:=6) (.slice []) (by rfl) (.inr (.inl ⟨rfl,rfl⟩)) ?_
  refine R.f1 Tryz.results151 ?_
  rfl
 replace h:=condF hc23 h
 refine Run.skip (Run.seq (Run.sr (X.mv ?_)))
 refine X.mv ?_
 refine X.ls elt25 ?_
 refine X.subW (h:=?_)
 obtain ⟨v24,hv24,h⟩:=bindE h
 refine X.sliceS2 elt25 (by rfl) (by exact A0h (f:=int) (fun _=>rfl)) (by rfl) ⟨_,by rfl⟩ (F1r _ hv24) (B1x _ hv24) (by rfl) ?_
 refine X.ls elt25 ?_
 refine X.mn ?_
 obtain ⟨o25,ho25,h⟩:=bindE h
 refine R.join2 (β:=Unit) [(1,.slice (b1.map int)),(2,int b2),(3,.lptr 192 0),(8,int v4.To)] [(192,.blk true [int b0.Deadline,.slice (b0.Activities.map A0c),.slice (b0.Links.map A0k),.slice (b0.Resources.map A0e),.slice (b0.Stocks.map int)])] (fun p38 S=>S) (fun p38 M=>M) (fun p38=>(Sum.inl p38)=o25) ?_ ?_
 ·intro JJ28 hmeet27
  have hup26:=h;clear h;have h:=ho25;clear ho25
  refine Run.block ?_
  refine R.bndS (t:=68) (by rfl) (fun hbd31=>?_)
  replace hbd31:v24.length≤9223372036854775807:=by first | (rw [List.length_map] at hbd31;exact hbd31) | simp
  refine R.lp (β:=Int) [(1,.slice (b1.map int)),(2,int b2),(3,.lptr 192 0),(8,int v4.To),(68,.slice (v24.map int)),(69,int (v24.length:Int))] [(192,.blk true [int b0.Deadline,.slice (b0.Activities.map A0c),.slice (b0.Links.map A0k),.slice (b0.Resources.map A0e),.slice (b0.Stocks.map int)])] (fun bb S=>(70,int bb)::S) (fun bb M=>M) (fun n bb=>0≤bb∧bb+n=(v24.length:Int)∧J0n b0 v4 (v24.drop bb.toNat) bb=some o25) v24.length (0:Int) ⟨Int.le_refl _,by simp,h⟩ ?_
  clear h
  rintro JJ31 n31 z32 hag31 ⟨hza31,hzb31,h⟩
  refine Run.sr (X.bi ?_)
  refine X.nil (Run.seq ?_)
  refine R.cd (fun hc35=>?_) (fun hc35=>?_)
  ·obtain ⟨x33,xs34,hd31,hx31,hds31,hlt31⟩:=A0q hza31 hc35
   rw [hd31] at h
   rw [J0n] at h
   refine Run.skip (Run.seq (Run.block (Run.sr (X.ix elt25 (A0a hx31).1 (A0b int hx31) ?_))))
   refine X.lc shp3 ?_
   refine X.an ?_
   refine Run.sr (X.fl G0s ?_)
   refine X.ld shp31 ?_
   refine X.mv ?_
   obtain ⟨v36,hv36,h⟩:=bindE h
   refine X.ix elt31 (A0a hv36).1 (A0b A0k hv36) ?_
   refine X.fieldAddr_c J0c (by rfl) (by rfl) ?_
   refine X.lc shp3 ?_
   refine X.mv ?_
   refine X.bi ?_
   refine X.nil ?_
   refine R.cd (fun hc37=>?_) (fun hc37=>?_)
   ·replace h:=condT hc37 h
    refine Run.sr (X.an ?_)
    cases h
    have h:=hup26
    replace h:=elimR h
    cases h
    refine R.castS (t:=6) (.slice []) (by rfl) (.inr (.inl ⟨rfl,rfl⟩)) ?_
    refine R.f1 Tryz.results151 ?_
    rfl
   replace h:=condF hc37 h
   refine Run.skip (Run.blk (Run.reg (X.ad ?_)))
   refine X.mn ?_
   exact R.ag hag31 (n31 - 1) (z32+1) (R.n3 (by first | (rw [hds31];exact h) | (dsimp only;rw [hds31];exact h)))
  rw [A0j hza31 hc35] at h
  rw [J0n] at h
  refine Run.exit (by rfl) ?_
  exact R.mt hmeet27 () (Option.some.inj h)
 rintro p38 rfl
 replace h:=elimL h
 refine Run.seq (Run.sr (X.fl G0s ?_))
 refine X.ld shp31 ?_
 refine X.ls elt31 ?_
 refine X.mn ?_
 obtain ⟨o40,ho40,h⟩:=bindE h
 refine R.join2 (β:=Unit) [] [] (fun p58 S=>S) (fun p58 M=>M) (fun p58=>(Sum.inl p58)=o40) ?_ ?_
 ·intro JJ43 hmeet42
  have hup41:=h;clear h;have h:=ho40;clear ho40
  refine Run.block ?_
  refine R.bndS (t:=84) (by rfl) (fun hbd46=>?_)
  replace hbd46:b0.Links.length≤9223372036854775807:=by first | (rw [List.length_map] at hbd46;exact hbd46) | simp
  refine R.lp (β:=Int) [(1,.slice (b1.map int)),(2,int b2),(3,.lptr 192 0),(8,int v4.To),(84,.slice (b0.Links.map A0k)),(85,int (b0.Links.length:Int))] [(192,.blk true [int b0.Deadline,.slice (b0.Activities.map A0c),.slice (b0.Links.map A0k),.slice (b0.Resources.map A0e),.slice (b0.Stocks.map int)])] (fun bb S=>(86,int bb)::S) (fun bb M=>M) (fun n bb=>0≤bb∧bb+n=(b0.Links.length:Int)∧F0l b0 b1 b2 rec v1 v4 (b0.Links.drop bb.toNat) bb=some o40) b0.Links.length (0:Int) ⟨Int.le_refl _,by simp,h⟩ ?_
  clear h
  rintro JJ46 n46 z47 hag46 ⟨hza46,hzb46,h⟩
  refine Run.sr (X.bi ?_)
  refine X.nil (Run.seq ?_)
  refine R.cd (fun hc50=>?_) (fun hc50=>?_)
  ·obtain ⟨x48,xs49,hd46,hx46,hds46,hlt46⟩:=A0q hza46 hc50
   rw [hd46] at h
   rw [F0l] at h
   refine Run.skip (Run.seq (Run.block (Run.sr (X.mv ?_))))
   refine X.ix elt31 (A0a hx46).1 (A0b A0k hx46) ?_
   refine X.lc shp87 ?_
   refine X.alloc zer87 (h:=?_)
   refine X.as ?_
   refine X.sl shp87 ?_
   refine X.nil (Run.seq (Run.seq ?_))
   obtain ⟨e51,he51,h2⟩:=bindE h
   refine R.regG [(1,.slice (b1.map int)),(2,int b2),(3,.lptr 192 0),(8,int v4.To),(14,int z47),(84,.slice (b0.Links.map A0k)),(85,int (b0.Links.length:Int)),(86,int z47),(101,bool e51)] [(192,.blk true [int b0.Deadline,.slice (b0.Activities.map A0c),.slice (b0.Links.map A0k),.slice (b0.Resources.map A0e),.slice (b0.Stocks.map int)])] ?_ ?_
   ·clear h;have h:=he51;clear he51 h2
    refine X.fl G0x ?_
    refine X.ld shp3 ?_
    refine X.mv ?_
    refine X.bi ?_
    refine X.mv ?_
    refine X.iG (fun hb52=>?_) (fun hb52=>?_)
    ·replace h:=condF hb52 h
     refine X.mv ?_
     refine X.gy (X.mv ?_)
     refine X.gy (X.ix elt25 (A0a hv1).1 (A0b int hv1) ?_)
     refine X.gy (X.lc shp3 ?_)
     refine X.gy (X.bi ?_)
     refine X.pF ?_
     cases h
     exact X.eG
    replace h:=condT hb52 h
    refine X.gn (X.gn (X.gn (X.gn (X.pT ?_))))
    cases h
    exact X.eG
   replace h:=h2;clear h2
   refine R.cd (fun hc53=>?_) (fun hc53=>?_)
   ·replace h:=condT hc53 h
    refine Run.exit (by rfl) ?_
    refine Run.reg (X.ad ?_)
    refine X.mn ?_
    exact R.ag hag46 (n46 - 1) (z47+1) (R.n3 (by first | (rw [hds46];exact h) | (dsimp only;rw [hds46];exact h)))
   replace h:=condF hc53 h
   refine Run.skip (Run.seq (Run.draw2 (D0a [(0,([192],[],[],[])),(1,([6592],[6592],[],[])),(3,([6592],[6592],[],[])),(5,([6848],[6848],[],[])),(6,([6592,6848],[6592],[],[])),(8,([6592],[],[],[]))]) mixed (by kernel_rfl) (by kernel_rfl) ?_))
   refine X.ld shp34 ?_
   refine X.buildSlice false elt25 zer3 (by rfl) (by rfl) (by rfl) (by rfl) (by rfl) (by rfl) (by repeat (first | trivial | refine ⟨by first | rfl | simp [setL],?_⟩)) (A0w (by rfl)) (by rfl) (by rfl) (by rfl) ?_
   refine X.mv ?_
   obtain ⟨v54,hv54,h⟩:=bindE h
   refine X.append elt25 zer3 (by rfl) (by rfl) (by first | rfl | simp [setL] | omega) (by rfl) (.pure _) (by exact A0h (f:=int) (fun _=>rfl)) (G0u int hv54) (G0t int hv54) (by rfl) (by rfl) (by rfl) (by rfl) ?_
   refine X.mv ?_
   refine X.buildSlice false elt25 zer3 (by rfl) (by rfl) (by rfl) (by rfl) (by rfl) (by rfl) (by repeat (first | trivial | refine ⟨by first | rfl | simp [setL],?_⟩)) (A0w (by rfl)) (by rfl) (by rfl) (by rfl) ?_
   obtain ⟨v55,hv55,h⟩:=bindE h
   refine X.append elt25 zer3 (by rfl) (by rfl) (by first | rfl | simp [setL] | omega) (by rfl) (.own _ _ _ _ _ _ (A0f (by rfl)) (by first | rfl | simp [setL] | omega)) (A0w (by rfl)) (G0u int hv55) (G0t int hv55) (by rfl) (by rfl) (by rfl) (by rfl) ?_
   refine X.mv ?_
   obtain ⟨v56,hv56,h⟩:=bindE h
   refine X.cp (hrec _ _ _ _ hv56) ?_
   refine X.an ?_
   refine Run.sr (X.mv ?_)
   refine X.ls elt25 ?_
   refine X.bi ?_
   refine X.nil ?_
   refine R.cd (fun hc57=>?_) (fun hc57=>?_)
   ·replace h:=condT hc57 h
    refine Run.sr (X.mv ?_)
    refine X.an ?_
    cases h
    have h:=hup41
    replace h:=elimR h
    cases h
    refine R.f1 Tryz.results151 ?_
    rfl
   replace h:=condF hc57 h
   refine Run.skip (Run.blk (Run.reg (X.ad ?_)))
   refine X.mn ?_
   exact R.ag hag46 (n46 - 1) (z47+1) (R.n3 (by first | (rw [hds46];exact h) | (dsimp only;rw [hds46];exact h)))
  rw [A0j hza46 hc50] at h
  rw [F0l] at h
  refine Run.exit (by rfl) ?_
  exact R.mt hmeet42 () (Option.some.inj h)
 rintro p58 rfl
 replace h:=elimL h
 refine Run.sr (X.an ?_)
 cases h
 refine R.castS (t:=6) (.slice []) (by rfl) (.inr (.inl ⟨rfl,rfl⟩)) ?_
 refine R.f1 Tryz.results151 ?_
 rfl
theorem D1p (b0:A0d)(b1:List Int)(b2:Int)(r:List Int)(h:Z0w b0 b1 b2=some r):PC Tryz.prog 151 [A0v b0,.slice (b1.map int),int b2] (.slice (r.map int)):=by
 have key:∀(n:Nat)(b0:A0d)(b1:List Int)(b2:Int)(r:List Int),J0j n b0 b1 b2=some r→PC Tryz.prog 151 [A0v b0,.slice (b1.map int),int b2] (.slice (r.map int)):=by
  intro n
  induction n with
  | zero=>intro b0 b1 b2 r h;cases h
  | succ n ih=>intro b0 b1 b2 r h;exact A1g (J0j n) ih b0 b1 b2 r h
 exact key F0 b0 b1 b2 r h
theorem T0s (b0:A0d)(r:List Int)(h:J0q b0=some r):PC Tryz.prog 132 [A0v b0] (.slice (r.map int)):=by
 unfold J0q at h
 refine PC.start Tryz.func132 Tryz.ntmps132 rfl (by kernel_rfl) rfl ?_
 refine Run.sr (X.bx ?_)
 refine X.an ?_
 refine Run.seq (Run.sr (X.ld shp34 ?_))
 obtain ⟨v1,hv1,h⟩:=bindE h
 refine X.cp (S0r _ _ hv1) ?_
 refine X.un (h:=?_)
 refine X.nil ?_
 refine R.cd (fun hc2=>?_) (fun hc2=>?_)
 ·replace h:=condT hc2 h
  refine Run.sr (X.an ?_)
  cases h
  refine R.castS (t:=2) (.slice []) (by rfl) (.inr (.inl ⟨rfl,rfl⟩)) ?_
  refine R.f1 Tryz.results132 ?_
  rfl
 replace h:=condF hc2 h
 refine Run.skip (Run.seq (Run.sr (X.an ?_)))
 obtain ⟨o3,ho3,h⟩:=bindE h
 refine R.join2 (β:=Unit) [] [] (fun p27 S=>S) (fun p27 M=>M) (fun p27=>(Sum.inl p27)=o3) ?_ ?_
 ·intro JJ6 hmeet5
  have hup4:=h;clear h;have h:=ho3;clear ho3
  refine Run.block ?_
  refine R.lp (β:=Int) [(1,.lptr 64 0)] [(64,.blk true [int b0.Deadline,.slice (b0.Activities.map A0c),.slice (b0.Links.map A0k),.slice (b0.Resources.map A0e),.slice (b0.Stocks.map int)])] (fun bb S=>(3,int bb)::S) (fun bb M=>M) (fun n bb=>C0b b0 n bb=some o3) F0 2 h ?_
  clear h
  rintro JJ6 n6 a8 hag6 h
  obtain _ | n6:=n6
  ·exact absurd h (by simp [C0b])
  rw [C0b] at h
  refine Run.seq (Run.sr (X.mv ?_))
  refine X.fl D0p ?_
  refine X.ld shp30 ?_
  refine X.ls elt30 ?_
  refine X.bi ?_
  refine X.nil ?_
  refine R.cd (fun hc11=>?_) (fun hc11=>?_)
  ·replace h:=condT hc11 h
   refine Run.skip (Run.seq (Run.block (Run.sr (X.fl G0s ?_))))
   refine X.ld shp31 ?_
   refine X.ls elt31 ?_
   refine X.mn ?_
   obtain ⟨o12,ho12,h⟩:=bindE h
   refine R.join2 (β:=Unit) [(1,.lptr 64 0),(3,int a8)] [(64,.blk true [int b0.Deadline,.slice (b0.Activities.map A0c),.slice (b0.Links.map A0k),.slice (b0.Resources.map A0e),.slice (b0.Stocks.map int)])] (fun p25 S=>S) (fun p25 M=>M) (fun p25=>(Sum.inl p25)=o12) ?_ ?_
   ·intro JJ15 hmeet14
    have hup13:=h;clear h;have h:=ho12;clear ho12
    refine Run.block ?_
    refine R.bndS (t:=17) (by rfl) (fun hbd18=>?_)
    replace hbd18:b0.Links.length≤9223372036854775807:=by first | (rw [List.length_map] at hbd18;exact hbd18) | simp
    refine R.lp (β:=Int) [(1,.lptr 64 0),(3,int a8),(18,int (b0.Links.length:Int))] [(64,.blk true [int b0.Deadline,.slice (b0.Activities.map A0c),.slice (b0.Links.map A0k),.slice (b0.Resources.map A0e),.slice (b0.Stocks.map int)])] (fun bb S=>(19,int bb)::S) (fun bb M=>M) (fun n bb=>0≤bb∧bb+n=(b0.Links.length:Int)∧D0s b0 a8 (b0.Links.drop bb.toNat) bb=some o12) b0.Links.length (0:Int) ⟨Int.le_refl _,by simp,h⟩ ?_
    clear h
    rintro JJ18 n18 z19 hag18 ⟨hza18,hzb18,h⟩
    refine Run.sr (X.bi ?_)
    refine X.nil (Run.seq ?_)
    refine R.cd (fun hc22=>?_) (fun hc22=>?_)
    ·obtain ⟨x20,xs21,hd18,hx18,hds18,hlt18⟩:=A0q hza18 hc22
     rw [hd18] at h
     rw [D0s] at h
     refine Run.skip (Run.seq (Run.block (Run.sr (X.mv ?_))))
     refine X.an ?_
     refine Run.sr (X.ld shp34 ?_)
     refine X.mv ?_
     refine X.buildSlice false elt25 zer3 (by rfl) (by rfl) (by rfl) (by rfl) (by rfl) (by rfl) (by repeat (first | trivial | refine ⟨by first | rfl | simp [setL],?_⟩)) (A0w (by rfl)) (by rfl) (by rfl) (by rfl) ?_
     refine X.mv ?_
     obtain ⟨v23,hv23,h⟩:=bindE h
     refine X.cp (D1p _ _ _ _ hv23) ?_
     refine X.an ?_
     refine Run.sr (X.mv ?_)
     refine X.ls elt25 ?_
     refine X.bi ?_
     refine X.nil ?_
     refine R.cd (fun hc24=>?_) (fun hc24=>?_)
     ·replace h:=condT hc24 h
      refine Run.sr (X.mv ?_)
      refine X.an ?_
      cases h
      have h:=hup13
      replace h:=elimR h
      cases h
      have h:=hup4
      replace h:=elimR h
      cases h
      refine R.f1 Tryz.results132 ?_
      rfl
     replace h:=condF hc24 h
     refine Run.skip (Run.blk (Run.reg (X.ad ?_)))
     refine X.mn ?_
     exact R.ag hag18 (n18 - 1) (z19+1) (R.n3 (by first | (rw [hds18];exact h) | (dsimp only;rw [hds18];exact h)))
    rw [A0j hza18 hc22] at h
    rw [D0s] at h
    refine Run.exit (by rfl) ?_
    exact R.mt hmeet14 () (Option.some.inj h)
   rintro p25 rfl
   replace h:=elimL h
   refine Run.blk (Run.reg (X.mv ?_))
   refine X.addW (h:=?_)
   refine X.an ?_
   exact hag6 n6 (W (a8+1)) _ _ (by omega) h (by trivial) (by trivial) (by rfl) (by rfl)
  replace h:=condF hc11 h
  refine Run.exit (by rfl) ?_
  exact R.mt hmeet5 () (Option.some.inj h)
 rintro p27 rfl
 replace h:=elimL h
 refine Run.sr (X.an ?_)
 cases h
 refine R.castS (t:=2) (.slice []) (by rfl) (.inr (.inl ⟨rfl,rfl⟩)) ?_
 refine R.f1 Tryz.results132 ?_
 rfl
theorem T0e (b0:Int)(b1:Int)(r:Int)(h:Q0t b0 b1=some r):PC Tryz.prog 24 [int b0,int b1] (int r):=by
 unfold Q0t at h
 refine PC.start Tryz.func24 Tryz.ntmps24 rfl (by kernel_rfl) rfl ?_
 refine Run.sr (X.an ?_)
 refine Run.seq (Run.sr (X.mv ?_))
 refine X.mv ?_
 refine X.bi ?_
 refine X.nil ?_
 refine R.cd (fun hc1=>?_) (fun hc1=>?_)
 ·replace h:=condT hc1 h
  refine Run.sr (X.mv ?_)
  refine X.an ?_
  cases h
  refine R.f1 Tryz.results24 ?_
  rfl
 replace h:=condF hc1 h
 refine Run.skip (Run.sr (X.mv ?_))
 refine X.an ?_
 cases h
 refine R.f1 Tryz.results24 ?_
 rfl
theorem D1e (b0:A0d)(r:List (List Int))(h:R0r b0=some r):PC Tryz.prog 133 [A0v b0] (.tre 25 1 (r.map t_int)):=by
 unfold R0r at h
 refine PC.start Tryz.func133 Tryz.ntmps133 rfl (by kernel_rfl) rfl ?_
 refine Run.sr (X.bx ?_)
 refine X.an ?_
 refine Run.seq (Run.region ?_)
 refine Run.buildT0 elt59 (by rfl) zer25 (by rfl) (by rfl) (by rfl) ?_
 refine Run.aso ?_
 refine Run.nil (Run.seq (Run.sr (X.fl D0p ?_)))
 refine X.ld shp30 ?_
 refine X.ls elt30 ?_
 refine X.mn ?_
 obtain ⟨o1,ho1,h⟩:=bindE h
 refine R.join2 (β:=(List (List Int))) [(1,.lptr 64 0)] [(64,.blk true [int b0.Deadline,.slice (b0.Activities.map A0c),.slice (b0.Links.map A0k),.slice (b0.Resources.map A0e),.slice (b0.Stocks.map int)])] (fun p34 S=>(3,.tref 832 (p34.map t_int).length .out)::S) (fun p34 M=>(832,.tre 25 1 (p34.map t_int))::M) (fun p34=>p34=o1) ?_ ?_
 ·intro JJ4 hmeet3
  have hup2:=h;clear h;have h:=ho1;clear ho1
  refine Run.block ?_
  refine R.bndS (t:=15) (by rfl) (fun hbd7=>?_)
  replace hbd7:b0.Activities.length≤9223372036854775807:=by first | (rw [List.length_map] at hbd7;exact hbd7) | simp
  refine R.lp (β:=Int×(List (List Int))) [(1,.lptr 64 0),(16,int (b0.Activities.length:Int))] [(64,.blk true [int b0.Deadline,.slice (b0.Activities.map A0c),.slice (b0.Links.map A0k),.slice (b0.Resources.map A0e),.slice (b0.Stocks.map int)])] (fun bb S=>(3,.tref 832 (bb.2.map t_int).length .out)::(17,int bb.1)::S) (fun bb M=>(832,.tre 25 1 (bb.2.map t_int))::M) (fun n bb=>0≤bb.1∧bb.1+n=(b0.Activities.length:Int)∧H0k b0 (b0.Activities.drop bb.1.toNat) bb.1 bb.2=some o1) b0.Activities.length (0,([]:List (List Int))) ⟨Int.le_refl _,by simp,h⟩ ?_
  clear h
  rintro JJ7 n7 ⟨z8,a9⟩ hag7 ⟨hza7,hzb7,h⟩
  dsimp only at hza7 hzb7 h
  refine Run.sr (X.bi ?_)
  refine X.nil (Run.seq ?_)
  refine R.cd (fun hc12=>?_) (fun hc12=>?_)
  ·obtain ⟨x10,xs11,hd7,hx7,hds7,hlt7⟩:=A0q hza7 hc12
   rw [hd7] at h
   rw [H0k] at h
   refine Run.skip (Run.seq (Run.block (Run.sr (X.mv ?_))))
   refine X.an ?_
   refine Run.sr ?_
   refine X.buildSlice true elt25 zer3 (by rfl) (by rfl) (by rfl) (by rfl) (by rfl) (by rfl) (by repeat (first | trivial | refine ⟨by first | rfl | simp [setL],?_⟩)) (A0w (by rfl)) (by rfl) (by rfl) (by rfl) ?_
   refine X.an ?_
   refine Run.seq (Run.sr (X.fl D0p ?_))
   refine X.ld shp30 ?_
   refine X.ls elt30 ?_
   refine X.mn ?_
   obtain ⟨o13,ho13,h⟩:=bindE h
   refine R.join2 (β:=(List Int)) [(1,.lptr 64 0),(16,int (b0.Activities.length:Int)),(17,int z8)] [(64,.blk true [int b0.Deadline,.slice (b0.Activities.map A0c),.slice (b0.Links.map A0k),.slice (b0.Resources.map A0e),.slice (b0.Stocks.map int)]),(832,.tre 25 1 (a9.map t_int))] (fun p32 S=>(3,.tref 832 (a9.map t_int).length .out)::(5,.own 1280 (p32.map int).length)::S) (fun p32 M=>(1280,.obj true 3 1 (p32.map int))::M) (fun p32=>p32=o13) ?_ ?_
   ·intro JJ16 hmeet15
    have hup14:=h;clear h;have h:=ho13;clear ho13
    refine Run.block ?_
    refine R.bndS (t:=22) (by rfl) (fun hbd19=>?_)
    replace hbd19:b0.Activities.length≤9223372036854775807:=by first | (rw [List.length_map] at hbd19;exact hbd19) | simp
    refine R.lp (β:=Int×(List Int)) [(1,.lptr 64 0),(4,int z8),(16,int (b0.Activities.length:Int)),(17,int z8),(23,int (b0.Activities.length:Int))] [(64,.blk true [int b0.Deadline,.slice (b0.Activities.map A0c),.slice (b0.Links.map A0k),.slice (b0.Resources.map A0e),.slice (b0.Stocks.map int)]),(832,.tre 25 1 (a9.map t_int))] (fun bb S=>(3,.tref 832 (a9.map t_int).length .out)::(5,.own 1280 (bb.2.map int).length)::(24,int bb.1)::S) (fun bb M=>(1280,.obj true 3 1 (bb.2.map int))::M) (fun n bb=>0≤bb.1∧bb.1+n=(b0.Activities.length:Int)∧H0i z8 (b0.Activities.drop bb.1.toNat) bb.1 bb.2=some o13) b0.Activities.length (0,([]:List Int)) ⟨Int.le_refl _,by simp,h⟩ ?_
    clear h
    rintro JJ19 n19 ⟨z20,a21⟩ hag19 ⟨hza19,hzb19,h⟩
    dsimp only at hza19 hzb19 h
    refine Run.sr (X.bi ?_)
    refine X.nil (Run.seq ?_)
    refine R.cd (fun hc24=>?_) (fun hc24=>?_)
    ·obtain ⟨x22,xs23,hd19,hx19,hds19,hlt19⟩:=A0q hza19 hc24
     rw [hd19] at h
     rw [H0i] at h
     refine Run.skip (Run.seq (Run.block (Run.sr (X.mv ?_))))
     refine X.an ?_
     refine Run.sr (X.an ?_)
     refine Run.seq (Run.sr (X.mv ?_))
     refine X.mv ?_
     refine X.bi ?_
     refine X.nil ?_
     obtain ⟨o25,ho25,h⟩:=bindE h
     refine R.join2 (β:=Int) [(1,.lptr 64 0),(4,int z8),(16,int (b0.Activities.length:Int)),(17,int z8),(23,int (b0.Activities.length:Int)),(24,int z20)] [(64,.blk true [int b0.Deadline,.slice (b0.Activities.map A0c),.slice (b0.Links.map A0k),.slice (b0.Resources.map A0e),.slice (b0.Stocks.map int)]),(832,.tre 25 1 (a9.map t_int)),(1280,.obj true 3 1 (a21.map int))] (fun p30 S=>(3,.tref 832 (a9.map t_int).length .out)::(5,.own 1280 (a21.map int).length)::(7,int p30)::S) (fun p30 M=>M) (fun p30=>p30=o25) ?_ ?_
     ·intro JJ28 hmeet27
      have hup26:=h;clear h;have h:=ho25;clear ho25
      refine R.cd (fun hc29=>?_) (fun hc29=>?_)
      ·replace h:=condT hc29 h
       refine Run.reg (X.an ?_)
       exact R.mt hmeet27 0 (Option.some.inj h)
      replace h:=condF hc29 h
      refine Run.skip ?_
      exact R.mt hmeet27 (-1000) (Option.some.inj h)
     rintro p30 rfl
     refine Run.reg (X.mv ?_)
     refine X.mv ?_
     refine X.buildSlice false elt25 zer3 (by rfl) (by rfl) (by rfl) (by rfl) (by rfl) (by rfl) (by repeat (first | trivial | refine ⟨by first | rfl | simp [setL],?_⟩)) (A0w (by rfl)) (by rfl) (by rfl) (by rfl) ?_
     obtain ⟨v31,hv31,h⟩:=bindE h
     refine X.append elt25 zer3 (by rfl) (by rfl) (by first | rfl | simp [setL] | omega) (by rfl) (.own _ _ _ _ _ _ (A0f (by rfl)) (by first | rfl | simp [setL] | omega)) (A0w (by rfl)) (G0u int hv31) (G0t int hv31) (by rfl) (by rfl) (by rfl) (by rfl) ?_
     refine X.an ?_
     refine Run.blk (Run.reg (X.ad ?_))
     refine X.mn ?_
     exact R.ag hag19 (n19 - 1) (z20+1,v31) (R.n3 (by first | (rw [hds19];exact h) | (dsimp only;rw [hds19];exact h)))
    rw [A0j hza19 hc24] at h
    rw [H0i] at h
    refine Run.exit (by rfl) ?_
    exact R.mt hmeet15 a21 (Option.some.inj h)
   rintro p32 rfl
   refine Run.region ?_
   refine Run.mvo ?_
   refine Run.mvo ?_
   refine Run.buildT1 (S':=[(1,.lptr 64 0),(16,int (b0.Activities.length:Int)),(17,int z8),(35,.tref 832 (a9.map t_int).length .out)]) (M':=[(64,.blk true [int b0.Deadline,.slice (b0.Activities.map A0c),.slice (b0.Links.map A0k),.slice (b0.Resources.map A0e),.slice (b0.Stocks.map int)]),(832,.tre 25 1 (a9.map t_int))]) (q:=t_int p32) elt59 (by rfl) (by rfl) zer25 (by rfl) (by rfl) (by exact (.own _ _ _ _ _ _ _ _ (by rfl) (by first | rfl | simp [setL] | omega) (B1q _ (fun _=>(by repeat (first | exact trivial | refine ⟨trivial,?_⟩)))) (by simp) .nil)) (by rfl) (by repeat (first | trivial | refine ⟨by first | rfl | simp [setL],?_⟩)) (by repeat (first | trivial | refine ⟨by first | rfl | simp [setL],?_⟩)) (by rfl) (by rfl) (by rfl) (by rfl) (by rfl) ?_
   obtain ⟨v33,hv33,h⟩:=bindE h
   refine Run.appT (S':=[(1,.lptr 64 0),(16,int (b0.Activities.length:Int)),(17,int z8)]) (M':=[(64,.blk true [int b0.Deadline,.slice (b0.Activities.map A0c),.slice (b0.Links.map A0k),.slice (b0.Resources.map A0e),.slice (b0.Stocks.map int)])]) (G0t t_int hv33) elt59 (by rfl) zer25 (by rfl) (by rfl) (by rfl) (by first | rfl | simp [setL] | omega) (by rfl) (by rfl) (by first | rfl | simp [setL] | omega) (by rfl) (by rfl) (G0u t_int hv33) (by rfl) (by repeat (first | trivial | refine ⟨by first | rfl | simp [setL],?_⟩)) (by repeat (first | trivial | refine ⟨by first | rfl | simp [setL],?_⟩)) (by rfl) (by rfl) (by rfl) (by rfl) (by rfl) ?_
   refine Run.aso ?_
   refine Run.nil (Run.blk (Run.reg (X.ad ?_)))
   refine X.mn ?_
   exact R.ag hag7 (n7 - 1) (z8+1,v33) (R.n3 (by first | (rw [hds7];exact h) | (dsimp only;rw [hds7];exact h)))
  rw [A0j hza7 hc12] at h
  rw [H0k] at h
  refine Run.exit (by rfl) ?_
  exact R.mt hmeet3 a9 (Option.some.inj h)
 rintro p34 rfl
 refine Run.seq (Run.sr (X.fl G0s ?_))
 refine X.ld shp31 ?_
 refine X.ls elt31 ?_
 refine X.mn ?_
 obtain ⟨o35,ho35,h⟩:=bindE h
 refine R.join2 (β:=(List (List Int))) [(1,.lptr 64 0)] [(64,.blk true [int b0.Deadline,.slice (b0.Activities.map A0c),.slice (b0.Links.map A0k),.slice (b0.Resources.map A0e),.slice (b0.Stocks.map int)])] (fun p51 S=>(3,.tref 832 (p51.map t_int).length .out)::S) (fun p51 M=>(832,.tre 25 1 (p51.map t_int))::M) (fun p51=>p51=o35) ?_ ?_
 ·intro JJ38 hmeet37
  have hup36:=h;clear h;have h:=ho35;clear ho35
  refine Run.block ?_
  refine R.bndS (t:=41) (by rfl) (fun hbd41=>?_)
  replace hbd41:b0.Links.length≤9223372036854775807:=by first | (rw [List.length_map] at hbd41;exact hbd41) | simp
  refine R.lp (β:=Int×(List (List Int))) [(1,.lptr 64 0),(41,.slice (b0.Links.map A0k)),(42,int (b0.Links.length:Int))] [(64,.blk true [int b0.Deadline,.slice (b0.Activities.map A0c),.slice (b0.Links.map A0k),.slice (b0.Resources.map A0e),.slice (b0.Stocks.map int)])] (fun bb S=>(3,.tref 832 (bb.2.map t_int).length .out)::(43,int bb.1)::S) (fun bb M=>(832,.tre 25 1 (bb.2.map t_int))::M) (fun n bb=>0≤bb.1∧bb.1+n=(b0.Links.length:Int)∧H0j b0 (b0.Links.drop bb.1.toNat) bb.1 bb.2=some o35) b0.Links.length (0,p34) ⟨Int.le_refl _,by simp,h⟩ ?_
  clear h
  rintro JJ41 n41 ⟨z42,a43⟩ hag41 ⟨hza41,hzb41,h⟩
  dsimp only at hza41 hzb41 h
  refine Run.sr (X.bi ?_)
  refine X.nil (Run.seq ?_)
  refine R.cd (fun hc46=>?_) (fun hc46=>?_)
  ·obtain ⟨x44,xs45,hd41,hx41,hds41,hlt41⟩:=A0q hza41 hc46
   rw [hd41] at h
   rw [H0j] at h
   refine Run.skip (Run.seq (Run.block (Run.sr (X.mv ?_))))
   refine X.ix elt31 (A0a hx41).1 (A0b A0k hx41) ?_
   refine X.lc shp87 ?_
   refine X.alloc zer87 (h:=?_)
   refine X.as ?_
   refine X.sl shp87 ?_
   refine X.nil (Run.draw (D0a [(2,([576],[],[],[])),(3,([832],[],[],[])),(4,([832],[],[],[])),(6,([576],[],[],[])),(9,([576],[],[],[])),(10,([832],[],[],[])),(11,([832],[],[],[])),(13,([576],[],[],[])),(14,([832],[],[],[])),(15,([832],[],[],[])),(16,([64],[],[],[])),(20,([832],[],[],[])),(21,([832],[832],[],[]))]) mixed (by kernel_rfl) (by kernel_rfl) ?_)
   refine X.mv ?_
   refine X.fl G0x ?_
   refine X.ld shp3 ?_
   obtain ⟨v47,hv47,h⟩:=bindE h
   refine X.idxT (l:=a43.map t_int) elt59 ⟨(A0a hv47).1,by have h0:=(A0a hv47).1;have h1:=A0o hv47;rw [List.length_map];(try dsimp only);omega⟩ (by first | rfl | simp [setL] | omega) ?_
   refine X.ldRow (sz:=1) shp25 (A0m (off:=0) (by exact A0h (f:=t_int) (fun _=>rfl)) (A0b t_int hv47) (by rfl)) (by first | rfl | simp [setL] | omega) ?_
   refine X.fl J0c ?_
   refine X.ld shp3 ?_
   refine X.mv ?_
   refine X.fl G0x ?_
   refine X.ld shp3 ?_
   refine X.idxT (l:=a43.map t_int) elt59 ⟨(A0a hv47).1,by have h0:=(A0a hv47).1;have h1:=A0o hv47;rw [List.length_map];(try dsimp only);omega⟩ (by first | rfl | simp [setL] | omega) ?_
   refine X.ldRow (sz:=1) shp25 (A0m (off:=0) (by exact A0h (f:=t_int) (fun _=>rfl)) (A0b t_int hv47) (by rfl)) (by first | rfl | simp [setL] | omega) ?_
   refine X.fl J0c ?_
   refine X.ld shp3 ?_
   obtain ⟨v48,hv48,h⟩:=bindE h
   refine X.idxR (l:=a43.map t_int) (rl:=v47.map int) elt25 (A0m (off:=0) (by exact A0h (f:=t_int) (fun _=>rfl)) (A0b t_int hv47) (by rfl)) ⟨(A0a hv48).1,by have h0:=(A0a hv48).1;have h1:=A0o hv48;rw [List.length_map];(try dsimp only);omega⟩ (by first | rfl | simp [setL] | omega) ?_
   refine X.ldE (sz2:=1) shp3 (A0m (off:=0) (by exact A0h (f:=t_int) (fun _=>rfl)) (A0b t_int hv47) (by rfl)) (A0m (off:=0) (by exact A0h (f:=int) (fun _=>rfl)) (A0b int hv48) (by rfl)) (by first | rfl | simp [setL] | omega) ?_
   refine X.ld shp34 ?_
   refine X.mv ?_
   obtain ⟨v49,hv49,h⟩:=bindE h
   refine X.cp (Z0y _ _ _ hv49) ?_
   obtain ⟨v50,hv50,h⟩:=bindE h
   refine X.cp (T0e _ _ _ hv50) ?_
   refine X.idxR (l:=a43.map t_int) (rl:=v47.map int) elt25 (A0m (off:=0) (by exact A0h (f:=t_int) (fun _=>rfl)) (A0b t_int hv47) (by rfl)) ⟨(A0a hv48).1,by have h0:=(A0a hv48).1;have h1:=A0o hv48;rw [List.length_map];(try dsimp only);omega⟩ (by first | rfl | simp [setL] | omega) ?_
   refine X.stE (l2:=(setL a43 x44.From (setL v47 x44.To v50)).map t_int) (rl2:=(setL v47 x44.To v50).map int) (sz2:=1) (sz:=1) shp3 (A0m (off:=0) (by exact A0h (f:=t_int) (fun _=>rfl)) (A0b t_int hv47) (by rfl)) (A0m (off:=0) (by exact A0h (f:=int) (fun _=>rfl)) (A0b int hv48) (by rfl)) (by simp [setL]) (by exact A0h (f:=int) (fun _=>rfl)) (by rw [← C0w];exact J0z (by exact A0h (f:=int) (fun _=>rfl)) (A0b int hv48) (by rfl) (by decide)) (by simp [setL]) (by exact A0h (f:=t_int) (fun _=>rfl)) (by rw [← C0w];exact J0z (by exact A0h (f:=t_int) (fun _=>rfl)) (A0b t_int hv47) (by rfl) (by decide)) (by first | rfl | simp [setL] | omega) ?_
   refine X.nil (Run.blk (Run.reg (X.ad ?_)))
   refine X.mn ?_
   refine R.castS (t:=3) (.tref 832 ((setL a43 x44.From (setL v47 x44.To v50)).map t_int).length .out) (by rfl) (.inl (by first | rfl | simp [setL])) ?_
   exact R.ag hag41 (n41 - 1) (z42+1,(setL a43 x44.From (setL v47 x44.To v50))) (R.n3 (by first | (rw [hds41];exact h) | (dsimp only;rw [hds41];exact h)))
  rw [A0j hza41 hc46] at h
  rw [H0j] at h
  refine Run.exit (by rfl) ?_
  exact R.mt hmeet37 a43 (Option.some.inj h)
 rintro p51 rfl
 refine Run.seq (Run.sr (X.fl D0p ?_))
 refine X.ld shp30 ?_
 refine X.ls elt30 ?_
 refine X.mn ?_
 obtain ⟨o52,ho52,h⟩:=bindE h
 refine R.join2 (β:=(List (List Int))) [] [] (fun p101 S=>(3,.tref 832 (p101.map t_int).length .out)::S) (fun p101 M=>(832,.tre 25 1 (p101.map t_int))::M) (fun p101=>p101=o52) ?_ ?_
 ·intro JJ55 hmeet54
  have hup53:=h;clear h;have h:=ho52;clear ho52
  refine Run.block ?_
  refine R.bndS (t:=71) (by rfl) (fun hbd58=>?_)
  replace hbd58:b0.Activities.length≤9223372036854775807:=by first | (rw [List.length_map] at hbd58;exact hbd58) | simp
  refine R.lp (β:=Int×(List (List Int))) [(1,.lptr 64 0),(72,int (b0.Activities.length:Int))] [(64,.blk true [int b0.Deadline,.slice (b0.Activities.map A0c),.slice (b0.Links.map A0k),.slice (b0.Resources.map A0e),.slice (b0.Stocks.map int)])] (fun bb S=>(3,.tref 832 (bb.2.map t_int).length .out)::(73,int bb.1)::S) (fun bb M=>(832,.tre 25 1 (bb.2.map t_int))::M) (fun n bb=>0≤bb.1∧bb.1+n=(b0.Activities.length:Int)∧H0g b0 (b0.Activities.drop bb.1.toNat) bb.1 bb.2=some o52) b0.Activities.length (0,p51) ⟨Int.le_refl _,by simp,h⟩ ?_
  clear h
  rintro JJ58 n58 ⟨z59,a60⟩ hag58 ⟨hza58,hzb58,h⟩
  dsimp only at hza58 hzb58 h
  refine Run.sr (X.bi ?_)
  refine X.nil (Run.seq ?_)
  refine R.cd (fun hc63=>?_) (fun hc63=>?_)
  ·obtain ⟨x61,xs62,hd58,hx58,hds58,hlt58⟩:=A0q hza58 hc63
   rw [hd58] at h
   rw [H0g] at h
   refine Run.skip (Run.seq (Run.block (Run.sr (X.mv ?_))))
   refine X.an ?_
   refine Run.sr (X.fl D0p ?_)
   refine X.ld shp30 ?_
   refine X.ls elt30 ?_
   refine X.mn ?_
   obtain ⟨o64,ho64,h⟩:=bindE h
   refine R.join2 (β:=(List (List Int))) [(1,.lptr 64 0),(72,int (b0.Activities.length:Int)),(73,int z59)] [(64,.blk true [int b0.Deadline,.slice (b0.Activities.map A0c),.slice (b0.Links.map A0k),.slice (b0.Resources.map A0e),.slice (b0.Stocks.map int)])] (fun p100 S=>(3,.tref 832 (p100.map t_int).length .out)::S) (fun p100 M=>(832,.tre 25 1 (p100.map t_int))::M) (fun p100=>p100=o64) ?_ ?_
   ·intro JJ67 hmeet66
    have hup65:=h;clear h;have h:=ho64;clear ho64
    refine Run.block ?_
    refine R.bndS (t:=77) (by rfl) (fun hbd70=>?_)
    replace hbd70:b0.Activities.length≤9223372036854775807:=by first | (rw [List.length_map] at hbd70;exact hbd70) | simp
    refine R.lp (β:=Int×(List (List Int))) [(1,.lptr 64 0),(10,int z59),(72,int (b0.Activities.length:Int)),(73,int z59),(78,int (b0.Activities.length:Int))] [(64,.blk true [int b0.Deadline,.slice (b0.Activities.map A0c),.slice (b0.Links.map A0k),.slice (b0.Resources.map A0e),.slice (b0.Stocks.map int)])] (fun bb S=>(3,.tref 832 (bb.2.map t_int).length .out)::(79,int bb.1)::S) (fun bb M=>(832,.tre 25 1 (bb.2.map t_int))::M) (fun n bb=>0≤bb.1∧bb.1+n=(b0.Activities.length:Int)∧H0h b0 z59 (b0.Activities.drop bb.1.toNat) bb.1 bb.2=some o64) b0.Activities.length (0,a60) ⟨Int.le_refl _,by simp,h⟩ ?_
    clear h
    rintro JJ70 n70 ⟨z71,a72⟩ hag70 ⟨hza70,hzb70,h⟩
    dsimp only at hza70 hzb70 h
    refine Run.sr (X.bi ?_)
    refine X.nil (Run.seq ?_)
    refine R.cd (fun hc75=>?_) (fun hc75=>?_)
    ·obtain ⟨x73,xs74,hd70,hx70,hds70,hlt70⟩:=A0q hza70 hc75
     rw [hd70] at h
     rw [H0h] at h
     refine Run.skip (Run.seq (Run.block (Run.sr (X.mv ?_))))
     refine X.an ?_
     refine Run.sr (X.fl D0p ?_)
     refine X.ld shp30 ?_
     refine X.ls elt30 ?_
     refine X.mn ?_
     obtain ⟨o76,ho76,h⟩:=bindE h
     refine R.join2 (β:=(List (List Int))) [(1,.lptr 64 0),(10,int z59),(72,int (b0.Activities.length:Int)),(73,int z59),(78,int (b0.Activities.length:Int)),(79,int z71)] [(64,.blk true [int b0.Deadline,.slice (b0.Activities.map A0c),.slice (b0.Links.map A0k),.slice (b0.Resources.map A0e),.slice (b0.Stocks.map int)])] (fun p99 S=>(3,.tref 832 (p99.map t_int).length .out)::S) (fun p99 M=>(832,.tre 25 1 (p99.map t_int))::M) (fun p99=>p99=o76) ?_ ?_
     ·intro JJ79 hmeet78
      have hup77:=h;clear h;have h:=ho76;clear ho76
      refine Run.block ?_
      refine R.bndS (t:=83) (by rfl) (fun hbd82=>?_)
      replace hbd82:b0.Activities.length≤9223372036854775807:=by first | (rw [List.length_map] at hbd82;exact hbd82) | simp
      refine R.lp (β:=Int×(List (List Int))) [(1,.lptr 64 0),(10,int z59),(11,int z71),(72,int (b0.Activities.length:Int)),(73,int z59),(78,int (b0.Activities.length:Int)),(79,int z71),(84,int (b0.Activities.length:Int))] [(64,.blk true [int b0.Deadline,.slice (b0.Activities.map A0c),.slice (b0.Links.map A0k),.slice (b0.Resources.map A0e),.slice (b0.Stocks.map int)])] (fun bb S=>(3,.tref 832 (bb.2.map t_int).length .out)::(85,int bb.1)::S) (fun bb M=>(832,.tre 25 1 (bb.2.map t_int))::M) (fun n bb=>0≤bb.1∧bb.1+n=(b0.Activities.length:Int)∧G0b z59 z71 (b0.Activities.drop bb.1.toNat) bb.1 bb.2=some o76) b0.Activities.length (0,a72) ⟨Int.le_refl _,by simp,h⟩ ?_
      clear h
      rintro JJ82 n82 ⟨z83,a84⟩ hag82 ⟨hza82,hzb82,h⟩
      dsimp only at hza82 hzb82 h
      refine Run.sr (X.bi ?_)
      refine X.nil (Run.seq ?_)
      refine R.cd (fun hc87=>?_) (fun hc87=>?_)
      ·obtain ⟨x85,xs86,hd82,hx82,hds82,hlt82⟩:=A0q hza82 hc87
       rw [hd82] at h
       rw [G0b] at h
       refine Run.skip (Run.seq (Run.block (Run.sr (X.mv ?_))))
       refine X.an ?_
       refine Run.seq ?_
       obtain ⟨v88,hv88,h⟩:=bindE h
       obtain ⟨v89,hv89,h⟩:=bindE h
       obtain ⟨e90,he90,h2⟩:=bindE h
       refine R.regG [(1,.lptr 64 0),(3,.tref 832 (a84.map t_int).length .out),(10,int z59),(11,int z71),(12,int z83),(72,int (b0.Activities.length:Int)),(73,int z59),(78,int (b0.Activities.length:Int)),(79,int z71),(84,int (b0.Activities.length:Int)),(85,int z83),(105,bool e90)] [(64,.blk true [int b0.Deadline,.slice (b0.Activities.map A0c),.slice (b0.Links.map A0k),.slice (b0.Resources.map A0e),.slice (b0.Stocks.map int)]),(832,.tre 25 1 (a84.map t_int))] ?_ ?_
       ·clear h;have h:=he90;clear he90 h2
        refine X.mv ?_
        refine X.mv ?_
        refine X.idxT (l:=a84.map t_int) elt59 ⟨(A0a hv88).1,by have h0:=(A0a hv88).1;have h1:=A0o hv88;rw [List.length_map];(try dsimp only);omega⟩ (by first | rfl | simp [setL] | omega) ?_
        refine X.ldRow (sz:=1) shp25 (A0m (off:=0) (by exact A0h (f:=t_int) (fun _=>rfl)) (A0b t_int hv88) (by rfl)) (by first | rfl | simp [setL] | omega) ?_
        refine X.mv ?_
        refine X.idxR (l:=a84.map t_int) (rl:=v88.map int) elt25 (A0m (off:=0) (by exact A0h (f:=t_int) (fun _=>rfl)) (A0b t_int hv88) (by rfl)) ⟨(A0a hv89).1,by have h0:=(A0a hv89).1;have h1:=A0o hv89;rw [List.length_map];(try dsimp only);omega⟩ (by first | rfl | simp [setL] | omega) ?_
        refine X.ldE (sz2:=1) shp3 (A0m (off:=0) (by exact A0h (f:=t_int) (fun _=>rfl)) (A0b t_int hv88) (by rfl)) (A0m (off:=0) (by exact A0h (f:=int) (fun _=>rfl)) (A0b int hv89) (by rfl)) (by first | rfl | simp [setL] | omega) ?_
        refine X.bi ?_
        refine X.mv ?_
        refine X.iG (fun hb91=>?_) (fun hb91=>?_)
        ·replace h:=condT hb91 h
         refine X.mv ?_
         refine X.gy (X.mv ?_)
         refine X.gy ?_
         obtain ⟨v92,hv92,h⟩:=bindE h
         refine X.idxT (l:=a84.map t_int) elt59 ⟨(A0a hv92).1,by have h0:=(A0a hv92).1;have h1:=A0o hv92;rw [List.length_map];(try dsimp only);omega⟩ (by first | rfl | simp [setL] | omega) ?_
         refine X.gy ?_
         refine X.ldRow (sz:=1) shp25 (A0m (off:=0) (by exact A0h (f:=t_int) (fun _=>rfl)) (A0b t_int hv92) (by rfl)) (by first | rfl | simp [setL] | omega) ?_
         refine X.gy (X.mv ?_)
         refine X.gy ?_
         obtain ⟨v93,hv93,h⟩:=bindE h
         refine X.idxR (l:=a84.map t_int) (rl:=v92.map int) elt25 (A0m (off:=0) (by exact A0h (f:=t_int) (fun _=>rfl)) (A0b t_int hv92) (by rfl)) ⟨(A0a hv93).1,by have h0:=(A0a hv93).1;have h1:=A0o hv93;rw [List.length_map];(try dsimp only);omega⟩ (by first | rfl | simp [setL] | omega) ?_
         refine X.gy ?_
         refine X.ldE (sz2:=1) shp3 (A0m (off:=0) (by exact A0h (f:=t_int) (fun _=>rfl)) (A0b t_int hv92) (by rfl)) (A0m (off:=0) (by exact A0h (f:=int) (fun _=>rfl)) (A0b int hv93) (by rfl)) (by first | rfl | simp [setL] | omega) ?_
         refine X.gy (X.bi ?_)
         refine X.pT ?_
         cases h
         exact X.eG
        replace h:=condF hb91 h
        refine X.gn (X.gn (X.gn (X.gn (X.gn (X.gn (X.gn (X.pF ?_)))))))
        cases h
        exact X.eG
       replace h:=h2;clear h2
       refine R.cd (fun hc94=>?_) (fun hc94=>?_)
       ·replace h:=condT hc94 h
        refine Run.draw (D0a [(2,([832],[],[],[])),(3,([832],[],[],[])),(7,([832],[],[],[])),(8,([832],[],[],[])),(10,([832],[],[],[])),(11,([832],[],[],[])),(14,([832],[],[],[])),(15,([832],[],[],[])),(17,([832],[],[],[])),(18,([832],[],[],[])),(21,([832],[],[],[])),(22,([832],[],[],[])),(24,([832],[],[],[])),(25,([832],[],[],[])),(28,([832],[],[],[])),(29,([832],[832],[],[]))]) mixed (by kernel_rfl) (by kernel_rfl) ?_
        refine X.mv ?_
        refine X.mv ?_
        refine X.idxT (l:=a84.map t_int) elt59 ⟨(A0a hv88).1,by have h0:=(A0a hv88).1;have h1:=A0o hv88;rw [List.length_map];(try dsimp only);omega⟩ (by first | rfl | simp [setL] | omega) ?_
        refine X.ldRow (sz:=1) shp25 (A0m (off:=0) (by exact A0h (f:=t_int) (fun _=>rfl)) (A0b t_int hv88) (by rfl)) (by first | rfl | simp [setL] | omega) ?_
        refine X.mv ?_
        refine X.mv ?_
        refine X.mv ?_
        refine X.idxT (l:=a84.map t_int) elt59 ⟨(A0a hv88).1,by have h0:=(A0a hv88).1;have h1:=A0o hv88;rw [List.length_map];(try dsimp only);omega⟩ (by first | rfl | simp [setL] | omega) ?_
        refine X.ldRow (sz:=1) shp25 (A0m (off:=0) (by exact A0h (f:=t_int) (fun _=>rfl)) (A0b t_int hv88) (by rfl)) (by first | rfl | simp [setL] | omega) ?_
        refine X.mv ?_
        obtain ⟨v95,hv95,h⟩:=bindE h
        refine X.idxR (l:=a84.map t_int) (rl:=v88.map int) elt25 (A0m (off:=0) (by exact A0h (f:=t_int) (fun _=>rfl)) (A0b t_int hv88) (by rfl)) ⟨(A0a hv95).1,by have h0:=(A0a hv95).1;have h1:=A0o hv95;rw [List.length_map];(try dsimp only);omega⟩ (by first | rfl | simp [setL] | omega) ?_
        refine X.ldE (sz2:=1) shp3 (A0m (off:=0) (by exact A0h (f:=t_int) (fun _=>rfl)) (A0b t_int hv88) (by rfl)) (A0m (off:=0) (by exact A0h (f:=int) (fun _=>rfl)) (A0b int hv95) (by rfl)) (by first | rfl | simp [setL] | omega) ?_
        refine X.mv ?_
        refine X.mv ?_
        refine X.idxT (l:=a84.map t_int) elt59 ⟨(A0a hv88).1,by have h0:=(A0a hv88).1;have h1:=A0o hv88;rw [List.length_map];(try dsimp only);omega⟩ (by first | rfl | simp [setL] | omega) ?_
        refine X.ldRow (sz:=1) shp25 (A0m (off:=0) (by exact A0h (f:=t_int) (fun _=>rfl)) (A0b t_int hv88) (by rfl)) (by first | rfl | simp [setL] | omega) ?_
        refine X.mv ?_
        refine X.idxR (l:=a84.map t_int) (rl:=v88.map int) elt25 (A0m (off:=0) (by exact A0h (f:=t_int) (fun _=>rfl)) (A0b t_int hv88) (by rfl)) ⟨(A0a hv89).1,by have h0:=(A0a hv89).1;have h1:=A0o hv89;rw [List.length_map];(try dsimp only);omega⟩ (by first | rfl | simp [setL] | omega) ?_
        refine X.ldE (sz2:=1) shp3 (A0m (off:=0) (by exact A0h (f:=t_int) (fun _=>rfl)) (A0b t_int hv88) (by rfl)) (A0m (off:=0) (by exact A0h (f:=int) (fun _=>rfl)) (A0b int hv89) (by rfl)) (by first | rfl | simp [setL] | omega) ?_
        refine X.mv ?_
        refine X.mv ?_
        obtain ⟨v96,hv96,h⟩:=bindE h
        refine X.idxT (l:=a84.map t_int) elt59 ⟨(A0a hv96).1,by have h0:=(A0a hv96).1;have h1:=A0o hv96;rw [List.length_map];(try dsimp only);omega⟩ (by first | rfl | simp [setL] | omega) ?_
        refine X.ldRow (sz:=1) shp25 (A0m (off:=0) (by exact A0h (f:=t_int) (fun _=>rfl)) (A0b t_int hv96) (by rfl)) (by first | rfl | simp [setL] | omega) ?_
        refine X.mv ?_
        obtain ⟨v97,hv97,h⟩:=bindE h
        refine X.idxR (l:=a84.map t_int) (rl:=v96.map int) elt25 (A0m (off:=0) (by exact A0h (f:=t_int) (fun _=>rfl)) (A0b t_int hv96) (by rfl)) ⟨(A0a hv97).1,by have h0:=(A0a hv97).1;have h1:=A0o hv97;rw [List.length_map];(try dsimp only);omega⟩ (by first | rfl | simp [setL] | omega) ?_
        refine X.ldE (sz2:=1) shp3 (A0m (off:=0) (by exact A0h (f:=t_int) (fun _=>rfl)) (A0b t_int hv96) (by rfl)) (A0m (off:=0) (by exact A0h (f:=int) (fun _=>rfl)) (A0b int hv97) (by rfl)) (by first | rfl | simp [setL] | omega) ?_
        refine X.addW (h:=?_)
        obtain ⟨v98,hv98,h⟩:=bindE h
        refine X.cp (T0e _ _ _ hv98) ?_
        refine X.idxR (l:=a84.map t_int) (rl:=v88.map int) elt25 (A0m (off:=0) (by exact A0h (f:=t_int) (fun _=>rfl)) (A0b t_int hv88) (by rfl)) ⟨(A0a hv95).1,by have h0:=(A0a hv95).1;have h1:=A0o hv95;rw [List.length_map];(try dsimp only);omega⟩ (by first | rfl | simp [setL] | omega) ?_
        refine X.stE (l2:=(setL a84 z71 (setL v88 z83 v98)).map t_int) (rl2:=(setL v88 z83 v98).map int) (sz2:=1) (sz:=1) shp3 (A0m (off:=0) (by exact A0h (f:=t_int) (fun _=>rfl)) (A0b t_int hv88) (by rfl)) (A0m (off:=0) (by exact A0h (f:=int) (fun _=>rfl)) (A0b int hv95) (by rfl)) (by simp [setL]) (by exact A0h (f:=int) (fun _=>rfl)) (by rw [← C0w];exact J0z (by exact A0h (f:=int) (fun _=>rfl)) (A0b int hv95) (by rfl) (by decide)) (by simp [setL]) (by exact A0h (f:=t_int) (fun _=>rfl)) (by rw [← C0w];exact J0z (by exact A0h (f:=t_int) (fun _=>rfl)) (A0b t_int hv88) (by rfl) (by decide)) (by first | rfl | simp [setL] | omega) ?_
        refine X.nil (Run.blk (Run.reg (X.ad ?_)))
        refine X.mn ?_
        refine R.castS (t:=3) (.tref 832 ((setL a84 z71 (setL v88 z83 v98)).map t_int).length .out) (by rfl) (.inl (by first | rfl | simp [setL])) ?_
        exact R.ag hag82 (n82 - 1) (z83+1,(setL a84 z71 (setL v88 z83 v98))) (R.n3 (by first | (rw [hds82];exact h) | (dsimp only;rw [hds82];exact h)))
       replace h:=condF hc94 h
       refine Run.skip (Run.blk (Run.reg (X.ad ?_)))
       refine X.mn ?_
       exact R.ag hag82 (n82 - 1) (z83+1,a84) (R.n3 (by first | (rw [hds82];exact h) | (dsimp only;rw [hds82];exact h)))
      rw [A0j hza82 hc87] at h
      rw [G0b] at h
      refine Run.exit (by rfl) ?_
      exact R.mt hmeet78 a84 (Option.some.inj h)
     rintro p99 rfl
     refine Run.blk (Run.reg (X.ad ?_))
     refine X.mn ?_
     exact R.ag hag70 (n70 - 1) (z71+1,p99) (R.n3 (by first | (rw [hds70];exact h) | (dsimp only;rw [hds70];exact h)))
    rw [A0j hza70 hc75] at h
    rw [H0h] at h
    refine Run.exit (by rfl) ?_
    exact R.mt hmeet66 a72 (Option.some.inj h)
   rintro p100 rfl
   refine Run.blk (Run.reg (X.ad ?_))
   refine X.mn ?_
   exact R.ag hag58 (n58 - 1) (z59+1,p100) (R.n3 (by first | (rw [hds58];exact h) | (dsimp only;rw [hds58];exact h)))
  rw [A0j hza58 hc63] at h
  rw [H0g] at h
  refine Run.exit (by rfl) ?_
  exact R.mt hmeet54 a60 (Option.some.inj h)
 rintro p101 rfl
 refine Run.sr (X.mv ?_)
 refine X.an ?_
 cases h
 refine R.fin1t Tryz.results133 (by rfl) (by rfl) (by first | rfl | simp [setL] | omega) ?_
 rfl
theorem S0s (b0:A0d)(r:List (List Int))(h:G0l b0=some r):PC Tryz.prog 90 [A0v b0] (.tre 25 1 (r.map t_int)):=by
 unfold G0l at h
 refine PC.start Tryz.func90 Tryz.ntmps90 rfl (by kernel_rfl) rfl ?_
 refine Run.sr (X.bx ?_)
 refine X.an ?_
 refine Run.seq (Run.seq ?_)
 obtain ⟨v1,hv1,h⟩:=bindE h
 obtain ⟨e2,he2,h2⟩:=bindE h
 refine R.regG [(1,.lptr 64 0),(11,bool e2)] [(64,.blk true [int b0.Deadline,.slice (b0.Activities.map A0c),.slice (b0.Links.map A0k),.slice (b0.Resources.map A0e),.slice (b0.Stocks.map int)])] ?_ ?_
 ·clear h;have h:=he2;clear he2 h2
  refine X.ld shp34 ?_
  refine X.cp (S0r _ _ hv1) ?_
  refine X.un (h:=?_)
  refine X.mv ?_
  refine X.iG (fun hb3=>?_) (fun hb3=>?_)
  ·replace h:=condF hb3 h
   refine X.ld shp34 ?_
   refine X.gy ?_
   obtain ⟨v4,hv4,h⟩:=bindE h
   refine X.cp (T0s _ _ hv4) ?_
   refine X.gy (X.ls elt25 ?_)
   refine X.gy (X.bi ?_)
   refine X.pF ?_
   cases h
   exact X.eG
  replace h:=condT hb3 h
  refine X.gn (X.gn (X.gn (X.pT ?_)))
  cases h
  exact X.eG
 replace h:=h2;clear h2
 refine R.cd (fun hc5=>?_) (fun hc5=>?_)
 ·replace h:=condT hc5 h
  refine Run.sr (X.an ?_)
  cases h
  refine R.fin1tn (e:=25) (sz:=1) Tryz.results90 (by rfl) (by decide) ?_
  rfl
 replace h:=condF hc5 h
 refine Run.skip (Run.sr (X.ld shp34 ?_))
 obtain ⟨v6,hv6,h⟩:=bindE h
 refine X.callTr (D1e _ _ hv6) (by rfl) (by rfl) (by rfl) (by trivial) (by rfl) (by rfl) (by rfl) (by rfl) ?_
 refine X.an ?_
 cases h
 refine R.fin1t Tryz.results90 (by rfl) (by rfl) (by first | rfl | simp [setL] | omega) ?_
 rfl
theorem M0s (b0:A0d)(b1:Int)(r:Int)(h:H0c b0 b1=some r):PC Tryz.prog 64 [A0v b0,int b1] (int r):=by
 unfold H0c at h
 refine PC.start Tryz.func64 Tryz.ntmps64 rfl (by kernel_rfl) rfl ?_
 refine Run.sr (X.bx ?_)
 refine X.an ?_
 refine Run.seq (Run.draw (D0a [(1,([128],[],[],[])),(6,([128],[],[],[])),(10,([],[960],[],[])),(11,([960],[],[],[]))]) mixed (by kernel_rfl) (by kernel_rfl) ?_)
 refine X.fl D0p ?_
 refine X.ld shp30 ?_
 refine X.mv ?_
 obtain ⟨v1,hv1,h⟩:=bindE h
 refine X.ix elt30 (A0a hv1).1 (A0b A0c hv1) ?_
 refine X.lc shp50 ?_
 refine X.fl D0p ?_
 refine X.ld shp30 ?_
 refine X.mv ?_
 refine X.ix elt30 (A0a hv1).1 (A0b A0c hv1) ?_
 refine X.lc shp50 ?_
 obtain ⟨v2,hv2,h⟩:=bindE h
 refine X.callF (R0a _ _ hv2) (by rfl) (by rfl) (by rfl) (by trivial) (by rfl) (by rfl) (by rfl) (by rfl) ?_
 obtain ⟨v3,hv3,h⟩:=bindE h
 refine X.cp (Q0w _ _ _ hv3) ?_
 refine X.an ?_
 cases h
 refine R.f1 Tryz.results64 ?_
 rfl
theorem D0n (b0:Int)(b1:Int)(b2:Int)(r:Bool)(h:F0u b0 b1 b2=some r):PC Tryz.prog 71 [int b0,int b1,int b2] (bool r):=by
 unfold F0u at h
 refine PC.start Tryz.func71 Tryz.ntmps71 rfl (by kernel_rfl) rfl ?_
 refine Run.sr (X.an ?_)
 refine Run.seq ?_
 obtain ⟨e1,he1,h2⟩:=bindE h
 refine R.regG [(6,bool e1)] [] ?_ ?_
 ·clear h;have h:=he1;clear he1 h2
  refine X.mv ?_
  refine X.mv ?_
  refine X.bi ?_
  refine X.mv ?_
  refine X.iG (fun hb2=>?_) (fun hb2=>?_)
  ·replace h:=condT hb2 h
   refine X.mv ?_
   refine X.gy (X.mv ?_)
   refine X.gy (X.bi ?_)
   refine X.pT ?_
   refine X.as ?_
   cases h
   exact X.eG
  replace h:=condF hb2 h
  refine X.gn (X.gn (X.pF ?_))
  refine X.as ?_
  cases h
  exact X.eG
 replace h:=h2;clear h2
 cases h
 refine R.f1 Tryz.results71 ?_
 rfl
theorem V0n (b0:Int)(r:Bool)(h:N0h b0=some r):PC Tryz.prog 128 [int b0] (bool r):=by
 unfold N0h at h
 refine PC.start Tryz.func128 Tryz.ntmps128 rfl (by kernel_rfl) rfl ?_
 refine Run.sr (X.an ?_)
 refine Run.sr (X.mv ?_)
 obtain ⟨v1,hv1,h⟩:=bindE h
 refine X.cp (D0n _ _ _ _ hv1) ?_
 refine X.an ?_
 cases h
 refine R.f1 Tryz.results128 ?_
 rfl
theorem R0t (b0:List Int)(b1:Int)(r:Bool)(h:K0w b0 b1=some r):PC Tryz.prog 147 [.slice (b0.map int),int b1] (bool r):=by
 unfold K0w at h
 refine PC.start Tryz.func147 Tryz.ntmps147 rfl (by kernel_rfl) rfl ?_
 refine Run.sr (X.an ?_)
 refine Run.seq (Run.sr (X.mv ?_))
 refine X.ls elt25 ?_
 refine X.mn ?_
 obtain ⟨o1,ho1,h⟩:=bindE h
 refine R.join2 (β:=Unit) [(0,.slice (b0.map int)),(1,int b1)] [] (fun p14 S=>S) (fun p14 M=>M) (fun p14=>(Sum.inl p14)=o1) ?_ ?_
 ·intro JJ4 hmeet3
  have hup2:=h;clear h;have h:=ho1;clear ho1
  refine Run.block ?_
  refine R.bndS (t:=0) (by rfl) (fun hbd7=>?_)
  replace hbd7:b0.length≤9223372036854775807:=by first | (rw [List.length_map] at hbd7;exact hbd7) | simp
  refine R.lp (β:=Int) [(0,.slice (b0.map int)),(1,int b1),(7,.slice (b0.map int)),(8,int (b0.length:Int))] [] (fun bb S=>(9,int bb)::S) (fun bb M=>M) (fun n bb=>0≤bb∧bb+n=(b0.length:Int)∧F0s (b0.drop bb.toNat) bb=some o1) b0.length (0:Int) ⟨Int.le_refl _,by simp,h⟩ ?_
  clear h
  rintro JJ7 n7 z8 hag7 ⟨hza7,hzb7,h⟩
  refine Run.sr (X.bi ?_)
  refine X.nil (Run.seq ?_)
  refine R.cd (fun hc11=>?_) (fun hc11=>?_)
  ·obtain ⟨x9,xs10,hd7,hx7,hds7,hlt7⟩:=A0q hza7 hc11
   rw [hd7] at h
   rw [F0s] at h
   refine Run.skip (Run.seq (Run.block (Run.sr (X.ix elt25 (A0a hx7).1 (A0b int hx7) ?_))))
   refine X.lc shp3 ?_
   refine X.an ?_
   refine Run.sr (X.mv ?_)
   obtain ⟨v12,hv12,h⟩:=bindE h
   refine X.cp (V0n _ _ hv12) ?_
   refine X.un (h:=?_)
   refine X.nil ?_
   refine R.cd (fun hc13=>?_) (fun hc13=>?_)
   ·replace h:=condT hc13 h
    refine Run.sr (X.an ?_)
    cases h
    have h:=hup2
    replace h:=elimR h
    cases h
    refine R.f1 Tryz.results147 ?_
    rfl
   replace h:=condF hc13 h
   refine Run.skip (Run.blk (Run.reg (X.ad ?_)))
   refine X.mn ?_
   exact R.ag hag7 (n7 - 1) (z8+1) (R.n3 (by first | (rw [hds7];exact h) | (dsimp only;rw [hds7];exact h)))
  rw [A0j hza7 hc11] at h
  rw [F0s] at h
  refine Run.exit (by rfl) ?_
  exact R.mt hmeet3 () (Option.some.inj h)
 rintro p14 rfl
 replace h:=elimL h
 refine Run.sr (X.mv ?_)
 refine X.ls elt25 ?_
 refine X.mv ?_
 refine X.bi ?_
 refine X.an ?_
 cases h
 refine R.f1 Tryz.results147 ?_
 rfl
theorem E1g (b0:TMode)(b1:Int)(b2:Int)(r:Bool)(h:U0t b0 b1 b2=some r):PC Tryz.prog 122 [B0l b0,int b1,int b2] (bool r):=by
 unfold U0t at h
 refine PC.start Tryz.func122 Tryz.ntmps122 rfl (by kernel_rfl) rfl ?_
 refine Run.sr (X.bx ?_)
 refine X.an ?_
 refine Run.seq ?_
 obtain ⟨v1,hv1,h⟩:=bindE h
 obtain ⟨e2,he2,h2⟩:=bindE h
 refine R.regG [(6,bool e2)] [] ?_ ?_
 ·clear h;have h:=he2;clear he2 h2
  refine X.fl L0t ?_
  refine X.ld shp3 ?_
  refine X.cp (D0n _ _ _ _ hv1) ?_
  refine X.mv ?_
  refine X.iG (fun hb3=>?_) (fun hb3=>?_)
  ·replace h:=condT hb3 h
   refine X.fl S0d ?_
   refine X.gy (X.ld shp25 ?_)
   refine X.gy (X.mv ?_)
   refine X.gy ?_
   obtain ⟨v4,hv4,h⟩:=bindE h
   refine X.cp (R0t _ _ _ hv4) ?_
   refine X.pT ?_
   refine X.mv ?_
   refine X.iG (fun hb5=>?_) (fun hb5=>?_)
   ·replace h:=condT hb5 h
    refine X.fl S0g ?_
    refine X.gy (X.ld shp25 ?_)
    refine X.gy (X.mv ?_)
    refine X.gy ?_
    obtain ⟨v6,hv6,h⟩:=bindE h
    refine X.cp (R0t _ _ _ hv6) ?_
    refine X.pT ?_
    refine X.as ?_
    cases h
    exact X.eG
   replace h:=condF hb5 h
   refine X.gn (X.gn (X.gn (X.pF ?_)))
   refine X.as ?_
   cases h
   exact X.eG
  replace h:=condF hb3 h
  refine X.gn (X.gn (X.gn (X.pF ?_)))
  refine X.mv ?_
  refine X.gn (X.gn (X.gn (X.gn (X.pF ?_))))
  refine X.as ?_
  cases h
  exact X.eG
 replace h:=h2;clear h2
 cases h
 refine R.f1 Tryz.results122 ?_
 rfl
theorem E1z (b0:ByteArray)(r:Bool)(h:T0p b0=some r):PC Tryz.prog 123 [str b0] (bool r):=by
 unfold T0p at h
 refine PC.start Tryz.func123 Tryz.ntmps123 rfl (by kernel_rfl) rfl ?_
 refine Run.sr (X.an ?_)
 refine Run.seq (Run.sr (X.mv ?_))
 refine X.lenStr Tryz.underlying9 (by rfl) (by rfl) ?_
 refine X.mn ?_
 obtain ⟨o1,ho1,h⟩:=bindE h
 refine R.join2 (β:=Unit) [(0,str b0)] [] (fun p19 S=>S) (fun p19 M=>M) (fun p19=>(Sum.inl p19)=o1) ?_ ?_
 ·intro JJ4 hmeet3
  have hup2:=h;clear h;have h:=ho1;clear ho1
  refine Run.block ?_
  refine R.lp (β:=Int) [(0,str b0),(6,int (b0.size:Int))] [] (fun bb S=>(7,int bb)::S) (fun bb M=>M) (fun n bb=>K0j b0 n bb=some o1) F0 0 h ?_
  clear h
  rintro JJ5 n5 a7 hag5 h
  obtain _ | n5:=n5
  ·exact absurd h (by simp [K0j])
  rw [K0j] at h
  refine Run.sr (X.bi ?_)
  refine X.nil (Run.seq ?_)
  refine R.cd (fun hc10=>?_) (fun hc10=>?_)
  ·replace h:=condT hc10 h
   refine Run.skip (Run.seq (Run.block (Run.sr (X.mv ?_))))
   refine X.an ?_
   refine Run.seq ?_
   obtain ⟨v11,hv11,h⟩:=bindE h
   obtain ⟨e12,he12,h2⟩:=bindE h
   refine R.regG [(0,str b0),(3,int a7),(4,bool e12),(6,int (b0.size:Int)),(7,int a7)] [] ?_ ?_
   ·clear h;have h:=he12;clear he12 h2
    refine X.mv ?_
    refine X.mv ?_
    refine X.indexStr2 hv11 Tryz.underlying9 (by rfl) (by rfl) (by rfl) ?_
    refine X.bi ?_
    refine X.mv ?_
    refine X.iG (fun hb13=>?_) (fun hb13=>?_)
    ·replace h:=condT hb13 h
     refine X.mv ?_
     refine X.gy (X.mv ?_)
     refine X.gy (X.indexStr2 hv11 Tryz.underlying9 (by rfl) (by rfl) (by rfl) ?_)
     refine X.gy (X.bi ?_)
     refine X.pT ?_
     refine X.as ?_
     cases h
     exact X.eG
    replace h:=condF hb13 h
    refine X.gn (X.gn (X.gn (X.pF ?_)))
    refine X.as ?_
    cases h
    exact X.eG
   replace h:=h2;clear h2
   refine Run.seq ?_
   obtain ⟨e14,he14,h2⟩:=bindE h
   refine R.regG [(0,str b0),(6,int (b0.size:Int)),(7,int a7),(37,bool e14)] [] ?_ ?_
   ·clear h;have h:=he14;clear he14 h2
    refine X.mv ?_
    refine X.un (h:=?_)
    refine X.mv ?_
    refine X.iG (fun hb15=>?_) (fun hb15=>?_)
    ·replace h:=condT hb15 h
     refine X.mv ?_
     refine X.gy (X.bi ?_)
     refine X.gy (X.mv ?_)
     refine X.iG (fun hb16=>?_) (fun hb16=>?_)
     ·replace h:=condF hb16 h
      refine X.mv ?_
      refine X.gy (X.mv ?_)
      refine X.gy (X.indexStr2 hv11 Tryz.underlying9 (by rfl) (by rfl) (by rfl) ?_)
      refine X.gy (X.bi ?_)
      refine X.gy (X.pF ?_)
      refine X.gy (X.mv ?_)
      refine X.iG (fun hb17=>?_) (fun hb17=>?_)
      ·replace h:=condF hb17 h
       refine X.mv ?_
       refine X.gy (X.mv ?_)
       refine X.gy (X.indexStr2 hv11 Tryz.underlying9 (by rfl) (by rfl) (by rfl) ?_)
       refine X.gy (X.bi ?_)
       refine X.gy (X.pF ?_)
       refine X.pT ?_
       cases h
       exact X.eG
      replace h:=condT hb17 h
      refine X.gn (X.gn (X.gn (X.gy (X.pT ?_))))
      refine X.pT ?_
      cases h
      exact X.eG
     replace h:=condT hb16 h
     refine X.gn (X.gn (X.gn (X.gy (X.pT ?_))))
     refine X.gy (X.mv ?_)
     refine X.gn (X.gn (X.gn (X.gn (X.gy (X.pT ?_)))))
     refine X.pT ?_
     cases h
     exact X.eG
    replace h:=condF hb15 h
    refine X.gn (X.gn (X.gU (h:=?_)))
    refine X.gU (h:=?_)
    refine X.gU (h:=?_)
    refine X.gU (h:=?_)
    refine X.gn (X.gn (X.gU (h:=?_)))
    refine X.gU (h:=?_)
    refine X.gU (h:=?_)
    refine X.gU (h:=?_)
    refine X.gn (X.pF ?_)
    cases h
    exact X.eG
   replace h:=h2;clear h2
   refine R.cd (fun hc18=>?_) (fun hc18=>?_)
   ·replace h:=condT hc18 h
    refine Run.sr (X.an ?_)
    cases h
    have h:=hup2
    replace h:=elimR h
    cases h
    refine R.f1 Tryz.results123 ?_
    rfl
   replace h:=condF hc18 h
   refine Run.skip (Run.blk (Run.reg (X.addW (h:=?_))))
   refine X.mn ?_
   exact hag5 n5 (W (a7+1)) _ _ (by omega) h (by trivial) (by trivial) (by rfl) (by rfl)
  replace h:=condF hc10 h
  refine Run.exit (by rfl) ?_
  exact R.mt hmeet3 () (Option.some.inj h)
 rintro p19 rfl
 replace h:=elimL h
 refine Run.sr (X.mv ?_)
 refine X.lenStr Tryz.underlying9 (by rfl) (by rfl) ?_
 obtain ⟨v21,hv21,h⟩:=bindE h
 refine X.cp (D0n _ _ _ _ hv21) ?_
 refine X.an ?_
 cases h
 refine R.f1 Tryz.results123 ?_
 rfl
theorem Z0h (b0:A0g)(b1:Int)(b2:Int)(r:Bool)(h:M0d b0 b1 b2=some r):PC Tryz.prog 72 [A0c b0,int b1,int b2] (bool r):=by
 unfold M0d at h
 refine PC.start Tryz.func72 Tryz.ntmps72 rfl (by kernel_rfl) rfl ?_
 refine Run.sr (X.bx ?_)
 refine X.an ?_
 refine Run.seq (Run.sr (X.fl M0k ?_))
 refine X.ld shp48 ?_
 refine X.ls elt48 ?_
 refine X.mn ?_
 obtain ⟨o1,ho1,h⟩:=bindE h
 refine R.join2 (β:=Unit) [(3,.lptr 192 0)] [(192,.blk true [str b0.Name,int b0.Family,.slice (b0.Modes.map B0l)])] (fun p14 S=>S) (fun p14 M=>M) (fun p14=>(Sum.inl p14)=o1) ?_ ?_
 ·intro JJ4 hmeet3
  have hup2:=h;clear h;have h:=ho1;clear ho1
  refine Run.block ?_
  refine R.bndS (t:=10) (by rfl) (fun hbd7=>?_)
  replace hbd7:b0.Modes.length≤9223372036854775807:=by first | (rw [List.length_map] at hbd7;exact hbd7) | simp
  refine R.lp (β:=Int) [(1,int b1),(2,int b2),(3,.lptr 192 0),(10,.slice (b0.Modes.map B0l)),(11,int (b0.Modes.length:Int))] [(192,.blk true [str b0.Name,int b0.Family,.slice (b0.Modes.map B0l)])] (fun bb S=>(12,int bb)::S) (fun bb M=>M) (fun n bb=>0≤bb∧bb+n=(b0.Modes.length:Int)∧F0q b1 b2 (b0.Modes.drop bb.toNat) bb=some o1) b0.Modes.length (0:Int) ⟨Int.le_refl _,by simp,h⟩ ?_
  clear h
  rintro JJ7 n7 z8 hag7 ⟨hza7,hzb7,h⟩
  refine Run.sr (X.bi ?_)
  refine X.nil (Run.seq ?_)
  refine R.cd (fun hc11=>?_) (fun hc11=>?_)
  ·obtain ⟨x9,xs10,hd7,hx7,hds7,hlt7⟩:=A0q hza7 hc11
   rw [hd7] at h
   rw [F0q] at h
   refine Run.skip (Run.seq (Run.block (Run.sr (X.ix elt48 (A0a hx7).1 (A0b B0l hx7) ?_))))
   refine X.lc L0g ?_
   refine X.alloc R0g (h:=?_)
   refine X.sl L0g ?_
   refine X.nil (Run.sr (X.ld L0g ?_))
   refine X.mv ?_
   refine X.mv ?_
   obtain ⟨v12,hv12,h⟩:=bindE h
   refine X.cp (E1g _ _ _ _ hv12) ?_
   refine X.un (h:=?_)
   refine X.nil ?_
   refine R.cd (fun hc13=>?_) (fun hc13=>?_)
   ·replace h:=condT hc13 h
    refine Run.sr (X.an ?_)
    cases h
    have h:=hup2
    replace h:=elimR h
    cases h
    refine R.f1 Tryz.results72 ?_
    rfl
   replace h:=condF hc13 h
   refine Run.skip (Run.blk (Run.reg (X.ad ?_)))
   refine X.mn ?_
   exact R.ag hag7 (n7 - 1) (z8+1) (R.n3 (by first | (rw [hds7];exact h) | (dsimp only;rw [hds7];exact h)))
  rw [A0j hza7 hc11] at h
  rw [F0q] at h
  refine Run.exit (by rfl) ?_
  exact R.mt hmeet3 () (Option.some.inj h)
 rintro p14 rfl
 replace h:=elimL h
 refine Run.seq ?_
 obtain ⟨v16,hv16,h⟩:=bindE h
 obtain ⟨e17,he17,h2⟩:=bindE h
 refine R.regG [(6,bool e17)] [] ?_ ?_
 ·clear h;have h:=he17;clear he17 h2
  refine X.fl P0n ?_
  refine X.ld shp9 ?_
  refine X.cp (E1z _ _ hv16) ?_
  refine X.mv ?_
  refine X.iG (fun hb18=>?_) (fun hb18=>?_)
  ·replace h:=condT hb18 h
   refine X.fl W0b ?_
   refine X.gy (X.ld shp3 ?_)
   refine X.gy ?_
   obtain ⟨v19,hv19,h⟩:=bindE h
   refine X.cp (D0n _ _ _ _ hv19) ?_
   refine X.pT ?_
   refine X.mv ?_
   refine X.iG (fun hb20=>?_) (fun hb20=>?_)
   ·replace h:=condT hb20 h
    refine X.fl M0k ?_
    refine X.gy (X.ld shp48 ?_)
    refine X.gy (X.ls elt48 ?_)
    refine X.gy ?_
    obtain ⟨v21,hv21,h⟩:=bindE h
    refine X.cp (D0n _ _ _ _ hv21) ?_
    refine X.pT ?_
    refine X.as ?_
    cases h
    exact X.eG
   replace h:=condF hb20 h
   refine X.gn (X.gn (X.gn (X.pF ?_)))
   refine X.as ?_
   cases h
   exact X.eG
  replace h:=condF hb18 h
  refine X.gn (X.gn (X.pF ?_))
  refine X.mv ?_
  refine X.gn (X.gn (X.gn (X.gn (X.pF ?_))))
  refine X.as ?_
  cases h
  exact X.eG
 replace h:=h2;clear h2
 cases h
 refine R.f1 Tryz.results72 ?_
 rfl
theorem R0m (b0:A0g)(c1:ByteArray)(r:Bool)(h:G0e b0 c1=some r):PC Tryz.prog 125 [A0c b0,.cptr (str c1:PV).cells 0] (bool r):=by
 unfold G0e at h
 refine PC.start Tryz.func125 Tryz.ntmps125 rfl (by kernel_rfl) rfl ?_
 refine Run.sr (X.bx ?_)
 refine X.an ?_
 refine Run.sr (X.fl P0n ?_)
 refine X.ld shp9 ?_
 refine X.lc shp9 ?_
 refine X.bi ?_
 refine X.an ?_
 cases h
 refine R.f1 Tryz.results125 ?_
 rfl
theorem M0n (b0:List A0g)(g1:A0g→Option Bool)(g1id:Nat)(g1c:List PV)(hg1:∀(x0:A0g) v,g1 x0=some v→PC Tryz.prog g1id ([A0c x0] ++ g1c) (bool v))(r:Int)(h:E0i b0 g1=some r):PC Tryz.prog 124 [.slice (b0.map A0c),.fn g1id g1c] (int r):=by
 unfold E0i at h
 refine PC.start Tryz.func124 Tryz.ntmps124 rfl (by kernel_rfl) rfl ?_
 refine Run.sr (X.an ?_)
 refine Run.seq (Run.sr (X.mv ?_))
 refine X.ls elt30 ?_
 refine X.mn ?_
 obtain ⟨o1,ho1,h⟩:=bindE h
 refine R.join2 (β:=Unit) [] [] (fun p14 S=>S) (fun p14 M=>M) (fun p14=>(Sum.inl p14)=o1) ?_ ?_
 ·intro JJ4 hmeet3
  have hup2:=h;clear h;have h:=ho1;clear ho1
  refine Run.block ?_
  refine R.bndS (t:=0) (by rfl) (fun hbd7=>?_)
  replace hbd7:b0.length≤9223372036854775807:=by first | (rw [List.length_map] at hbd7;exact hbd7) | simp
  refine R.lp (β:=Int) [(0,.slice (b0.map A0c)),(1,.fn g1id g1c),(7,int (b0.length:Int))] [] (fun bb S=>(8,int bb)::S) (fun bb M=>M) (fun n bb=>0≤bb∧bb+n=(b0.length:Int)∧B0d g1 (b0.drop bb.toNat) bb=some o1) b0.length (0:Int) ⟨Int.le_refl _,by simp,h⟩ ?_
  clear h
  rintro JJ7 n7 z8 hag7 ⟨hza7,hzb7,h⟩
  refine Run.sr (X.bi ?_)
  refine X.nil (Run.seq ?_)
  refine R.cd (fun hc11=>?_) (fun hc11=>?_)
  ·obtain ⟨x9,xs10,hd7,hx7,hds7,hlt7⟩:=A0q hza7 hc11
   rw [hd7] at h
   rw [B0d] at h
   refine Run.skip (Run.seq (Run.block (Run.sr (X.mv ?_))))
   refine X.an ?_
   refine Run.sr (X.mv ?_)
   refine X.mv ?_
   refine X.mv ?_
   refine X.ix elt30 (A0a hx7).1 (A0b A0c hx7) ?_
   refine X.lc shp50 ?_
   obtain ⟨v12,hv12,h⟩:=bindE h
   refine X.cp (hg1 _ _ hv12) ?_
   refine X.nil ?_
   refine R.cd (fun hc13=>?_) (fun hc13=>?_)
   ·replace h:=condT hc13 h
    refine Run.sr (X.mv ?_)
    refine X.an ?_
    cases h
    have h:=hup2
    replace h:=elimR h
    cases h
    refine R.f1 Tryz.results124 ?_
    rfl
   replace h:=condF hc13 h
   refine Run.skip (Run.blk (Run.reg (X.ad ?_)))
   refine X.mn ?_
   exact R.ag hag7 (n7 - 1) (z8+1) (R.n3 (by first | (rw [hds7];exact h) | (dsimp only;rw [hds7];exact h)))
  rw [A0j hza7 hc11] at h
  rw [B0d] at h
  refine Run.exit (by rfl) ?_
  exact R.mt hmeet3 () (Option.some.inj h)
 rintro p14 rfl
 replace h:=elimL h
 refine Run.sr (X.an ?_)
 cases h
 refine R.f1 Tryz.results124 ?_
 rfl
theorem V0u (b0:A0d)(b1:ByteArray)(r:Int)(h:J0m b0 b1=some r):PC Tryz.prog 73 [A0v b0,str b1] (int r):=by
 unfold J0m at h
 refine PC.start Tryz.func73 Tryz.ntmps73 rfl (by kernel_rfl) rfl ?_
 refine Run.sr (X.bx ?_)
 refine X.bx ?_
 refine X.an ?_
 refine Run.seq ?_
 refine R.pubBlk (n:=192) (by rfl) (by rfl) (by repeat (first | trivial | refine ⟨by first | rfl | simp [setL],?_⟩)) ?_
 refine Run.reg (X.fl D0p ?_)
 refine X.ld shp30 ?_
 refine X.makeFunc (by rfl) (by rfl) (by repeat (first | trivial | refine ⟨by first | rfl | simp [setL],?_⟩)) (by rfl) (by rfl) ?_
 obtain ⟨v1,hv1,h⟩:=bindE h
 refine X.cp (M0n _ (fun x0=>G0e x0 b1) _ _ (fun x0 v hv=>R0m _ _ _ hv) _ hv1) ?_
 refine X.an ?_
 cases h
 refine R.f1 Tryz.results73 ?_
 rfl
theorem E1w (b0:Int)(r:Bool)(h:V0z b0=some r):PC Tryz.prog 85 [int b0] (bool r):=by
 unfold V0z at h
 refine PC.start Tryz.func85 Tryz.ntmps85 rfl (by kernel_rfl) rfl ?_
 refine Run.sr (X.an ?_)
 refine Run.sr (X.mv ?_)
 obtain ⟨v1,hv1,h⟩:=bindE h
 refine X.cp (D0n _ _ _ _ hv1) ?_
 refine X.an ?_
 cases h
 refine R.f1 Tryz.results85 ?_
 rfl
theorem D1d (b0:List TStep)(r:Bool)(h:N0w b0=some r):PC Tryz.prog 84 [.slice (b0.map B0m)] (bool r):=by
 unfold N0w at h
 refine PC.start Tryz.func84 Tryz.ntmps84 rfl (by kernel_rfl) rfl ?_
 refine Run.sr (X.an ?_)
 refine Run.seq (Run.sr (X.mv ?_))
 refine X.ls elt58 ?_
 refine X.mn ?_
 obtain ⟨o1,ho1,h⟩:=bindE h
 refine R.join2 (β:=Unit) [(0,.slice (b0.map B0m))] [] (fun p24 S=>S) (fun p24 M=>M) (fun p24=>(Sum.inl p24)=o1) ?_ ?_
 ·intro JJ4 hmeet3
  have hup2:=h;clear h;have h:=ho1;clear ho1
  refine Run.block ?_
  refine R.bndS (t:=0) (by rfl) (fun hbd7=>?_)
  replace hbd7:b0.length≤9223372036854775807:=by first | (rw [List.length_map] at hbd7;exact hbd7) | simp
  refine R.lp (β:=Int) [(0,.slice (b0.map B0m)),(5,.slice (b0.map B0m)),(6,int (b0.length:Int))] [] (fun bb S=>(7,int bb)::S) (fun bb M=>M) (fun n bb=>0≤bb∧bb+n=(b0.length:Int)∧E0k b0 (b0.drop bb.toNat) bb=some o1) b0.length (0:Int) ⟨Int.le_refl _,by simp,h⟩ ?_
  clear h
  rintro JJ7 n7 z8 hag7 ⟨hza7,hzb7,h⟩
  refine Run.sr (X.bi ?_)
  refine X.nil (Run.seq ?_)
  refine R.cd (fun hc11=>?_) (fun hc11=>?_)
  ·obtain ⟨x9,xs10,hd7,hx7,hds7,hlt7⟩:=A0q hza7 hc11
   rw [hd7] at h
   rw [E0k] at h
   refine Run.skip (Run.seq (Run.block (Run.sr (X.mv ?_))))
   refine X.ix elt58 (A0a hx7).1 (A0b B0m hx7) ?_
   refine X.lc S0u ?_
   refine X.alloc D1g (h:=?_)
   refine X.as ?_
   refine X.sl S0u ?_
   refine X.nil (Run.seq ?_)
   obtain ⟨v12,hv12,h⟩:=bindE h
   obtain ⟨e13,he13,h2⟩:=bindE h
   refine R.drawG [(0,.slice (b0.map B0m)),(5,.slice (b0.map B0m)),(6,int (b0.length:Int)),(7,int z8),(45,bool e13)] [] (D0a [(1,([256],[],[],[])),(6,([256],[],[],[])),(15,([256],[],[],[])),(24,([256],[],[],[]))]) mixed (by kernel_rfl) (by kernel_rfl) ?_ ?_
   ·clear h;have h:=he13;clear he13 h2
    refine X.fl J0a ?_
    refine X.ld shp3 ?_
    refine X.cp (E1w _ _ hv12) ?_
    refine X.un (h:=?_)
    refine X.mv ?_
    refine X.iG (fun hb14=>?_) (fun hb14=>?_)
    ·replace h:=condF hb14 h
     refine X.fl S0j ?_
     refine X.gy (X.ld shp3 ?_)
     refine X.gy ?_
     obtain ⟨v15,hv15,h⟩:=bindE h
     refine X.cp (V0n _ _ hv15) ?_
     refine X.gy (X.un (h:=?_))
     refine X.pF ?_
     refine X.mv ?_
     refine X.iG (fun hb16=>?_) (fun hb16=>?_)
     ·replace h:=condF hb16 h
      refine X.mv ?_
      refine X.gy (X.bi ?_)
      refine X.gy (X.mv ?_)
      refine X.iG (fun hb17=>?_) (fun hb17=>?_)
      ·replace h:=condT hb17 h
       refine X.fl J0a ?_
       refine X.gy (X.ld shp3 ?_)
       refine X.gy (X.bi ?_)
       refine X.gy (X.pT ?_)
       refine X.pF ?_
       refine X.mv ?_
       refine X.iG (fun hb18=>?_) (fun hb18=>?_)
       ·replace h:=condF hb18 h
        refine X.mv ?_
        refine X.gy (X.bi ?_)
        refine X.gy (X.mv ?_)
        refine X.iG (fun hb19=>?_) (fun hb19=>?_)
        ·replace h:=condT hb19 h
         refine X.fl J0a ?_
         refine X.gy (X.ld shp3 ?_)
         refine X.gy (X.mv ?_)
         refine X.gy (X.mv ?_)
         refine X.gy (X.sub (by rfl) (by rfl) (by omega) (by rfl) ?_)
         refine X.gy ?_
         obtain ⟨v20,hv20,h⟩:=bindE h
         refine X.ix elt58 (A0a hv20).1 (A0b B0m hv20) ?_
         refine X.gy (X.fieldAddr_c J0a (by rfl) (by rfl) ?_)
         refine X.gy (X.lc shp3 ?_)
         refine X.gy (X.bi ?_)
         refine X.gy (X.pT ?_)
         refine X.pF ?_
         cases h
         exact X.eG
        replace h:=condF hb19 h
        refine X.gn (X.gn (X.gn (X.gn (X.gn (X.gn (X.gn (X.gn ?_)))))))
        refine X.gy (X.pF ?_)
        refine X.pF ?_
        cases h
        exact X.eG
       replace h:=condT hb18 h
       refine X.gn (X.gn (X.gU (h:=?_)))
       refine X.gU (h:=?_)
       refine X.gU (h:=?_)
       refine X.gU (h:=?_)
       refine X.gU (h:=?_)
       refine X.gU (h:=?_)
       refine X.gU (h:=?_)
       refine X.gU (h:=?_)
       refine X.gU (h:=?_)
       refine X.gn (X.pT ?_)
       cases h
       exact X.eG
      replace h:=condF hb17 h
      refine X.gn (X.gn (X.gy (X.pF ?_)))
      refine X.pF ?_
      refine X.mv ?_
      refine X.gy (X.mv ?_)
      refine X.gy (X.bi ?_)
      refine X.gy (X.mv ?_)
      refine X.iG (fun hb21=>?_) (fun hb21=>?_)
      ·replace h:=condT hb21 h
       refine X.fl J0a ?_
       refine X.gy (X.ld shp3 ?_)
       refine X.gy (X.mv ?_)
       refine X.gy (X.mv ?_)
       refine X.gy (X.sub (by rfl) (by rfl) (by omega) (by rfl) ?_)
       refine X.gy ?_
       obtain ⟨v22,hv22,h⟩:=bindE h
       refine X.ix elt58 (A0a hv22).1 (A0b B0m hv22) ?_
       refine X.gy (X.fieldAddr_c J0a (by rfl) (by rfl) ?_)
       refine X.gy (X.lc shp3 ?_)
       refine X.gy (X.bi ?_)
       refine X.gy (X.pT ?_)
       refine X.pF ?_
       cases h
       exact X.eG
      replace h:=condF hb21 h
      refine X.gn (X.gn (X.gn (X.gn (X.gn (X.gn (X.gn (X.gn ?_)))))))
      refine X.gy (X.pF ?_)
      refine X.pF ?_
      cases h
      exact X.eG
     replace h:=condT hb16 h
     refine X.gn (X.gn (X.gU (h:=?_)))
     refine X.gU (h:=?_)
     refine X.gU (h:=?_)
     refine X.gn (X.pT ?_)
     refine X.mv ?_
     refine X.gn (X.gn (X.gn (X.gU (h:=?_))))
     refine X.gU (h:=?_)
     refine X.gU (h:=?_)
     refine X.gU (h:=?_)
     refine X.gU (h:=?_)
     refine X.gU (h:=?_)
     refine X.gU (h:=?_)
     refine X.gU (h:=?_)
     refine X.gU (h:=?_)
     refine X.gn (X.pT ?_)
     cases h
     exact X.eG
    replace h:=condT hb14 h
    refine X.gn (X.gn (X.gn (X.pT ?_)))
    refine X.mv ?_
    refine X.gn (X.gn (X.gn (X.gU (h:=?_))))
    refine X.gU (h:=?_)
    refine X.gU (h:=?_)
    refine X.gn (X.pT ?_)
    refine X.mv ?_
    refine X.gn (X.gn (X.gn (X.gU (h:=?_))))
    refine X.gU (h:=?_)
    refine X.gU (h:=?_)
    refine X.gU (h:=?_)
    refine X.gU (h:=?_)
    refine X.gU (h:=?_)
    refine X.gU (h:=?_)
    refine X.gU (h:=?_)
    refine X.gU (h:=?_)
    refine X.gn (X.pT ?_)
    cases h
    exact X.eG
   replace h:=h2;clear h2
   refine R.cd (fun hc23=>?_) (fun hc23=>?_)
   ·replace h:=condT hc23 h
    refine Run.sr (X.an ?_)
    cases h
    have h:=hup2
    replace h:=elimR h
    cases h
    refine R.f1 Tryz.results84 ?_
    rfl
   replace h:=condF hc23 h
   refine Run.skip (Run.blk (Run.reg (X.ad ?_)))
   refine X.mn ?_
   exact R.ag hag7 (n7 - 1) (z8+1) (R.n3 (by first | (rw [hds7];exact h) | (dsimp only;rw [hds7];exact h)))
  rw [A0j hza7 hc11] at h
  rw [E0k] at h
  refine Run.exit (by rfl) ?_
  exact R.mt hmeet3 () (Option.some.inj h)
 rintro p24 rfl
 replace h:=elimL h
 refine Run.sr (X.mv ?_)
 refine X.ls elt58 ?_
 obtain ⟨v26,hv26,h⟩:=bindE h
 refine X.cp (D0n _ _ _ _ hv26) ?_
 refine X.an ?_
 cases h
 refine R.f1 Tryz.results84 ?_
 rfl
theorem Y0f (b0:A0n)(r:Bool)(h:M0c b0=some r):PC Tryz.prog 74 [A0e b0] (bool r):=by
 unfold M0c at h
 refine PC.start Tryz.func74 Tryz.ntmps74 rfl (by kernel_rfl) rfl ?_
 refine Run.sr (X.bx ?_)
 refine X.an ?_
 refine Run.seq (Run.sr (X.fl P0m ?_))
 refine X.ld shp59 ?_
 refine X.ls elt59 ?_
 refine X.mn ?_
 obtain ⟨o1,ho1,h⟩:=bindE h
 refine R.join2 (β:=Unit) [(1,.lptr 64 0)] [(64,.blk true [.slice (b0.Steps.map B0m),.slice (b0.Setup.map l_int)])] (fun p28 S=>S) (fun p28 M=>M) (fun p28=>(Sum.inl p28)=o1) ?_ ?_
 ·intro JJ4 hmeet3
  have hup2:=h;clear h;have h:=ho1;clear ho1
  refine Run.block ?_
  refine R.bndS (t:=8) (by rfl) (fun hbd7=>?_)
  replace hbd7:b0.Setup.length≤9223372036854775807:=by first | (rw [List.length_map] at hbd7;exact hbd7) | simp
  refine R.lp (β:=Int) [(1,.lptr 64 0),(8,.slice (b0.Setup.map l_int)),(9,int (b0.Setup.length:Int))] [(64,.blk true [.slice (b0.Steps.map B0m),.slice (b0.Setup.map l_int)])] (fun bb S=>(10,int bb)::S) (fun bb M=>M) (fun n bb=>0≤bb∧bb+n=(b0.Setup.length:Int)∧F0r (b0.Setup.drop bb.toNat) bb=some o1) b0.Setup.length (0:Int) ⟨Int.le_refl _,by simp,h⟩ ?_
  clear h
  rintro JJ7 n7 z8 hag7 ⟨hza7,hzb7,h⟩
  refine Run.sr (X.bi ?_)
  refine X.nil (Run.seq ?_)
  refine R.cd (fun hc11=>?_) (fun hc11=>?_)
  ·obtain ⟨x9,xs10,hd7,hx7,hds7,hlt7⟩:=A0q hza7 hc11
   rw [hd7] at h
   rw [F0r] at h
   refine Run.skip (Run.seq (Run.block (Run.sr (X.ix elt59 (A0a hx7).1 (A0b l_int hx7) ?_))))
   refine X.lc shp25 ?_
   refine X.an ?_
   refine Run.seq (Run.sr (X.mv ?_))
   refine X.ls elt25 ?_
   refine X.bi ?_
   refine X.nil ?_
   refine R.cd (fun hc12=>?_) (fun hc12=>?_)
   ·replace h:=condT hc12 h
    refine Run.sr (X.an ?_)
    cases h
    have h:=hup2
    replace h:=elimR h
    cases h
    refine R.f1 Tryz.results74 ?_
    rfl
   replace h:=condF hc12 h
   refine Run.skip (Run.sr (X.mv ?_))
   refine X.ls elt25 ?_
   refine X.mn ?_
   obtain ⟨o13,ho13,h⟩:=bindE h
   refine R.join2 (β:=Unit) [(1,.lptr 64 0),(8,.slice (b0.Setup.map l_int)),(9,int (b0.Setup.length:Int)),(10,int z8)] [(64,.blk true [.slice (b0.Steps.map B0m),.slice (b0.Setup.map l_int)])] (fun p26 S=>S) (fun p26 M=>M) (fun p26=>(Sum.inl p26)=o13) ?_ ?_
   ·intro JJ16 hmeet15
    have hup14:=h;clear h;have h:=ho13;clear ho13
    refine Run.block ?_
    refine R.bndS (t:=4) (by rfl) (fun hbd19=>?_)
    replace hbd19:x9.length≤9223372036854775807:=by first | (rw [List.length_map] at hbd19;exact hbd19) | simp
    refine R.lp (β:=Int) [(1,.lptr 64 0),(8,.slice (b0.Setup.map l_int)),(9,int (b0.Setup.length:Int)),(10,int z8),(17,.slice (x9.map int)),(18,int (x9.length:Int))] [(64,.blk true [.slice (b0.Steps.map B0m),.slice (b0.Setup.map l_int)])] (fun bb S=>(19,int bb)::S) (fun bb M=>M) (fun n bb=>0≤bb∧bb+n=(x9.length:Int)∧F0p (x9.drop bb.toNat) bb=some o13) x9.length (0:Int) ⟨Int.le_refl _,by simp,h⟩ ?_
    clear h
    rintro JJ19 n19 z20 hag19 ⟨hza19,hzb19,h⟩
    refine Run.sr (X.bi ?_)
    refine X.nil (Run.seq ?_)
    refine R.cd (fun hc23=>?_) (fun hc23=>?_)
    ·obtain ⟨x21,xs22,hd19,hx19,hds19,hlt19⟩:=A0q hza19 hc23
     rw [hd19] at h
     rw [F0p] at h
     refine Run.skip (Run.seq (Run.block (Run.sr (X.ix elt25 (A0a hx19).1 (A0b int hx19) ?_))))
     refine X.lc shp3 ?_
     refine X.an ?_
     refine Run.sr (X.mv ?_)
     obtain ⟨v24,hv24,h⟩:=bindE h
     refine X.cp (D0n _ _ _ _ hv24) ?_
     refine X.un (h:=?_)
     refine X.nil ?_
     refine R.cd (fun hc25=>?_) (fun hc25=>?_)
     ·replace h:=condT hc25 h
      refine Run.sr (X.an ?_)
      cases h
      have h:=hup14
      replace h:=elimR h
      cases h
      have h:=hup2
      replace h:=elimR h
      cases h
      refine R.f1 Tryz.results74 ?_
      rfl
     replace h:=condF hc25 h
     refine Run.skip (Run.blk (Run.reg (X.ad ?_)))
     refine X.mn ?_
     exact R.ag hag19 (n19 - 1) (z20+1) (R.n3 (by first | (rw [hds19];exact h) | (dsimp only;rw [hds19];exact h)))
    rw [A0j hza19 hc23] at h
    rw [F0p] at h
    refine Run.exit (by rfl) ?_
    exact R.mt hmeet15 () (Option.some.inj h)
   rintro p26 rfl
   replace h:=elimL h
   refine Run.blk (Run.reg (X.ad ?_))
   refine X.mn ?_
   exact R.ag hag7 (n7 - 1) (z8+1) (R.n3 (by first | (rw [hds7];exact h) | (dsimp only;rw [hds7];exact h)))
  rw [A0j hza7 hc11] at h
  rw [F0r] at h
  refine Run.exit (by rfl) ?_
  exact R.mt hmeet3 () (Option.some.inj h)
 rintro p28 rfl
 replace h:=elimL h
 refine Run.seq ?_
 obtain ⟨v30,hv30,h⟩:=bindE h
 obtain ⟨e31,he31,h2⟩:=bindE h
 refine R.regG [(2,bool e31)] [] ?_ ?_
 ·clear h;have h:=he31;clear he31 h2
  refine X.fl W0i ?_
  refine X.ld shp58 ?_
  refine X.cp (D1d _ _ hv30) ?_
  refine X.mv ?_
  refine X.iG (fun hb32=>?_) (fun hb32=>?_)
  ·replace h:=condT hb32 h
   refine X.fl P0m ?_
   refine X.gy (X.ld shp59 ?_)
   refine X.gy (X.ls elt59 ?_)
   refine X.gy (X.bi ?_)
   refine X.gy (X.mv ?_)
   refine X.iG (fun hb33=>?_) (fun hb33=>?_)
   ·replace h:=condF hb33 h
    refine X.fl P0m ?_
    refine X.gy (X.ld shp59 ?_)
    refine X.gy (X.ls elt59 ?_)
    refine X.gy (X.bi ?_)
    refine X.gy (X.pF ?_)
    refine X.pT ?_
    refine X.as ?_
    cases h
    exact X.eG
   replace h:=condT hb33 h
   refine X.gn (X.gn (X.gn (X.gy (X.pT ?_))))
   refine X.pT ?_
   refine X.as ?_
   cases h
   exact X.eG
  replace h:=condF hb32 h
  refine X.gn (X.gn (X.gn (X.gn (X.gU (h:=?_)))))
  refine X.gU (h:=?_)
  refine X.gU (h:=?_)
  refine X.gU (h:=?_)
  refine X.gn (X.pF ?_)
  refine X.as ?_
  cases h
  exact X.eG
 replace h:=h2;clear h2
 cases h
 refine R.f1 Tryz.results74 ?_
 rfl
theorem G0w (b0:A0d)(b1:Int)(r:Bool)(h:C0f b0 b1=some r):PC Tryz.prog 99 [A0v b0,int b1] (bool r):=by
 unfold C0f at h
 refine PC.start Tryz.func99 Tryz.ntmps99 rfl (by kernel_rfl) rfl ?_
 refine Run.sr (X.bx ?_)
 refine X.an ?_
 refine Run.sr (X.mv ?_)
 refine X.fl D0p ?_
 refine X.ld shp30 ?_
 refine X.ls elt30 ?_
 refine X.subW (h:=?_)
 obtain ⟨v1,hv1,h⟩:=bindE h
 refine X.cp (D0n _ _ _ _ hv1) ?_
 refine X.an ?_
 cases h
 refine R.f1 Tryz.results99 ?_
 rfl
theorem T0d (b0:A0d)(b1:TLink)(r:Bool)(h:K0c b0 b1=some r):PC Tryz.prog 77 [A0v b0,A0k b1] (bool r):=by
 unfold K0c at h
 refine PC.start Tryz.func77 Tryz.ntmps77 rfl (by kernel_rfl) rfl ?_
 refine Run.sr (X.bx ?_)
 refine X.bx ?_
 refine X.an ?_
 refine Run.seq ?_
 obtain ⟨v1,hv1,h⟩:=bindE h
 obtain ⟨e2,he2,h2⟩:=bindE h
 refine R.regG [(4,bool e2)] [] ?_ ?_
 ·clear h;have h:=he2;clear he2 h2
  refine X.ld shp34 ?_
  refine X.fl G0x ?_
  refine X.ld shp3 ?_
  refine X.cp (G0w _ _ _ hv1) ?_
  refine X.mv ?_
  refine X.iG (fun hb3=>?_) (fun hb3=>?_)
  ·replace h:=condT hb3 h
   refine X.ld shp34 ?_
   refine X.gy (X.fl J0c ?_)
   refine X.gy (X.ld shp3 ?_)
   refine X.gy ?_
   obtain ⟨v4,hv4,h⟩:=bindE h
   refine X.cp (G0w _ _ _ hv4) ?_
   refine X.pT ?_
   refine X.mv ?_
   refine X.iG (fun hb5=>?_) (fun hb5=>?_)
   ·replace h:=condT hb5 h
    refine X.fl G0x ?_
    refine X.gy (X.ld shp3 ?_)
    refine X.gy (X.fl J0c ?_)
    refine X.gy (X.ld shp3 ?_)
    refine X.gy (X.bi ?_)
    refine X.pT ?_
    refine X.mv ?_
    refine X.iG (fun hb6=>?_) (fun hb6=>?_)
    ·replace h:=condT hb6 h
     refine X.fl P0o ?_
     refine X.gy (X.ld shp3 ?_)
     refine X.gy ?_
     obtain ⟨v7,hv7,h⟩:=bindE h
     refine X.cp (D0n _ _ _ _ hv7) ?_
     refine X.pT ?_
     refine X.as ?_
     cases h
     exact X.eG
    replace h:=condF hb6 h
    refine X.gn (X.gn (X.pF ?_))
    refine X.as ?_
    cases h
    exact X.eG
   replace h:=condF hb5 h
   refine X.gn (X.gn (X.gn (X.gn (X.pF ?_))))
   refine X.mv ?_
   refine X.gn (X.gn (X.gn (X.pF ?_)))
   refine X.as ?_
   cases h
   exact X.eG
  replace h:=condF hb3 h
  refine X.gn (X.gn (X.gn (X.pF ?_)))
  refine X.mv ?_
  refine X.gn (X.gn (X.gn (X.gn (X.gn (X.pF ?_)))))
  refine X.mv ?_
  refine X.gn (X.gn (X.gn (X.pF ?_)))
  refine X.as ?_
  cases h
  exact X.eG
 replace h:=h2;clear h2
 cases h
 refine R.f1 Tryz.results77 ?_
 rfl
theorem W0h (b0:TLink)(c1:A0d)(r:Bool)(h:B0q b0 c1=some r):PC Tryz.prog 76 [A0k b0,.cptr (A0v c1:PV).cells 0] (bool r):=by
 unfold B0q at h
 refine PC.start Tryz.func76 Tryz.ntmps76 rfl (by kernel_rfl) rfl ?_
 refine Run.sr (X.bx ?_)
 refine X.an ?_
 refine Run.sr (X.lc shp34 ?_)
 refine X.ld shp87 ?_
 obtain ⟨v1,hv1,h⟩:=bindE h
 refine X.cp (T0d _ _ _ hv1) ?_
 refine X.un (h:=?_)
 refine X.an ?_
 cases h
 refine R.f1 Tryz.results76 ?_
 rfl
theorem P0x (b0:List TLink)(g1:TLink→Option Bool)(g1id:Nat)(g1c:List PV)(hg1:∀(x0:TLink) v,g1 x0=some v→PC Tryz.prog g1id ([A0k x0] ++ g1c) (bool v))(r:Int)(h:E0m b0 g1=some r):PC Tryz.prog 126 [.slice (b0.map A0k),.fn g1id g1c] (int r):=by
 unfold E0m at h
 refine PC.start Tryz.func126 Tryz.ntmps126 rfl (by kernel_rfl) rfl ?_
 refine Run.sr (X.an ?_)
 refine Run.seq (Run.sr (X.mv ?_))
 refine X.ls elt31 ?_
 refine X.mn ?_
 obtain ⟨o1,ho1,h⟩:=bindE h
 refine R.join2 (β:=Unit) [] [] (fun p14 S=>S) (fun p14 M=>M) (fun p14=>(Sum.inl p14)=o1) ?_ ?_
 ·intro JJ4 hmeet3
  have hup2:=h;clear h;have h:=ho1;clear ho1
  refine Run.block ?_
  refine R.bndS (t:=0) (by rfl) (fun hbd7=>?_)
  replace hbd7:b0.length≤9223372036854775807:=by first | (rw [List.length_map] at hbd7;exact hbd7) | simp
  refine R.lp (β:=Int) [(0,.slice (b0.map A0k)),(1,.fn g1id g1c),(7,int (b0.length:Int))] [] (fun bb S=>(8,int bb)::S) (fun bb M=>M) (fun n bb=>0≤bb∧bb+n=(b0.length:Int)∧B0h g1 (b0.drop bb.toNat) bb=some o1) b0.length (0:Int) ⟨Int.le_refl _,by simp,h⟩ ?_
  clear h
  rintro JJ7 n7 z8 hag7 ⟨hza7,hzb7,h⟩
  refine Run.sr (X.bi ?_)
  refine X.nil (Run.seq ?_)
  refine R.cd (fun hc11=>?_) (fun hc11=>?_)
  ·obtain ⟨x9,xs10,hd7,hx7,hds7,hlt7⟩:=A0q hza7 hc11
   rw [hd7] at h
   rw [B0h] at h
   refine Run.skip (Run.seq (Run.block (Run.sr (X.mv ?_))))
   refine X.an ?_
   refine Run.sr (X.mv ?_)
   refine X.mv ?_
   refine X.mv ?_
   refine X.ix elt31 (A0a hx7).1 (A0b A0k hx7) ?_
   refine X.lc shp87 ?_
   obtain ⟨v12,hv12,h⟩:=bindE h
   refine X.cp (hg1 _ _ hv12) ?_
   refine X.nil ?_
   refine R.cd (fun hc13=>?_) (fun hc13=>?_)
   ·replace h:=condT hc13 h
    refine Run.sr (X.mv ?_)
    refine X.an ?_
    cases h
    have h:=hup2
    replace h:=elimR h
    cases h
    refine R.f1 Tryz.results126 ?_
    rfl
   replace h:=condF hc13 h
   refine Run.skip (Run.blk (Run.reg (X.ad ?_)))
   refine X.mn ?_
   exact R.ag hag7 (n7 - 1) (z8+1) (R.n3 (by first | (rw [hds7];exact h) | (dsimp only;rw [hds7];exact h)))
  rw [A0j hza7 hc11] at h
  rw [B0h] at h
  refine Run.exit (by rfl) ?_
  exact R.mt hmeet3 () (Option.some.inj h)
 rintro p14 rfl
 replace h:=elimL h
 refine Run.sr (X.an ?_)
 cases h
 refine R.f1 Tryz.results126 ?_
 rfl
theorem N0z (b0:List TLink)(g1:TLink→Option Bool)(g1id:Nat)(g1c:List PV)(hg1:∀(x0:TLink) v,g1 x0=some v→PC Tryz.prog g1id ([A0k x0] ++ g1c) (bool v))(r:Bool)(h:C0c b0 g1=some r):PC Tryz.prog 75 [.slice (b0.map A0k),.fn g1id g1c] (bool r):=by
 unfold C0c at h
 refine PC.start Tryz.func75 Tryz.ntmps75 rfl (by kernel_rfl) rfl ?_
 refine Run.sr (X.an ?_)
 refine Run.sr (X.mv ?_)
 refine X.mv ?_
 obtain ⟨v1,hv1,h⟩:=bindE h
 refine X.cp (P0x _ g1 _ _ hg1 _ hv1) ?_
 refine X.bi ?_
 refine X.an ?_
 cases h
 refine R.f1 Tryz.results75 ?_
 rfl
theorem S0z (b0:A0d)(r:Bool)(h:K0o b0=some r):PC Tryz.prog 33 [A0v b0] (bool r):=by
 unfold K0o at h
 refine PC.start Tryz.func33 Tryz.ntmps33 rfl (by kernel_rfl) rfl ?_
 refine Run.sr (X.bx ?_)
 refine X.an ?_
 refine Run.seq (Run.seq ?_)
 obtain ⟨v1,hv1,h⟩:=bindE h
 obtain ⟨e2,he2,h2⟩:=bindE h
 refine R.regG [(1,.lptr 64 0),(37,bool e2)] [(64,.blk true [int b0.Deadline,.slice (b0.Activities.map A0c),.slice (b0.Links.map A0k),.slice (b0.Resources.map A0e),.slice (b0.Stocks.map int)])] ?_ ?_
 ·clear h;have h:=he2;clear he2 h2
  refine X.fl T0l ?_
  refine X.ld shp3 ?_
  refine X.cp (D0n _ _ _ _ hv1) ?_
  refine X.un (h:=?_)
  refine X.mv ?_
  refine X.iG (fun hb3=>?_) (fun hb3=>?_)
  ·replace h:=condF hb3 h
   refine X.fl D0p ?_
   refine X.gy (X.ld shp30 ?_)
   refine X.gy (X.ls elt30 ?_)
   refine X.gy ?_
   obtain ⟨v4,hv4,h⟩:=bindE h
   refine X.cp (D0n _ _ _ _ hv4) ?_
   refine X.gy (X.un (h:=?_))
   refine X.pF ?_
   refine X.mv ?_
   refine X.iG (fun hb5=>?_) (fun hb5=>?_)
   ·replace h:=condF hb5 h
    refine X.fl P0k ?_
    refine X.gy (X.ld shp32 ?_)
    refine X.gy (X.ls elt32 ?_)
    refine X.gy (X.bi ?_)
    refine X.pF ?_
    refine X.mv ?_
    refine X.iG (fun hb6=>?_) (fun hb6=>?_)
    ·replace h:=condF hb6 h
     refine X.fl P0j ?_
     refine X.gy (X.ld shp25 ?_)
     refine X.gy (X.ls elt25 ?_)
     refine X.gy (X.bi ?_)
     refine X.pF ?_
     refine X.mv ?_
     refine X.iG (fun hb7=>?_) (fun hb7=>?_)
     ·replace h:=condF hb7 h
      refine X.fl G0s ?_
      refine X.gy (X.ld shp31 ?_)
      refine X.gy (X.ls elt31 ?_)
      refine X.gy (X.bi ?_)
      refine X.pF ?_
      cases h
      exact X.eG
     replace h:=condT hb7 h
     refine X.gn (X.gn (X.gn (X.pT ?_)))
     cases h
     exact X.eG
    replace h:=condT hb6 h
    refine X.gn (X.gn (X.gn (X.pT ?_)))
    refine X.mv ?_
    refine X.gn (X.gn (X.gn (X.gn (X.pT ?_))))
    cases h
    exact X.eG
   replace h:=condT hb5 h
   refine X.gn (X.gn (X.gn (X.pT ?_)))
   refine X.mv ?_
   refine X.gn (X.gn (X.gn (X.gn (X.pT ?_))))
   refine X.mv ?_
   refine X.gn (X.gn (X.gn (X.gn (X.pT ?_))))
   cases h
   exact X.eG
  replace h:=condT hb3 h
  refine X.gn (X.gn (X.gn (X.gn (X.pT ?_))))
  refine X.mv ?_
  refine X.gn (X.gn (X.gn (X.gn (X.pT ?_))))
  refine X.mv ?_
  refine X.gn (X.gn (X.gn (X.gn (X.pT ?_))))
  refine X.mv ?_
  refine X.gn (X.gn (X.gn (X.gn (X.pT ?_))))
  cases h
  exact X.eG
 replace h:=h2;clear h2
 refine R.cd (fun hc8=>?_) (fun hc8=>?_)
 ·replace h:=condT hc8 h
  refine Run.sr (X.an ?_)
  cases h
  refine R.f1 Tryz.results33 ?_
  rfl
 replace h:=condF hc8 h
 refine Run.skip (Run.seq (Run.sr (X.fl D0p ?_)))
 refine X.ld shp30 ?_
 refine X.ls elt30 ?_
 refine X.mn ?_
 obtain ⟨o9,ho9,h⟩:=bindE h
 refine R.join2 (β:=Unit) [(1,.lptr 64 0)] [(64,.blk true [int b0.Deadline,.slice (b0.Activities.map A0c),.slice (b0.Links.map A0k),.slice (b0.Resources.map A0e),.slice (b0.Stocks.map int)])] (fun p25 S=>S) (fun p25 M=>M) (fun p25=>(Sum.inl p25)=o9) ?_ ?_
 ·intro JJ12 hmeet11
  have hup10:=h;clear h;have h:=ho9;clear ho9
  refine Run.block ?_
  refine R.bndS (t:=39) (by rfl) (fun hbd15=>?_)
  replace hbd15:b0.Activities.length≤9223372036854775807:=by first | (rw [List.length_map] at hbd15;exact hbd15) | simp
  refine R.lp (β:=Int) [(1,.lptr 64 0),(39,.slice (b0.Activities.map A0c)),(40,int (b0.Activities.length:Int))] [(64,.blk true [int b0.Deadline,.slice (b0.Activities.map A0c),.slice (b0.Links.map A0k),.slice (b0.Resources.map A0e),.slice (b0.Stocks.map int)])] (fun bb S=>(41,int bb)::S) (fun bb M=>M) (fun n bb=>0≤bb∧bb+n=(b0.Activities.length:Int)∧G0m b0 (b0.Activities.drop bb.toNat) bb=some o9) b0.Activities.length (0:Int) ⟨Int.le_refl _,by simp,h⟩ ?_
  clear h
  rintro JJ15 n15 z16 hag15 ⟨hza15,hzb15,h⟩
  refine Run.sr (X.bi ?_)
  refine X.nil (Run.seq ?_)
  refine R.cd (fun hc19=>?_) (fun hc19=>?_)
  ·obtain ⟨x17,xs18,hd15,hx15,hds15,hlt15⟩:=A0q hza15 hc19
   rw [hd15] at h
   rw [G0m] at h
   refine Run.skip (Run.seq (Run.block (Run.sr (X.mv ?_))))
   refine X.ix elt30 (A0a hx15).1 (A0b A0c hx15) ?_
   refine X.lc shp50 ?_
   refine X.alloc zer50 (h:=?_)
   refine X.as ?_
   refine X.sl shp50 ?_
   refine X.nil (Run.seq ?_)
   obtain ⟨v20,hv20,h⟩:=bindE h
   obtain ⟨e21,he21,h2⟩:=bindE h
   refine R.regG [(1,.lptr 64 0),(39,.slice (b0.Activities.map A0c)),(40,int (b0.Activities.length:Int)),(41,int z16),(62,bool e21)] [(64,.blk true [int b0.Deadline,.slice (b0.Activities.map A0c),.slice (b0.Links.map A0k),.slice (b0.Resources.map A0e),.slice (b0.Stocks.map int)])] ?_ ?_
   ·clear h;have h:=he21;clear he21 h2
    refine X.ld shp50 ?_
    refine X.fl P0k ?_
    refine X.ld shp32 ?_
    refine X.ls elt32 ?_
    refine X.fl P0j ?_
    refine X.ld shp25 ?_
    refine X.ls elt25 ?_
    refine X.cp (Z0h _ _ _ _ hv20) ?_
    refine X.un (h:=?_)
    refine X.mv ?_
    refine X.iG (fun hb22=>?_) (fun hb22=>?_)
    ·replace h:=condF hb22 h
     refine X.ld shp34 ?_
     refine X.gy (X.fl P0n ?_)
     refine X.gy (X.ld shp9 ?_)
     refine X.gy ?_
     obtain ⟨v23,hv23,h⟩:=bindE h
     refine X.cp (V0u _ _ _ hv23) ?_
     refine X.gy (X.mv ?_)
     refine X.gy (X.bi ?_)
     refine X.pF ?_
     cases h
     exact X.eG
    replace h:=condT hb22 h
    refine X.gn (X.gn (X.gn (X.gn (X.gn (X.pT ?_)))))
    cases h
    exact X.eG
   replace h:=h2;clear h2
   refine R.cd (fun hc24=>?_) (fun hc24=>?_)
   ·replace h:=condT hc24 h
    refine Run.sr (X.an ?_)
    cases h
    have h:=hup10
    replace h:=elimR h
    cases h
    refine R.f1 Tryz.results33 ?_
    rfl
   replace h:=condF hc24 h
   refine Run.skip (Run.blk (Run.reg (X.ad ?_)))
   refine X.mn ?_
   exact R.ag hag15 (n15 - 1) (z16+1) (R.n3 (by first | (rw [hds15];exact h) | (dsimp only;rw [hds15];exact h)))
  rw [A0j hza15 hc19] at h
  rw [G0m] at h
  refine Run.exit (by rfl) ?_
  exact R.mt hmeet11 () (Option.some.inj h)
 rintro p25 rfl
 replace h:=elimL h
 refine Run.seq (Run.sr (X.fl P0k ?_))
 refine X.ld shp32 ?_
 refine X.ls elt32 ?_
 refine X.mn ?_
 obtain ⟨o27,ho27,h⟩:=bindE h
 refine R.join2 (β:=Unit) [(1,.lptr 64 0)] [(64,.blk true [int b0.Deadline,.slice (b0.Activities.map A0c),.slice (b0.Links.map A0k),.slice (b0.Resources.map A0e),.slice (b0.Stocks.map int)])] (fun p40 S=>S) (fun p40 M=>M) (fun p40=>(Sum.inl p40)=o27) ?_ ?_
 ·intro JJ30 hmeet29
  have hup28:=h;clear h;have h:=ho27;clear ho27
  refine Run.block ?_
  refine R.bndS (t:=65) (by rfl) (fun hbd33=>?_)
  replace hbd33:b0.Resources.length≤9223372036854775807:=by first | (rw [List.length_map] at hbd33;exact hbd33) | simp
  refine R.lp (β:=Int) [(1,.lptr 64 0),(65,.slice (b0.Resources.map A0e)),(66,int (b0.Resources.length:Int))] [(64,.blk true [int b0.Deadline,.slice (b0.Activities.map A0c),.slice (b0.Links.map A0k),.slice (b0.Resources.map A0e),.slice (b0.Stocks.map int)])] (fun bb S=>(67,int bb)::S) (fun bb M=>M) (fun n bb=>0≤bb∧bb+n=(b0.Resources.length:Int)∧G0r (b0.Resources.drop bb.toNat) bb=some o27) b0.Resources.length (0:Int) ⟨Int.le_refl _,by simp,h⟩ ?_
  clear h
  rintro JJ33 n33 z34 hag33 ⟨hza33,hzb33,h⟩
  refine Run.sr (X.bi ?_)
  refine X.nil (Run.seq ?_)
  refine R.cd (fun hc37=>?_) (fun hc37=>?_)
  ·obtain ⟨x35,xs36,hd33,hx33,hds33,hlt33⟩:=A0q hza33 hc37
   rw [hd33] at h
   rw [G0r] at h
   refine Run.skip (Run.seq (Run.block (Run.sr (X.ix elt32 (A0a hx33).1 (A0b A0e hx33) ?_))))
   refine X.lc shp61 ?_
   refine X.alloc zer61 (h:=?_)
   refine X.sl shp61 ?_
   refine X.nil (Run.sr (X.ld shp61 ?_))
   obtain ⟨v38,hv38,h⟩:=bindE h
   refine X.cp (Y0f _ _ hv38) ?_
   refine X.un (h:=?_)
   refine X.nil ?_
   refine R.cd (fun hc39=>?_) (fun hc39=>?_)
   ·replace h:=condT hc39 h
    refine Run.sr (X.an ?_)
    cases h
    have h:=hup28
    replace h:=elimR h
    cases h
    refine R.f1 Tryz.results33 ?_
    rfl
   replace h:=condF hc39 h
   refine Run.skip (Run.blk (Run.reg (X.ad ?_)))
   refine X.mn ?_
   exact R.ag hag33 (n33 - 1) (z34+1) (R.n3 (by first | (rw [hds33];exact h) | (dsimp only;rw [hds33];exact h)))
  rw [A0j hza33 hc37] at h
  rw [G0r] at h
  refine Run.exit (by rfl) ?_
  exact R.mt hmeet29 () (Option.some.inj h)
 rintro p40 rfl
 replace h:=elimL h
 refine Run.seq (Run.sr (X.fl P0j ?_))
 refine X.ld shp25 ?_
 refine X.ls elt25 ?_
 refine X.mn ?_
 obtain ⟨o42,ho42,h⟩:=bindE h
 refine R.join2 (β:=Unit) [(1,.lptr 64 0)] [(64,.blk true [int b0.Deadline,.slice (b0.Activities.map A0c),.slice (b0.Links.map A0k),.slice (b0.Resources.map A0e),.slice (b0.Stocks.map int)])] (fun p55 S=>S) (fun p55 M=>M) (fun p55=>(Sum.inl p55)=o42) ?_ ?_
 ·intro JJ45 hmeet44
  have hup43:=h;clear h;have h:=ho42;clear ho42
  refine Run.block ?_
  refine R.bndS (t:=76) (by rfl) (fun hbd48=>?_)
  replace hbd48:b0.Stocks.length≤9223372036854775807:=by first | (rw [List.length_map] at hbd48;exact hbd48) | simp
  refine R.lp (β:=Int) [(1,.lptr 64 0),(76,.slice (b0.Stocks.map int)),(77,int (b0.Stocks.length:Int))] [(64,.blk true [int b0.Deadline,.slice (b0.Activities.map A0c),.slice (b0.Links.map A0k),.slice (b0.Resources.map A0e),.slice (b0.Stocks.map int)])] (fun bb S=>(78,int bb)::S) (fun bb M=>M) (fun n bb=>0≤bb∧bb+n=(b0.Stocks.length:Int)∧G0p (b0.Stocks.drop bb.toNat) bb=some o42) b0.Stocks.length (0:Int) ⟨Int.le_refl _,by simp,h⟩ ?_
  clear h
  rintro JJ48 n48 z49 hag48 ⟨hza48,hzb48,h⟩
  refine Run.sr (X.bi ?_)
  refine X.nil (Run.seq ?_)
  refine R.cd (fun hc52=>?_) (fun hc52=>?_)
  ·obtain ⟨x50,xs51,hd48,hx48,hds48,hlt48⟩:=A0q hza48 hc52
   rw [hd48] at h
   rw [G0p] at h
   refine Run.skip (Run.seq (Run.block (Run.sr (X.ix elt25 (A0a hx48).1 (A0b int hx48) ?_))))
   refine X.lc shp3 ?_
   refine X.an ?_
   refine Run.sr (X.mv ?_)
   obtain ⟨v53,hv53,h⟩:=bindE h
   refine X.cp (D0n _ _ _ _ hv53) ?_
   refine X.un (h:=?_)
   refine X.nil ?_
   refine R.cd (fun hc54=>?_) (fun hc54=>?_)
   ·replace h:=condT hc54 h
    refine Run.sr (X.an ?_)
    cases h
    have h:=hup43
    replace h:=elimR h
    cases h
    refine R.f1 Tryz.results33 ?_
    rfl
   replace h:=condF hc54 h
   refine Run.skip (Run.blk (Run.reg (X.ad ?_)))
   refine X.mn ?_
   exact R.ag hag48 (n48 - 1) (z49+1) (R.n3 (by first | (rw [hds48];exact h) | (dsimp only;rw [hds48];exact h)))
  rw [A0j hza48 hc52] at h
  rw [G0p] at h
  refine Run.exit (by rfl) ?_
  exact R.mt hmeet44 () (Option.some.inj h)
 rintro p55 rfl
 replace h:=elimL h
 refine Run.seq ?_
 refine R.pubBlk (n:=64) (by rfl) (by rfl) (by repeat (first | trivial | refine ⟨by first | rfl | simp [setL],?_⟩)) ?_
 refine Run.reg (X.fl G0s ?_)
 refine X.ld shp31 ?_
 refine X.makeFunc (by rfl) (by rfl) (by repeat (first | trivial | refine ⟨by first | rfl | simp [setL],?_⟩)) (by rfl) (by rfl) ?_
 obtain ⟨v57,hv57,h⟩:=bindE h
 refine X.cp (N0z _ (fun x0=>B0q x0 b0) _ _ (fun x0 v hv=>W0h _ _ _ hv) _ hv57) ?_
 refine X.un (h:=?_)
 refine X.an ?_
 cases h
 refine R.f1 Tryz.results33 ?_
 rfl
theorem V0d (b0:Int)(r:List Int)(h:N0f b0=some r):PC Tryz.prog 83 [int b0] (.fresh true 3 1 (r.map int)):=by
 unfold N0f at h
 refine PC.start Tryz.func83 Tryz.ntmps83 rfl (by kernel_rfl) rfl ?_
 refine Run.sr (X.an ?_)
 refine Run.seq (Run.sr (X.mv ?_))
 obtain ⟨v1,hv1,h⟩:=bindE h
 refine X.cp (D0n _ _ _ _ hv1) ?_
 refine X.un (h:=?_)
 refine X.nil ?_
 refine R.cd (fun hc2=>?_) (fun hc2=>?_)
 ·replace h:=condT hc2 h
  refine Run.sr (X.an ?_)
  cases h
  refine R.fin1n (x:=true) (e:=3) (sz:=1) Tryz.results83 (by rfl) (by decide) ?_
  rfl
 replace h:=condF hc2 h
 refine Run.skip (Run.sr ?_)
 refine X.buildSlice true elt25 zer3 (by rfl) (by rfl) (by rfl) (by rfl) (by rfl) (by rfl) (by repeat (first | trivial | refine ⟨by first | rfl | simp [setL],?_⟩)) (A0w (by rfl)) (by rfl) (by rfl) (by rfl) ?_
 refine X.an ?_
 refine Run.seq (Run.sr (X.mv ?_))
 refine X.mn ?_
 obtain ⟨o3,ho3,h⟩:=bindE h
 refine R.join2 (β:=(List Int)) [] [] (fun p15 S=>(3,.own 512 (p15.map int).length)::S) (fun p15 M=>(512,.obj true 3 1 (p15.map int))::M) (fun p15=>p15=o3) ?_ ?_
 ·intro JJ6 hmeet5
  have hup4:=h;clear h;have h:=ho3;clear ho3
  refine Run.block ?_
  refine R.lp (β:=Int×(List Int)) [(9,int b0)] [] (fun bb S=>(3,.own 512 (bb.2.map int).length)::(10,int bb.1)::S) (fun bb M=>(512,.obj true 3 1 (bb.2.map int))::M) (fun n bb=>H0s b0 n bb.1 bb.2=some o3) F0 (0,([]:List Int)) h ?_
  clear h
  rintro JJ7 n7 ⟨a9,a10⟩ hag7 h
  dsimp only at h
  obtain _ | n7:=n7
  ·exact absurd h (by simp [H0s])
  rw [H0s] at h
  refine Run.sr (X.bi ?_)
  refine X.nil (Run.seq ?_)
  refine R.cd (fun hc13=>?_) (fun hc13=>?_)
  ·replace h:=condT hc13 h
   refine Run.skip (Run.seq (Run.block (Run.sr (X.mv ?_))))
   refine X.an ?_
   refine Run.reg (X.mv ?_)
   refine X.mv ?_
   refine X.buildSlice true elt25 zer3 (by rfl) (by rfl) (by rfl) (by rfl) (by rfl) (by rfl) (by repeat (first | trivial | refine ⟨by first | rfl | simp [setL],?_⟩)) (A0w (by rfl)) (by rfl) (by rfl) (by rfl) ?_
   obtain ⟨v14,hv14,h⟩:=bindE h
   refine X.append elt25 zer3 (by rfl) (by rfl) (by first | rfl | simp [setL] | omega) (by rfl) (.own _ _ _ _ _ _ (A0f (by rfl)) (by first | rfl | simp [setL] | omega)) (A0w (by rfl)) (G0u int hv14) (G0t int hv14) (by rfl) (by rfl) (by rfl) (by rfl) ?_
   refine X.an ?_
   refine Run.blk (Run.reg (X.addW (h:=?_)))
   refine X.mn ?_
   exact hag7 n7 ((W (a9+1)),v14) _ _ (by omega) h (by repeat (first | trivial | refine ⟨by first | rfl | simp [setL],?_⟩)) (by repeat (first | trivial | refine ⟨by first | rfl | simp [setL],?_⟩)) (by rfl) (by rfl)
  replace h:=condF hc13 h
  refine Run.exit (by rfl) ?_
  exact R.mt hmeet5 a10 (Option.some.inj h)
 rintro p15 rfl
 refine Run.sr (X.mv ?_)
 refine X.an ?_
 cases h
 refine R.fin1o Tryz.results83 (by rfl) (by rfl) (by first | rfl | simp [setL] | omega) ?_
 rfl
theorem R0b (b0:A0g)(r:List Int)(h:J0u b0=some r):PC Tryz.prog 36 [A0c b0] (.fresh false 3 1 (r.map int)):=by
 unfold J0u at h
 refine PC.start Tryz.func36 Tryz.ntmps36 rfl (by kernel_rfl) rfl ?_
 refine Run.sr (X.bx ?_)
 refine X.an ?_
 refine Run.sr (X.fl M0k ?_)
 refine X.ld shp48 ?_
 refine X.ls elt48 ?_
 obtain ⟨v1,hv1,h⟩:=bindE h
 refine X.callF (PC.pubF (V0d _ _ hv1)) (by rfl) (by rfl) (by rfl) (by trivial) (by rfl) (by rfl) (by rfl) (by rfl) ?_
 refine X.an ?_
 cases h
 refine R.fin1o Tryz.results36 (by rfl) (by rfl) (by first | rfl | simp [setL] | omega) ?_
 rfl
theorem T0h (b0:List Int)(b1:Int)(r:Int)(h:H0v b0 b1=some r):PC Tryz.prog 165 [.slice (b0.map int),int b1] (int r):=by
 unfold H0v at h
 refine PC.start Tryz.func165 Tryz.ntmps165 rfl (by kernel_rfl) rfl ?_
 refine Run.sr (X.an ?_)
 refine Run.seq (Run.sr (X.mv ?_))
 refine X.ls elt25 ?_
 refine X.mn ?_
 obtain ⟨o1,ho1,h⟩:=bindE h
 refine R.join2 (β:=Unit) [] [] (fun p13 S=>S) (fun p13 M=>M) (fun p13=>(Sum.inl p13)=o1) ?_ ?_
 ·intro JJ4 hmeet3
  have hup2:=h;clear h;have h:=ho1;clear ho1
  refine Run.block ?_
  refine R.bndS (t:=0) (by rfl) (fun hbd7=>?_)
  replace hbd7:b0.length≤9223372036854775807:=by first | (rw [List.length_map] at hbd7;exact hbd7) | simp
  refine R.lp (β:=Int) [(0,.slice (b0.map int)),(1,int b1),(7,int (b0.length:Int))] [] (fun bb S=>(8,int bb)::S) (fun bb M=>M) (fun n bb=>0≤bb∧bb+n=(b0.length:Int)∧B0s b1 (b0.drop bb.toNat) bb=some o1) b0.length (0:Int) ⟨Int.le_refl _,by simp,h⟩ ?_
  clear h
  rintro JJ7 n7 z8 hag7 ⟨hza7,hzb7,h⟩
  refine Run.sr (X.bi ?_)
  refine X.nil (Run.seq ?_)
  refine R.cd (fun hc11=>?_) (fun hc11=>?_)
  ·obtain ⟨x9,xs10,hd7,hx7,hds7,hlt7⟩:=A0q hza7 hc11
   rw [hd7] at h
   rw [B0s] at h
   refine Run.skip (Run.seq (Run.block (Run.sr (X.mv ?_))))
   refine X.an ?_
   refine Run.sr (X.mv ?_)
   refine X.mv ?_
   refine X.mv ?_
   refine X.ix elt25 (A0a hx7).1 (A0b int hx7) ?_
   refine X.lc shp3 ?_
   refine X.bi ?_
   refine X.nil ?_
   refine R.cd (fun hc12=>?_) (fun hc12=>?_)
   ·replace h:=condT hc12 h
    refine Run.sr (X.mv ?_)
    refine X.an ?_
    cases h
    have h:=hup2
    replace h:=elimR h
    cases h
    refine R.f1 Tryz.results165 ?_
    rfl
   replace h:=condF hc12 h
   refine Run.skip (Run.blk (Run.reg (X.ad ?_)))
   refine X.mn ?_
   exact R.ag hag7 (n7 - 1) (z8+1) (R.n3 (by first | (rw [hds7];exact h) | (dsimp only;rw [hds7];exact h)))
  rw [A0j hza7 hc11] at h
  rw [B0s] at h
  refine Run.exit (by rfl) ?_
  exact R.mt hmeet3 () (Option.some.inj h)
 rintro p13 rfl
 replace h:=elimL h
 refine Run.sr (X.an ?_)
 cases h
 refine R.f1 Tryz.results165 ?_
 rfl
theorem L0l (b0:List Int)(b1:Int)(r:Bool)(h:D0b b0 b1=some r):PC Tryz.prog 148 [.slice (b0.map int),int b1] (bool r):=by
 unfold D0b at h
 refine PC.start Tryz.func148 Tryz.ntmps148 rfl (by kernel_rfl) rfl ?_
 refine Run.sr (X.an ?_)
 refine Run.sr (X.mv ?_)
 refine X.mv ?_
 obtain ⟨v1,hv1,h⟩:=bindE h
 refine X.cp (T0h _ _ _ hv1) ?_
 refine X.bi ?_
 refine X.an ?_
 cases h
 refine R.f1 Tryz.results148 ?_
 rfl
theorem F1b (b0:List Int)(b1:Int)(r:Bool)(h:Q0f b0 b1=some r):PC Tryz.prog 127 [.slice (b0.map int),int b1] (bool r):=by
 unfold Q0f at h
 refine PC.start Tryz.func127 Tryz.ntmps127 rfl (by kernel_rfl) rfl ?_
 refine Run.sr (X.an ?_)
 refine Run.sr (X.mv ?_)
 refine X.mv ?_
 obtain ⟨v1,hv1,h⟩:=bindE h
 refine X.cp (L0l _ _ _ hv1) ?_
 refine X.an ?_
 cases h
 refine R.f1 Tryz.results127 ?_
 rfl
theorem E1q (b0:A0g)(b1:List Int)(r:List TMode)(h:V0o b0 b1=some r):PC Tryz.prog 80 [A0c b0,.slice (b1.map int)] (.fresh false 100 3 (r.map B0l)):=by
 unfold V0o at h
 refine PC.start Tryz.func80 Tryz.ntmps80 rfl (by kernel_rfl) rfl ?_
 refine Run.sr (X.bx ?_)
 refine X.an ?_
 refine Run.sr ?_
 refine X.buildSlice false elt48 R0g (by rfl) (by rfl) (by rfl) (by rfl) (by rfl) (by rfl) (by repeat (first | trivial | refine ⟨by first | rfl | simp [setL],?_⟩)) (A0w (by rfl)) (by rfl) (by rfl) (by rfl) ?_
 refine X.an ?_
 refine Run.seq (Run.sr (X.fl M0k ?_))
 refine X.ld shp48 ?_
 refine X.ls elt48 ?_
 refine X.mn ?_
 obtain ⟨o1,ho1,h⟩:=bindE h
 refine R.join2 (β:=(List TMode)) [] [] (fun p16 S=>(5,.own 512 (p16.map B0l).length)::S) (fun p16 M=>(512,.obj false 100 3 (p16.map B0l))::M) (fun p16=>p16=o1) ?_ ?_
 ·intro JJ4 hmeet3
  have hup2:=h;clear h;have h:=ho1;clear ho1
  refine Run.block ?_
  refine R.bndS (t:=10) (by rfl) (fun hbd7=>?_)
  replace hbd7:b0.Modes.length≤9223372036854775807:=by first | (rw [List.length_map] at hbd7;exact hbd7) | simp
  refine R.lp (β:=Int×(List TMode)) [(1,.slice (b1.map int)),(10,.slice (b0.Modes.map B0l)),(11,int (b0.Modes.length:Int))] [] (fun bb S=>(5,.own 512 (bb.2.map B0l).length)::(12,int bb.1)::S) (fun bb M=>(512,.obj false 100 3 (bb.2.map B0l))::M) (fun n bb=>0≤bb.1∧bb.1+n=(b0.Modes.length:Int)∧H0p b1 (b0.Modes.drop bb.1.toNat) bb.1 bb.2=some o1) b0.Modes.length (0,([]:List TMode)) ⟨Int.le_refl _,by simp,h⟩ ?_
  clear h
  rintro JJ7 n7 ⟨z8,a9⟩ hag7 ⟨hza7,hzb7,h⟩
  dsimp only at hza7 hzb7 h
  refine Run.sr (X.bi ?_)
  refine X.nil (Run.seq ?_)
  refine R.cd (fun hc12=>?_) (fun hc12=>?_)
  ·obtain ⟨x10,xs11,hd7,hx7,hds7,hlt7⟩:=A0q hza7 hc12
   rw [hd7] at h
   rw [H0p] at h
   refine Run.skip (Run.seq (Run.block (Run.sr (X.mv ?_))))
   refine X.ix elt48 (A0a hx7).1 (A0b B0l hx7) ?_
   refine X.lc L0g ?_
   refine X.alloc R0g (h:=?_)
   refine X.as ?_
   refine X.sl L0g ?_
   refine X.nil (Run.sr (X.mv ?_))
   refine X.mv ?_
   obtain ⟨v13,hv13,h⟩:=bindE h
   refine X.cp (F1b _ _ _ hv13) ?_
   refine X.nil ?_
   refine R.cd (fun hc14=>?_) (fun hc14=>?_)
   ·replace h:=condT hc14 h
    refine Run.reg (X.mv ?_)
    refine X.ld L0g ?_
    refine X.buildSlice false elt48 R0g (by rfl) (by rfl) (by rfl) (by rfl) (by rfl) (by rfl) (by repeat (first | trivial | refine ⟨by first | rfl | simp [setL],?_⟩)) (A0w (by rfl)) (by rfl) (by rfl) (by rfl) ?_
    obtain ⟨v15,hv15,h⟩:=bindE h
    refine X.append elt48 R0g (by rfl) (by rfl) (by first | rfl | simp [setL] | omega) (by rfl) (.own _ _ _ _ _ _ (A0f (by rfl)) (by first | rfl | simp [setL] | omega)) (A0w (by rfl)) (G0u B0l hv15) (G0t B0l hv15) (by rfl) (by rfl) (by rfl) (by rfl) ?_
    refine X.an ?_
    refine Run.blk (Run.reg (X.ad ?_))
    refine X.mn ?_
    exact R.ag hag7 (n7 - 1) (z8+1,v15) (R.n3 (by first | (rw [hds7];exact h) | (dsimp only;rw [hds7];exact h)))
   replace h:=condF hc14 h
   refine Run.skip (Run.blk (Run.reg (X.ad ?_)))
   refine X.mn ?_
   exact R.ag hag7 (n7 - 1) (z8+1,a9) (R.n3 (by first | (rw [hds7];exact h) | (dsimp only;rw [hds7];exact h)))
  rw [A0j hza7 hc12] at h
  rw [H0p] at h
  refine Run.exit (by rfl) ?_
  exact R.mt hmeet3 a9 (Option.some.inj h)
 rintro p16 rfl
 refine Run.sr (X.mv ?_)
 refine X.an ?_
 cases h
 refine R.fin1o Tryz.results80 (by rfl) (by rfl) (by first | rfl | simp [setL] | omega) ?_
 rfl
theorem R0e (b0:A0g)(b1:List Int)(r:Int)(h:H0n b0 b1=some r):PC Tryz.prog 100 [A0c b0,.slice (b1.map int)] (int r):=by
 unfold H0n at h
 refine PC.start Tryz.func100 Tryz.ntmps100 rfl (by kernel_rfl) rfl ?_
 refine Run.sr (X.bx ?_)
 refine X.an ?_
 refine Run.sr (X.an ?_)
 refine Run.seq (Run.sr (X.ld shp50 ?_))
 refine X.mv ?_
 obtain ⟨v1,hv1,h⟩:=bindE h
 refine X.callF (E1q _ _ _ hv1) (by rfl) (by rfl) (by rfl) (by trivial) (by rfl) (by rfl) (by rfl) (by rfl) ?_
 refine X.len_o elt48 (by rfl) (by rfl) (by first | rfl | simp [setL] | omega) (by first | exact List.length_map .. | rfl) (by rfl) (by rfl) ?_
 refine X.mn ?_
 obtain ⟨o2,ho2,h⟩:=bindE h
 refine R.join2 (β:=Int) [] [] (fun p17 S=>(5,int p17)::S) (fun p17 M=>M) (fun p17=>p17=o2) ?_ ?_
 ·intro JJ5 hmeet4
  have hup3:=h;clear h;have h:=ho2;clear ho2
  refine Run.block ?_
  refine R.bndO (n:=640) (by rfl) (fun hbd8=>?_)
  replace hbd8:v1.length≤9223372036854775807:=by first | (rw [List.length_map] at hbd8;exact hbd8) | simp
  refine R.lp (β:=Int×Int) [(11,int (v1.length:Int))] [(640,.obj false 100 3 (v1.map B0l))] (fun bb S=>(5,int bb.2)::(10,.own 640 (v1.map B0l).length)::(12,int bb.1)::S) (fun bb M=>M) (fun n bb=>0≤bb.1∧bb.1+n=(v1.length:Int)∧C0x (v1.drop bb.1.toNat) bb.1 bb.2=some o2) v1.length (0,0) ⟨Int.le_refl _,by simp,h⟩ ?_
  clear h
  rintro JJ8 n8 ⟨z9,a10⟩ hag8 ⟨hza8,hzb8,h⟩
  dsimp only at hza8 hzb8 h
  refine Run.sr (X.bi ?_)
  refine X.nil (Run.seq ?_)
  refine R.cd (fun hc13=>?_) (fun hc13=>?_)
  ·obtain ⟨x11,xs12,hd8,hx8,hds8,hlt8⟩:=A0q hza8 hc13
   rw [hd8] at h
   rw [C0x] at h
   refine Run.skip (Run.seq (Run.block (Run.sr (X.mv ?_))))
   refine X.index_o elt48 (by rfl) (by rfl) (by first | rfl | simp [setL] | omega) (by rfl) (A0a hx8).1 (A0b B0l hx8) (by rfl) (by rfl) (by rfl) ?_
   refine X.lc L0g ?_
   refine X.alloc R0g (h:=?_)
   refine X.as ?_
   refine X.sl L0g ?_
   refine X.nil (Run.seq ?_)
   obtain ⟨e14,he14,h2⟩:=bindE h
   refine R.regG [(5,int a10),(7,.lptr 448 0),(10,.own 640 (v1.map B0l).length),(11,int (v1.length:Int)),(12,int z9),(24,bool e14)] [(448,.blk true [int x11.Duration,.slice (x11.Usage.map int),.slice (x11.Consumption.map int)]),(640,.obj false 100 3 (v1.map B0l))] ?_ ?_
   ·clear h;have h:=he14;clear he14 h2
    refine X.mv ?_
    refine X.bi ?_
    refine X.mv ?_
    refine X.iG (fun hb15=>?_) (fun hb15=>?_)
    ·replace h:=condF hb15 h
     refine X.fl L0t ?_
     refine X.gy (X.ld shp3 ?_)
     refine X.gy (X.mv ?_)
     refine X.gy (X.bi ?_)
     refine X.pF ?_
     cases h
     exact X.eG
    replace h:=condT hb15 h
    refine X.gn (X.gn (X.gn (X.pT ?_)))
    cases h
    exact X.eG
   replace h:=h2;clear h2
   refine R.cd (fun hc16=>?_) (fun hc16=>?_)
   ·replace h:=condT hc16 h
    refine Run.reg (X.fl L0t ?_)
    refine X.ld shp3 ?_
    refine X.an ?_
    refine Run.blk (Run.reg (X.ad ?_))
    refine X.mn ?_
    exact R.ag hag8 (n8 - 1) (z9+1,x11.Duration) (R.n3 (by first | (rw [hds8];exact h) | (dsimp only;rw [hds8];exact h)))
   replace h:=condF hc16 h
   refine Run.skip (Run.blk (Run.reg (X.ad ?_)))
   refine X.mn ?_
   exact R.ag hag8 (n8 - 1) (z9+1,a10) (R.n3 (by first | (rw [hds8];exact h) | (dsimp only;rw [hds8];exact h)))
  rw [A0j hza8 hc13] at h
  rw [C0x] at h
  refine Run.exit (by rfl) ?_
  exact R.mt hmeet4 a10 (Option.some.inj h)
 rintro p17 rfl
 refine Run.sr (X.mv ?_)
 refine X.an ?_
 cases h
 refine R.f1 Tryz.results100 ?_
 rfl
theorem X0h (b0:A0d)(b1:TLink)(b2:List Int)(r:Int)(h:L0b b0 b1 b2=some r):PC Tryz.prog 135 [A0v b0,A0k b1,.slice (b2.map int)] (int r):=by
 unfold L0b at h
 refine PC.start Tryz.func135 Tryz.ntmps135 rfl (by kernel_rfl) rfl ?_
 refine Run.sr (X.bx ?_)
 refine X.bx ?_
 refine X.an ?_
 refine Run.seq (Run.sr (X.fl W0e ?_))
 refine X.ld shp4 ?_
 refine X.nil ?_
 refine R.cd (fun hc1=>?_) (fun hc1=>?_)
 ·replace h:=condT hc1 h
  refine Run.seq (Run.draw (D0a [(1,([256],[],[],[])),(3,([192],[],[],[])),(5,([256],[],[],[]))]) mixed (by kernel_rfl) (by kernel_rfl) ?_)
  refine X.fl P0o ?_
  refine X.ld shp3 ?_
  refine X.fl D0p ?_
  refine X.ld shp30 ?_
  refine X.fl G0x ?_
  refine X.ld shp3 ?_
  obtain ⟨v2,hv2,h⟩:=bindE h
  refine X.ix elt30 (A0a hv2).1 (A0b A0c hv2) ?_
  refine X.lc shp50 ?_
  refine X.mv ?_
  obtain ⟨v3,hv3,h⟩:=bindE h
  refine X.cp (R0e _ _ _ hv3) ?_
  refine X.addW (h:=?_)
  refine X.an ?_
  cases h
  refine R.f1 Tryz.results135 ?_
  rfl
 replace h:=condF hc1 h
 refine Run.skip (Run.sr (X.fl P0o ?_))
 refine X.ld shp3 ?_
 refine X.an ?_
 cases h
 refine R.f1 Tryz.results135 ?_
 rfl
theorem J0v (b0:A0d)(b1:TLink)(r:Int)(h:D0e b0 b1=some r):PC Tryz.prog 95 [A0v b0,A0k b1] (int r):=by
 unfold D0e at h
 refine PC.start Tryz.func95 Tryz.ntmps95 rfl (by kernel_rfl) rfl ?_
 refine Run.sr (X.bx ?_)
 refine X.bx ?_
 refine X.an ?_
 refine Run.seq (Run.draw (D0a [(0,([128],[],[],[])),(1,([192],[],[],[])),(3,([128],[],[],[])),(5,([192],[],[],[])),(8,([],[832],[],[])),(9,([832],[],[],[]))]) mixed (by kernel_rfl) (by kernel_rfl) ?_)
 refine X.ld shp34 ?_
 refine X.ld shp87 ?_
 refine X.fl D0p ?_
 refine X.ld shp30 ?_
 refine X.fl G0x ?_
 refine X.ld shp3 ?_
 obtain ⟨v1,hv1,h⟩:=bindE h
 refine X.ix elt30 (A0a hv1).1 (A0b A0c hv1) ?_
 refine X.lc shp50 ?_
 obtain ⟨v2,hv2,h⟩:=bindE h
 refine X.callF (R0b _ _ hv2) (by rfl) (by rfl) (by rfl) (by trivial) (by rfl) (by rfl) (by rfl) (by rfl) ?_
 obtain ⟨v3,hv3,h⟩:=bindE h
 refine X.cp (X0h _ _ _ _ hv3) ?_
 refine X.an ?_
 cases h
 refine R.f1 Tryz.results95 ?_
 rfl
end Go.Px.YtimegoembedagaaGreat
