/-
  PROVED: contracts of functions of the program over pure values. No condition beyond those that each theorem names.
-/
import Derived.Test.YtimegoembedagaaGreatProg
import Derived.Test.YtimegoembedagaaGreatD1
namespace Go.Px.YtimegoembedagaaGreat
set_option linter.unusedSimpArgs false
set_option linter.unusedVariables false
open Go.Px Go.Proofs
theorem shp27 : shp Tryz.prog 27 = some (true, 5) := by kernel_rfl
theorem fld27_1 : fldOff Tryz.prog 27 1 = some 1 := by kernel_rfl
theorem shp22 : shp Tryz.prog 22 = some (false, 1) := by kernel_rfl
theorem elt22 : eltOf Tryz.prog 22 = some (77, 3, 48) := by kernel_rfl
theorem shp77 : shp Tryz.prog 77 = some (true, 3) := by kernel_rfl
theorem fld77_0 : fldOff Tryz.prog 77 0 = some 0 := by kernel_rfl
theorem shp9 : shp Tryz.prog 9 = some (false, 1) := by kernel_rfl
theorem fld77_2 : fldOff Tryz.prog 77 2 = some 2 := by kernel_rfl
theorem shp75 : shp Tryz.prog 75 = some (false, 1) := by kernel_rfl
theorem elt75 : eltOf Tryz.prog 75 = some (147, 3, 56) := by kernel_rfl
theorem shp147 : shp Tryz.prog 147 = some (true, 3) := by kernel_rfl
theorem fld147_1 : fldOff Tryz.prog 147 1 = some 1 := by kernel_rfl
theorem shp25 : shp Tryz.prog 25 = some (false, 1) := by kernel_rfl
theorem elt25 : eltOf Tryz.prog 25 = some (3, 1, 8) := by kernel_rfl
theorem ok22 : okFn Tryz.prog 22 = true := by kernel_rfl
theorem fld147_2 : fldOff Tryz.prog 147 2 = some 2 := by kernel_rfl
theorem ok143 : okFn Tryz.prog 143 = true := by kernel_rfl
theorem ok109 : okFn Tryz.prog 109 = true := by kernel_rfl
theorem ok57 : okFn Tryz.prog 57 = true := by kernel_rfl
theorem ok19 : okFn Tryz.prog 19 = true := by kernel_rfl
theorem fld27_2 : fldOff Tryz.prog 27 2 = some 2 := by kernel_rfl
theorem shp23 : shp Tryz.prog 23 = some (false, 1) := by kernel_rfl
theorem elt23 : eltOf Tryz.prog 23 = some (93, 4, 32) := by kernel_rfl
theorem ok20 : okFn Tryz.prog 20 = true := by kernel_rfl
theorem fld27_3 : fldOff Tryz.prog 27 3 = some 3 := by kernel_rfl
theorem shp24 : shp Tryz.prog 24 = some (false, 1) := by kernel_rfl
theorem elt24 : eltOf Tryz.prog 24 = some (81, 2, 48) := by kernel_rfl
theorem shp81 : shp Tryz.prog 81 = some (true, 2) := by kernel_rfl
theorem fld81_0 : fldOff Tryz.prog 81 0 = some 0 := by kernel_rfl
theorem shp79 : shp Tryz.prog 79 = some (false, 1) := by kernel_rfl
theorem elt79 : eltOf Tryz.prog 79 = some (150, 2, 16) := by kernel_rfl
theorem ok110 : okFn Tryz.prog 110 = true := by kernel_rfl
theorem fld81_1 : fldOff Tryz.prog 81 1 = some 1 := by kernel_rfl
theorem shp59 : shp Tryz.prog 59 = some (false, 1) := by kernel_rfl
theorem elt59 : eltOf Tryz.prog 59 = some (25, 1, 24) := by kernel_rfl
theorem ok111 : okFn Tryz.prog 111 = true := by kernel_rfl
theorem ok58 : okFn Tryz.prog 58 = true := by kernel_rfl
theorem ok21 : okFn Tryz.prog 21 = true := by kernel_rfl
theorem fld27_4 : fldOff Tryz.prog 27 4 = some 4 := by kernel_rfl
theorem ok6 : okFn Tryz.prog 6 = true := by kernel_rfl
theorem zer34 : zeroPV Tryz.prog 34 = some [.lit (.int .i64 0), .nils, .nils, .nils, .nils] := by kernel_rfl
theorem fld27_0 : fldOff Tryz.prog 27 0 = some 0 := by kernel_rfl
theorem shp3 : shp Tryz.prog 3 = some (false, 1) := by kernel_rfl
theorem fld34_0 : fldOff Tryz.prog 34 0 = some 0 := by kernel_rfl
theorem elt30 : eltOf Tryz.prog 30 = some (50, 3, 48) := by kernel_rfl
theorem zer50 : zeroPV Tryz.prog 50 = some [.lit (.string ByteArray.empty), .lit (.int .i64 0), .nils] := by kernel_rfl
theorem fld50_0 : fldOff Tryz.prog 50 0 = some 0 := by kernel_rfl
theorem fld77_1 : fldOff Tryz.prog 77 1 = some 1 := by kernel_rfl
theorem fld50_1 : fldOff Tryz.prog 50 1 = some 1 := by kernel_rfl
theorem elt48 : eltOf Tryz.prog 48 = some (100, 3, 56) := by kernel_rfl
theorem zer100 : zeroPV Tryz.prog 100 = some [.lit (.int .i64 0), .nils, .nils] := by kernel_rfl
theorem fld147_0 : fldOff Tryz.prog 147 0 = some 0 := by kernel_rfl
theorem fld100_0 : fldOff Tryz.prog 100 0 = some 0 := by kernel_rfl
theorem zer3 : zeroPV Tryz.prog 3 = some [.lit (.int .i64 0)] := by kernel_rfl
theorem ok32 : okFn Tryz.prog 32 = true := by kernel_rfl
theorem fld100_1 : fldOff Tryz.prog 100 1 = some 1 := by kernel_rfl
theorem fld100_2 : fldOff Tryz.prog 100 2 = some 2 := by kernel_rfl
theorem shp100 : shp Tryz.prog 100 = some (true, 3) := by kernel_rfl
theorem ok145 : okFn Tryz.prog 145 = true := by kernel_rfl
theorem ok119 : okFn Tryz.prog 119 = true := by kernel_rfl
theorem fld50_2 : fldOff Tryz.prog 50 2 = some 2 := by kernel_rfl
theorem shp48 : shp Tryz.prog 48 = some (false, 1) := by kernel_rfl
theorem shp50 : shp Tryz.prog 50 = some (true, 3) := by kernel_rfl
theorem ok68 : okFn Tryz.prog 68 = true := by kernel_rfl
theorem ok29 : okFn Tryz.prog 29 = true := by kernel_rfl
theorem fld34_1 : fldOff Tryz.prog 34 1 = some 1 := by kernel_rfl
theorem shp30 : shp Tryz.prog 30 = some (false, 1) := by kernel_rfl
theorem elt31 : eltOf Tryz.prog 31 = some (87, 4, 32) := by kernel_rfl
theorem zer87 : zeroPV Tryz.prog 87 = some [.lit (.int .i64 0), .lit (.int .i64 0), .lit (.bool false), .lit (.int .i64 0)] := by kernel_rfl
theorem shp93 : shp Tryz.prog 93 = some (true, 4) := by kernel_rfl
theorem fld93_0 : fldOff Tryz.prog 93 0 = some 0 := by kernel_rfl
theorem fld87_0 : fldOff Tryz.prog 87 0 = some 0 := by kernel_rfl
theorem fld93_1 : fldOff Tryz.prog 93 1 = some 1 := by kernel_rfl
theorem fld87_1 : fldOff Tryz.prog 87 1 = some 1 := by kernel_rfl
theorem fld93_2 : fldOff Tryz.prog 93 2 = some 2 := by kernel_rfl
theorem shp4 : shp Tryz.prog 4 = some (false, 1) := by kernel_rfl
theorem fld87_2 : fldOff Tryz.prog 87 2 = some 2 := by kernel_rfl
theorem fld93_3 : fldOff Tryz.prog 93 3 = some 3 := by kernel_rfl
theorem fld87_3 : fldOff Tryz.prog 87 3 = some 3 := by kernel_rfl
theorem shp87 : shp Tryz.prog 87 = some (true, 4) := by kernel_rfl
theorem ok69 : okFn Tryz.prog 69 = true := by kernel_rfl
theorem ok30 : okFn Tryz.prog 30 = true := by kernel_rfl
theorem fld34_2 : fldOff Tryz.prog 34 2 = some 2 := by kernel_rfl
theorem shp31 : shp Tryz.prog 31 = some (false, 1) := by kernel_rfl
theorem elt32 : eltOf Tryz.prog 32 = some (61, 2, 48) := by kernel_rfl
theorem zer61 : zeroPV Tryz.prog 61 = some [.nils, .nils] := by kernel_rfl
theorem elt58 : eltOf Tryz.prog 58 = some (136, 2, 16) := by kernel_rfl
theorem zer136 : zeroPV Tryz.prog 136 = some [.lit (.int .i64 0), .lit (.int .i64 0)] := by kernel_rfl
theorem shp150 : shp Tryz.prog 150 = some (true, 2) := by kernel_rfl
theorem fld150_0 : fldOff Tryz.prog 150 0 = some 0 := by kernel_rfl
theorem fld136_0 : fldOff Tryz.prog 136 0 = some 0 := by kernel_rfl
theorem fld150_1 : fldOff Tryz.prog 150 1 = some 1 := by kernel_rfl
theorem fld136_1 : fldOff Tryz.prog 136 1 = some 1 := by kernel_rfl
theorem shp136 : shp Tryz.prog 136 = some (true, 2) := by kernel_rfl
theorem ok146 : okFn Tryz.prog 146 = true := by kernel_rfl
theorem ok120 : okFn Tryz.prog 120 = true := by kernel_rfl
theorem fld61_0 : fldOff Tryz.prog 61 0 = some 0 := by kernel_rfl
theorem shp58 : shp Tryz.prog 58 = some (false, 1) := by kernel_rfl
theorem zer25 : zeroPV Tryz.prog 25 = some [.nils] := by kernel_rfl
theorem ok121 : okFn Tryz.prog 121 = true := by kernel_rfl
theorem fld61_1 : fldOff Tryz.prog 61 1 = some 1 := by kernel_rfl
theorem shp61 : shp Tryz.prog 61 = some (true, 2) := by kernel_rfl
theorem ok70 : okFn Tryz.prog 70 = true := by kernel_rfl
theorem ok31 : okFn Tryz.prog 31 = true := by kernel_rfl
theorem fld34_3 : fldOff Tryz.prog 34 3 = some 3 := by kernel_rfl
theorem shp32 : shp Tryz.prog 32 = some (false, 1) := by kernel_rfl
theorem fld34_4 : fldOff Tryz.prog 34 4 = some 4 := by kernel_rfl
theorem shp34 : shp Tryz.prog 34 = some (true, 5) := by kernel_rfl
theorem ok8 : okFn Tryz.prog 8 = true := by kernel_rfl
theorem ok59 : okFn Tryz.prog 59 = true := by kernel_rfl
theorem ok144 : okFn Tryz.prog 144 = true := by kernel_rfl
theorem ok112 : okFn Tryz.prog 112 = true := by kernel_rfl
theorem ok113 : okFn Tryz.prog 113 = true := by kernel_rfl
theorem ok60 : okFn Tryz.prog 60 = true := by kernel_rfl
theorem ok61 : okFn Tryz.prog 61 = true := by kernel_rfl
theorem mixed : Tryz.prog.follows .mixedOrders = true := by kernel_rfl
theorem ok114 : okFn Tryz.prog 114 = true := by kernel_rfl
theorem ok62 : okFn Tryz.prog 62 = true := by kernel_rfl
theorem ok23 : okFn Tryz.prog 23 = true := by kernel_rfl
theorem ok66 : okFn Tryz.prog 66 = true := by kernel_rfl
theorem ok27 : okFn Tryz.prog 27 = true := by kernel_rfl
theorem ok116 : okFn Tryz.prog 116 = true := by kernel_rfl
theorem ok115 : okFn Tryz.prog 115 = true := by kernel_rfl
theorem ok166 : okFn Tryz.prog 166 = true := by kernel_rfl
theorem ok152 : okFn Tryz.prog 152 = true := by kernel_rfl
theorem ok151 : okFn Tryz.prog 151 = true := by kernel_rfl
theorem ok132 : okFn Tryz.prog 132 = true := by kernel_rfl
theorem ok24 : okFn Tryz.prog 24 = true := by kernel_rfl
theorem ok133 : okFn Tryz.prog 133 = true := by kernel_rfl
theorem ok90 : okFn Tryz.prog 90 = true := by kernel_rfl
theorem ok63 : okFn Tryz.prog 63 = true := by kernel_rfl
theorem ok64 : okFn Tryz.prog 64 = true := by kernel_rfl
theorem ok25 : okFn Tryz.prog 25 = true := by kernel_rfl
theorem ok65 : okFn Tryz.prog 65 = true := by kernel_rfl
theorem ok26 : okFn Tryz.prog 26 = true := by kernel_rfl
theorem ok117 : okFn Tryz.prog 117 = true := by kernel_rfl
theorem ok118 : okFn Tryz.prog 118 = true := by kernel_rfl
theorem ok67 : okFn Tryz.prog 67 = true := by kernel_rfl
theorem ok28 : okFn Tryz.prog 28 = true := by kernel_rfl
theorem ok7 : okFn Tryz.prog 7 = true := by kernel_rfl
theorem ok71 : okFn Tryz.prog 71 = true := by kernel_rfl
theorem ok128 : okFn Tryz.prog 128 = true := by kernel_rfl
theorem ok147 : okFn Tryz.prog 147 = true := by kernel_rfl
theorem ok122 : okFn Tryz.prog 122 = true := by kernel_rfl
theorem ok123 : okFn Tryz.prog 123 = true := by kernel_rfl
theorem ok72 : okFn Tryz.prog 72 = true := by kernel_rfl
theorem ok125 : okFn Tryz.prog 125 = true := by kernel_rfl
theorem ok124 : okFn Tryz.prog 124 = true := by kernel_rfl
theorem ok73 : okFn Tryz.prog 73 = true := by kernel_rfl
theorem ok85 : okFn Tryz.prog 85 = true := by kernel_rfl
theorem ok84 : okFn Tryz.prog 84 = true := by kernel_rfl
theorem ok74 : okFn Tryz.prog 74 = true := by kernel_rfl
theorem ok99 : okFn Tryz.prog 99 = true := by kernel_rfl
theorem ok77 : okFn Tryz.prog 77 = true := by kernel_rfl
theorem ok76 : okFn Tryz.prog 76 = true := by kernel_rfl
theorem ok126 : okFn Tryz.prog 126 = true := by kernel_rfl
theorem ok75 : okFn Tryz.prog 75 = true := by kernel_rfl
theorem ok33 : okFn Tryz.prog 33 = true := by kernel_rfl
theorem ok83 : okFn Tryz.prog 83 = true := by kernel_rfl
theorem ok36 : okFn Tryz.prog 36 = true := by kernel_rfl
theorem ok165 : okFn Tryz.prog 165 = true := by kernel_rfl
theorem ok148 : okFn Tryz.prog 148 = true := by kernel_rfl
theorem ok127 : okFn Tryz.prog 127 = true := by kernel_rfl
theorem ok80 : okFn Tryz.prog 80 = true := by kernel_rfl
theorem ok100 : okFn Tryz.prog 100 = true := by kernel_rfl
theorem ok135 : okFn Tryz.prog 135 = true := by kernel_rfl
theorem ok95 : okFn Tryz.prog 95 = true := by kernel_rfl
theorem ok153 : okFn Tryz.prog 153 = true := by kernel_rfl
theorem ok134 : okFn Tryz.prog 134 = true := by kernel_rfl
theorem ok93 : okFn Tryz.prog 93 = true := by kernel_rfl
theorem elt111 : eltOf Tryz.prog 111 = some (112, 1, 24) := by kernel_rfl
theorem zer112 : zeroPV Tryz.prog 112 = some [.nils] := by kernel_rfl
theorem zer59 : zeroPV Tryz.prog 59 = some [.nils] := by kernel_rfl
theorem zer111 : zeroPV Tryz.prog 111 = some [.nils] := by kernel_rfl
theorem shp111 : shp Tryz.prog 111 = some (false, 1) := by kernel_rfl
theorem elt112 : eltOf Tryz.prog 112 = some (4, 1, 1) := by kernel_rfl
theorem zer4 : zeroPV Tryz.prog 4 = some [.lit (.bool false)] := by kernel_rfl
theorem shp112 : shp Tryz.prog 112 = some (false, 1) := by kernel_rfl
theorem ok94 : okFn Tryz.prog 94 = true := by kernel_rfl
theorem ok44 : okFn Tryz.prog 44 = true := by kernel_rfl
theorem ok78 : okFn Tryz.prog 78 = true := by kernel_rfl
theorem ok51 : okFn Tryz.prog 51 = true := by kernel_rfl
theorem ok34 : okFn Tryz.prog 34 = true := by kernel_rfl
theorem ok82 : okFn Tryz.prog 82 = true := by kernel_rfl
theorem ok81 : okFn Tryz.prog 81 = true := by kernel_rfl
theorem ok79 : okFn Tryz.prog 79 = true := by kernel_rfl
theorem ok35 : okFn Tryz.prog 35 = true := by kernel_rfl
theorem ok86 : okFn Tryz.prog 86 = true := by kernel_rfl
theorem ok37 : okFn Tryz.prog 37 = true := by kernel_rfl
theorem ok9 : okFn Tryz.prog 9 = true := by kernel_rfl
theorem ok13 : okFn Tryz.prog 13 = true := by kernel_rfl
theorem ok149 : okFn Tryz.prog 149 = true := by kernel_rfl
theorem ok129 : okFn Tryz.prog 129 = true := by kernel_rfl
theorem ok87 : okFn Tryz.prog 87 = true := by kernel_rfl
theorem ok38 : okFn Tryz.prog 38 = true := by kernel_rfl
theorem ok88 : okFn Tryz.prog 88 = true := by kernel_rfl
theorem ok39 : okFn Tryz.prog 39 = true := by kernel_rfl
theorem ok150 : okFn Tryz.prog 150 = true := by kernel_rfl
theorem ok130 : okFn Tryz.prog 130 = true := by kernel_rfl
theorem ok131 : okFn Tryz.prog 131 = true := by kernel_rfl
theorem ok89 : okFn Tryz.prog 89 = true := by kernel_rfl
theorem ok40 : okFn Tryz.prog 40 = true := by kernel_rfl
theorem ok10 : okFn Tryz.prog 10 = true := by kernel_rfl
theorem ok3 : okFn Tryz.prog 3 = true := by kernel_rfl
theorem w_szIntS_pc (b0 : List Int) (b1 : Int) (r : Int) (h : w_szIntS b0 b1 = some r) : PC Tryz.prog 22 [.slice (b0.map int), int b1] (int r) := by
 unfold w_szIntS at h
 refine PC.start Tryz.func22 Tryz.ntmps22 rfl ok22 rfl ?_
 refine Run.sr ?_
 refine X.an ?_
 refine Run.sr ?_
 refine X.mv ?_
 refine X.mv ?_
 refine X.ls elt25 ?_
 refine X.subW (by rfl) (by rfl) (by rfl) ?_
 refine X.an ?_
 refine Run.seq ?_
 refine Run.sr ?_
 refine X.mv ?_
 refine X.bi ?_
 refine X.nil ?_
 refine R.cd (fun hc1 => ?_) (fun hc1 => ?_)
 ·replace h := condT hc1 h
  refine Run.sr ?_
  refine X.an ?_
  cases h
  refine R.f1 Tryz.results22 ?_
  rfl
 ·replace h := condF hc1 h
  refine Run.skip ?_
  refine Run.sr ?_
  refine X.mv ?_
  refine X.an ?_
  cases h
  refine R.f1 Tryz.results22 ?_
  rfl
theorem w_szMode_pc (b0 : TMode) (b1 : Int) (r : Int) (h : w_szMode b0 b1 = some r) : PC Tryz.prog 143 [eTMode b0, int b1] (int r) := by
 unfold w_szMode at h
 refine PC.start Tryz.func143 Tryz.ntmps143 rfl ok143 rfl ?_
 refine Run.sr ?_
 refine X.bx ?_
 refine X.an ?_
 refine Run.sr ?_
 refine X.fl fld147_1 ?_
 refine X.ld shp25 ?_
 refine X.mv ?_
 obtain ⟨v1, hv1, h⟩ := bindE h
 refine X.cp (w_szIntS_pc _ _ _ hv1) ?_
 refine X.an ?_
 refine Run.seq ?_
 refine Run.sr ?_
 refine X.mv ?_
 refine X.bi ?_
 refine X.nil ?_
 refine R.cd (fun hc2 => ?_) (fun hc2 => ?_)
 ·replace h := condT hc2 h
  refine Run.sr ?_
  refine X.an ?_
  cases h
  refine R.f1 Tryz.results143 ?_
  rfl
 ·replace h := condF hc2 h
  refine Run.skip ?_
  refine Run.sr ?_
  refine X.fl fld147_2 ?_
  refine X.ld shp25 ?_
  refine X.mv ?_
  obtain ⟨v3, hv3, h⟩ := bindE h
  refine X.cp (w_szIntS_pc _ _ _ hv3) ?_
  refine X.an ?_
  refine Run.seq ?_
  refine Run.sr ?_
  refine X.mv ?_
  refine X.bi ?_
  refine X.nil ?_
  refine R.cd (fun hc4 => ?_) (fun hc4 => ?_)
  ·replace h := condT hc4 h
   refine Run.sr ?_
   refine X.an ?_
   cases h
   refine R.f1 Tryz.results143 ?_
   rfl
  ·replace h := condF hc4 h
   refine Run.skip ?_
   refine Run.sr ?_
   refine X.mv ?_
   refine X.an ?_
   cases h
   refine R.f1 Tryz.results143 ?_
   rfl
theorem w_szModeS_pc (b0 : List TMode) (b1 : Int) (r : Int) (h : w_szModeS b0 b1 = some r) : PC Tryz.prog 109 [.slice (b0.map eTMode), int b1] (int r) := by
 unfold w_szModeS at h
 refine PC.start Tryz.func109 Tryz.ntmps109 rfl ok109 rfl ?_
 refine Run.sr ?_
 refine X.an ?_
 refine Run.sr ?_
 refine X.mv ?_
 refine X.mv ?_
 refine X.ls elt75 ?_
 refine X.subW (by rfl) (by rfl) (by rfl) ?_
 refine X.an ?_
 refine Run.seq ?_
 refine Run.sr ?_
 refine X.mv ?_
 refine X.bi ?_
 refine X.nil ?_
 refine R.cd (fun hc1 => ?_) (fun hc1 => ?_)
 ·replace h := condT hc1 h
  refine Run.sr ?_
  refine X.an ?_
  cases h
  refine R.f1 Tryz.results109 ?_
  rfl
 ·replace h := condF hc1 h
  refine Run.skip ?_
  refine Run.seq ?_
  refine Run.sr ?_
  refine X.an ?_
  obtain ⟨o2, ho2, h⟩ := bindE h
  refine R.join2 (β := Int) [] [] (fun p16 S => (1, int p16) :: S) (fun p16 M => M) (fun p16 => (Sum.inl p16) = o2) ?_ ?_
  ·intro JJ5 hmeet4
   have hup3 := h; clear h; have h := ho2; clear ho2
   refine Run.block ?_
   refine R.bndS (t := 0) (by rfl) (fun hbd8 => ?_)
   replace hbd8 : b0.length ≤ 9223372036854775807 := by first | (rw [List.length_map] at hbd8; exact hbd8) | simp
   refine R.lp (β := Int × Int) [(0, .slice (b0.map eTMode))] [] (fun bb S => (1, int bb.2) :: (5, int bb.1) :: S) (fun bb M => M) (fun n bb => 0 ≤ bb.1 ∧ bb.1 + n = (b0.length : Int) ∧ w_szModeS_L1 (b0.drop bb.1.toNat) bb.1 bb.2 = some o2) b0.length (0, (W (b1 - (b0.length : Int)))) ⟨Int.le_refl _, by simp, h⟩ ?_
   clear h
   rintro JJ8 n8 ⟨z9, a10⟩ hag8 ⟨hza8, hzb8, h⟩
   dsimp only at hza8 hzb8 h
   refine Run.seq ?_
   refine Run.sr ?_
   refine X.mv ?_
   refine X.mv ?_
   refine X.ls elt75 ?_
   refine X.bi ?_
   refine X.nil ?_
   refine R.cd (fun hc13 => ?_) (fun hc13 => ?_)
   ·obtain ⟨x11, xs12, hd8, hx8, hds8, hlt8⟩ := drop_atI hza8 hc13
    rw [hd8] at h
    rw [w_szModeS_L1] at h
    refine Run.skip ?_
    refine Run.seq ?_
    refine Run.block ?_
    refine Run.sr ?_
    refine X.mv ?_
    refine X.mv ?_
    refine X.ix elt75 (idxL_spec hx8).1 (idxL_map eTMode hx8) ?_
    refine X.lc shp147 ?_
    refine X.mv ?_
    obtain ⟨v14, hv14, h⟩ := bindE h
    refine X.cp (w_szMode_pc _ _ _ hv14) ?_
    refine X.an ?_
    refine Run.sr ?_
    refine X.mv ?_
    refine X.bi ?_
    refine X.nil ?_
    refine R.cd (fun hc15 => ?_) (fun hc15 => ?_)
    ·replace h := condT hc15 h
     refine Run.sr ?_
     refine X.an ?_
     cases h
     have h := hup3
     replace h := elimR h
     cases h
     refine R.f1 Tryz.results109 ?_
     rfl
    ·replace h := condF hc15 h
     refine Run.skip ?_
     refine Run.blk ?_
     refine Run.reg ?_
     refine X.mv ?_
     refine X.ad ?_
     refine X.an ?_
     exact R.ag hag8 (n8 - 1) (z9 + 1, v14) (R.n3 (by first | (rw [hds8]; exact h) | (dsimp only; rw [hds8]; exact h)))
   ·rw [drop_endI hza8 hc13] at h
    rw [w_szModeS_L1] at h
    refine Run.exit (by rfl) ?_
    exact R.mt hmeet4 a10 (Option.some.inj h)
  rintro p16 rfl
  replace h := elimL h
  refine Run.sr ?_
  refine X.mv ?_
  refine X.an ?_
  cases h
  refine R.f1 Tryz.results109 ?_
  rfl
theorem w_szActivity_pc (b0 : TActivity) (b1 : Int) (r : Int) (h : w_szActivity b0 b1 = some r) : PC Tryz.prog 57 [eTActivity b0, int b1] (int r) := by
 unfold w_szActivity at h
 refine PC.start Tryz.func57 Tryz.ntmps57 rfl ok57 rfl ?_
 refine Run.sr ?_
 refine X.bx ?_
 refine X.an ?_
 refine Run.sr ?_
 refine X.mv ?_
 refine X.fl fld77_0 ?_
 refine X.ld shp9 ?_
 refine X.lenStr Tryz.underlying9 (by rfl) (by rfl) ?_
 refine X.subW (by rfl) (by rfl) (by rfl) ?_
 refine X.an ?_
 refine Run.seq ?_
 refine Run.sr ?_
 refine X.mv ?_
 refine X.bi ?_
 refine X.nil ?_
 refine R.cd (fun hc1 => ?_) (fun hc1 => ?_)
 ·replace h := condT hc1 h
  refine Run.sr ?_
  refine X.an ?_
  cases h
  refine R.f1 Tryz.results57 ?_
  rfl
 ·replace h := condF hc1 h
  refine Run.skip ?_
  refine Run.sr ?_
  refine X.fl fld77_2 ?_
  refine X.ld shp75 ?_
  refine X.mv ?_
  obtain ⟨v2, hv2, h⟩ := bindE h
  refine X.cp (w_szModeS_pc _ _ _ hv2) ?_
  refine X.an ?_
  refine Run.seq ?_
  refine Run.sr ?_
  refine X.mv ?_
  refine X.bi ?_
  refine X.nil ?_
  refine R.cd (fun hc3 => ?_) (fun hc3 => ?_)
  ·replace h := condT hc3 h
   refine Run.sr ?_
   refine X.an ?_
   cases h
   refine R.f1 Tryz.results57 ?_
   rfl
  ·replace h := condF hc3 h
   refine Run.skip ?_
   refine Run.sr ?_
   refine X.mv ?_
   refine X.an ?_
   cases h
   refine R.f1 Tryz.results57 ?_
   rfl
theorem w_szActivityS_pc (b0 : List TActivity) (b1 : Int) (r : Int) (h : w_szActivityS b0 b1 = some r) : PC Tryz.prog 19 [.slice (b0.map eTActivity), int b1] (int r) := by
 unfold w_szActivityS at h
 refine PC.start Tryz.func19 Tryz.ntmps19 rfl ok19 rfl ?_
 refine Run.sr ?_
 refine X.an ?_
 refine Run.sr ?_
 refine X.mv ?_
 refine X.mv ?_
 refine X.ls elt22 ?_
 refine X.subW (by rfl) (by rfl) (by rfl) ?_
 refine X.an ?_
 refine Run.seq ?_
 refine Run.sr ?_
 refine X.mv ?_
 refine X.bi ?_
 refine X.nil ?_
 refine R.cd (fun hc1 => ?_) (fun hc1 => ?_)
 ·replace h := condT hc1 h
  refine Run.sr ?_
  refine X.an ?_
  cases h
  refine R.f1 Tryz.results19 ?_
  rfl
 ·replace h := condF hc1 h
  refine Run.skip ?_
  refine Run.seq ?_
  refine Run.sr ?_
  refine X.an ?_
  obtain ⟨o2, ho2, h⟩ := bindE h
  refine R.join2 (β := Int) [] [] (fun p16 S => (1, int p16) :: S) (fun p16 M => M) (fun p16 => (Sum.inl p16) = o2) ?_ ?_
  ·intro JJ5 hmeet4
   have hup3 := h; clear h; have h := ho2; clear ho2
   refine Run.block ?_
   refine R.bndS (t := 0) (by rfl) (fun hbd8 => ?_)
   replace hbd8 : b0.length ≤ 9223372036854775807 := by first | (rw [List.length_map] at hbd8; exact hbd8) | simp
   refine R.lp (β := Int × Int) [(0, .slice (b0.map eTActivity))] [] (fun bb S => (1, int bb.2) :: (5, int bb.1) :: S) (fun bb M => M) (fun n bb => 0 ≤ bb.1 ∧ bb.1 + n = (b0.length : Int) ∧ w_szActivityS_L1 (b0.drop bb.1.toNat) bb.1 bb.2 = some o2) b0.length (0, (W (b1 - (b0.length : Int)))) ⟨Int.le_refl _, by simp, h⟩ ?_
   clear h
   rintro JJ8 n8 ⟨z9, a10⟩ hag8 ⟨hza8, hzb8, h⟩
   dsimp only at hza8 hzb8 h
   refine Run.seq ?_
   refine Run.sr ?_
   refine X.mv ?_
   refine X.mv ?_
   refine X.ls elt22 ?_
   refine X.bi ?_
   refine X.nil ?_
   refine R.cd (fun hc13 => ?_) (fun hc13 => ?_)
   ·obtain ⟨x11, xs12, hd8, hx8, hds8, hlt8⟩ := drop_atI hza8 hc13
    rw [hd8] at h
    rw [w_szActivityS_L1] at h
    refine Run.skip ?_
    refine Run.seq ?_
    refine Run.block ?_
    refine Run.sr ?_
    refine X.mv ?_
    refine X.mv ?_
    refine X.ix elt22 (idxL_spec hx8).1 (idxL_map eTActivity hx8) ?_
    refine X.lc shp77 ?_
    refine X.mv ?_
    obtain ⟨v14, hv14, h⟩ := bindE h
    refine X.cp (w_szActivity_pc _ _ _ hv14) ?_
    refine X.an ?_
    refine Run.sr ?_
    refine X.mv ?_
    refine X.bi ?_
    refine X.nil ?_
    refine R.cd (fun hc15 => ?_) (fun hc15 => ?_)
    ·replace h := condT hc15 h
     refine Run.sr ?_
     refine X.an ?_
     cases h
     have h := hup3
     replace h := elimR h
     cases h
     refine R.f1 Tryz.results19 ?_
     rfl
    ·replace h := condF hc15 h
     refine Run.skip ?_
     refine Run.blk ?_
     refine Run.reg ?_
     refine X.mv ?_
     refine X.ad ?_
     refine X.an ?_
     exact R.ag hag8 (n8 - 1) (z9 + 1, v14) (R.n3 (by first | (rw [hds8]; exact h) | (dsimp only; rw [hds8]; exact h)))
   ·rw [drop_endI hza8 hc13] at h
    rw [w_szActivityS_L1] at h
    refine Run.exit (by rfl) ?_
    exact R.mt hmeet4 a10 (Option.some.inj h)
  rintro p16 rfl
  replace h := elimL h
  refine Run.sr ?_
  refine X.mv ?_
  refine X.an ?_
  cases h
  refine R.f1 Tryz.results19 ?_
  rfl
theorem w_szLinkS_pc (b0 : List TLink) (b1 : Int) (r : Int) (h : w_szLinkS b0 b1 = some r) : PC Tryz.prog 20 [.slice (b0.map eTLink), int b1] (int r) := by
 unfold w_szLinkS at h
 refine PC.start Tryz.func20 Tryz.ntmps20 rfl ok20 rfl ?_
 refine Run.sr ?_
 refine X.an ?_
 refine Run.sr ?_
 refine X.mv ?_
 refine X.mv ?_
 refine X.ls elt23 ?_
 refine X.subW (by rfl) (by rfl) (by rfl) ?_
 refine X.an ?_
 refine Run.seq ?_
 refine Run.sr ?_
 refine X.mv ?_
 refine X.bi ?_
 refine X.nil ?_
 refine R.cd (fun hc1 => ?_) (fun hc1 => ?_)
 ·replace h := condT hc1 h
  refine Run.sr ?_
  refine X.an ?_
  cases h
  refine R.f1 Tryz.results20 ?_
  rfl
 ·replace h := condF hc1 h
  refine Run.skip ?_
  refine Run.sr ?_
  refine X.mv ?_
  refine X.an ?_
  cases h
  refine R.f1 Tryz.results20 ?_
  rfl
theorem w_szStepS_pc (b0 : List TStep) (b1 : Int) (r : Int) (h : w_szStepS b0 b1 = some r) : PC Tryz.prog 110 [.slice (b0.map eTStep), int b1] (int r) := by
 unfold w_szStepS at h
 refine PC.start Tryz.func110 Tryz.ntmps110 rfl ok110 rfl ?_
 refine Run.sr ?_
 refine X.an ?_
 refine Run.sr ?_
 refine X.mv ?_
 refine X.mv ?_
 refine X.ls elt79 ?_
 refine X.subW (by rfl) (by rfl) (by rfl) ?_
 refine X.an ?_
 refine Run.seq ?_
 refine Run.sr ?_
 refine X.mv ?_
 refine X.bi ?_
 refine X.nil ?_
 refine R.cd (fun hc1 => ?_) (fun hc1 => ?_)
 ·replace h := condT hc1 h
  refine Run.sr ?_
  refine X.an ?_
  cases h
  refine R.f1 Tryz.results110 ?_
  rfl
 ·replace h := condF hc1 h
  refine Run.skip ?_
  refine Run.sr ?_
  refine X.mv ?_
  refine X.an ?_
  cases h
  refine R.f1 Tryz.results110 ?_
  rfl
theorem w_szIntSS_pc (b0 : List (List Int)) (b1 : Int) (r : Int) (h : w_szIntSS b0 b1 = some r) : PC Tryz.prog 111 [.slice (b0.map l_int), int b1] (int r) := by
 unfold w_szIntSS at h
 refine PC.start Tryz.func111 Tryz.ntmps111 rfl ok111 rfl ?_
 refine Run.sr ?_
 refine X.an ?_
 refine Run.sr ?_
 refine X.mv ?_
 refine X.mv ?_
 refine X.ls elt59 ?_
 refine X.subW (by rfl) (by rfl) (by rfl) ?_
 refine X.an ?_
 refine Run.seq ?_
 refine Run.sr ?_
 refine X.mv ?_
 refine X.bi ?_
 refine X.nil ?_
 refine R.cd (fun hc1 => ?_) (fun hc1 => ?_)
 ·replace h := condT hc1 h
  refine Run.sr ?_
  refine X.an ?_
  cases h
  refine R.f1 Tryz.results111 ?_
  rfl
 ·replace h := condF hc1 h
  refine Run.skip ?_
  refine Run.seq ?_
  refine Run.sr ?_
  refine X.an ?_
  obtain ⟨o2, ho2, h⟩ := bindE h
  refine R.join2 (β := Int) [] [] (fun p16 S => (1, int p16) :: S) (fun p16 M => M) (fun p16 => (Sum.inl p16) = o2) ?_ ?_
  ·intro JJ5 hmeet4
   have hup3 := h; clear h; have h := ho2; clear ho2
   refine Run.block ?_
   refine R.bndS (t := 0) (by rfl) (fun hbd8 => ?_)
   replace hbd8 : b0.length ≤ 9223372036854775807 := by first | (rw [List.length_map] at hbd8; exact hbd8) | simp
   refine R.lp (β := Int × Int) [(0, .slice (b0.map l_int))] [] (fun bb S => (1, int bb.2) :: (5, int bb.1) :: S) (fun bb M => M) (fun n bb => 0 ≤ bb.1 ∧ bb.1 + n = (b0.length : Int) ∧ w_szIntSS_L1 (b0.drop bb.1.toNat) bb.1 bb.2 = some o2) b0.length (0, (W (b1 - (b0.length : Int)))) ⟨Int.le_refl _, by simp, h⟩ ?_
   clear h
   rintro JJ8 n8 ⟨z9, a10⟩ hag8 ⟨hza8, hzb8, h⟩
   dsimp only at hza8 hzb8 h
   refine Run.seq ?_
   refine Run.sr ?_
   refine X.mv ?_
   refine X.mv ?_
   refine X.ls elt59 ?_
   refine X.bi ?_
   refine X.nil ?_
   refine R.cd (fun hc13 => ?_) (fun hc13 => ?_)
   ·obtain ⟨x11, xs12, hd8, hx8, hds8, hlt8⟩ := drop_atI hza8 hc13
    rw [hd8] at h
    rw [w_szIntSS_L1] at h
    refine Run.skip ?_
    refine Run.seq ?_
    refine Run.block ?_
    refine Run.sr ?_
    refine X.mv ?_
    refine X.mv ?_
    refine X.ix elt59 (idxL_spec hx8).1 (idxL_map l_int hx8) ?_
    refine X.lc shp25 ?_
    refine X.mv ?_
    obtain ⟨v14, hv14, h⟩ := bindE h
    refine X.cp (w_szIntS_pc _ _ _ hv14) ?_
    refine X.an ?_
    refine Run.sr ?_
    refine X.mv ?_
    refine X.bi ?_
    refine X.nil ?_
    refine R.cd (fun hc15 => ?_) (fun hc15 => ?_)
    ·replace h := condT hc15 h
     refine Run.sr ?_
     refine X.an ?_
     cases h
     have h := hup3
     replace h := elimR h
     cases h
     refine R.f1 Tryz.results111 ?_
     rfl
    ·replace h := condF hc15 h
     refine Run.skip ?_
     refine Run.blk ?_
     refine Run.reg ?_
     refine X.mv ?_
     refine X.ad ?_
     refine X.an ?_
     exact R.ag hag8 (n8 - 1) (z9 + 1, v14) (R.n3 (by first | (rw [hds8]; exact h) | (dsimp only; rw [hds8]; exact h)))
   ·rw [drop_endI hza8 hc13] at h
    rw [w_szIntSS_L1] at h
    refine Run.exit (by rfl) ?_
    exact R.mt hmeet4 a10 (Option.some.inj h)
  rintro p16 rfl
  replace h := elimL h
  refine Run.sr ?_
  refine X.mv ?_
  refine X.an ?_
  cases h
  refine R.f1 Tryz.results111 ?_
  rfl
theorem w_szResource_pc (b0 : TResource) (b1 : Int) (r : Int) (h : w_szResource b0 b1 = some r) : PC Tryz.prog 58 [eTResource b0, int b1] (int r) := by
 unfold w_szResource at h
 refine PC.start Tryz.func58 Tryz.ntmps58 rfl ok58 rfl ?_
 refine Run.sr ?_
 refine X.bx ?_
 refine X.an ?_
 refine Run.sr ?_
 refine X.fl fld81_0 ?_
 refine X.ld shp79 ?_
 refine X.mv ?_
 obtain ⟨v1, hv1, h⟩ := bindE h
 refine X.cp (w_szStepS_pc _ _ _ hv1) ?_
 refine X.an ?_
 refine Run.seq ?_
 refine Run.sr ?_
 refine X.mv ?_
 refine X.bi ?_
 refine X.nil ?_
 refine R.cd (fun hc2 => ?_) (fun hc2 => ?_)
 ·replace h := condT hc2 h
  refine Run.sr ?_
  refine X.an ?_
  cases h
  refine R.f1 Tryz.results58 ?_
  rfl
 ·replace h := condF hc2 h
  refine Run.skip ?_
  refine Run.sr ?_
  refine X.fl fld81_1 ?_
  refine X.ld shp59 ?_
  refine X.mv ?_
  obtain ⟨v3, hv3, h⟩ := bindE h
  refine X.cp (w_szIntSS_pc _ _ _ hv3) ?_
  refine X.an ?_
  refine Run.seq ?_
  refine Run.sr ?_
  refine X.mv ?_
  refine X.bi ?_
  refine X.nil ?_
  refine R.cd (fun hc4 => ?_) (fun hc4 => ?_)
  ·replace h := condT hc4 h
   refine Run.sr ?_
   refine X.an ?_
   cases h
   refine R.f1 Tryz.results58 ?_
   rfl
  ·replace h := condF hc4 h
   refine Run.skip ?_
   refine Run.sr ?_
   refine X.mv ?_
   refine X.an ?_
   cases h
   refine R.f1 Tryz.results58 ?_
   rfl
theorem w_szResourceS_pc (b0 : List TResource) (b1 : Int) (r : Int) (h : w_szResourceS b0 b1 = some r) : PC Tryz.prog 21 [.slice (b0.map eTResource), int b1] (int r) := by
 unfold w_szResourceS at h
 refine PC.start Tryz.func21 Tryz.ntmps21 rfl ok21 rfl ?_
 refine Run.sr ?_
 refine X.an ?_
 refine Run.sr ?_
 refine X.mv ?_
 refine X.mv ?_
 refine X.ls elt24 ?_
 refine X.subW (by rfl) (by rfl) (by rfl) ?_
 refine X.an ?_
 refine Run.seq ?_
 refine Run.sr ?_
 refine X.mv ?_
 refine X.bi ?_
 refine X.nil ?_
 refine R.cd (fun hc1 => ?_) (fun hc1 => ?_)
 ·replace h := condT hc1 h
  refine Run.sr ?_
  refine X.an ?_
  cases h
  refine R.f1 Tryz.results21 ?_
  rfl
 ·replace h := condF hc1 h
  refine Run.skip ?_
  refine Run.seq ?_
  refine Run.sr ?_
  refine X.an ?_
  obtain ⟨o2, ho2, h⟩ := bindE h
  refine R.join2 (β := Int) [] [] (fun p16 S => (1, int p16) :: S) (fun p16 M => M) (fun p16 => (Sum.inl p16) = o2) ?_ ?_
  ·intro JJ5 hmeet4
   have hup3 := h; clear h; have h := ho2; clear ho2
   refine Run.block ?_
   refine R.bndS (t := 0) (by rfl) (fun hbd8 => ?_)
   replace hbd8 : b0.length ≤ 9223372036854775807 := by first | (rw [List.length_map] at hbd8; exact hbd8) | simp
   refine R.lp (β := Int × Int) [(0, .slice (b0.map eTResource))] [] (fun bb S => (1, int bb.2) :: (5, int bb.1) :: S) (fun bb M => M) (fun n bb => 0 ≤ bb.1 ∧ bb.1 + n = (b0.length : Int) ∧ w_szResourceS_L1 (b0.drop bb.1.toNat) bb.1 bb.2 = some o2) b0.length (0, (W (b1 - (b0.length : Int)))) ⟨Int.le_refl _, by simp, h⟩ ?_
   clear h
   rintro JJ8 n8 ⟨z9, a10⟩ hag8 ⟨hza8, hzb8, h⟩
   dsimp only at hza8 hzb8 h
   refine Run.seq ?_
   refine Run.sr ?_
   refine X.mv ?_
   refine X.mv ?_
   refine X.ls elt24 ?_
   refine X.bi ?_
   refine X.nil ?_
   refine R.cd (fun hc13 => ?_) (fun hc13 => ?_)
   ·obtain ⟨x11, xs12, hd8, hx8, hds8, hlt8⟩ := drop_atI hza8 hc13
    rw [hd8] at h
    rw [w_szResourceS_L1] at h
    refine Run.skip ?_
    refine Run.seq ?_
    refine Run.block ?_
    refine Run.sr ?_
    refine X.mv ?_
    refine X.mv ?_
    refine X.ix elt24 (idxL_spec hx8).1 (idxL_map eTResource hx8) ?_
    refine X.lc shp81 ?_
    refine X.mv ?_
    obtain ⟨v14, hv14, h⟩ := bindE h
    refine X.cp (w_szResource_pc _ _ _ hv14) ?_
    refine X.an ?_
    refine Run.sr ?_
    refine X.mv ?_
    refine X.bi ?_
    refine X.nil ?_
    refine R.cd (fun hc15 => ?_) (fun hc15 => ?_)
    ·replace h := condT hc15 h
     refine Run.sr ?_
     refine X.an ?_
     cases h
     have h := hup3
     replace h := elimR h
     cases h
     refine R.f1 Tryz.results21 ?_
     rfl
    ·replace h := condF hc15 h
     refine Run.skip ?_
     refine Run.blk ?_
     refine Run.reg ?_
     refine X.mv ?_
     refine X.ad ?_
     refine X.an ?_
     exact R.ag hag8 (n8 - 1) (z9 + 1, v14) (R.n3 (by first | (rw [hds8]; exact h) | (dsimp only; rw [hds8]; exact h)))
   ·rw [drop_endI hza8 hc13] at h
    rw [w_szResourceS_L1] at h
    refine Run.exit (by rfl) ?_
    exact R.mt hmeet4 a10 (Option.some.inj h)
  rintro p16 rfl
  replace h := elimL h
  refine Run.sr ?_
  refine X.mv ?_
  refine X.an ?_
  cases h
  refine R.f1 Tryz.results21 ?_
  rfl
theorem w_szProject_pc (b0 : TProject) (b1 : Int) (r : Int) (h : w_szProject b0 b1 = some r) : PC Tryz.prog 6 [eTProject b0, int b1] (int r) := by
 unfold w_szProject at h
 refine PC.start Tryz.func6 Tryz.ntmps6 rfl ok6 rfl ?_
 refine Run.sr ?_
 refine X.bx ?_
 refine X.an ?_
 refine Run.sr ?_
 refine X.fl fld27_1 ?_
 refine X.ld shp22 ?_
 refine X.mv ?_
 obtain ⟨v1, hv1, h⟩ := bindE h
 refine X.cp (w_szActivityS_pc _ _ _ hv1) ?_
 refine X.an ?_
 refine Run.seq ?_
 refine Run.sr ?_
 refine X.mv ?_
 refine X.bi ?_
 refine X.nil ?_
 refine R.cd (fun hc2 => ?_) (fun hc2 => ?_)
 ·replace h := condT hc2 h
  refine Run.sr ?_
  refine X.an ?_
  cases h
  refine R.f1 Tryz.results6 ?_
  rfl
 ·replace h := condF hc2 h
  refine Run.skip ?_
  refine Run.sr ?_
  refine X.fl fld27_2 ?_
  refine X.ld shp23 ?_
  refine X.mv ?_
  obtain ⟨v3, hv3, h⟩ := bindE h
  refine X.cp (w_szLinkS_pc _ _ _ hv3) ?_
  refine X.an ?_
  refine Run.seq ?_
  refine Run.sr ?_
  refine X.mv ?_
  refine X.bi ?_
  refine X.nil ?_
  refine R.cd (fun hc4 => ?_) (fun hc4 => ?_)
  ·replace h := condT hc4 h
   refine Run.sr ?_
   refine X.an ?_
   cases h
   refine R.f1 Tryz.results6 ?_
   rfl
  ·replace h := condF hc4 h
   refine Run.skip ?_
   refine Run.sr ?_
   refine X.fl fld27_3 ?_
   refine X.ld shp24 ?_
   refine X.mv ?_
   obtain ⟨v5, hv5, h⟩ := bindE h
   refine X.cp (w_szResourceS_pc _ _ _ hv5) ?_
   refine X.an ?_
   refine Run.seq ?_
   refine Run.sr ?_
   refine X.mv ?_
   refine X.bi ?_
   refine X.nil ?_
   refine R.cd (fun hc6 => ?_) (fun hc6 => ?_)
   ·replace h := condT hc6 h
    refine Run.sr ?_
    refine X.an ?_
    cases h
    refine R.f1 Tryz.results6 ?_
    rfl
   ·replace h := condF hc6 h
    refine Run.skip ?_
    refine Run.sr ?_
    refine X.fl fld27_4 ?_
    refine X.ld shp25 ?_
    refine X.mv ?_
    obtain ⟨v7, hv7, h⟩ := bindE h
    refine X.cp (w_szIntS_pc _ _ _ hv7) ?_
    refine X.an ?_
    refine Run.seq ?_
    refine Run.sr ?_
    refine X.mv ?_
    refine X.bi ?_
    refine X.nil ?_
    refine R.cd (fun hc8 => ?_) (fun hc8 => ?_)
    ·replace h := condT hc8 h
     refine Run.sr ?_
     refine X.an ?_
     cases h
     refine R.f1 Tryz.results6 ?_
     rfl
    ·replace h := condF hc8 h
     refine Run.skip ?_
     refine Run.sr ?_
     refine X.mv ?_
     refine X.an ?_
     cases h
     refine R.f1 Tryz.results6 ?_
     rfl
theorem w_toIntS_pc (b0 : List Int) (r : List Int) (h : w_toIntS b0 = some r) : PCM Tryz.prog 32 [.yng 63 (.slice (b0.map int))] [(63, .yreg false false)] (.fresh false 3 1 (r.map int)) [(63, .yreg false false)] := by
 unfold w_toIntS at h
 refine PCM.start Tryz.func32 Tryz.ntmps32 rfl ok32 rfl (by rfl) (by rfl) (by rfl) (by rfl) (by rfl) ?_
 refine Run.sr ?_
 refine X.an ?_
 refine Run.sr ?_
 refine X.mv ?_
 refine X.lenY false 63 elt25 (by rfl) (by exact List.length_map ..) (by rfl) ?_
 obtain ⟨v1, hv1, h⟩ := bindE h
 refine X.makeSlice2 int hv1 elt25 zer3 (by rfl) (by rfl) (by rfl) (by simp [PV.plain]) (by rfl) (by rfl) (by rfl) (by rfl) (by rfl) (by rfl) ?_
 refine X.an ?_
 refine Run.seq ?_
 refine Run.sr ?_
 refine X.an ?_
 obtain ⟨o2, ho2, h⟩ := bindE h
 refine R.join2 (β := (List Int)) [] [(63, .yreg false false)] (fun p15 S => (3, .own 448 (p15.map int).length) :: S) (fun p15 M => (448, .obj true 3 1 (p15.map int)) :: M) (fun p15 => p15 = o2) ?_ ?_
 ·intro JJ5 hmeet4
  have hup3 := h; clear h; have h := ho2; clear ho2
  refine Run.block ?_
  refine R.bndY false 63 (t := 0) (by rfl) (fun hbd8 => ?_)
  replace hbd8 : b0.length ≤ 9223372036854775807 := by first | (rw [List.length_map] at hbd8; exact hbd8) | simp
  refine R.lp (β := Int × (List Int)) [(0, .yng 63 (.slice (b0.map int)))] [(63, .yreg false false)] (fun bb S => (3, .own 448 (bb.2.map int).length) :: (4, int bb.1) :: S) (fun bb M => (448, .obj true 3 1 (bb.2.map int)) :: M) (fun n bb => 0 ≤ bb.1 ∧ bb.1 + n = (b0.length : Int) ∧ w_toIntS_L1 (b0.drop bb.1.toNat) bb.1 bb.2 = some o2) b0.length (0, v1) ⟨Int.le_refl _, by simp, h⟩ ?_
  clear h
  rintro JJ8 n8 ⟨z9, a10⟩ hag8 ⟨hza8, hzb8, h⟩
  dsimp only at hza8 hzb8 h
  refine Run.seq ?_
  refine Run.sr ?_
  refine X.mv ?_
  refine X.mv ?_
  refine X.lenY false 63 elt25 (by rfl) (by exact List.length_map ..) (by rfl) ?_
  refine X.bi ?_
  refine X.nil ?_
  refine R.cd (fun hc13 => ?_) (fun hc13 => ?_)
  ·obtain ⟨x11, xs12, hd8, hx8, hds8, hlt8⟩ := drop_atI hza8 hc13
   rw [hd8] at h
   rw [w_toIntS_L1] at h
   refine Run.skip ?_
   refine Run.seq ?_
   refine Run.block ?_
   refine Run.reg ?_
   refine X.mv ?_
   refine X.mv ?_
   refine X.mv ?_
   refine X.mv ?_
   refine X.indexY false 63 elt25 (by rfl) (by rfl) (idxL_spec hx8).1 (idxL_map int hx8) (by rfl) (by rfl) ?_
   refine X.loadY false 63 shp3 (by rfl) (by rfl) (by rfl) (by rfl) ?_
   obtain ⟨v14, hv14, h⟩ := bindE h
   refine X.index_xs elt25 (by rfl) (by rfl) (by first | rfl | simp [setL] | omega) (by rfl) (by exact (Int.toNat_of_nonneg (idxL_spec hv14).1).symm) (by have := idxL_lt hv14; first | exact this | (rw [List.length_map]; exact this)) (by rfl) (by rfl) ?_
   refine X.store_es shp3 (by rfl) (by rfl) (by first | rfl | simp [setL] | omega) (idxL_map _ hv14) (by rfl) (by rfl) (by repeat (first | trivial | refine ⟨by first | rfl | simp [setL], ?_⟩)) (by rfl) (by rfl) (by rfl) (by rfl) (by exact setL_map _ _ _ x11) ?_
   refine X.nil ?_
   refine Run.blk ?_
   refine Run.reg ?_
   refine X.mv ?_
   refine X.ad ?_
   refine X.an ?_
   refine R.castS (t := 3) (.own 448 ((setL a10 z9 x11).map int).length) (by rfl) (.inl (by first | rfl | simp [setL])) ?_
   exact R.ag hag8 (n8 - 1) (z9 + 1, (setL a10 z9 x11)) (R.n3 (by first | (rw [hds8]; exact h) | (dsimp only; rw [hds8]; exact h)))
  ·rw [drop_endI hza8 hc13] at h
   rw [w_toIntS_L1] at h
   refine Run.exit (by rfl) ?_
   exact R.mt hmeet4 a10 (Option.some.inj h)
 rintro p15 rfl
 refine Run.sr ?_
 refine X.mv ?_
 refine X.an ?_
 cases h
 refine R.pubObj (n := 448) (by rfl) ?_
 exact R.finM1o Tryz.results32 (by rfl) (by rfl) (by first | rfl | simp [setL] | omega) (by rfl) (by repeat (first | exact trivial | refine ⟨by rfl, ?_⟩)) rfl
theorem w_toMode_pc (b0 : TMode) (r : TMode) (h : w_toMode b0 = some r) : PCM Tryz.prog 145 [.agg [int b0.Duration, .yng 63 (.slice (b0.Usage.map int)), .yng 63 (.slice (b0.Consumption.map int))]] [(63, .yreg false false)] (.agg [int r.Duration, .fresh false 3 1 (r.Usage.map int), .fresh false 3 1 (r.Consumption.map int)]) [(63, .yreg false false)] := by
 unfold w_toMode at h
 refine PCM.start Tryz.func145 Tryz.ntmps145 rfl ok145 rfl (by rfl) (by rfl) (by rfl) (by rfl) (by rfl) ?_
 refine Run.sr ?_
 refine X.bx ?_
 refine X.alloc zer100 (by rfl) (by rfl) (by rfl) ?_
 refine X.nil ?_
 refine Run.sr ?_
 refine X.alloc zer100 (by rfl) (by rfl) (by rfl) ?_
 refine X.nil ?_
 refine Run.sr ?_
 refine X.fl fld147_0 ?_
 refine X.ld shp3 ?_
 refine X.fl fld100_0 ?_
 refine X.sl shp3 ?_
 refine X.nil ?_
 refine Run.sr ?_
 refine X.fl fld147_1 ?_
 refine X.ld shp25 ?_
 obtain ⟨v1, hv1, h⟩ := bindE h
 refine X.callM [(63, 63)] (w_toIntS_pc _ _ hv1) (by rfl) (by rfl) (.yngB 63 (by rfl) (by rfl) .nil) (by rfl) ⟨rfl, rfl, ⟨_, by rfl, by constructor⟩, by constructor, trivial⟩ (by rfl) (by rfl) (by rfl) (by rfl) (by rfl) (by rfl) (by rfl) (by rfl) (by rfl) ?_
 refine X.fl fld100_1 ?_
 refine X.sl shp25 ?_
 refine X.nil ?_
 refine Run.sr ?_
 refine X.fl fld147_2 ?_
 refine X.ld shp25 ?_
 obtain ⟨v2, hv2, h⟩ := bindE h
 refine X.callM [(63, 63)] (w_toIntS_pc _ _ hv2) (by rfl) (by rfl) (.yngB 63 (by rfl) (by rfl) .nil) (by rfl) ⟨rfl, rfl, ⟨_, by rfl, by constructor⟩, by constructor, trivial⟩ (by rfl) (by rfl) (by rfl) (by rfl) (by rfl) (by rfl) (by rfl) (by rfl) (by rfl) ?_
 refine X.fl fld100_2 ?_
 refine X.sl shp25 ?_
 refine X.nil ?_
 refine Run.sr ?_
 refine X.ld shp100 ?_
 refine X.sl shp100 ?_
 refine X.nil ?_
 cases h
 exact R.finMC Tryz.results145 shp100 (by rfl) (by rfl) (by rfl) (by rfl) (by repeat (first | trivial | refine ⟨by first | rfl | simp [setL], ?_⟩)) (by rfl) (by repeat (first | exact trivial | refine ⟨by rfl, ?_⟩)) rfl
theorem w_toModeS_pc (b0 : List TMode) (r : List TMode) (h : w_toModeS b0 = some r) : PCM Tryz.prog 119 [.yng 63 (.slice (b0.map eTMode))] [(63, .yreg false false)] (.fresh false 100 3 (r.map eTMode)) [(63, .yreg false false)] := by
 unfold w_toModeS at h
 refine PCM.start Tryz.func119 Tryz.ntmps119 rfl ok119 rfl (by rfl) (by rfl) (by rfl) (by rfl) (by rfl) ?_
 refine Run.sr ?_
 refine X.an ?_
 refine Run.sr ?_
 refine X.mv ?_
 refine X.lenY false 63 elt75 (by rfl) (by exact List.length_map ..) (by rfl) ?_
 obtain ⟨v1, hv1, h⟩ := bindE h
 refine X.makeSlice2 eTMode hv1 elt48 zer100 (by rfl) (by rfl) (by rfl) (by simp [PV.plain]) (by rfl) (by rfl) (by rfl) (by rfl) (by rfl) (by rfl) ?_
 refine X.an ?_
 refine Run.seq ?_
 refine Run.sr ?_
 refine X.an ?_
 obtain ⟨o2, ho2, h⟩ := bindE h
 refine R.join2 (β := (List TMode)) [] [(63, .yreg false false)] (fun p16 S => (3, .own 448 (p16.map eTMode).length) :: S) (fun p16 M => (448, .obj true 100 3 (p16.map eTMode)) :: M) (fun p16 => p16 = o2) ?_ ?_
 ·intro JJ5 hmeet4
  have hup3 := h; clear h; have h := ho2; clear ho2
  refine Run.block ?_
  refine R.bndY false 63 (t := 0) (by rfl) (fun hbd8 => ?_)
  replace hbd8 : b0.length ≤ 9223372036854775807 := by first | (rw [List.length_map] at hbd8; exact hbd8) | simp
  refine R.lp (β := Int × (List TMode)) [(0, .yng 63 (.slice (b0.map eTMode)))] [(63, .yreg false false)] (fun bb S => (3, .own 448 (bb.2.map eTMode).length) :: (4, int bb.1) :: S) (fun bb M => (448, .obj true 100 3 (bb.2.map eTMode)) :: M) (fun n bb => 0 ≤ bb.1 ∧ bb.1 + n = (b0.length : Int) ∧ w_toModeS_L1 (b0.drop bb.1.toNat) bb.1 bb.2 = some o2) b0.length (0, v1) ⟨Int.le_refl _, by simp, h⟩ ?_
  clear h
  rintro JJ8 n8 ⟨z9, a10⟩ hag8 ⟨hza8, hzb8, h⟩
  dsimp only at hza8 hzb8 h
  refine Run.seq ?_
  refine Run.sr ?_
  refine X.mv ?_
  refine X.mv ?_
  refine X.lenY false 63 elt75 (by rfl) (by exact List.length_map ..) (by rfl) ?_
  refine X.bi ?_
  refine X.nil ?_
  refine R.cd (fun hc13 => ?_) (fun hc13 => ?_)
  ·obtain ⟨x11, xs12, hd8, hx8, hds8, hlt8⟩ := drop_atI hza8 hc13
   rw [hd8] at h
   rw [w_toModeS_L1] at h
   refine Run.skip ?_
   refine Run.seq ?_
   refine Run.block ?_
   refine Run.reg ?_
   refine X.mv ?_
   refine X.mv ?_
   refine X.mv ?_
   refine X.mv ?_
   refine X.indexY false 63 elt75 (by rfl) (by rfl) (idxL_spec hx8).1 (idxL_map eTMode hx8) (by rfl) (by rfl) ?_
   refine X.loadY false 63 shp147 (by rfl) (by rfl) (by rfl) (by rfl) ?_
   obtain ⟨v14, hv14, h⟩ := bindE h
   refine X.callM [(63, 63)] (w_toMode_pc _ _ hv14) (by rfl) (by rfl) (.agg _ _ _ _ _ _ (.pureB (by rfl) (by repeat (first | trivial | refine ⟨by first | rfl | simp [setL], ?_⟩)) (.yngB 63 (by rfl) (by rfl) (.yngB 63 (by rfl) (by rfl) .nil))) .nil) (by rfl) ⟨rfl, rfl, ⟨_, by rfl, by constructor⟩, by constructor, trivial⟩ (by rfl) (by rfl) (by rfl) (by rfl) (by rfl) (by rfl) (by rfl) (by rfl) (by rfl) ?_
   obtain ⟨v15, hv15, h⟩ := bindE h
   refine X.index_xs elt48 (by rfl) (by rfl) (by first | rfl | simp [setL] | omega) (by rfl) (by exact (Int.toNat_of_nonneg (idxL_spec hv15).1).symm) (by have := idxL_lt hv15; first | exact this | (rw [List.length_map]; exact this)) (by rfl) (by rfl) ?_
   refine X.store_es shp100 (by rfl) (by rfl) (by first | rfl | simp [setL] | omega) (idxL_map _ hv15) (by rfl) (by rfl) (by repeat (first | trivial | refine ⟨by first | rfl | simp [setL], ?_⟩)) (by rfl) (by rfl) (by rfl) (by rfl) (by exact setL_map _ _ _ v14) ?_
   refine X.nil ?_
   refine Run.blk ?_
   refine Run.reg ?_
   refine X.mv ?_
   refine X.ad ?_
   refine X.an ?_
   refine R.castS (t := 3) (.own 448 ((setL a10 z9 v14).map eTMode).length) (by rfl) (.inl (by first | rfl | simp [setL])) ?_
   exact R.ag hag8 (n8 - 1) (z9 + 1, (setL a10 z9 v14)) (R.n3 (by first | (rw [hds8]; exact h) | (dsimp only; rw [hds8]; exact h)))
  ·rw [drop_endI hza8 hc13] at h
   rw [w_toModeS_L1] at h
   refine Run.exit (by rfl) ?_
   exact R.mt hmeet4 a10 (Option.some.inj h)
 rintro p16 rfl
 refine Run.sr ?_
 refine X.mv ?_
 refine X.an ?_
 cases h
 refine R.pubObj (n := 448) (by rfl) ?_
 exact R.finM1o Tryz.results119 (by rfl) (by rfl) (by first | rfl | simp [setL] | omega) (by rfl) (by repeat (first | exact trivial | refine ⟨by rfl, ?_⟩)) rfl
theorem w_toActivity_pc (b0 : TActivity) (r : TActivity) (h : w_toActivity b0 = some r) : PCM Tryz.prog 68 [.agg [str b0.Name, int b0.Family, .yng 63 (.slice (b0.Modes.map eTMode))]] [(63, .yreg false false)] (.agg [str r.Name, int r.Family, .fresh false 100 3 (r.Modes.map eTMode)]) [(63, .yreg false false)] := by
 unfold w_toActivity at h
 refine PCM.start Tryz.func68 Tryz.ntmps68 rfl ok68 rfl (by rfl) (by rfl) (by rfl) (by rfl) (by rfl) ?_
 refine Run.sr ?_
 refine X.bx ?_
 refine X.alloc zer50 (by rfl) (by rfl) (by rfl) ?_
 refine X.nil ?_
 refine Run.sr ?_
 refine X.alloc zer50 (by rfl) (by rfl) (by rfl) ?_
 refine X.nil ?_
 refine Run.sr ?_
 refine X.fl fld77_0 ?_
 refine X.ld shp9 ?_
 refine X.fl fld50_0 ?_
 refine X.sl shp9 ?_
 refine X.nil ?_
 refine Run.sr ?_
 refine X.fl fld77_1 ?_
 refine X.ld shp3 ?_
 refine X.fl fld50_1 ?_
 refine X.sl shp3 ?_
 refine X.nil ?_
 refine Run.sr ?_
 refine X.fl fld77_2 ?_
 refine X.ld shp75 ?_
 obtain ⟨v1, hv1, h⟩ := bindE h
 refine X.callM [(63, 63)] (w_toModeS_pc _ _ hv1) (by rfl) (by rfl) (.yngB 63 (by rfl) (by rfl) .nil) (by rfl) ⟨rfl, rfl, ⟨_, by rfl, by constructor⟩, by constructor, trivial⟩ (by rfl) (by rfl) (by rfl) (by rfl) (by rfl) (by rfl) (by rfl) (by rfl) (by rfl) ?_
 refine X.fl fld50_2 ?_
 refine X.sl shp48 ?_
 refine X.nil ?_
 refine Run.sr ?_
 refine X.ld shp50 ?_
 refine X.sl shp50 ?_
 refine X.nil ?_
 cases h
 exact R.finMC Tryz.results68 shp50 (by rfl) (by rfl) (by rfl) (by rfl) (by repeat (first | trivial | refine ⟨by first | rfl | simp [setL], ?_⟩)) (by rfl) (by repeat (first | exact trivial | refine ⟨by rfl, ?_⟩)) rfl
theorem w_toActivityS_pc (b0 : List TActivity) (r : List TActivity) (h : w_toActivityS b0 = some r) : PCM Tryz.prog 29 [.yng 63 (.slice (b0.map eTActivity))] [(63, .yreg false false)] (.fresh false 50 3 (r.map eTActivity)) [(63, .yreg false false)] := by
 unfold w_toActivityS at h
 refine PCM.start Tryz.func29 Tryz.ntmps29 rfl ok29 rfl (by rfl) (by rfl) (by rfl) (by rfl) (by rfl) ?_
 refine Run.sr ?_
 refine X.an ?_
 refine Run.sr ?_
 refine X.mv ?_
 refine X.lenY false 63 elt22 (by rfl) (by exact List.length_map ..) (by rfl) ?_
 obtain ⟨v1, hv1, h⟩ := bindE h
 refine X.makeSlice2 eTActivity hv1 elt30 zer50 (by rfl) (by rfl) (by rfl) (by simp [PV.plain]) (by rfl) (by rfl) (by rfl) (by rfl) (by rfl) (by rfl) ?_
 refine X.an ?_
 refine Run.seq ?_
 refine Run.sr ?_
 refine X.an ?_
 obtain ⟨o2, ho2, h⟩ := bindE h
 refine R.join2 (β := (List TActivity)) [] [(63, .yreg false false)] (fun p16 S => (3, .own 448 (p16.map eTActivity).length) :: S) (fun p16 M => (448, .obj true 50 3 (p16.map eTActivity)) :: M) (fun p16 => p16 = o2) ?_ ?_
 ·intro JJ5 hmeet4
  have hup3 := h; clear h; have h := ho2; clear ho2
  refine Run.block ?_
  refine R.bndY false 63 (t := 0) (by rfl) (fun hbd8 => ?_)
  replace hbd8 : b0.length ≤ 9223372036854775807 := by first | (rw [List.length_map] at hbd8; exact hbd8) | simp
  refine R.lp (β := Int × (List TActivity)) [(0, .yng 63 (.slice (b0.map eTActivity)))] [(63, .yreg false false)] (fun bb S => (3, .own 448 (bb.2.map eTActivity).length) :: (4, int bb.1) :: S) (fun bb M => (448, .obj true 50 3 (bb.2.map eTActivity)) :: M) (fun n bb => 0 ≤ bb.1 ∧ bb.1 + n = (b0.length : Int) ∧ w_toActivityS_L1 (b0.drop bb.1.toNat) bb.1 bb.2 = some o2) b0.length (0, v1) ⟨Int.le_refl _, by simp, h⟩ ?_
  clear h
  rintro JJ8 n8 ⟨z9, a10⟩ hag8 ⟨hza8, hzb8, h⟩
  dsimp only at hza8 hzb8 h
  refine Run.seq ?_
  refine Run.sr ?_
  refine X.mv ?_
  refine X.mv ?_
  refine X.lenY false 63 elt22 (by rfl) (by exact List.length_map ..) (by rfl) ?_
  refine X.bi ?_
  refine X.nil ?_
  refine R.cd (fun hc13 => ?_) (fun hc13 => ?_)
  ·obtain ⟨x11, xs12, hd8, hx8, hds8, hlt8⟩ := drop_atI hza8 hc13
   rw [hd8] at h
   rw [w_toActivityS_L1] at h
   refine Run.skip ?_
   refine Run.seq ?_
   refine Run.block ?_
   refine Run.reg ?_
   refine X.mv ?_
   refine X.mv ?_
   refine X.mv ?_
   refine X.mv ?_
   refine X.indexY false 63 elt22 (by rfl) (by rfl) (idxL_spec hx8).1 (idxL_map eTActivity hx8) (by rfl) (by rfl) ?_
   refine X.loadY false 63 shp77 (by rfl) (by rfl) (by rfl) (by rfl) ?_
   obtain ⟨v14, hv14, h⟩ := bindE h
   refine X.callM [(63, 63)] (w_toActivity_pc _ _ hv14) (by rfl) (by rfl) (.agg _ _ _ _ _ _ (.pureB (by rfl) (by repeat (first | trivial | refine ⟨by first | rfl | simp [setL], ?_⟩)) (.pureB (by rfl) (by repeat (first | trivial | refine ⟨by first | rfl | simp [setL], ?_⟩)) (.yngB 63 (by rfl) (by rfl) .nil))) .nil) (by rfl) ⟨rfl, rfl, ⟨_, by rfl, by constructor⟩, by constructor, trivial⟩ (by rfl) (by rfl) (by rfl) (by rfl) (by rfl) (by rfl) (by rfl) (by rfl) (by rfl) ?_
   obtain ⟨v15, hv15, h⟩ := bindE h
   refine X.index_xs elt30 (by rfl) (by rfl) (by first | rfl | simp [setL] | omega) (by rfl) (by exact (Int.toNat_of_nonneg (idxL_spec hv15).1).symm) (by have := idxL_lt hv15; first | exact this | (rw [List.length_map]; exact this)) (by rfl) (by rfl) ?_
   refine X.store_es shp50 (by rfl) (by rfl) (by first | rfl | simp [setL] | omega) (idxL_map _ hv15) (by rfl) (by rfl) (by repeat (first | trivial | refine ⟨by first | rfl | simp [setL], ?_⟩)) (by rfl) (by rfl) (by rfl) (by rfl) (by exact setL_map _ _ _ v14) ?_
   refine X.nil ?_
   refine Run.blk ?_
   refine Run.reg ?_
   refine X.mv ?_
   refine X.ad ?_
   refine X.an ?_
   refine R.castS (t := 3) (.own 448 ((setL a10 z9 v14).map eTActivity).length) (by rfl) (.inl (by first | rfl | simp [setL])) ?_
   exact R.ag hag8 (n8 - 1) (z9 + 1, (setL a10 z9 v14)) (R.n3 (by first | (rw [hds8]; exact h) | (dsimp only; rw [hds8]; exact h)))
  ·rw [drop_endI hza8 hc13] at h
   rw [w_toActivityS_L1] at h
   refine Run.exit (by rfl) ?_
   exact R.mt hmeet4 a10 (Option.some.inj h)
 rintro p16 rfl
 refine Run.sr ?_
 refine X.mv ?_
 refine X.an ?_
 cases h
 refine R.pubObj (n := 448) (by rfl) ?_
 exact R.finM1o Tryz.results29 (by rfl) (by rfl) (by first | rfl | simp [setL] | omega) (by rfl) (by repeat (first | exact trivial | refine ⟨by rfl, ?_⟩)) rfl
theorem w_toLink_pc (b0 : TLink) (r : TLink) (h : w_toLink b0 = some r) : PC Tryz.prog 69 [eTLink b0] (eTLink r) := by
 unfold w_toLink at h
 refine PC.start Tryz.func69 Tryz.ntmps69 rfl ok69 rfl ?_
 refine Run.sr ?_
 refine X.bx ?_
 refine X.alloc zer87 (by rfl) (by rfl) (by rfl) ?_
 refine X.nil ?_
 refine Run.sr ?_
 refine X.alloc zer87 (by rfl) (by rfl) (by rfl) ?_
 refine X.nil ?_
 refine Run.sr ?_
 refine X.fl fld93_0 ?_
 refine X.ld shp3 ?_
 refine X.fl fld87_0 ?_
 refine X.sl shp3 ?_
 refine X.nil ?_
 refine Run.sr ?_
 refine X.fl fld93_1 ?_
 refine X.ld shp3 ?_
 refine X.fl fld87_1 ?_
 refine X.sl shp3 ?_
 refine X.nil ?_
 refine Run.sr ?_
 refine X.fl fld93_2 ?_
 refine X.ld shp4 ?_
 refine X.fl fld87_2 ?_
 refine X.sl shp4 ?_
 refine X.nil ?_
 refine Run.sr ?_
 refine X.fl fld93_3 ?_
 refine X.ld shp3 ?_
 refine X.fl fld87_3 ?_
 refine X.sl shp3 ?_
 refine X.nil ?_
 refine Run.sr ?_
 refine X.ld shp87 ?_
 refine X.sl shp87 ?_
 refine X.nil ?_
 cases h
 refine R.finC Tryz.results69 shp87 (by rfl) (by rfl) (by rfl) (by rfl) (by repeat (first | trivial | refine ⟨by first | rfl | simp [setL], ?_⟩)) ?_
 rfl
theorem w_toLinkS_pc (b0 : List TLink) (r : List TLink) (h : w_toLinkS b0 = some r) : PCM Tryz.prog 30 [.yng 63 (.slice (b0.map eTLink))] [(63, .yreg false false)] (.fresh false 87 4 (r.map eTLink)) [(63, .yreg false false)] := by
 unfold w_toLinkS at h
 refine PCM.start Tryz.func30 Tryz.ntmps30 rfl ok30 rfl (by rfl) (by rfl) (by rfl) (by rfl) (by rfl) ?_
 refine Run.sr ?_
 refine X.an ?_
 refine Run.sr ?_
 refine X.mv ?_
 refine X.lenY false 63 elt23 (by rfl) (by exact List.length_map ..) (by rfl) ?_
 obtain ⟨v1, hv1, h⟩ := bindE h
 refine X.makeSlice2 eTLink hv1 elt31 zer87 (by rfl) (by rfl) (by rfl) (by simp [PV.plain]) (by rfl) (by rfl) (by rfl) (by rfl) (by rfl) (by rfl) ?_
 refine X.an ?_
 refine Run.seq ?_
 refine Run.sr ?_
 refine X.an ?_
 obtain ⟨o2, ho2, h⟩ := bindE h
 refine R.join2 (β := (List TLink)) [] [(63, .yreg false false)] (fun p16 S => (3, .own 448 (p16.map eTLink).length) :: S) (fun p16 M => (448, .obj true 87 4 (p16.map eTLink)) :: M) (fun p16 => p16 = o2) ?_ ?_
 ·intro JJ5 hmeet4
  have hup3 := h; clear h; have h := ho2; clear ho2
  refine Run.block ?_
  refine R.bndY false 63 (t := 0) (by rfl) (fun hbd8 => ?_)
  replace hbd8 : b0.length ≤ 9223372036854775807 := by first | (rw [List.length_map] at hbd8; exact hbd8) | simp
  refine R.lp (β := Int × (List TLink)) [(0, .yng 63 (.slice (b0.map eTLink)))] [(63, .yreg false false)] (fun bb S => (3, .own 448 (bb.2.map eTLink).length) :: (4, int bb.1) :: S) (fun bb M => (448, .obj true 87 4 (bb.2.map eTLink)) :: M) (fun n bb => 0 ≤ bb.1 ∧ bb.1 + n = (b0.length : Int) ∧ w_toLinkS_L1 (b0.drop bb.1.toNat) bb.1 bb.2 = some o2) b0.length (0, v1) ⟨Int.le_refl _, by simp, h⟩ ?_
  clear h
  rintro JJ8 n8 ⟨z9, a10⟩ hag8 ⟨hza8, hzb8, h⟩
  dsimp only at hza8 hzb8 h
  refine Run.seq ?_
  refine Run.sr ?_
  refine X.mv ?_
  refine X.mv ?_
  refine X.lenY false 63 elt23 (by rfl) (by exact List.length_map ..) (by rfl) ?_
  refine X.bi ?_
  refine X.nil ?_
  refine R.cd (fun hc13 => ?_) (fun hc13 => ?_)
  ·obtain ⟨x11, xs12, hd8, hx8, hds8, hlt8⟩ := drop_atI hza8 hc13
   rw [hd8] at h
   rw [w_toLinkS_L1] at h
   refine Run.skip ?_
   refine Run.seq ?_
   refine Run.block ?_
   refine Run.reg ?_
   refine X.mv ?_
   refine X.mv ?_
   refine X.mv ?_
   refine X.mv ?_
   refine X.indexY false 63 elt23 (by rfl) (by rfl) (idxL_spec hx8).1 (idxL_map eTLink hx8) (by rfl) (by rfl) ?_
   refine X.loadY false 63 shp93 (by rfl) (by rfl) (by rfl) (by rfl) ?_
   obtain ⟨v14, hv14, h⟩ := bindE h
   refine X.callA (w_toLink_pc _ _ hv14) (by rfl) (by rfl) (by rfl) (by trivial) (by rfl) (by rfl) (by rfl) (by rfl) (by rfl) (by rfl) ?_
   obtain ⟨v15, hv15, h⟩ := bindE h
   refine X.index_xs elt31 (by rfl) (by rfl) (by first | rfl | simp [setL] | omega) (by rfl) (by exact (Int.toNat_of_nonneg (idxL_spec hv15).1).symm) (by have := idxL_lt hv15; first | exact this | (rw [List.length_map]; exact this)) (by rfl) (by rfl) ?_
   refine X.store_es shp87 (by rfl) (by rfl) (by first | rfl | simp [setL] | omega) (idxL_map _ hv15) (by rfl) (by rfl) (by repeat (first | trivial | refine ⟨by first | rfl | simp [setL], ?_⟩)) (by rfl) (by rfl) (by rfl) (by rfl) (by exact setL_map _ _ _ v14) ?_
   refine X.nil ?_
   refine Run.blk ?_
   refine Run.reg ?_
   refine X.mv ?_
   refine X.ad ?_
   refine X.an ?_
   refine R.castS (t := 3) (.own 448 ((setL a10 z9 v14).map eTLink).length) (by rfl) (.inl (by first | rfl | simp [setL])) ?_
   exact R.ag hag8 (n8 - 1) (z9 + 1, (setL a10 z9 v14)) (R.n3 (by first | (rw [hds8]; exact h) | (dsimp only; rw [hds8]; exact h)))
  ·rw [drop_endI hza8 hc13] at h
   rw [w_toLinkS_L1] at h
   refine Run.exit (by rfl) ?_
   exact R.mt hmeet4 a10 (Option.some.inj h)
 rintro p16 rfl
 refine Run.sr ?_
 refine X.mv ?_
 refine X.an ?_
 cases h
 refine R.pubObj (n := 448) (by rfl) ?_
 exact R.finM1o Tryz.results30 (by rfl) (by rfl) (by first | rfl | simp [setL] | omega) (by rfl) (by repeat (first | exact trivial | refine ⟨by rfl, ?_⟩)) rfl
theorem w_toStep_pc (b0 : TStep) (r : TStep) (h : w_toStep b0 = some r) : PC Tryz.prog 146 [eTStep b0] (eTStep r) := by
 unfold w_toStep at h
 refine PC.start Tryz.func146 Tryz.ntmps146 rfl ok146 rfl ?_
 refine Run.sr ?_
 refine X.bx ?_
 refine X.alloc zer136 (by rfl) (by rfl) (by rfl) ?_
 refine X.nil ?_
 refine Run.sr ?_
 refine X.alloc zer136 (by rfl) (by rfl) (by rfl) ?_
 refine X.nil ?_
 refine Run.sr ?_
 refine X.fl fld150_0 ?_
 refine X.ld shp3 ?_
 refine X.fl fld136_0 ?_
 refine X.sl shp3 ?_
 refine X.nil ?_
 refine Run.sr ?_
 refine X.fl fld150_1 ?_
 refine X.ld shp3 ?_
 refine X.fl fld136_1 ?_
 refine X.sl shp3 ?_
 refine X.nil ?_
 refine Run.sr ?_
 refine X.ld shp136 ?_
 refine X.sl shp136 ?_
 refine X.nil ?_
 cases h
 refine R.finC Tryz.results146 shp136 (by rfl) (by rfl) (by rfl) (by rfl) (by repeat (first | trivial | refine ⟨by first | rfl | simp [setL], ?_⟩)) ?_
 rfl
theorem w_toStepS_pc (b0 : List TStep) (r : List TStep) (h : w_toStepS b0 = some r) : PCM Tryz.prog 120 [.yng 63 (.slice (b0.map eTStep))] [(63, .yreg false false)] (.fresh false 136 2 (r.map eTStep)) [(63, .yreg false false)] := by
 unfold w_toStepS at h
 refine PCM.start Tryz.func120 Tryz.ntmps120 rfl ok120 rfl (by rfl) (by rfl) (by rfl) (by rfl) (by rfl) ?_
 refine Run.sr ?_
 refine X.an ?_
 refine Run.sr ?_
 refine X.mv ?_
 refine X.lenY false 63 elt79 (by rfl) (by exact List.length_map ..) (by rfl) ?_
 obtain ⟨v1, hv1, h⟩ := bindE h
 refine X.makeSlice2 eTStep hv1 elt58 zer136 (by rfl) (by rfl) (by rfl) (by simp [PV.plain]) (by rfl) (by rfl) (by rfl) (by rfl) (by rfl) (by rfl) ?_
 refine X.an ?_
 refine Run.seq ?_
 refine Run.sr ?_
 refine X.an ?_
 obtain ⟨o2, ho2, h⟩ := bindE h
 refine R.join2 (β := (List TStep)) [] [(63, .yreg false false)] (fun p16 S => (3, .own 448 (p16.map eTStep).length) :: S) (fun p16 M => (448, .obj true 136 2 (p16.map eTStep)) :: M) (fun p16 => p16 = o2) ?_ ?_
 ·intro JJ5 hmeet4
  have hup3 := h; clear h; have h := ho2; clear ho2
  refine Run.block ?_
  refine R.bndY false 63 (t := 0) (by rfl) (fun hbd8 => ?_)
  replace hbd8 : b0.length ≤ 9223372036854775807 := by first | (rw [List.length_map] at hbd8; exact hbd8) | simp
  refine R.lp (β := Int × (List TStep)) [(0, .yng 63 (.slice (b0.map eTStep)))] [(63, .yreg false false)] (fun bb S => (3, .own 448 (bb.2.map eTStep).length) :: (4, int bb.1) :: S) (fun bb M => (448, .obj true 136 2 (bb.2.map eTStep)) :: M) (fun n bb => 0 ≤ bb.1 ∧ bb.1 + n = (b0.length : Int) ∧ w_toStepS_L1 (b0.drop bb.1.toNat) bb.1 bb.2 = some o2) b0.length (0, v1) ⟨Int.le_refl _, by simp, h⟩ ?_
  clear h
  rintro JJ8 n8 ⟨z9, a10⟩ hag8 ⟨hza8, hzb8, h⟩
  dsimp only at hza8 hzb8 h
  refine Run.seq ?_
  refine Run.sr ?_
  refine X.mv ?_
  refine X.mv ?_
  refine X.lenY false 63 elt79 (by rfl) (by exact List.length_map ..) (by rfl) ?_
  refine X.bi ?_
  refine X.nil ?_
  refine R.cd (fun hc13 => ?_) (fun hc13 => ?_)
  ·obtain ⟨x11, xs12, hd8, hx8, hds8, hlt8⟩ := drop_atI hza8 hc13
   rw [hd8] at h
   rw [w_toStepS_L1] at h
   refine Run.skip ?_
   refine Run.seq ?_
   refine Run.block ?_
   refine Run.reg ?_
   refine X.mv ?_
   refine X.mv ?_
   refine X.mv ?_
   refine X.mv ?_
   refine X.indexY false 63 elt79 (by rfl) (by rfl) (idxL_spec hx8).1 (idxL_map eTStep hx8) (by rfl) (by rfl) ?_
   refine X.loadY false 63 shp150 (by rfl) (by rfl) (by rfl) (by rfl) ?_
   obtain ⟨v14, hv14, h⟩ := bindE h
   refine X.callA (w_toStep_pc _ _ hv14) (by rfl) (by rfl) (by rfl) (by trivial) (by rfl) (by rfl) (by rfl) (by rfl) (by rfl) (by rfl) ?_
   obtain ⟨v15, hv15, h⟩ := bindE h
   refine X.index_xs elt58 (by rfl) (by rfl) (by first | rfl | simp [setL] | omega) (by rfl) (by exact (Int.toNat_of_nonneg (idxL_spec hv15).1).symm) (by have := idxL_lt hv15; first | exact this | (rw [List.length_map]; exact this)) (by rfl) (by rfl) ?_
   refine X.store_es shp136 (by rfl) (by rfl) (by first | rfl | simp [setL] | omega) (idxL_map _ hv15) (by rfl) (by rfl) (by repeat (first | trivial | refine ⟨by first | rfl | simp [setL], ?_⟩)) (by rfl) (by rfl) (by rfl) (by rfl) (by exact setL_map _ _ _ v14) ?_
   refine X.nil ?_
   refine Run.blk ?_
   refine Run.reg ?_
   refine X.mv ?_
   refine X.ad ?_
   refine X.an ?_
   refine R.castS (t := 3) (.own 448 ((setL a10 z9 v14).map eTStep).length) (by rfl) (.inl (by first | rfl | simp [setL])) ?_
   exact R.ag hag8 (n8 - 1) (z9 + 1, (setL a10 z9 v14)) (R.n3 (by first | (rw [hds8]; exact h) | (dsimp only; rw [hds8]; exact h)))
  ·rw [drop_endI hza8 hc13] at h
   rw [w_toStepS_L1] at h
   refine Run.exit (by rfl) ?_
   exact R.mt hmeet4 a10 (Option.some.inj h)
 rintro p16 rfl
 refine Run.sr ?_
 refine X.mv ?_
 refine X.an ?_
 cases h
 refine R.pubObj (n := 448) (by rfl) ?_
 exact R.finM1o Tryz.results120 (by rfl) (by rfl) (by first | rfl | simp [setL] | omega) (by rfl) (by repeat (first | exact trivial | refine ⟨by rfl, ?_⟩)) rfl
theorem w_toIntSS_pc (b0 : List (List Int)) (r : List (List Int)) (h : w_toIntSS b0 = some r) : PCM Tryz.prog 121 [.yng 63 (.slice (b0.map l_int))] [(63, .yreg false false)] (.fresh false 25 1 (r.map l_int)) [(63, .yreg false false)] := by
 unfold w_toIntSS at h
 refine PCM.start Tryz.func121 Tryz.ntmps121 rfl ok121 rfl (by rfl) (by rfl) (by rfl) (by rfl) (by rfl) ?_
 refine Run.sr ?_
 refine X.an ?_
 refine Run.sr ?_
 refine X.mv ?_
 refine X.lenY false 63 elt59 (by rfl) (by exact List.length_map ..) (by rfl) ?_
 obtain ⟨v1, hv1, h⟩ := bindE h
 refine X.makeSlice2 l_int hv1 elt59 zer25 (by rfl) (by rfl) (by rfl) (by simp [PV.plain]) (by rfl) (by rfl) (by rfl) (by rfl) (by rfl) (by rfl) ?_
 refine X.an ?_
 refine Run.seq ?_
 refine Run.sr ?_
 refine X.an ?_
 obtain ⟨o2, ho2, h⟩ := bindE h
 refine R.join2 (β := (List (List Int))) [] [(63, .yreg false false)] (fun p16 S => (3, .own 448 (p16.map l_int).length) :: S) (fun p16 M => (448, .obj true 25 1 (p16.map l_int)) :: M) (fun p16 => p16 = o2) ?_ ?_
 ·intro JJ5 hmeet4
  have hup3 := h; clear h; have h := ho2; clear ho2
  refine Run.block ?_
  refine R.bndY false 63 (t := 0) (by rfl) (fun hbd8 => ?_)
  replace hbd8 : b0.length ≤ 9223372036854775807 := by first | (rw [List.length_map] at hbd8; exact hbd8) | simp
  refine R.lp (β := Int × (List (List Int))) [(0, .yng 63 (.slice (b0.map l_int)))] [(63, .yreg false false)] (fun bb S => (3, .own 448 (bb.2.map l_int).length) :: (4, int bb.1) :: S) (fun bb M => (448, .obj true 25 1 (bb.2.map l_int)) :: M) (fun n bb => 0 ≤ bb.1 ∧ bb.1 + n = (b0.length : Int) ∧ w_toIntSS_L1 (b0.drop bb.1.toNat) bb.1 bb.2 = some o2) b0.length (0, v1) ⟨Int.le_refl _, by simp, h⟩ ?_
  clear h
  rintro JJ8 n8 ⟨z9, a10⟩ hag8 ⟨hza8, hzb8, h⟩
  dsimp only at hza8 hzb8 h
  refine Run.seq ?_
  refine Run.sr ?_
  refine X.mv ?_
  refine X.mv ?_
  refine X.lenY false 63 elt59 (by rfl) (by exact List.length_map ..) (by rfl) ?_
  refine X.bi ?_
  refine X.nil ?_
  refine R.cd (fun hc13 => ?_) (fun hc13 => ?_)
  ·obtain ⟨x11, xs12, hd8, hx8, hds8, hlt8⟩ := drop_atI hza8 hc13
   rw [hd8] at h
   rw [w_toIntSS_L1] at h
   refine Run.skip ?_
   refine Run.seq ?_
   refine Run.block ?_
   refine Run.reg ?_
   refine X.mv ?_
   refine X.mv ?_
   refine X.mv ?_
   refine X.mv ?_
   refine X.indexY false 63 elt59 (by rfl) (by rfl) (idxL_spec hx8).1 (idxL_map l_int hx8) (by rfl) (by rfl) ?_
   refine X.loadY false 63 shp25 (by rfl) (by rfl) (by rfl) (by rfl) ?_
   obtain ⟨v14, hv14, h⟩ := bindE h
   refine X.callM [(63, 63)] (w_toIntS_pc _ _ hv14) (by rfl) (by rfl) (.yngB 63 (by rfl) (by rfl) .nil) (by rfl) ⟨rfl, rfl, ⟨_, by rfl, by constructor⟩, by constructor, trivial⟩ (by rfl) (by rfl) (by rfl) (by rfl) (by rfl) (by rfl) (by rfl) (by rfl) (by rfl) ?_
   obtain ⟨v15, hv15, h⟩ := bindE h
   refine X.index_xs elt59 (by rfl) (by rfl) (by first | rfl | simp [setL] | omega) (by rfl) (by exact (Int.toNat_of_nonneg (idxL_spec hv15).1).symm) (by have := idxL_lt hv15; first | exact this | (rw [List.length_map]; exact this)) (by rfl) (by rfl) ?_
   refine X.store_es shp25 (by rfl) (by rfl) (by first | rfl | simp [setL] | omega) (idxL_map _ hv15) (by rfl) (by rfl) (by repeat (first | trivial | refine ⟨by first | rfl | simp [setL], ?_⟩)) (by rfl) (by rfl) (by rfl) (by rfl) (by exact setL_map _ _ _ v14) ?_
   refine X.nil ?_
   refine Run.blk ?_
   refine Run.reg ?_
   refine X.mv ?_
   refine X.ad ?_
   refine X.an ?_
   refine R.castS (t := 3) (.own 448 ((setL a10 z9 v14).map l_int).length) (by rfl) (.inl (by first | rfl | simp [setL])) ?_
   exact R.ag hag8 (n8 - 1) (z9 + 1, (setL a10 z9 v14)) (R.n3 (by first | (rw [hds8]; exact h) | (dsimp only; rw [hds8]; exact h)))
  ·rw [drop_endI hza8 hc13] at h
   rw [w_toIntSS_L1] at h
   refine Run.exit (by rfl) ?_
   exact R.mt hmeet4 a10 (Option.some.inj h)
 rintro p16 rfl
 refine Run.sr ?_
 refine X.mv ?_
 refine X.an ?_
 cases h
 refine R.pubObj (n := 448) (by rfl) ?_
 exact R.finM1o Tryz.results121 (by rfl) (by rfl) (by first | rfl | simp [setL] | omega) (by rfl) (by repeat (first | exact trivial | refine ⟨by rfl, ?_⟩)) rfl
theorem w_toResource_pc (b0 : TResource) (r : TResource) (h : w_toResource b0 = some r) : PCM Tryz.prog 70 [.agg [.yng 63 (.slice (b0.Steps.map eTStep)), .yng 63 (.slice (b0.Setup.map l_int))]] [(63, .yreg false false)] (.agg [.fresh false 136 2 (r.Steps.map eTStep), .fresh false 25 1 (r.Setup.map l_int)]) [(63, .yreg false false)] := by
 unfold w_toResource at h
 refine PCM.start Tryz.func70 Tryz.ntmps70 rfl ok70 rfl (by rfl) (by rfl) (by rfl) (by rfl) (by rfl) ?_
 refine Run.sr ?_
 refine X.bx ?_
 refine X.alloc zer61 (by rfl) (by rfl) (by rfl) ?_
 refine X.nil ?_
 refine Run.sr ?_
 refine X.alloc zer61 (by rfl) (by rfl) (by rfl) ?_
 refine X.nil ?_
 refine Run.sr ?_
 refine X.fl fld81_0 ?_
 refine X.ld shp79 ?_
 obtain ⟨v1, hv1, h⟩ := bindE h
 refine X.callM [(63, 63)] (w_toStepS_pc _ _ hv1) (by rfl) (by rfl) (.yngB 63 (by rfl) (by rfl) .nil) (by rfl) ⟨rfl, rfl, ⟨_, by rfl, by constructor⟩, by constructor, trivial⟩ (by rfl) (by rfl) (by rfl) (by rfl) (by rfl) (by rfl) (by rfl) (by rfl) (by rfl) ?_
 refine X.fl fld61_0 ?_
 refine X.sl shp58 ?_
 refine X.nil ?_
 refine Run.sr ?_
 refine X.fl fld81_1 ?_
 refine X.ld shp59 ?_
 obtain ⟨v2, hv2, h⟩ := bindE h
 refine X.callM [(63, 63)] (w_toIntSS_pc _ _ hv2) (by rfl) (by rfl) (.yngB 63 (by rfl) (by rfl) .nil) (by rfl) ⟨rfl, rfl, ⟨_, by rfl, by constructor⟩, by constructor, trivial⟩ (by rfl) (by rfl) (by rfl) (by rfl) (by rfl) (by rfl) (by rfl) (by rfl) (by rfl) ?_
 refine X.fl fld61_1 ?_
 refine X.sl shp59 ?_
 refine X.nil ?_
 refine Run.sr ?_
 refine X.ld shp61 ?_
 refine X.sl shp61 ?_
 refine X.nil ?_
 cases h
 exact R.finMC Tryz.results70 shp61 (by rfl) (by rfl) (by rfl) (by rfl) (by repeat (first | trivial | refine ⟨by first | rfl | simp [setL], ?_⟩)) (by rfl) (by repeat (first | exact trivial | refine ⟨by rfl, ?_⟩)) rfl
theorem w_toResourceS_pc (b0 : List TResource) (r : List TResource) (h : w_toResourceS b0 = some r) : PCM Tryz.prog 31 [.yng 63 (.slice (b0.map eTResource))] [(63, .yreg false false)] (.fresh false 61 2 (r.map eTResource)) [(63, .yreg false false)] := by
 unfold w_toResourceS at h
 refine PCM.start Tryz.func31 Tryz.ntmps31 rfl ok31 rfl (by rfl) (by rfl) (by rfl) (by rfl) (by rfl) ?_
 refine Run.sr ?_
 refine X.an ?_
 refine Run.sr ?_
 refine X.mv ?_
 refine X.lenY false 63 elt24 (by rfl) (by exact List.length_map ..) (by rfl) ?_
 obtain ⟨v1, hv1, h⟩ := bindE h
 refine X.makeSlice2 eTResource hv1 elt32 zer61 (by rfl) (by rfl) (by rfl) (by simp [PV.plain]) (by rfl) (by rfl) (by rfl) (by rfl) (by rfl) (by rfl) ?_
 refine X.an ?_
 refine Run.seq ?_
 refine Run.sr ?_
 refine X.an ?_
 obtain ⟨o2, ho2, h⟩ := bindE h
 refine R.join2 (β := (List TResource)) [] [(63, .yreg false false)] (fun p16 S => (3, .own 448 (p16.map eTResource).length) :: S) (fun p16 M => (448, .obj true 61 2 (p16.map eTResource)) :: M) (fun p16 => p16 = o2) ?_ ?_
 ·intro JJ5 hmeet4
  have hup3 := h; clear h; have h := ho2; clear ho2
  refine Run.block ?_
  refine R.bndY false 63 (t := 0) (by rfl) (fun hbd8 => ?_)
  replace hbd8 : b0.length ≤ 9223372036854775807 := by first | (rw [List.length_map] at hbd8; exact hbd8) | simp
  refine R.lp (β := Int × (List TResource)) [(0, .yng 63 (.slice (b0.map eTResource)))] [(63, .yreg false false)] (fun bb S => (3, .own 448 (bb.2.map eTResource).length) :: (4, int bb.1) :: S) (fun bb M => (448, .obj true 61 2 (bb.2.map eTResource)) :: M) (fun n bb => 0 ≤ bb.1 ∧ bb.1 + n = (b0.length : Int) ∧ w_toResourceS_L1 (b0.drop bb.1.toNat) bb.1 bb.2 = some o2) b0.length (0, v1) ⟨Int.le_refl _, by simp, h⟩ ?_
  clear h
  rintro JJ8 n8 ⟨z9, a10⟩ hag8 ⟨hza8, hzb8, h⟩
  dsimp only at hza8 hzb8 h
  refine Run.seq ?_
  refine Run.sr ?_
  refine X.mv ?_
  refine X.mv ?_
  refine X.lenY false 63 elt24 (by rfl) (by exact List.length_map ..) (by rfl) ?_
  refine X.bi ?_
  refine X.nil ?_
  refine R.cd (fun hc13 => ?_) (fun hc13 => ?_)
  ·obtain ⟨x11, xs12, hd8, hx8, hds8, hlt8⟩ := drop_atI hza8 hc13
   rw [hd8] at h
   rw [w_toResourceS_L1] at h
   refine Run.skip ?_
   refine Run.seq ?_
   refine Run.block ?_
   refine Run.reg ?_
   refine X.mv ?_
   refine X.mv ?_
   refine X.mv ?_
   refine X.mv ?_
   refine X.indexY false 63 elt24 (by rfl) (by rfl) (idxL_spec hx8).1 (idxL_map eTResource hx8) (by rfl) (by rfl) ?_
   refine X.loadY false 63 shp81 (by rfl) (by rfl) (by rfl) (by rfl) ?_
   obtain ⟨v14, hv14, h⟩ := bindE h
   refine X.callM [(63, 63)] (w_toResource_pc _ _ hv14) (by rfl) (by rfl) (.agg _ _ _ _ _ _ (.yngB 63 (by rfl) (by rfl) (.yngB 63 (by rfl) (by rfl) .nil)) .nil) (by rfl) ⟨rfl, rfl, ⟨_, by rfl, by constructor⟩, by constructor, trivial⟩ (by rfl) (by rfl) (by rfl) (by rfl) (by rfl) (by rfl) (by rfl) (by rfl) (by rfl) ?_
   obtain ⟨v15, hv15, h⟩ := bindE h
   refine X.index_xs elt32 (by rfl) (by rfl) (by first | rfl | simp [setL] | omega) (by rfl) (by exact (Int.toNat_of_nonneg (idxL_spec hv15).1).symm) (by have := idxL_lt hv15; first | exact this | (rw [List.length_map]; exact this)) (by rfl) (by rfl) ?_
   refine X.store_es shp61 (by rfl) (by rfl) (by first | rfl | simp [setL] | omega) (idxL_map _ hv15) (by rfl) (by rfl) (by repeat (first | trivial | refine ⟨by first | rfl | simp [setL], ?_⟩)) (by rfl) (by rfl) (by rfl) (by rfl) (by exact setL_map _ _ _ v14) ?_
   refine X.nil ?_
   refine Run.blk ?_
   refine Run.reg ?_
   refine X.mv ?_
   refine X.ad ?_
   refine X.an ?_
   refine R.castS (t := 3) (.own 448 ((setL a10 z9 v14).map eTResource).length) (by rfl) (.inl (by first | rfl | simp [setL])) ?_
   exact R.ag hag8 (n8 - 1) (z9 + 1, (setL a10 z9 v14)) (R.n3 (by first | (rw [hds8]; exact h) | (dsimp only; rw [hds8]; exact h)))
  ·rw [drop_endI hza8 hc13] at h
   rw [w_toResourceS_L1] at h
   refine Run.exit (by rfl) ?_
   exact R.mt hmeet4 a10 (Option.some.inj h)
 rintro p16 rfl
 refine Run.sr ?_
 refine X.mv ?_
 refine X.an ?_
 cases h
 refine R.pubObj (n := 448) (by rfl) ?_
 exact R.finM1o Tryz.results31 (by rfl) (by rfl) (by first | rfl | simp [setL] | omega) (by rfl) (by repeat (first | exact trivial | refine ⟨by rfl, ?_⟩)) rfl
theorem w_toProject_pc (b0 : TProject) (r : TProject) (h : w_toProject b0 = some r) : PCM Tryz.prog 8 [.agg [int b0.Deadline, .yng 63 (.slice (b0.Activities.map eTActivity)), .yng 63 (.slice (b0.Links.map eTLink)), .yng 63 (.slice (b0.Resources.map eTResource)), .yng 63 (.slice (b0.Stocks.map int))]] [(63, .yreg false false)] (.agg [int r.Deadline, .fresh false 50 3 (r.Activities.map eTActivity), .fresh false 87 4 (r.Links.map eTLink), .fresh false 61 2 (r.Resources.map eTResource), .fresh false 3 1 (r.Stocks.map int)]) [(63, .yreg false false)] := by
 unfold w_toProject at h
 refine PCM.start Tryz.func8 Tryz.ntmps8 rfl ok8 rfl (by rfl) (by rfl) (by rfl) (by rfl) (by rfl) ?_
 refine Run.sr ?_
 refine X.bx ?_
 refine X.alloc zer34 (by rfl) (by rfl) (by rfl) ?_
 refine X.nil ?_
 refine Run.sr ?_
 refine X.alloc zer34 (by rfl) (by rfl) (by rfl) ?_
 refine X.nil ?_
 refine Run.sr ?_
 refine X.fl fld27_0 ?_
 refine X.ld shp3 ?_
 refine X.fl fld34_0 ?_
 refine X.sl shp3 ?_
 refine X.nil ?_
 refine Run.sr ?_
 refine X.fl fld27_1 ?_
 refine X.ld shp22 ?_
 obtain ⟨v1, hv1, h⟩ := bindE h
 refine X.callM [(63, 63)] (w_toActivityS_pc _ _ hv1) (by rfl) (by rfl) (.yngB 63 (by rfl) (by rfl) .nil) (by rfl) ⟨rfl, rfl, ⟨_, by rfl, by constructor⟩, by constructor, trivial⟩ (by rfl) (by rfl) (by rfl) (by rfl) (by rfl) (by rfl) (by rfl) (by rfl) (by rfl) ?_
 refine X.fl fld34_1 ?_
 refine X.sl shp30 ?_
 refine X.nil ?_
 refine Run.sr ?_
 refine X.fl fld27_2 ?_
 refine X.ld shp23 ?_
 obtain ⟨v2, hv2, h⟩ := bindE h
 refine X.callM [(63, 63)] (w_toLinkS_pc _ _ hv2) (by rfl) (by rfl) (.yngB 63 (by rfl) (by rfl) .nil) (by rfl) ⟨rfl, rfl, ⟨_, by rfl, by constructor⟩, by constructor, trivial⟩ (by rfl) (by rfl) (by rfl) (by rfl) (by rfl) (by rfl) (by rfl) (by rfl) (by rfl) ?_
 refine X.fl fld34_2 ?_
 refine X.sl shp31 ?_
 refine X.nil ?_
 refine Run.sr ?_
 refine X.fl fld27_3 ?_
 refine X.ld shp24 ?_
 obtain ⟨v3, hv3, h⟩ := bindE h
 refine X.callM [(63, 63)] (w_toResourceS_pc _ _ hv3) (by rfl) (by rfl) (.yngB 63 (by rfl) (by rfl) .nil) (by rfl) ⟨rfl, rfl, ⟨_, by rfl, by constructor⟩, by constructor, trivial⟩ (by rfl) (by rfl) (by rfl) (by rfl) (by rfl) (by rfl) (by rfl) (by rfl) (by rfl) ?_
 refine X.fl fld34_3 ?_
 refine X.sl shp32 ?_
 refine X.nil ?_
 refine Run.sr ?_
 refine X.fl fld27_4 ?_
 refine X.ld shp25 ?_
 obtain ⟨v4, hv4, h⟩ := bindE h
 refine X.callM [(63, 63)] (w_toIntS_pc _ _ hv4) (by rfl) (by rfl) (.yngB 63 (by rfl) (by rfl) .nil) (by rfl) ⟨rfl, rfl, ⟨_, by rfl, by constructor⟩, by constructor, trivial⟩ (by rfl) (by rfl) (by rfl) (by rfl) (by rfl) (by rfl) (by rfl) (by rfl) (by rfl) ?_
 refine X.fl fld34_4 ?_
 refine X.sl shp25 ?_
 refine X.nil ?_
 refine Run.sr ?_
 refine X.ld shp34 ?_
 refine X.sl shp34 ?_
 refine X.nil ?_
 cases h
 exact R.finMC Tryz.results8 shp34 (by rfl) (by rfl) (by rfl) (by rfl) (by repeat (first | trivial | refine ⟨by first | rfl | simp [setL], ?_⟩)) (by rfl) (by repeat (first | exact trivial | refine ⟨by rfl, ?_⟩)) rfl
theorem s_l01In_pc (b0 : Int) (b1 : Int) (b2 : Int) (r : Bool) (h : s_l01In b0 b1 b2 = some r) : PC Tryz.prog 59 [int b0, int b1, int b2] (bool r) := by
 unfold s_l01In at h
 refine PC.start Tryz.func59 Tryz.ntmps59 rfl ok59 rfl ?_
 refine Run.sr ?_
 refine X.an ?_
 refine Run.seq ?_
 obtain ⟨e1, he1, h2⟩ := bindE h
 refine R.regG [(6, bool e1)] [] ?_ ?_
 ·clear h; have h := he1; clear he1 h2
  refine X.mv ?_
  refine X.mv ?_
  refine X.bi ?_
  refine X.mv ?_
  refine X.iG (fun hb2 => ?_) (fun hb2 => ?_)
  ·replace h := condT hb2 h
   refine X.mv ?_
   refine X.gy ?_
   refine X.mv ?_
   refine X.gy ?_
   refine X.bi ?_
   refine X.pT ?_
   refine X.as ?_
   cases h
   exact X.eG
  ·replace h := condF hb2 h
   refine X.gn ?_
   refine X.gn ?_
   refine X.pF ?_
   refine X.as ?_
   cases h
   exact X.eG
 replace h := h2; clear h2
 cases h
 refine R.f1 Tryz.results59 ?_
 rfl
theorem s_l04Nums_pc (b0 : List Int) (b1 : Int) (r : Bool) (h : s_l04Nums b0 b1 = some r) : PC Tryz.prog 144 [.slice (b0.map int), int b1] (bool r) := by
 unfold s_l04Nums at h
 refine PC.start Tryz.func144 Tryz.ntmps144 rfl ok144 rfl ?_
 refine Run.sr ?_
 refine X.an ?_
 refine Run.seq ?_
 refine Run.sr ?_
 refine X.mv ?_
 refine X.ls elt25 ?_
 refine X.mn ?_
 obtain ⟨o1, ho1, h⟩ := bindE h
 refine R.join2 (β := Unit) [(0, .slice (b0.map int)), (1, int b1)] [] (fun p14 S => S) (fun p14 M => M) (fun p14 => (Sum.inl p14) = o1) ?_ ?_
 ·intro JJ4 hmeet3
  have hup2 := h; clear h; have h := ho1; clear ho1
  refine Run.block ?_
  refine R.bndS (t := 0) (by rfl) (fun hbd7 => ?_)
  replace hbd7 : b0.length ≤ 9223372036854775807 := by first | (rw [List.length_map] at hbd7; exact hbd7) | simp
  refine R.lp (β := Int) [(0, .slice (b0.map int)), (1, int b1), (7, .slice (b0.map int)), (8, int (b0.length : Int))] [] (fun bb S => (9, int bb) :: S) (fun bb M => M) (fun n bb => 0 ≤ bb ∧ bb + n = (b0.length : Int) ∧ s_l04Nums_L1 (b0.drop bb.toNat) bb = some o1) b0.length (0 : Int) ⟨Int.le_refl _, by simp, h⟩ ?_
  clear h
  rintro JJ7 n7 z8 hag7 ⟨hza7, hzb7, h⟩
  refine Run.sr ?_
  refine X.bi ?_
  refine X.nil ?_
  refine Run.seq ?_
  refine R.cd (fun hc11 => ?_) (fun hc11 => ?_)
  ·obtain ⟨x9, xs10, hd7, hx7, hds7, hlt7⟩ := drop_atI hza7 hc11
   rw [hd7] at h
   rw [s_l04Nums_L1] at h
   refine Run.skip ?_
   refine Run.seq ?_
   refine Run.block ?_
   refine Run.sr ?_
   refine X.ix elt25 (idxL_spec hx7).1 (idxL_map int hx7) ?_
   refine X.lc shp3 ?_
   refine X.an ?_
   refine Run.sr ?_
   refine X.mv ?_
   obtain ⟨v12, hv12, h⟩ := bindE h
   refine X.cp (s_l01In_pc _ _ _ _ hv12) ?_
   refine X.un (by rfl) (by rfl) (by rfl) ?_
   refine X.nil ?_
   refine R.cd (fun hc13 => ?_) (fun hc13 => ?_)
   ·replace h := condT hc13 h
    refine Run.sr ?_
    refine X.an ?_
    cases h
    have h := hup2
    replace h := elimR h
    cases h
    refine R.f1 Tryz.results144 ?_
    rfl
   ·replace h := condF hc13 h
    refine Run.skip ?_
    refine Run.blk ?_
    refine Run.reg ?_
    refine X.ad ?_
    refine X.mn ?_
    exact R.ag hag7 (n7 - 1) (z8 + 1) (R.n3 (by first | (rw [hds7]; exact h) | (dsimp only; rw [hds7]; exact h)))
  ·rw [drop_endI hza7 hc11] at h
   rw [s_l04Nums_L1] at h
   refine Run.exit (by rfl) ?_
   exact R.mt hmeet3 () (Option.some.inj h)
 rintro p14 rfl
 replace h := elimL h
 refine Run.sr ?_
 refine X.mv ?_
 refine X.ls elt25 ?_
 refine X.mv ?_
 refine X.bi ?_
 refine X.an ?_
 cases h
 refine R.f1 Tryz.results144 ?_
 rfl
theorem s_ModeOk_pc (b0 : TMode) (b1 : Int) (b2 : Int) (r : Bool) (h : s_ModeOk b0 b1 b2 = some r) : PC Tryz.prog 112 [eTMode b0, int b1, int b2] (bool r) := by
 unfold s_ModeOk at h
 refine PC.start Tryz.func112 Tryz.ntmps112 rfl ok112 rfl ?_
 refine Run.sr ?_
 refine X.bx ?_
 refine X.an ?_
 refine Run.seq ?_
 obtain ⟨v1, hv1, h⟩ := bindE h
 obtain ⟨e2, he2, h2⟩ := bindE h
 refine R.regG [(6, bool e2)] [] ?_ ?_
 ·clear h; have h := he2; clear he2 h2
  refine X.fl fld100_0 ?_
  refine X.ld shp3 ?_
  refine X.cp (s_l01In_pc _ _ _ _ hv1) ?_
  refine X.mv ?_
  refine X.iG (fun hb3 => ?_) (fun hb3 => ?_)
  ·replace h := condT hb3 h
   refine X.fl fld100_1 ?_
   refine X.gy ?_
   refine X.ld shp25 ?_
   refine X.gy ?_
   refine X.mv ?_
   refine X.gy ?_
   obtain ⟨v4, hv4, h⟩ := bindE h
   refine X.cp (s_l04Nums_pc _ _ _ hv4) ?_
   refine X.pT ?_
   refine X.mv ?_
   refine X.iG (fun hb5 => ?_) (fun hb5 => ?_)
   ·replace h := condT hb5 h
    refine X.fl fld100_2 ?_
    refine X.gy ?_
    refine X.ld shp25 ?_
    refine X.gy ?_
    refine X.mv ?_
    refine X.gy ?_
    obtain ⟨v6, hv6, h⟩ := bindE h
    refine X.cp (s_l04Nums_pc _ _ _ hv6) ?_
    refine X.pT ?_
    refine X.as ?_
    cases h
    exact X.eG
   ·replace h := condF hb5 h
    refine X.gn ?_
    refine X.gn ?_
    refine X.gn ?_
    refine X.pF ?_
    refine X.as ?_
    cases h
    exact X.eG
  ·replace h := condF hb3 h
   refine X.gn ?_
   refine X.gn ?_
   refine X.gn ?_
   refine X.pF ?_
   refine X.mv ?_
   refine X.gn ?_
   refine X.gn ?_
   refine X.gn ?_
   refine X.gn ?_
   refine X.pF ?_
   refine X.as ?_
   cases h
   exact X.eG
 replace h := h2; clear h2
 cases h
 refine R.f1 Tryz.results112 ?_
 rfl
theorem s_IsName_pc (b0 : ByteArray) (r : Bool) (h : s_IsName b0 = some r) : PC Tryz.prog 113 [str b0] (bool r) := by
 unfold s_IsName at h
 refine PC.start Tryz.func113 Tryz.ntmps113 rfl ok113 rfl ?_
 refine Run.sr ?_
 refine X.an ?_
 refine Run.seq ?_
 refine Run.sr ?_
 refine X.an ?_
 obtain ⟨o1, ho1, h⟩ := bindE h
 refine R.join2 (β := Unit) [(0, str b0)] [] (fun p19 S => S) (fun p19 M => M) (fun p19 => (Sum.inl p19) = o1) ?_ ?_
 ·intro JJ4 hmeet3
  have hup2 := h; clear h; have h := ho1; clear ho1
  refine Run.block ?_
  refine R.lp (β := Int) [(0, str b0)] [] (fun bb S => (3, int bb) :: S) (fun bb M => M) (fun n bb => s_IsName_L1 b0 n bb = some o1) F0 0 h ?_
  clear h
  rintro JJ5 n5 a7 hag5 h
  obtain _ | n5 := n5
  ·exact absurd h (by simp [s_IsName_L1])
  rw [s_IsName_L1] at h
  refine Run.seq ?_
  refine Run.sr ?_
  refine X.mv ?_
  refine X.mv ?_
  refine X.lenStr Tryz.underlying9 (by rfl) (by rfl) ?_
  refine X.bi ?_
  refine X.nil ?_
  refine R.cd (fun hc10 => ?_) (fun hc10 => ?_)
  ·replace h := condT hc10 h
   refine Run.skip ?_
   refine Run.seq ?_
   refine Run.block ?_
   refine Run.seq ?_
   obtain ⟨v11, hv11, h⟩ := bindE h
   obtain ⟨e12, he12, h2⟩ := bindE h
   refine R.regG [(0, str b0), (3, int a7), (4, bool e12)] [] ?_ ?_
   ·clear h; have h := he12; clear he12 h2
    refine X.mv ?_
    refine X.mv ?_
    refine X.indexStr2 hv11 Tryz.underlying9 (by rfl) (by rfl) (by rfl) ?_
    refine X.bi ?_
    refine X.mv ?_
    refine X.iG (fun hb13 => ?_) (fun hb13 => ?_)
    ·replace h := condT hb13 h
     refine X.mv ?_
     refine X.gy ?_
     refine X.mv ?_
     refine X.gy ?_
     refine X.indexStr2 hv11 Tryz.underlying9 (by rfl) (by rfl) (by rfl) ?_
     refine X.gy ?_
     refine X.bi ?_
     refine X.pT ?_
     refine X.as ?_
     cases h
     exact X.eG
    ·replace h := condF hb13 h
     refine X.gn ?_
     refine X.gn ?_
     refine X.gn ?_
     refine X.pF ?_
     refine X.as ?_
     cases h
     exact X.eG
   replace h := h2; clear h2
   refine Run.seq ?_
   obtain ⟨e14, he14, h2⟩ := bindE h
   refine R.regG [(0, str b0), (3, int a7), (38, bool e14)] [] ?_ ?_
   ·clear h; have h := he14; clear he14 h2
    refine X.mv ?_
    refine X.un (by rfl) (by rfl) (by rfl) ?_
    refine X.mv ?_
    refine X.iG (fun hb15 => ?_) (fun hb15 => ?_)
    ·replace h := condT hb15 h
     refine X.mv ?_
     refine X.gy ?_
     refine X.bi ?_
     refine X.gy ?_
     refine X.mv ?_
     refine X.iG (fun hb16 => ?_) (fun hb16 => ?_)
     ·replace h := condF hb16 h
      refine X.mv ?_
      refine X.gy ?_
      refine X.mv ?_
      refine X.gy ?_
      refine X.indexStr2 hv11 Tryz.underlying9 (by rfl) (by rfl) (by rfl) ?_
      refine X.gy ?_
      refine X.bi ?_
      refine X.gy ?_
      refine X.pF ?_
      refine X.gy ?_
      refine X.mv ?_
      refine X.iG (fun hb17 => ?_) (fun hb17 => ?_)
      ·replace h := condF hb17 h
       refine X.mv ?_
       refine X.gy ?_
       refine X.mv ?_
       refine X.gy ?_
       refine X.indexStr2 hv11 Tryz.underlying9 (by rfl) (by rfl) (by rfl) ?_
       refine X.gy ?_
       refine X.bi ?_
       refine X.gy ?_
       refine X.pF ?_
       refine X.pT ?_
       cases h
       exact X.eG
      ·replace h := condT hb17 h
       refine X.gn ?_
       refine X.gn ?_
       refine X.gn ?_
       refine X.gy ?_
       refine X.pT ?_
       refine X.pT ?_
       cases h
       exact X.eG
     ·replace h := condT hb16 h
      refine X.gn ?_
      refine X.gn ?_
      refine X.gn ?_
      refine X.gy ?_
      refine X.pT ?_
      refine X.gy ?_
      refine X.mv ?_
      refine X.gn ?_
      refine X.gn ?_
      refine X.gn ?_
      refine X.gn ?_
      refine X.gy ?_
      refine X.pT ?_
      refine X.pT ?_
      cases h
      exact X.eG
    ·replace h := condF hb15 h
     refine X.gn ?_
     refine X.gn ?_
     refine X.gU (by rfl) (by rfl) (by rfl) ?_
     refine X.gU (by rfl) (by rfl) (by rfl) ?_
     refine X.gU (by rfl) (by rfl) (by rfl) ?_
     refine X.gU (by rfl) (by rfl) (by rfl) ?_
     refine X.gn ?_
     refine X.gn ?_
     refine X.gU (by rfl) (by rfl) (by rfl) ?_
     refine X.gU (by rfl) (by rfl) (by rfl) ?_
     refine X.gU (by rfl) (by rfl) (by rfl) ?_
     refine X.gU (by rfl) (by rfl) (by rfl) ?_
     refine X.gn ?_
     refine X.pF ?_
     cases h
     exact X.eG
   replace h := h2; clear h2
   refine R.cd (fun hc18 => ?_) (fun hc18 => ?_)
   ·replace h := condT hc18 h
    refine Run.sr ?_
    refine X.an ?_
    cases h
    have h := hup2
    replace h := elimR h
    cases h
    refine R.f1 Tryz.results113 ?_
    rfl
   ·replace h := condF hc18 h
    refine Run.skip ?_
    refine Run.blk ?_
    refine Run.reg ?_
    refine X.mv ?_
    refine X.addW (by rfl) (by rfl) (by rfl) ?_
    refine X.an ?_
    exact hag5 n5 (W (a7 + 1)) _ _ (by omega) h (by trivial) (by trivial) (by rfl) (by rfl)
  ·replace h := condF hc10 h
   refine Run.exit (by rfl) ?_
   exact R.mt hmeet3 () (Option.some.inj h)
 rintro p19 rfl
 replace h := elimL h
 refine Run.sr ?_
 refine X.mv ?_
 refine X.lenStr Tryz.underlying9 (by rfl) (by rfl) ?_
 obtain ⟨v21, hv21, h⟩ := bindE h
 refine X.cp (s_l01In_pc _ _ _ _ hv21) ?_
 refine X.an ?_
 cases h
 refine R.f1 Tryz.results113 ?_
 rfl
theorem s_ActivityOk_pc (b0 : TActivity) (b1 : Int) (b2 : Int) (r : Bool) (h : s_ActivityOk b0 b1 b2 = some r) : PC Tryz.prog 60 [eTActivity b0, int b1, int b2] (bool r) := by
 unfold s_ActivityOk at h
 refine PC.start Tryz.func60 Tryz.ntmps60 rfl ok60 rfl ?_
 refine Run.sr ?_
 refine X.bx ?_
 refine X.an ?_
 refine Run.seq ?_
 refine Run.sr ?_
 refine X.fl fld50_2 ?_
 refine X.ld shp48 ?_
 refine X.ls elt48 ?_
 refine X.mn ?_
 obtain ⟨o1, ho1, h⟩ := bindE h
 refine R.join2 (β := Unit) [(3, .lptr 192 0)] [(192, .blk true [str b0.Name, int b0.Family, .slice (b0.Modes.map eTMode)])] (fun p14 S => S) (fun p14 M => M) (fun p14 => (Sum.inl p14) = o1) ?_ ?_
 ·intro JJ4 hmeet3
  have hup2 := h; clear h; have h := ho1; clear ho1
  refine Run.block ?_
  refine R.bndS (t := 10) (by rfl) (fun hbd7 => ?_)
  replace hbd7 : b0.Modes.length ≤ 9223372036854775807 := by first | (rw [List.length_map] at hbd7; exact hbd7) | simp
  refine R.lp (β := Int) [(1, int b1), (2, int b2), (3, .lptr 192 0), (10, .slice (b0.Modes.map eTMode)), (11, int (b0.Modes.length : Int))] [(192, .blk true [str b0.Name, int b0.Family, .slice (b0.Modes.map eTMode)])] (fun bb S => (12, int bb) :: S) (fun bb M => M) (fun n bb => 0 ≤ bb ∧ bb + n = (b0.Modes.length : Int) ∧ s_ActivityOk_L1 b1 b2 (b0.Modes.drop bb.toNat) bb = some o1) b0.Modes.length (0 : Int) ⟨Int.le_refl _, by simp, h⟩ ?_
  clear h
  rintro JJ7 n7 z8 hag7 ⟨hza7, hzb7, h⟩
  refine Run.sr ?_
  refine X.bi ?_
  refine X.nil ?_
  refine Run.seq ?_
  refine R.cd (fun hc11 => ?_) (fun hc11 => ?_)
  ·obtain ⟨x9, xs10, hd7, hx7, hds7, hlt7⟩ := drop_atI hza7 hc11
   rw [hd7] at h
   rw [s_ActivityOk_L1] at h
   refine Run.skip ?_
   refine Run.seq ?_
   refine Run.block ?_
   refine Run.sr ?_
   refine X.ix elt48 (idxL_spec hx7).1 (idxL_map eTMode hx7) ?_
   refine X.lc shp100 ?_
   refine X.alloc zer100 (by rfl) (by rfl) (by rfl) ?_
   refine X.sl shp100 ?_
   refine X.nil ?_
   refine Run.sr ?_
   refine X.ld shp100 ?_
   refine X.mv ?_
   refine X.mv ?_
   obtain ⟨v12, hv12, h⟩ := bindE h
   refine X.cp (s_ModeOk_pc _ _ _ _ hv12) ?_
   refine X.un (by rfl) (by rfl) (by rfl) ?_
   refine X.nil ?_
   refine R.cd (fun hc13 => ?_) (fun hc13 => ?_)
   ·replace h := condT hc13 h
    refine Run.sr ?_
    refine X.an ?_
    cases h
    have h := hup2
    replace h := elimR h
    cases h
    refine R.f1 Tryz.results60 ?_
    rfl
   ·replace h := condF hc13 h
    refine Run.skip ?_
    refine Run.blk ?_
    refine Run.reg ?_
    refine X.ad ?_
    refine X.mn ?_
    exact R.ag hag7 (n7 - 1) (z8 + 1) (R.n3 (by first | (rw [hds7]; exact h) | (dsimp only; rw [hds7]; exact h)))
  ·rw [drop_endI hza7 hc11] at h
   rw [s_ActivityOk_L1] at h
   refine Run.exit (by rfl) ?_
   exact R.mt hmeet3 () (Option.some.inj h)
 rintro p14 rfl
 replace h := elimL h
 refine Run.seq ?_
 obtain ⟨v16, hv16, h⟩ := bindE h
 obtain ⟨e17, he17, h2⟩ := bindE h
 refine R.regG [(6, bool e17)] [] ?_ ?_
 ·clear h; have h := he17; clear he17 h2
  refine X.fl fld50_0 ?_
  refine X.ld shp9 ?_
  refine X.cp (s_IsName_pc _ _ hv16) ?_
  refine X.mv ?_
  refine X.iG (fun hb18 => ?_) (fun hb18 => ?_)
  ·replace h := condT hb18 h
   refine X.fl fld50_1 ?_
   refine X.gy ?_
   refine X.ld shp3 ?_
   refine X.gy ?_
   obtain ⟨v19, hv19, h⟩ := bindE h
   refine X.cp (s_l01In_pc _ _ _ _ hv19) ?_
   refine X.pT ?_
   refine X.mv ?_
   refine X.iG (fun hb20 => ?_) (fun hb20 => ?_)
   ·replace h := condT hb20 h
    refine X.fl fld50_2 ?_
    refine X.gy ?_
    refine X.ld shp48 ?_
    refine X.gy ?_
    refine X.ls elt48 ?_
    refine X.gy ?_
    obtain ⟨v21, hv21, h⟩ := bindE h
    refine X.cp (s_l01In_pc _ _ _ _ hv21) ?_
    refine X.pT ?_
    refine X.as ?_
    cases h
    exact X.eG
   ·replace h := condF hb20 h
    refine X.gn ?_
    refine X.gn ?_
    refine X.gn ?_
    refine X.pF ?_
    refine X.as ?_
    cases h
    exact X.eG
  ·replace h := condF hb18 h
   refine X.gn ?_
   refine X.gn ?_
   refine X.pF ?_
   refine X.mv ?_
   refine X.gn ?_
   refine X.gn ?_
   refine X.gn ?_
   refine X.gn ?_
   refine X.pF ?_
   refine X.as ?_
   cases h
   exact X.eG
 replace h := h2; clear h2
 cases h
 refine R.f1 Tryz.results60 ?_
 rfl
theorem s_ActivityIndex_pc (b0 : TProject) (b1 : ByteArray) (r : Int) (h : s_ActivityIndex b0 b1 = some r) : PC Tryz.prog 61 [eTProject b0, str b1] (int r) := by
 unfold s_ActivityIndex at h
 refine PC.start Tryz.func61 Tryz.ntmps61 rfl ok61 rfl ?_
 refine Run.sr ?_
 refine X.bx ?_
 refine X.an ?_
 refine Run.seq ?_
 refine Run.sr ?_
 refine X.fl fld34_1 ?_
 refine X.ld shp30 ?_
 refine X.ls elt30 ?_
 refine X.mn ?_
 obtain ⟨o1, ho1, h⟩ := bindE h
 refine R.join2 (β := Unit) [] [] (fun p13 S => S) (fun p13 M => M) (fun p13 => (Sum.inl p13) = o1) ?_ ?_
 ·intro JJ4 hmeet3
  have hup2 := h; clear h; have h := ho1; clear ho1
  refine Run.block ?_
  refine R.bndS (t := 8) (by rfl) (fun hbd7 => ?_)
  replace hbd7 : b0.Activities.length ≤ 9223372036854775807 := by first | (rw [List.length_map] at hbd7; exact hbd7) | simp
  refine R.lp (β := Int) [(1, str b1), (8, .slice (b0.Activities.map eTActivity)), (9, int (b0.Activities.length : Int))] [] (fun bb S => (10, int bb) :: S) (fun bb M => M) (fun n bb => 0 ≤ bb ∧ bb + n = (b0.Activities.length : Int) ∧ s_ActivityIndex_L1 b1 (b0.Activities.drop bb.toNat) bb = some o1) b0.Activities.length (0 : Int) ⟨Int.le_refl _, by simp, h⟩ ?_
  clear h
  rintro JJ7 n7 z8 hag7 ⟨hza7, hzb7, h⟩
  refine Run.sr ?_
  refine X.bi ?_
  refine X.nil ?_
  refine Run.seq ?_
  refine R.cd (fun hc11 => ?_) (fun hc11 => ?_)
  ·obtain ⟨x9, xs10, hd7, hx7, hds7, hlt7⟩ := drop_atI hza7 hc11
   rw [hd7] at h
   rw [s_ActivityIndex_L1] at h
   refine Run.skip ?_
   refine Run.seq ?_
   refine Run.block ?_
   refine Run.sr ?_
   refine X.mv ?_
   refine X.ix elt30 (idxL_spec hx7).1 (idxL_map eTActivity hx7) ?_
   refine X.lc shp50 ?_
   refine X.alloc zer50 (by rfl) (by rfl) (by rfl) ?_
   refine X.as ?_
   refine X.sl shp50 ?_
   refine X.nil ?_
   refine Run.sr ?_
   refine X.fl fld50_0 ?_
   refine X.ld shp9 ?_
   refine X.mv ?_
   refine X.bi ?_
   refine X.nil ?_
   refine R.cd (fun hc12 => ?_) (fun hc12 => ?_)
   ·replace h := condT hc12 h
    refine Run.sr ?_
    refine X.mv ?_
    refine X.an ?_
    cases h
    have h := hup2
    replace h := elimR h
    cases h
    refine R.f1 Tryz.results61 ?_
    rfl
   ·replace h := condF hc12 h
    refine Run.skip ?_
    refine Run.blk ?_
    refine Run.reg ?_
    refine X.ad ?_
    refine X.mn ?_
    exact R.ag hag7 (n7 - 1) (z8 + 1) (R.n3 (by first | (rw [hds7]; exact h) | (dsimp only; rw [hds7]; exact h)))
  ·rw [drop_endI hza7 hc11] at h
   rw [s_ActivityIndex_L1] at h
   refine Run.exit (by rfl) ?_
   exact R.mt hmeet3 () (Option.some.inj h)
 rintro p13 rfl
 replace h := elimL h
 refine Run.sr ?_
 refine X.an ?_
 cases h
 refine R.f1 Tryz.results61 ?_
 rfl
theorem s_StepsOk_pc (b0 : List TStep) (r : Bool) (h : s_StepsOk b0 = some r) : PC Tryz.prog 114 [.slice (b0.map eTStep)] (bool r) := by
 unfold s_StepsOk at h
 refine PC.start Tryz.func114 Tryz.ntmps114 rfl ok114 rfl ?_
 refine Run.sr ?_
 refine X.an ?_
 refine Run.seq ?_
 refine Run.sr ?_
 refine X.mv ?_
 refine X.ls elt58 ?_
 refine X.mn ?_
 obtain ⟨o1, ho1, h⟩ := bindE h
 refine R.join2 (β := Unit) [(0, .slice (b0.map eTStep))] [] (fun p20 S => S) (fun p20 M => M) (fun p20 => (Sum.inl p20) = o1) ?_ ?_
 ·intro JJ4 hmeet3
  have hup2 := h; clear h; have h := ho1; clear ho1
  refine Run.block ?_
  refine R.bndS (t := 0) (by rfl) (fun hbd7 => ?_)
  replace hbd7 : b0.length ≤ 9223372036854775807 := by first | (rw [List.length_map] at hbd7; exact hbd7) | simp
  refine R.lp (β := Int) [(0, .slice (b0.map eTStep)), (5, .slice (b0.map eTStep)), (6, int (b0.length : Int))] [] (fun bb S => (7, int bb) :: S) (fun bb M => M) (fun n bb => 0 ≤ bb ∧ bb + n = (b0.length : Int) ∧ s_StepsOk_L1 b0 (b0.drop bb.toNat) bb = some o1) b0.length (0 : Int) ⟨Int.le_refl _, by simp, h⟩ ?_
  clear h
  rintro JJ7 n7 z8 hag7 ⟨hza7, hzb7, h⟩
  refine Run.sr ?_
  refine X.bi ?_
  refine X.nil ?_
  refine Run.seq ?_
  refine R.cd (fun hc11 => ?_) (fun hc11 => ?_)
  ·obtain ⟨x9, xs10, hd7, hx7, hds7, hlt7⟩ := drop_atI hza7 hc11
   rw [hd7] at h
   rw [s_StepsOk_L1] at h
   refine Run.skip ?_
   refine Run.seq ?_
   refine Run.block ?_
   refine Run.sr ?_
   refine X.mv ?_
   refine X.ix elt58 (idxL_spec hx7).1 (idxL_map eTStep hx7) ?_
   refine X.lc shp136 ?_
   refine X.alloc zer136 (by rfl) (by rfl) (by rfl) ?_
   refine X.as ?_
   refine X.sl shp136 ?_
   refine X.nil ?_
   refine Run.seq ?_
   obtain ⟨v12, hv12, h⟩ := bindE h
   obtain ⟨e13, he13, h2⟩ := bindE h
   refine R.drawG [(0, .slice (b0.map eTStep)), (5, .slice (b0.map eTStep)), (6, int (b0.length : Int)), (7, int z8), (36, bool e13)] [] (footOf [(1, ([256], [], [], [])), (6, ([256], [], [], [])), (21, ([256], [], [], []))]) mixed (by kernel_rfl) (by kernel_rfl) ?_ ?_
   ·clear h; have h := he13; clear he13 h2
    refine X.fl fld136_0 ?_
    refine X.ld shp3 ?_
    refine X.cp (s_l01In_pc _ _ _ _ hv12) ?_
    refine X.un (by rfl) (by rfl) (by rfl) ?_
    refine X.mv ?_
    refine X.iG (fun hb14 => ?_) (fun hb14 => ?_)
    ·replace h := condF hb14 h
     refine X.fl fld136_1 ?_
     refine X.gy ?_
     refine X.ld shp3 ?_
     refine X.gy ?_
     obtain ⟨v15, hv15, h⟩ := bindE h
     refine X.cp (s_l01In_pc _ _ _ _ hv15) ?_
     refine X.gy ?_
     refine X.un (by rfl) (by rfl) (by rfl) ?_
     refine X.pF ?_
     refine X.mv ?_
     refine X.iG (fun hb16 => ?_) (fun hb16 => ?_)
     ·replace h := condF hb16 h
      refine X.mv ?_
      refine X.gy ?_
      refine X.bi ?_
      refine X.gy ?_
      refine X.mv ?_
      refine X.iG (fun hb17 => ?_) (fun hb17 => ?_)
      ·replace h := condT hb17 h
       refine X.mv ?_
       refine X.gy ?_
       refine X.mv ?_
       refine X.gy ?_
       refine X.sub (by rfl) (by rfl) (by omega) (by rfl) ?_
       refine X.gy ?_
       obtain ⟨v18, hv18, h⟩ := bindE h
       refine X.ix elt58 (idxL_spec hv18).1 (idxL_map eTStep hv18) ?_
       refine X.gy ?_
       refine X.fieldAddr_c fld136_0 (by rfl) (by rfl) ?_
       refine X.gy ?_
       refine X.lc shp3 ?_
       refine X.gy ?_
       refine X.fl fld136_0 ?_
       refine X.gy ?_
       refine X.ld shp3 ?_
       refine X.gy ?_
       refine X.bi ?_
       refine X.gy ?_
       refine X.pT ?_
       refine X.pF ?_
       cases h
       exact X.eG
      ·replace h := condF hb17 h
       refine X.gn ?_
       refine X.gn ?_
       refine X.gn ?_
       refine X.gn ?_
       refine X.gn ?_
       refine X.gn ?_
       refine X.gn ?_
       refine X.gn ?_
       refine X.gy ?_
       refine X.pF ?_
       refine X.pF ?_
       cases h
       exact X.eG
     ·replace h := condT hb16 h
      refine X.gn ?_
      refine X.gn ?_
      refine X.gU (by rfl) (by rfl) (by rfl) ?_
      refine X.gU (by rfl) (by rfl) (by rfl) ?_
      refine X.gU (by rfl) (by rfl) (by rfl) ?_
      refine X.gU (by rfl) (by rfl) (by rfl) ?_
      refine X.gU (by rfl) (by rfl) (by rfl) ?_
      refine X.gU (by rfl) (by rfl) (by rfl) ?_
      refine X.gU (by rfl) (by rfl) (by rfl) ?_
      refine X.gU (by rfl) (by rfl) (by rfl) ?_
      refine X.gU (by rfl) (by rfl) (by rfl) ?_
      refine X.gn ?_
      refine X.pT ?_
      cases h
      exact X.eG
    ·replace h := condT hb14 h
     refine X.gn ?_
     refine X.gn ?_
     refine X.gn ?_
     refine X.pT ?_
     refine X.mv ?_
     refine X.gn ?_
     refine X.gn ?_
     refine X.gn ?_
     refine X.gU (by rfl) (by rfl) (by rfl) ?_
     refine X.gU (by rfl) (by rfl) (by rfl) ?_
     refine X.gU (by rfl) (by rfl) (by rfl) ?_
     refine X.gU (by rfl) (by rfl) (by rfl) ?_
     refine X.gU (by rfl) (by rfl) (by rfl) ?_
     refine X.gU (by rfl) (by rfl) (by rfl) ?_
     refine X.gU (by rfl) (by rfl) (by rfl) ?_
     refine X.gU (by rfl) (by rfl) (by rfl) ?_
     refine X.gU (by rfl) (by rfl) (by rfl) ?_
     refine X.gn ?_
     refine X.pT ?_
     cases h
     exact X.eG
   replace h := h2; clear h2
   refine R.cd (fun hc19 => ?_) (fun hc19 => ?_)
   ·replace h := condT hc19 h
    refine Run.sr ?_
    refine X.an ?_
    cases h
    have h := hup2
    replace h := elimR h
    cases h
    refine R.f1 Tryz.results114 ?_
    rfl
   ·replace h := condF hc19 h
    refine Run.skip ?_
    refine Run.blk ?_
    refine Run.reg ?_
    refine X.ad ?_
    refine X.mn ?_
    exact R.ag hag7 (n7 - 1) (z8 + 1) (R.n3 (by first | (rw [hds7]; exact h) | (dsimp only; rw [hds7]; exact h)))
  ·rw [drop_endI hza7 hc11] at h
   rw [s_StepsOk_L1] at h
   refine Run.exit (by rfl) ?_
   exact R.mt hmeet3 () (Option.some.inj h)
 rintro p20 rfl
 replace h := elimL h
 refine Run.seq ?_
 obtain ⟨v22, hv22, h⟩ := bindE h
 obtain ⟨e23, he23, h2⟩ := bindE h
 refine R.regG [(2, bool e23)] [] ?_ ?_
 ·clear h; have h := he23; clear he23 h2
  refine X.mv ?_
  refine X.ls elt58 ?_
  refine X.cp (s_l01In_pc _ _ _ _ hv22) ?_
  refine X.mv ?_
  refine X.iG (fun hb24 => ?_) (fun hb24 => ?_)
  ·replace h := condT hb24 h
   refine X.mv ?_
   refine X.gy ?_
   obtain ⟨v25, hv25, h⟩ := bindE h
   refine X.ix elt58 (idxL_spec hv25).1 (idxL_map eTStep hv25) ?_
   refine X.gy ?_
   refine X.fieldAddr_c fld136_0 (by rfl) (by rfl) ?_
   refine X.gy ?_
   refine X.lc shp3 ?_
   refine X.gy ?_
   refine X.bi ?_
   refine X.pT ?_
   refine X.as ?_
   cases h
   exact X.eG
  ·replace h := condF hb24 h
   refine X.gn ?_
   refine X.gn ?_
   refine X.gn ?_
   refine X.gn ?_
   refine X.pF ?_
   refine X.as ?_
   cases h
   exact X.eG
 replace h := h2; clear h2
 cases h
 refine R.f1 Tryz.results114 ?_
 rfl
theorem s_ResourceOk_pc (b0 : TResource) (r : Bool) (h : s_ResourceOk b0 = some r) : PC Tryz.prog 62 [eTResource b0] (bool r) := by
 unfold s_ResourceOk at h
 refine PC.start Tryz.func62 Tryz.ntmps62 rfl ok62 rfl ?_
 refine Run.sr ?_
 refine X.bx ?_
 refine X.an ?_
 refine Run.seq ?_
 refine Run.sr ?_
 refine X.fl fld61_1 ?_
 refine X.ld shp59 ?_
 refine X.ls elt59 ?_
 refine X.mn ?_
 obtain ⟨o1, ho1, h⟩ := bindE h
 refine R.join2 (β := Unit) [(1, .lptr 64 0)] [(64, .blk true [.slice (b0.Steps.map eTStep), .slice (b0.Setup.map l_int)])] (fun p28 S => S) (fun p28 M => M) (fun p28 => (Sum.inl p28) = o1) ?_ ?_
 ·intro JJ4 hmeet3
  have hup2 := h; clear h; have h := ho1; clear ho1
  refine Run.block ?_
  refine R.bndS (t := 8) (by rfl) (fun hbd7 => ?_)
  replace hbd7 : b0.Setup.length ≤ 9223372036854775807 := by first | (rw [List.length_map] at hbd7; exact hbd7) | simp
  refine R.lp (β := Int) [(1, .lptr 64 0), (8, .slice (b0.Setup.map l_int)), (9, int (b0.Setup.length : Int))] [(64, .blk true [.slice (b0.Steps.map eTStep), .slice (b0.Setup.map l_int)])] (fun bb S => (10, int bb) :: S) (fun bb M => M) (fun n bb => 0 ≤ bb ∧ bb + n = (b0.Setup.length : Int) ∧ s_ResourceOk_L1 (b0.Setup.drop bb.toNat) bb = some o1) b0.Setup.length (0 : Int) ⟨Int.le_refl _, by simp, h⟩ ?_
  clear h
  rintro JJ7 n7 z8 hag7 ⟨hza7, hzb7, h⟩
  refine Run.sr ?_
  refine X.bi ?_
  refine X.nil ?_
  refine Run.seq ?_
  refine R.cd (fun hc11 => ?_) (fun hc11 => ?_)
  ·obtain ⟨x9, xs10, hd7, hx7, hds7, hlt7⟩ := drop_atI hza7 hc11
   rw [hd7] at h
   rw [s_ResourceOk_L1] at h
   refine Run.skip ?_
   refine Run.seq ?_
   refine Run.block ?_
   refine Run.sr ?_
   refine X.ix elt59 (idxL_spec hx7).1 (idxL_map l_int hx7) ?_
   refine X.lc shp25 ?_
   refine X.an ?_
   refine Run.seq ?_
   refine Run.sr ?_
   refine X.mv ?_
   refine X.ls elt25 ?_
   refine X.bi ?_
   refine X.nil ?_
   refine R.cd (fun hc12 => ?_) (fun hc12 => ?_)
   ·replace h := condT hc12 h
    refine Run.sr ?_
    refine X.an ?_
    cases h
    have h := hup2
    replace h := elimR h
    cases h
    refine R.f1 Tryz.results62 ?_
    rfl
   ·replace h := condF hc12 h
    refine Run.skip ?_
    refine Run.sr ?_
    refine X.mv ?_
    refine X.ls elt25 ?_
    refine X.mn ?_
    obtain ⟨o13, ho13, h⟩ := bindE h
    refine R.join2 (β := Unit) [(1, .lptr 64 0), (8, .slice (b0.Setup.map l_int)), (9, int (b0.Setup.length : Int)), (10, int z8)] [(64, .blk true [.slice (b0.Steps.map eTStep), .slice (b0.Setup.map l_int)])] (fun p26 S => S) (fun p26 M => M) (fun p26 => (Sum.inl p26) = o13) ?_ ?_
    ·intro JJ16 hmeet15
     have hup14 := h; clear h; have h := ho13; clear ho13
     refine Run.block ?_
     refine R.bndS (t := 4) (by rfl) (fun hbd19 => ?_)
     replace hbd19 : x9.length ≤ 9223372036854775807 := by first | (rw [List.length_map] at hbd19; exact hbd19) | simp
     refine R.lp (β := Int) [(1, .lptr 64 0), (8, .slice (b0.Setup.map l_int)), (9, int (b0.Setup.length : Int)), (10, int z8), (17, .slice (x9.map int)), (18, int (x9.length : Int))] [(64, .blk true [.slice (b0.Steps.map eTStep), .slice (b0.Setup.map l_int)])] (fun bb S => (19, int bb) :: S) (fun bb M => M) (fun n bb => 0 ≤ bb ∧ bb + n = (x9.length : Int) ∧ s_ResourceOk_L2 (x9.drop bb.toNat) bb = some o13) x9.length (0 : Int) ⟨Int.le_refl _, by simp, h⟩ ?_
     clear h
     rintro JJ19 n19 z20 hag19 ⟨hza19, hzb19, h⟩
     refine Run.sr ?_
     refine X.bi ?_
     refine X.nil ?_
     refine Run.seq ?_
     refine R.cd (fun hc23 => ?_) (fun hc23 => ?_)
     ·obtain ⟨x21, xs22, hd19, hx19, hds19, hlt19⟩ := drop_atI hza19 hc23
      rw [hd19] at h
      rw [s_ResourceOk_L2] at h
      refine Run.skip ?_
      refine Run.seq ?_
      refine Run.block ?_
      refine Run.sr ?_
      refine X.ix elt25 (idxL_spec hx19).1 (idxL_map int hx19) ?_
      refine X.lc shp3 ?_
      refine X.an ?_
      refine Run.sr ?_
      refine X.mv ?_
      obtain ⟨v24, hv24, h⟩ := bindE h
      refine X.cp (s_l01In_pc _ _ _ _ hv24) ?_
      refine X.un (by rfl) (by rfl) (by rfl) ?_
      refine X.nil ?_
      refine R.cd (fun hc25 => ?_) (fun hc25 => ?_)
      ·replace h := condT hc25 h
       refine Run.sr ?_
       refine X.an ?_
       cases h
       have h := hup14
       replace h := elimR h
       cases h
       have h := hup2
       replace h := elimR h
       cases h
       refine R.f1 Tryz.results62 ?_
       rfl
      ·replace h := condF hc25 h
       refine Run.skip ?_
       refine Run.blk ?_
       refine Run.reg ?_
       refine X.ad ?_
       refine X.mn ?_
       exact R.ag hag19 (n19 - 1) (z20 + 1) (R.n3 (by first | (rw [hds19]; exact h) | (dsimp only; rw [hds19]; exact h)))
     ·rw [drop_endI hza19 hc23] at h
      rw [s_ResourceOk_L2] at h
      refine Run.exit (by rfl) ?_
      exact R.mt hmeet15 () (Option.some.inj h)
    rintro p26 rfl
    replace h := elimL h
    refine Run.blk ?_
    refine Run.reg ?_
    refine X.ad ?_
    refine X.mn ?_
    exact R.ag hag7 (n7 - 1) (z8 + 1) (R.n3 (by first | (rw [hds7]; exact h) | (dsimp only; rw [hds7]; exact h)))
  ·rw [drop_endI hza7 hc11] at h
   rw [s_ResourceOk_L1] at h
   refine Run.exit (by rfl) ?_
   exact R.mt hmeet3 () (Option.some.inj h)
 rintro p28 rfl
 replace h := elimL h
 refine Run.seq ?_
 obtain ⟨v30, hv30, h⟩ := bindE h
 obtain ⟨e31, he31, h2⟩ := bindE h
 refine R.regG [(2, bool e31)] [] ?_ ?_
 ·clear h; have h := he31; clear he31 h2
  refine X.fl fld61_0 ?_
  refine X.ld shp58 ?_
  refine X.cp (s_StepsOk_pc _ _ hv30) ?_
  refine X.mv ?_
  refine X.iG (fun hb32 => ?_) (fun hb32 => ?_)
  ·replace h := condT hb32 h
   refine X.fl fld61_1 ?_
   refine X.gy ?_
   refine X.ld shp59 ?_
   refine X.gy ?_
   refine X.ls elt59 ?_
   refine X.gy ?_
   refine X.bi ?_
   refine X.gy ?_
   refine X.mv ?_
   refine X.iG (fun hb33 => ?_) (fun hb33 => ?_)
   ·replace h := condF hb33 h
    refine X.fl fld61_1 ?_
    refine X.gy ?_
    refine X.ld shp59 ?_
    refine X.gy ?_
    refine X.ls elt59 ?_
    refine X.gy ?_
    refine X.bi ?_
    refine X.gy ?_
    refine X.pF ?_
    refine X.pT ?_
    refine X.as ?_
    cases h
    exact X.eG
   ·replace h := condT hb33 h
    refine X.gn ?_
    refine X.gn ?_
    refine X.gn ?_
    refine X.gy ?_
    refine X.pT ?_
    refine X.pT ?_
    refine X.as ?_
    cases h
    exact X.eG
  ·replace h := condF hb32 h
   refine X.gn ?_
   refine X.gn ?_
   refine X.gn ?_
   refine X.gn ?_
   refine X.gU (by rfl) (by rfl) (by rfl) ?_
   refine X.gU (by rfl) (by rfl) (by rfl) ?_
   refine X.gU (by rfl) (by rfl) (by rfl) ?_
   refine X.gU (by rfl) (by rfl) (by rfl) ?_
   refine X.gn ?_
   refine X.pF ?_
   refine X.as ?_
   cases h
   exact X.eG
 replace h := h2; clear h2
 cases h
 refine R.f1 Tryz.results62 ?_
 rfl
theorem s_ProjectOk_pc (b0 : TProject) (r : Bool) (h : s_ProjectOk b0 = some r) : PC Tryz.prog 23 [eTProject b0] (bool r) := by
 unfold s_ProjectOk at h
 refine PC.start Tryz.func23 Tryz.ntmps23 rfl ok23 rfl ?_
 refine Run.sr ?_
 refine X.bx ?_
 refine X.an ?_
 refine Run.sr ?_
 refine X.fl fld34_1 ?_
 refine X.ld shp30 ?_
 refine X.ls elt30 ?_
 refine X.an ?_
 refine Run.seq ?_
 refine Run.seq ?_
 obtain ⟨v1, hv1, h⟩ := bindE h
 obtain ⟨e2, he2, h2⟩ := bindE h
 refine R.regG [(1, .lptr 64 0), (3, int (b0.Activities.length : Int)), (41, bool e2)] [(64, .blk true [int b0.Deadline, .slice (b0.Activities.map eTActivity), .slice (b0.Links.map eTLink), .slice (b0.Resources.map eTResource), .slice (b0.Stocks.map int)])] ?_ ?_
 ·clear h; have h := he2; clear he2 h2
  refine X.fl fld34_0 ?_
  refine X.ld shp3 ?_
  refine X.cp (s_l01In_pc _ _ _ _ hv1) ?_
  refine X.un (by rfl) (by rfl) (by rfl) ?_
  refine X.mv ?_
  refine X.iG (fun hb3 => ?_) (fun hb3 => ?_)
  ·replace h := condF hb3 h
   refine X.mv ?_
   refine X.gy ?_
   obtain ⟨v4, hv4, h⟩ := bindE h
   refine X.cp (s_l01In_pc _ _ _ _ hv4) ?_
   refine X.gy ?_
   refine X.un (by rfl) (by rfl) (by rfl) ?_
   refine X.pF ?_
   refine X.mv ?_
   refine X.iG (fun hb5 => ?_) (fun hb5 => ?_)
   ·replace h := condF hb5 h
    refine X.fl fld34_3 ?_
    refine X.gy ?_
    refine X.ld shp32 ?_
    refine X.gy ?_
    refine X.ls elt32 ?_
    refine X.gy ?_
    refine X.bi ?_
    refine X.pF ?_
    refine X.mv ?_
    refine X.iG (fun hb6 => ?_) (fun hb6 => ?_)
    ·replace h := condF hb6 h
     refine X.fl fld34_4 ?_
     refine X.gy ?_
     refine X.ld shp25 ?_
     refine X.gy ?_
     refine X.ls elt25 ?_
     refine X.gy ?_
     refine X.bi ?_
     refine X.pF ?_
     refine X.mv ?_
     refine X.iG (fun hb7 => ?_) (fun hb7 => ?_)
     ·replace h := condF hb7 h
      refine X.fl fld34_2 ?_
      refine X.gy ?_
      refine X.ld shp31 ?_
      refine X.gy ?_
      refine X.ls elt31 ?_
      refine X.gy ?_
      refine X.bi ?_
      refine X.pF ?_
      cases h
      exact X.eG
     ·replace h := condT hb7 h
      refine X.gn ?_
      refine X.gn ?_
      refine X.gn ?_
      refine X.pT ?_
      cases h
      exact X.eG
    ·replace h := condT hb6 h
     refine X.gn ?_
     refine X.gn ?_
     refine X.gn ?_
     refine X.pT ?_
     refine X.mv ?_
     refine X.gn ?_
     refine X.gn ?_
     refine X.gn ?_
     refine X.gn ?_
     refine X.pT ?_
     cases h
     exact X.eG
   ·replace h := condT hb5 h
    refine X.gn ?_
    refine X.gn ?_
    refine X.gn ?_
    refine X.pT ?_
    refine X.mv ?_
    refine X.gn ?_
    refine X.gn ?_
    refine X.gn ?_
    refine X.gn ?_
    refine X.pT ?_
    refine X.mv ?_
    refine X.gn ?_
    refine X.gn ?_
    refine X.gn ?_
    refine X.gn ?_
    refine X.pT ?_
    cases h
    exact X.eG
  ·replace h := condT hb3 h
   refine X.gn ?_
   refine X.gn ?_
   refine X.pT ?_
   refine X.mv ?_
   refine X.gn ?_
   refine X.gn ?_
   refine X.gn ?_
   refine X.gn ?_
   refine X.pT ?_
   refine X.mv ?_
   refine X.gn ?_
   refine X.gn ?_
   refine X.gn ?_
   refine X.gn ?_
   refine X.pT ?_
   refine X.mv ?_
   refine X.gn ?_
   refine X.gn ?_
   refine X.gn ?_
   refine X.gn ?_
   refine X.pT ?_
   cases h
   exact X.eG
 replace h := h2; clear h2
 refine R.cd (fun hc8 => ?_) (fun hc8 => ?_)
 ·replace h := condT hc8 h
  refine Run.sr ?_
  refine X.an ?_
  cases h
  refine R.f1 Tryz.results23 ?_
  rfl
 ·replace h := condF hc8 h
  refine Run.skip ?_
  refine Run.seq ?_
  refine Run.sr ?_
  refine X.fl fld34_1 ?_
  refine X.ld shp30 ?_
  refine X.ls elt30 ?_
  refine X.mn ?_
  obtain ⟨o9, ho9, h⟩ := bindE h
  refine R.join2 (β := Unit) [(1, .lptr 64 0), (3, int (b0.Activities.length : Int))] [(64, .blk true [int b0.Deadline, .slice (b0.Activities.map eTActivity), .slice (b0.Links.map eTLink), .slice (b0.Resources.map eTResource), .slice (b0.Stocks.map int)])] (fun p25 S => S) (fun p25 M => M) (fun p25 => (Sum.inl p25) = o9) ?_ ?_
  ·intro JJ12 hmeet11
   have hup10 := h; clear h; have h := ho9; clear ho9
   refine Run.block ?_
   refine R.bndS (t := 43) (by rfl) (fun hbd15 => ?_)
   replace hbd15 : b0.Activities.length ≤ 9223372036854775807 := by first | (rw [List.length_map] at hbd15; exact hbd15) | simp
   refine R.lp (β := Int) [(1, .lptr 64 0), (3, int (b0.Activities.length : Int)), (43, .slice (b0.Activities.map eTActivity)), (44, int (b0.Activities.length : Int))] [(64, .blk true [int b0.Deadline, .slice (b0.Activities.map eTActivity), .slice (b0.Links.map eTLink), .slice (b0.Resources.map eTResource), .slice (b0.Stocks.map int)])] (fun bb S => (45, int bb) :: S) (fun bb M => M) (fun n bb => 0 ≤ bb ∧ bb + n = (b0.Activities.length : Int) ∧ s_ProjectOk_L1 b0 (b0.Activities.drop bb.toNat) bb = some o9) b0.Activities.length (0 : Int) ⟨Int.le_refl _, by simp, h⟩ ?_
   clear h
   rintro JJ15 n15 z16 hag15 ⟨hza15, hzb15, h⟩
   refine Run.sr ?_
   refine X.bi ?_
   refine X.nil ?_
   refine Run.seq ?_
   refine R.cd (fun hc19 => ?_) (fun hc19 => ?_)
   ·obtain ⟨x17, xs18, hd15, hx15, hds15, hlt15⟩ := drop_atI hza15 hc19
    rw [hd15] at h
    rw [s_ProjectOk_L1] at h
    refine Run.skip ?_
    refine Run.seq ?_
    refine Run.block ?_
    refine Run.sr ?_
    refine X.mv ?_
    refine X.ix elt30 (idxL_spec hx15).1 (idxL_map eTActivity hx15) ?_
    refine X.lc shp50 ?_
    refine X.alloc zer50 (by rfl) (by rfl) (by rfl) ?_
    refine X.as ?_
    refine X.sl shp50 ?_
    refine X.nil ?_
    refine Run.seq ?_
    obtain ⟨v20, hv20, h⟩ := bindE h
    obtain ⟨e21, he21, h2⟩ := bindE h
    refine R.regG [(1, .lptr 64 0), (3, int (b0.Activities.length : Int)), (43, .slice (b0.Activities.map eTActivity)), (44, int (b0.Activities.length : Int)), (45, int z16), (66, bool e21)] [(64, .blk true [int b0.Deadline, .slice (b0.Activities.map eTActivity), .slice (b0.Links.map eTLink), .slice (b0.Resources.map eTResource), .slice (b0.Stocks.map int)])] ?_ ?_
    ·clear h; have h := he21; clear he21 h2
     refine X.ld shp50 ?_
     refine X.fl fld34_3 ?_
     refine X.ld shp32 ?_
     refine X.ls elt32 ?_
     refine X.fl fld34_4 ?_
     refine X.ld shp25 ?_
     refine X.ls elt25 ?_
     refine X.cp (s_ActivityOk_pc _ _ _ _ hv20) ?_
     refine X.un (by rfl) (by rfl) (by rfl) ?_
     refine X.mv ?_
     refine X.iG (fun hb22 => ?_) (fun hb22 => ?_)
     ·replace h := condF hb22 h
      refine X.ld shp34 ?_
      refine X.gy ?_
      refine X.fl fld50_0 ?_
      refine X.gy ?_
      refine X.ld shp9 ?_
      refine X.gy ?_
      obtain ⟨v23, hv23, h⟩ := bindE h
      refine X.cp (s_ActivityIndex_pc _ _ _ hv23) ?_
      refine X.gy ?_
      refine X.mv ?_
      refine X.gy ?_
      refine X.bi ?_
      refine X.pF ?_
      cases h
      exact X.eG
     ·replace h := condT hb22 h
      refine X.gn ?_
      refine X.gn ?_
      refine X.gn ?_
      refine X.gn ?_
      refine X.gn ?_
      refine X.pT ?_
      cases h
      exact X.eG
    replace h := h2; clear h2
    refine R.cd (fun hc24 => ?_) (fun hc24 => ?_)
    ·replace h := condT hc24 h
     refine Run.sr ?_
     refine X.an ?_
     cases h
     have h := hup10
     replace h := elimR h
     cases h
     refine R.f1 Tryz.results23 ?_
     rfl
    ·replace h := condF hc24 h
     refine Run.skip ?_
     refine Run.blk ?_
     refine Run.reg ?_
     refine X.ad ?_
     refine X.mn ?_
     exact R.ag hag15 (n15 - 1) (z16 + 1) (R.n3 (by first | (rw [hds15]; exact h) | (dsimp only; rw [hds15]; exact h)))
   ·rw [drop_endI hza15 hc19] at h
    rw [s_ProjectOk_L1] at h
    refine Run.exit (by rfl) ?_
    exact R.mt hmeet11 () (Option.some.inj h)
  rintro p25 rfl
  replace h := elimL h
  refine Run.seq ?_
  refine Run.sr ?_
  refine X.fl fld34_3 ?_
  refine X.ld shp32 ?_
  refine X.ls elt32 ?_
  refine X.mn ?_
  obtain ⟨o27, ho27, h⟩ := bindE h
  refine R.join2 (β := Unit) [(1, .lptr 64 0), (3, int (b0.Activities.length : Int))] [(64, .blk true [int b0.Deadline, .slice (b0.Activities.map eTActivity), .slice (b0.Links.map eTLink), .slice (b0.Resources.map eTResource), .slice (b0.Stocks.map int)])] (fun p40 S => S) (fun p40 M => M) (fun p40 => (Sum.inl p40) = o27) ?_ ?_
  ·intro JJ30 hmeet29
   have hup28 := h; clear h; have h := ho27; clear ho27
   refine Run.block ?_
   refine R.bndS (t := 69) (by rfl) (fun hbd33 => ?_)
   replace hbd33 : b0.Resources.length ≤ 9223372036854775807 := by first | (rw [List.length_map] at hbd33; exact hbd33) | simp
   refine R.lp (β := Int) [(1, .lptr 64 0), (3, int (b0.Activities.length : Int)), (69, .slice (b0.Resources.map eTResource)), (70, int (b0.Resources.length : Int))] [(64, .blk true [int b0.Deadline, .slice (b0.Activities.map eTActivity), .slice (b0.Links.map eTLink), .slice (b0.Resources.map eTResource), .slice (b0.Stocks.map int)])] (fun bb S => (71, int bb) :: S) (fun bb M => M) (fun n bb => 0 ≤ bb ∧ bb + n = (b0.Resources.length : Int) ∧ s_ProjectOk_L2 (b0.Resources.drop bb.toNat) bb = some o27) b0.Resources.length (0 : Int) ⟨Int.le_refl _, by simp, h⟩ ?_
   clear h
   rintro JJ33 n33 z34 hag33 ⟨hza33, hzb33, h⟩
   refine Run.sr ?_
   refine X.bi ?_
   refine X.nil ?_
   refine Run.seq ?_
   refine R.cd (fun hc37 => ?_) (fun hc37 => ?_)
   ·obtain ⟨x35, xs36, hd33, hx33, hds33, hlt33⟩ := drop_atI hza33 hc37
    rw [hd33] at h
    rw [s_ProjectOk_L2] at h
    refine Run.skip ?_
    refine Run.seq ?_
    refine Run.block ?_
    refine Run.sr ?_
    refine X.ix elt32 (idxL_spec hx33).1 (idxL_map eTResource hx33) ?_
    refine X.lc shp61 ?_
    refine X.alloc zer61 (by rfl) (by rfl) (by rfl) ?_
    refine X.sl shp61 ?_
    refine X.nil ?_
    refine Run.sr ?_
    refine X.ld shp61 ?_
    obtain ⟨v38, hv38, h⟩ := bindE h
    refine X.cp (s_ResourceOk_pc _ _ hv38) ?_
    refine X.un (by rfl) (by rfl) (by rfl) ?_
    refine X.nil ?_
    refine R.cd (fun hc39 => ?_) (fun hc39 => ?_)
    ·replace h := condT hc39 h
     refine Run.sr ?_
     refine X.an ?_
     cases h
     have h := hup28
     replace h := elimR h
     cases h
     refine R.f1 Tryz.results23 ?_
     rfl
    ·replace h := condF hc39 h
     refine Run.skip ?_
     refine Run.blk ?_
     refine Run.reg ?_
     refine X.ad ?_
     refine X.mn ?_
     exact R.ag hag33 (n33 - 1) (z34 + 1) (R.n3 (by first | (rw [hds33]; exact h) | (dsimp only; rw [hds33]; exact h)))
   ·rw [drop_endI hza33 hc37] at h
    rw [s_ProjectOk_L2] at h
    refine Run.exit (by rfl) ?_
    exact R.mt hmeet29 () (Option.some.inj h)
  rintro p40 rfl
  replace h := elimL h
  refine Run.seq ?_
  refine Run.sr ?_
  refine X.fl fld34_4 ?_
  refine X.ld shp25 ?_
  refine X.ls elt25 ?_
  refine X.mn ?_
  obtain ⟨o42, ho42, h⟩ := bindE h
  refine R.join2 (β := Unit) [(1, .lptr 64 0), (3, int (b0.Activities.length : Int))] [(64, .blk true [int b0.Deadline, .slice (b0.Activities.map eTActivity), .slice (b0.Links.map eTLink), .slice (b0.Resources.map eTResource), .slice (b0.Stocks.map int)])] (fun p55 S => S) (fun p55 M => M) (fun p55 => (Sum.inl p55) = o42) ?_ ?_
  ·intro JJ45 hmeet44
   have hup43 := h; clear h; have h := ho42; clear ho42
   refine Run.block ?_
   refine R.bndS (t := 80) (by rfl) (fun hbd48 => ?_)
   replace hbd48 : b0.Stocks.length ≤ 9223372036854775807 := by first | (rw [List.length_map] at hbd48; exact hbd48) | simp
   refine R.lp (β := Int) [(1, .lptr 64 0), (3, int (b0.Activities.length : Int)), (80, .slice (b0.Stocks.map int)), (81, int (b0.Stocks.length : Int))] [(64, .blk true [int b0.Deadline, .slice (b0.Activities.map eTActivity), .slice (b0.Links.map eTLink), .slice (b0.Resources.map eTResource), .slice (b0.Stocks.map int)])] (fun bb S => (82, int bb) :: S) (fun bb M => M) (fun n bb => 0 ≤ bb ∧ bb + n = (b0.Stocks.length : Int) ∧ s_ProjectOk_L3 (b0.Stocks.drop bb.toNat) bb = some o42) b0.Stocks.length (0 : Int) ⟨Int.le_refl _, by simp, h⟩ ?_
   clear h
   rintro JJ48 n48 z49 hag48 ⟨hza48, hzb48, h⟩
   refine Run.sr ?_
   refine X.bi ?_
   refine X.nil ?_
   refine Run.seq ?_
   refine R.cd (fun hc52 => ?_) (fun hc52 => ?_)
   ·obtain ⟨x50, xs51, hd48, hx48, hds48, hlt48⟩ := drop_atI hza48 hc52
    rw [hd48] at h
    rw [s_ProjectOk_L3] at h
    refine Run.skip ?_
    refine Run.seq ?_
    refine Run.block ?_
    refine Run.sr ?_
    refine X.ix elt25 (idxL_spec hx48).1 (idxL_map int hx48) ?_
    refine X.lc shp3 ?_
    refine X.an ?_
    refine Run.sr ?_
    refine X.mv ?_
    obtain ⟨v53, hv53, h⟩ := bindE h
    refine X.cp (s_l01In_pc _ _ _ _ hv53) ?_
    refine X.un (by rfl) (by rfl) (by rfl) ?_
    refine X.nil ?_
    refine R.cd (fun hc54 => ?_) (fun hc54 => ?_)
    ·replace h := condT hc54 h
     refine Run.sr ?_
     refine X.an ?_
     cases h
     have h := hup43
     replace h := elimR h
     cases h
     refine R.f1 Tryz.results23 ?_
     rfl
    ·replace h := condF hc54 h
     refine Run.skip ?_
     refine Run.blk ?_
     refine Run.reg ?_
     refine X.ad ?_
     refine X.mn ?_
     exact R.ag hag48 (n48 - 1) (z49 + 1) (R.n3 (by first | (rw [hds48]; exact h) | (dsimp only; rw [hds48]; exact h)))
   ·rw [drop_endI hza48 hc52] at h
    rw [s_ProjectOk_L3] at h
    refine Run.exit (by rfl) ?_
    exact R.mt hmeet44 () (Option.some.inj h)
  rintro p55 rfl
  replace h := elimL h
  refine Run.seq ?_
  refine Run.sr ?_
  refine X.fl fld34_2 ?_
  refine X.ld shp31 ?_
  refine X.ls elt31 ?_
  refine X.mn ?_
  obtain ⟨o57, ho57, h⟩ := bindE h
  refine R.join2 (β := Unit) [] [] (fun p76 S => S) (fun p76 M => M) (fun p76 => (Sum.inl p76) = o57) ?_ ?_
  ·intro JJ60 hmeet59
   have hup58 := h; clear h; have h := ho57; clear ho57
   refine Run.block ?_
   refine R.bndS (t := 91) (by rfl) (fun hbd63 => ?_)
   replace hbd63 : b0.Links.length ≤ 9223372036854775807 := by first | (rw [List.length_map] at hbd63; exact hbd63) | simp
   refine R.lp (β := Int) [(3, int (b0.Activities.length : Int)), (91, .slice (b0.Links.map eTLink)), (92, int (b0.Links.length : Int))] [] (fun bb S => (93, int bb) :: S) (fun bb M => M) (fun n bb => 0 ≤ bb ∧ bb + n = (b0.Links.length : Int) ∧ s_ProjectOk_L4 b0 (b0.Links.drop bb.toNat) bb = some o57) b0.Links.length (0 : Int) ⟨Int.le_refl _, by simp, h⟩ ?_
   clear h
   rintro JJ63 n63 z64 hag63 ⟨hza63, hzb63, h⟩
   refine Run.sr ?_
   refine X.bi ?_
   refine X.nil ?_
   refine Run.seq ?_
   refine R.cd (fun hc67 => ?_) (fun hc67 => ?_)
   ·obtain ⟨x65, xs66, hd63, hx63, hds63, hlt63⟩ := drop_atI hza63 hc67
    rw [hd63] at h
    rw [s_ProjectOk_L4] at h
    refine Run.skip ?_
    refine Run.seq ?_
    refine Run.block ?_
    refine Run.sr ?_
    refine X.ix elt31 (idxL_spec hx63).1 (idxL_map eTLink hx63) ?_
    refine X.lc shp87 ?_
    refine X.alloc zer87 (by rfl) (by rfl) (by rfl) ?_
    refine X.sl shp87 ?_
    refine X.nil ?_
    refine Run.seq ?_
    obtain ⟨v68, hv68, h⟩ := bindE h
    obtain ⟨e69, he69, h2⟩ := bindE h
    refine R.regG [(3, int (b0.Activities.length : Int)), (91, .slice (b0.Links.map eTLink)), (92, int (b0.Links.length : Int)), (93, int z64), (123, bool e69)] [] ?_ ?_
    ·clear h; have h := he69; clear he69 h2
     refine X.fl fld87_0 ?_
     refine X.ld shp3 ?_
     refine X.mv ?_
     refine X.subW (by rfl) (by rfl) (by rfl) ?_
     refine X.cp (s_l01In_pc _ _ _ _ hv68) ?_
     refine X.un (by rfl) (by rfl) (by rfl) ?_
     refine X.mv ?_
     refine X.iG (fun hb70 => ?_) (fun hb70 => ?_)
     ·replace h := condF hb70 h
      refine X.fl fld87_1 ?_
      refine X.gy ?_
      refine X.ld shp3 ?_
      refine X.gy ?_
      refine X.mv ?_
      refine X.gy ?_
      refine X.subW (by rfl) (by rfl) (by rfl) ?_
      refine X.gy ?_
      obtain ⟨v71, hv71, h⟩ := bindE h
      refine X.cp (s_l01In_pc _ _ _ _ hv71) ?_
      refine X.gy ?_
      refine X.un (by rfl) (by rfl) (by rfl) ?_
      refine X.pF ?_
      refine X.mv ?_
      refine X.iG (fun hb72 => ?_) (fun hb72 => ?_)
      ·replace h := condF hb72 h
       refine X.fl fld87_0 ?_
       refine X.gy ?_
       refine X.ld shp3 ?_
       refine X.gy ?_
       refine X.fl fld87_1 ?_
       refine X.gy ?_
       refine X.ld shp3 ?_
       refine X.gy ?_
       refine X.bi ?_
       refine X.pF ?_
       refine X.mv ?_
       refine X.iG (fun hb73 => ?_) (fun hb73 => ?_)
       ·replace h := condF hb73 h
        refine X.fl fld87_3 ?_
        refine X.gy ?_
        refine X.ld shp3 ?_
        refine X.gy ?_
        obtain ⟨v74, hv74, h⟩ := bindE h
        refine X.cp (s_l01In_pc _ _ _ _ hv74) ?_
        refine X.gy ?_
        refine X.un (by rfl) (by rfl) (by rfl) ?_
        refine X.pF ?_
        cases h
        exact X.eG
       ·replace h := condT hb73 h
        refine X.gn ?_
        refine X.gn ?_
        refine X.gn ?_
        refine X.pT ?_
        cases h
        exact X.eG
      ·replace h := condT hb72 h
       refine X.gn ?_
       refine X.gn ?_
       refine X.gn ?_
       refine X.gn ?_
       refine X.pT ?_
       refine X.mv ?_
       refine X.gn ?_
       refine X.gn ?_
       refine X.gn ?_
       refine X.gn ?_
       refine X.pT ?_
       cases h
       exact X.eG
     ·replace h := condT hb70 h
      refine X.gn ?_
      refine X.gn ?_
      refine X.gn ?_
      refine X.gn ?_
      refine X.gn ?_
      refine X.pT ?_
      refine X.mv ?_
      refine X.gn ?_
      refine X.gn ?_
      refine X.gn ?_
      refine X.gn ?_
      refine X.gn ?_
      refine X.pT ?_
      refine X.mv ?_
      refine X.gn ?_
      refine X.gn ?_
      refine X.gn ?_
      refine X.gn ?_
      refine X.pT ?_
      cases h
      exact X.eG
    replace h := h2; clear h2
    refine R.cd (fun hc75 => ?_) (fun hc75 => ?_)
    ·replace h := condT hc75 h
     refine Run.sr ?_
     refine X.an ?_
     cases h
     have h := hup58
     replace h := elimR h
     cases h
     refine R.f1 Tryz.results23 ?_
     rfl
    ·replace h := condF hc75 h
     refine Run.skip ?_
     refine Run.blk ?_
     refine Run.reg ?_
     refine X.ad ?_
     refine X.mn ?_
     exact R.ag hag63 (n63 - 1) (z64 + 1) (R.n3 (by first | (rw [hds63]; exact h) | (dsimp only; rw [hds63]; exact h)))
   ·rw [drop_endI hza63 hc67] at h
    rw [s_ProjectOk_L4] at h
    refine Run.exit (by rfl) ?_
    exact R.mt hmeet59 () (Option.some.inj h)
  rintro p76 rfl
  replace h := elimL h
  refine Run.sr ?_
  refine X.an ?_
  cases h
  refine R.f1 Tryz.results23 ?_
  rfl
theorem s_IntRange_pc (b0 : Int) (r : List Int) (h : s_IntRange b0 = some r) : PC Tryz.prog 66 [int b0] (.fresh false 3 1 (r.map int)) := by
 unfold s_IntRange at h
 refine PC.start Tryz.func66 Tryz.ntmps66 rfl ok66 rfl ?_
 refine Run.sr ?_
 refine X.an ?_
 refine Run.sr ?_
 refine X.buildSlice false elt25 zer3 (by rfl) (by rfl) (by rfl) (by rfl) (by rfl) (by rfl) (by repeat (first | trivial | refine ⟨by first | rfl | simp [setL], ?_⟩)) (allSz_spec (by rfl)) (by rfl) (by rfl) (by rfl) ?_
 refine X.an ?_
 refine Run.seq ?_
 refine Run.sr ?_
 refine X.mv ?_
 obtain ⟨v1, hv1, h⟩ := bindE h
 refine X.cp (s_l01In_pc _ _ _ _ hv1) ?_
 refine X.un (by rfl) (by rfl) (by rfl) ?_
 refine X.nil ?_
 refine R.cd (fun hc2 => ?_) (fun hc2 => ?_)
 ·replace h := condT hc2 h
  refine Run.sr ?_
  refine X.an ?_
  cases h
  refine R.fin1n (x := false) (e := 3) (sz := 1) Tryz.results66 (by rfl) (by decide) ?_
  rfl
 ·replace h := condF hc2 h
  refine Run.skip ?_
  refine Run.seq ?_
  refine Run.sr ?_
  refine X.an ?_
  obtain ⟨o3, ho3, h⟩ := bindE h
  refine R.join2 (β := (List Int)) [] [] (fun p15 S => (3, .own 320 (p15.map int).length) :: S) (fun p15 M => (320, .obj false 3 1 (p15.map int)) :: M) (fun p15 => p15 = o3) ?_ ?_
  ·intro JJ6 hmeet5
   have hup4 := h; clear h; have h := ho3; clear ho3
   refine Run.block ?_
   refine R.lp (β := Int × (List Int)) [(0, int b0)] [] (fun bb S => (3, .own 320 (bb.2.map int).length) :: (4, int bb.1) :: S) (fun bb M => (320, .obj false 3 1 (bb.2.map int)) :: M) (fun n bb => s_IntRange_L1 b0 n bb.1 bb.2 = some o3) F0 (0, ([] : List Int)) h ?_
   clear h
   rintro JJ7 n7 ⟨a9, a10⟩ hag7 h
   dsimp only at h
   obtain _ | n7 := n7
   ·exact absurd h (by simp [s_IntRange_L1])
   rw [s_IntRange_L1] at h
   refine Run.seq ?_
   refine Run.sr ?_
   refine X.mv ?_
   refine X.mv ?_
   refine X.bi ?_
   refine X.nil ?_
   refine R.cd (fun hc13 => ?_) (fun hc13 => ?_)
   ·replace h := condT hc13 h
    refine Run.skip ?_
    refine Run.seq ?_
    refine Run.block ?_
    refine Run.reg ?_
    refine X.mv ?_
    refine X.mv ?_
    refine X.buildSlice false elt25 zer3 (by rfl) (by rfl) (by rfl) (by rfl) (by rfl) (by rfl) (by repeat (first | trivial | refine ⟨by first | rfl | simp [setL], ?_⟩)) (allSz_spec (by rfl)) (by rfl) (by rfl) (by rfl) ?_
    obtain ⟨v14, hv14, h⟩ := bindE h
    refine X.append elt25 zer3 (by rfl) (by rfl) (by first | rfl | simp [setL] | omega) (by rfl) (.own _ _ _ _ _ _ (look_mem (by rfl)) (by first | rfl | simp [setL] | omega)) (allSz_spec (by rfl)) (appL_len int hv14) (appL_map int hv14) (by rfl) (by rfl) (by rfl) (by rfl) ?_
    refine X.an ?_
    refine Run.blk ?_
    refine Run.reg ?_
    refine X.mv ?_
    refine X.addW (by rfl) (by rfl) (by rfl) ?_
    refine X.an ?_
    exact hag7 n7 ((W (a9 + 1)), v14) _ _ (by omega) h (by repeat (first | trivial | refine ⟨by first | rfl | simp [setL], ?_⟩)) (by repeat (first | trivial | refine ⟨by first | rfl | simp [setL], ?_⟩)) (by rfl) (by rfl)
   ·replace h := condF hc13 h
    refine Run.exit (by rfl) ?_
    exact R.mt hmeet5 a10 (Option.some.inj h)
  rintro p15 rfl
  refine Run.sr ?_
  refine X.mv ?_
  refine X.an ?_
  cases h
  refine R.fin1o Tryz.results66 (by rfl) (by rfl) (by first | rfl | simp [setL] | omega) ?_
  rfl
theorem s_ModeIndexes_pc (b0 : TActivity) (r : List Int) (h : s_ModeIndexes b0 = some r) : PC Tryz.prog 27 [eTActivity b0] (.fresh false 3 1 (r.map int)) := by
 unfold s_ModeIndexes at h
 refine PC.start Tryz.func27 Tryz.ntmps27 rfl ok27 rfl ?_
 refine Run.sr ?_
 refine X.bx ?_
 refine X.an ?_
 refine Run.sr ?_
 refine X.fl fld50_2 ?_
 refine X.ld shp48 ?_
 refine X.ls elt48 ?_
 obtain ⟨v1, hv1, h⟩ := bindE h
 refine X.callF (s_IntRange_pc _ _ hv1) (by rfl) (by rfl) (by rfl) (by trivial) (by rfl) (by rfl) (by rfl) (by rfl) ?_
 refine X.an ?_
 cases h
 refine R.fin1o Tryz.results27 (by rfl) (by rfl) (by first | rfl | simp [setL] | omega) ?_
 rfl
theorem s_SetHas_pc (b0 : List Int) (b1 : Int) (r : Bool) (h : s_SetHas b0 b1 = some r) : PC Tryz.prog 116 [.slice (b0.map int), int b1] (bool r) := by
 unfold s_SetHas at h
 refine PC.start Tryz.func116 Tryz.ntmps116 rfl ok116 rfl ?_
 refine Run.sr ?_
 refine X.an ?_
 refine Run.seq ?_
 refine Run.sr ?_
 refine X.mv ?_
 refine X.ls elt25 ?_
 refine X.mn ?_
 obtain ⟨o1, ho1, h⟩ := bindE h
 refine R.join2 (β := Unit) [] [] (fun p13 S => S) (fun p13 M => M) (fun p13 => (Sum.inl p13) = o1) ?_ ?_
 ·intro JJ4 hmeet3
  have hup2 := h; clear h; have h := ho1; clear ho1
  refine Run.block ?_
  refine R.bndS (t := 0) (by rfl) (fun hbd7 => ?_)
  replace hbd7 : b0.length ≤ 9223372036854775807 := by first | (rw [List.length_map] at hbd7; exact hbd7) | simp
  refine R.lp (β := Int) [(1, int b1), (7, .slice (b0.map int)), (8, int (b0.length : Int))] [] (fun bb S => (9, int bb) :: S) (fun bb M => M) (fun n bb => 0 ≤ bb ∧ bb + n = (b0.length : Int) ∧ s_SetHas_L1 b1 (b0.drop bb.toNat) bb = some o1) b0.length (0 : Int) ⟨Int.le_refl _, by simp, h⟩ ?_
  clear h
  rintro JJ7 n7 z8 hag7 ⟨hza7, hzb7, h⟩
  refine Run.sr ?_
  refine X.bi ?_
  refine X.nil ?_
  refine Run.seq ?_
  refine R.cd (fun hc11 => ?_) (fun hc11 => ?_)
  ·obtain ⟨x9, xs10, hd7, hx7, hds7, hlt7⟩ := drop_atI hza7 hc11
   rw [hd7] at h
   rw [s_SetHas_L1] at h
   refine Run.skip ?_
   refine Run.seq ?_
   refine Run.block ?_
   refine Run.sr ?_
   refine X.ix elt25 (idxL_spec hx7).1 (idxL_map int hx7) ?_
   refine X.lc shp3 ?_
   refine X.an ?_
   refine Run.sr ?_
   refine X.mv ?_
   refine X.mv ?_
   refine X.bi ?_
   refine X.nil ?_
   refine R.cd (fun hc12 => ?_) (fun hc12 => ?_)
   ·replace h := condT hc12 h
    refine Run.sr ?_
    refine X.an ?_
    cases h
    have h := hup2
    replace h := elimR h
    cases h
    refine R.f1 Tryz.results116 ?_
    rfl
   ·replace h := condF hc12 h
    refine Run.skip ?_
    refine Run.blk ?_
    refine Run.reg ?_
    refine X.ad ?_
    refine X.mn ?_
    exact R.ag hag7 (n7 - 1) (z8 + 1) (R.n3 (by first | (rw [hds7]; exact h) | (dsimp only; rw [hds7]; exact h)))
  ·rw [drop_endI hza7 hc11] at h
   rw [s_SetHas_L1] at h
   refine Run.exit (by rfl) ?_
   exact R.mt hmeet3 () (Option.some.inj h)
 rintro p13 rfl
 replace h := elimL h
 refine Run.sr ?_
 refine X.an ?_
 cases h
 refine R.f1 Tryz.results116 ?_
 rfl
theorem s_MinDuration_pc (b0 : TActivity) (b1 : List Int) (r : Int) (h : s_MinDuration b0 b1 = some r) : PC Tryz.prog 115 [eTActivity b0, .slice (b1.map int)] (int r) := by
 unfold s_MinDuration at h
 refine PC.start Tryz.func115 Tryz.ntmps115 rfl ok115 rfl ?_
 refine Run.sr ?_
 refine X.bx ?_
 refine X.an ?_
 refine Run.sr ?_
 refine X.an ?_
 refine Run.sr ?_
 refine X.an ?_
 refine Run.seq ?_
 refine Run.sr ?_
 refine X.fl fld50_2 ?_
 refine X.ld shp48 ?_
 refine X.ls elt48 ?_
 refine X.mn ?_
 obtain ⟨o1, ho1, h⟩ := bindE h
 refine R.join2 (β := Int) [] [] (fun p19 S => (5, int p19) :: S) (fun p19 M => M) (fun p19 => p19 = o1) ?_ ?_
 ·intro JJ4 hmeet3
  have hup2 := h; clear h; have h := ho1; clear ho1
  refine Run.block ?_
  refine R.bndS (t := 10) (by rfl) (fun hbd7 => ?_)
  replace hbd7 : b0.Modes.length ≤ 9223372036854775807 := by first | (rw [List.length_map] at hbd7; exact hbd7) | simp
  refine R.lp (β := Int × Int × Bool) [(1, .slice (b1.map int)), (10, .slice (b0.Modes.map eTMode)), (11, int (b0.Modes.length : Int))] [] (fun bb S => (5, int bb.2.1) :: (6, bool bb.2.2) :: (12, int bb.1) :: S) (fun bb M => M) (fun n bb => 0 ≤ bb.1 ∧ bb.1 + n = (b0.Modes.length : Int) ∧ s_MinDuration_L1 b1 (b0.Modes.drop bb.1.toNat) bb.1 bb.2.1 bb.2.2 = some o1) b0.Modes.length (0, 0, false) ⟨Int.le_refl _, by simp, h⟩ ?_
  clear h
  rintro JJ7 n7 ⟨z8, a9, a10⟩ hag7 ⟨hza7, hzb7, h⟩
  dsimp only at hza7 hzb7 h
  refine Run.sr ?_
  refine X.bi ?_
  refine X.nil ?_
  refine Run.seq ?_
  refine R.cd (fun hc13 => ?_) (fun hc13 => ?_)
  ·obtain ⟨x11, xs12, hd7, hx7, hds7, hlt7⟩ := drop_atI hza7 hc13
   rw [hd7] at h
   rw [s_MinDuration_L1] at h
   refine Run.skip ?_
   refine Run.seq ?_
   refine Run.block ?_
   refine Run.sr ?_
   refine X.mv ?_
   refine X.ix elt48 (idxL_spec hx7).1 (idxL_map eTMode hx7) ?_
   refine X.lc shp100 ?_
   refine X.alloc zer100 (by rfl) (by rfl) (by rfl) ?_
   refine X.as ?_
   refine X.sl shp100 ?_
   refine X.nil ?_
   refine Run.seq ?_
   obtain ⟨v14, hv14, h⟩ := bindE h
   obtain ⟨e15, he15, h2⟩ := bindE h
   refine R.regG [(1, .slice (b1.map int)), (5, int a9), (6, bool a10), (8, .lptr 512 0), (10, .slice (b0.Modes.map eTMode)), (11, int (b0.Modes.length : Int)), (12, int z8), (29, bool e15)] [(512, .blk true [int x11.Duration, .slice (x11.Usage.map int), .slice (x11.Consumption.map int)])] ?_ ?_
   ·clear h; have h := he15; clear he15 h2
    refine X.mv ?_
    refine X.mv ?_
    refine X.cp (s_SetHas_pc _ _ _ hv14) ?_
    refine X.mv ?_
    refine X.iG (fun hb16 => ?_) (fun hb16 => ?_)
    ·replace h := condT hb16 h
     refine X.mv ?_
     refine X.gy ?_
     refine X.un (by rfl) (by rfl) (by rfl) ?_
     refine X.gy ?_
     refine X.mv ?_
     refine X.iG (fun hb17 => ?_) (fun hb17 => ?_)
     ·replace h := condF hb17 h
      refine X.fl fld100_0 ?_
      refine X.gy ?_
      refine X.ld shp3 ?_
      refine X.gy ?_
      refine X.mv ?_
      refine X.gy ?_
      refine X.bi ?_
      refine X.gy ?_
      refine X.pF ?_
      refine X.pT ?_
      cases h
      exact X.eG
     ·replace h := condT hb17 h
      refine X.gn ?_
      refine X.gn ?_
      refine X.gn ?_
      refine X.gy ?_
      refine X.pT ?_
      refine X.pT ?_
      cases h
      exact X.eG
    ·replace h := condF hb16 h
     refine X.gn ?_
     refine X.gn ?_
     refine X.gU (by rfl) (by rfl) (by rfl) ?_
     refine X.gU (by rfl) (by rfl) (by rfl) ?_
     refine X.gU (by rfl) (by rfl) (by rfl) ?_
     refine X.gU (by rfl) (by rfl) (by rfl) ?_
     refine X.gn ?_
     refine X.pF ?_
     cases h
     exact X.eG
   replace h := h2; clear h2
   refine R.cd (fun hc18 => ?_) (fun hc18 => ?_)
   ·replace h := condT hc18 h
    refine Run.sr ?_
    refine X.fl fld100_0 ?_
    refine X.ld shp3 ?_
    refine X.an ?_
    refine Run.reg ?_
    refine X.an ?_
    refine Run.blk ?_
    refine Run.reg ?_
    refine X.ad ?_
    refine X.mn ?_
    exact R.ag hag7 (n7 - 1) (z8 + 1, x11.Duration, true) (R.n3 (by first | (rw [hds7]; exact h) | (dsimp only; rw [hds7]; exact h)))
   ·replace h := condF hc18 h
    refine Run.skip ?_
    refine Run.blk ?_
    refine Run.reg ?_
    refine X.ad ?_
    refine X.mn ?_
    exact R.ag hag7 (n7 - 1) (z8 + 1, a9, a10) (R.n3 (by first | (rw [hds7]; exact h) | (dsimp only; rw [hds7]; exact h)))
  ·rw [drop_endI hza7 hc13] at h
   rw [s_MinDuration_L1] at h
   refine Run.exit (by rfl) ?_
   exact R.mt hmeet3 a9 (Option.some.inj h)
 rintro p19 rfl
 refine Run.sr ?_
 refine X.mv ?_
 refine X.an ?_
 cases h
 refine R.f1 Tryz.results115 ?_
 rfl
theorem s_l07Gap_pc (b0 : TProject) (b1 : Int) (b2 : List Int) (r : Int) (h : s_l07Gap b0 b1 b2 = some r) : PC Tryz.prog 166 [eTProject b0, int b1, .slice (b2.map int)] (int r) := by
 unfold s_l07Gap at h
 refine PC.start Tryz.func166 Tryz.ntmps166 rfl ok166 rfl ?_
 refine Run.sr ?_
 refine X.bx ?_
 refine X.an ?_
 refine Run.sr ?_
 refine X.fl fld34_2 ?_
 refine X.ld shp31 ?_
 refine X.mv ?_
 obtain ⟨v1, hv1, h⟩ := bindE h
 refine X.ix elt31 (idxL_spec hv1).1 (idxL_map eTLink hv1) ?_
 refine X.lc shp87 ?_
 refine X.alloc zer87 (by rfl) (by rfl) (by rfl) ?_
 refine X.sl shp87 ?_
 refine X.nil ?_
 refine Run.seq ?_
 refine Run.sr ?_
 refine X.fl fld87_2 ?_
 refine X.ld shp4 ?_
 refine X.nil ?_
 refine R.cd (fun hc2 => ?_) (fun hc2 => ?_)
 ·replace h := condT hc2 h
  refine Run.seq ?_
  refine Run.draw (footOf [(1, ([448], [], [], [])), (3, ([192], [], [], [])), (5, ([448], [], [], []))]) mixed (by kernel_rfl) (by kernel_rfl) ?_
  refine X.fl fld87_3 ?_
  refine X.ld shp3 ?_
  refine X.fl fld34_1 ?_
  refine X.ld shp30 ?_
  refine X.fl fld87_0 ?_
  refine X.ld shp3 ?_
  obtain ⟨v3, hv3, h⟩ := bindE h
  refine X.ix elt30 (idxL_spec hv3).1 (idxL_map eTActivity hv3) ?_
  refine X.lc shp50 ?_
  refine X.mv ?_
  obtain ⟨v4, hv4, h⟩ := bindE h
  refine X.cp (s_MinDuration_pc _ _ _ hv4) ?_
  refine X.addW (by rfl) (by rfl) (by rfl) ?_
  refine X.an ?_
  cases h
  refine R.f1 Tryz.results166 ?_
  rfl
 ·replace h := condF hc2 h
  refine Run.skip ?_
  refine Run.sr ?_
  refine X.fl fld87_3 ?_
  refine X.ld shp3 ?_
  refine X.an ?_
  cases h
  refine R.f1 Tryz.results166 ?_
  rfl
theorem s_l07All_pc (b0 : TProject) (b1 : Int) (r : Int) (h : s_l07All b0 b1 = some r) : PC Tryz.prog 152 [eTProject b0, int b1] (int r) := by
 unfold s_l07All at h
 refine PC.start Tryz.func152 Tryz.ntmps152 rfl ok152 rfl ?_
 refine Run.sr ?_
 refine X.bx ?_
 refine X.an ?_
 refine Run.seq ?_
 refine Run.draw (footOf [(0, ([128], [], [], [])), (3, ([128], [], [], [])), (5, ([128], [], [], [])), (12, ([], [1088], [], [])), (13, ([1088], [], [], []))]) mixed (by kernel_rfl) (by kernel_rfl) ?_
 refine X.ld shp34 ?_
 refine X.mv ?_
 refine X.fl fld34_1 ?_
 refine X.ld shp30 ?_
 refine X.fl fld34_2 ?_
 refine X.ld shp31 ?_
 refine X.mv ?_
 obtain ⟨v1, hv1, h⟩ := bindE h
 refine X.ix elt31 (idxL_spec hv1).1 (idxL_map eTLink hv1) ?_
 refine X.fieldAddr_c fld87_0 (by rfl) (by rfl) ?_
 refine X.lc shp3 ?_
 obtain ⟨v2, hv2, h⟩ := bindE h
 refine X.ix elt30 (idxL_spec hv2).1 (idxL_map eTActivity hv2) ?_
 refine X.lc shp50 ?_
 obtain ⟨v3, hv3, h⟩ := bindE h
 refine X.callF (s_ModeIndexes_pc _ _ hv3) (by rfl) (by rfl) (by rfl) (by trivial) (by rfl) (by rfl) (by rfl) (by rfl) ?_
 obtain ⟨v4, hv4, h⟩ := bindE h
 refine X.cp (s_l07Gap_pc _ _ _ _ hv4) ?_
 refine X.an ?_
 cases h
 refine R.f1 Tryz.results152 ?_
 rfl
theorem s_l07Ring_S_pc (rec : TProject → (List Int) → Int → Option (List Int)) (hrec : ∀ (b0 : TProject) (b1 : List Int) (b2 : Int) (r : List Int), rec b0 b1 b2 = some r → PC Tryz.prog 151 [eTProject b0, .slice (b1.map int), int b2] (.slice (r.map int))) (b0 : TProject) (b1 : List Int) (b2 : Int) (r : List Int) (h : s_l07Ring_S rec b0 b1 b2 = some r) : PC Tryz.prog 151 [eTProject b0, .slice (b1.map int), int b2] (.slice (r.map int)) := by
 unfold s_l07Ring_S at h
 refine PC.start Tryz.func151 Tryz.ntmps151 rfl ok151 rfl ?_
 refine Run.sr ?_
 refine X.bx ?_
 refine X.an ?_
 refine Run.seq ?_
 refine Run.draw (footOf [(1, ([192], [], [], []))]) mixed (by kernel_rfl) (by kernel_rfl) ?_
 refine X.fl fld34_2 ?_
 refine X.ld shp31 ?_
 refine X.mv ?_
 obtain ⟨v1, hv1, h⟩ := bindE h
 refine X.ix elt25 (idxL_spec hv1).1 (idxL_map int hv1) ?_
 refine X.lc shp3 ?_
 obtain ⟨v2, hv2, h⟩ := bindE h
 refine X.ix elt31 (idxL_spec hv2).1 (idxL_map eTLink hv2) ?_
 refine X.fieldAddr_c fld87_0 (by rfl) (by rfl) ?_
 refine X.lc shp3 ?_
 refine X.an ?_
 refine Run.seq ?_
 refine Run.draw (footOf [(1, ([192], [], [], []))]) mixed (by kernel_rfl) (by kernel_rfl) ?_
 refine X.fl fld34_2 ?_
 refine X.ld shp31 ?_
 refine X.mv ?_
 refine X.mv ?_
 refine X.ls elt25 ?_
 refine X.subW (by rfl) (by rfl) (by rfl) ?_
 obtain ⟨v3, hv3, h⟩ := bindE h
 refine X.ix elt25 (idxL_spec hv3).1 (idxL_map int hv3) ?_
 refine X.lc shp3 ?_
 obtain ⟨v4, hv4, h⟩ := bindE h
 refine X.ix elt31 (idxL_spec hv4).1 (idxL_map eTLink hv4) ?_
 refine X.fieldAddr_c fld87_1 (by rfl) (by rfl) ?_
 refine X.lc shp3 ?_
 refine X.an ?_
 refine Run.seq ?_
 refine Run.sr ?_
 refine X.mv ?_
 refine X.mv ?_
 refine X.bi ?_
 refine X.nil ?_
 refine R.cd (fun hc5 => ?_) (fun hc5 => ?_)
 ·replace h := condT hc5 h
  refine Run.sr ?_
  refine X.an ?_
  refine Run.seq ?_
  refine Run.sr ?_
  refine X.mv ?_
  refine X.ls elt25 ?_
  refine X.mn ?_
  obtain ⟨o6, ho6, h⟩ := bindE h
  refine R.join2 (β := Int) [(1, .slice (b1.map int)), (2, int b2)] [] (fun p19 S => (9, int p19) :: S) (fun p19 M => M) (fun p19 => p19 = o6) ?_ ?_
  ·intro JJ9 hmeet8
   have hup7 := h; clear h; have h := ho6; clear ho6
   refine Run.block ?_
   refine R.bndS (t := 1) (by rfl) (fun hbd12 => ?_)
   replace hbd12 : b1.length ≤ 9223372036854775807 := by first | (rw [List.length_map] at hbd12; exact hbd12) | simp
   refine R.lp (β := Int × Int) [(1, .slice (b1.map int)), (2, int b2), (3, .lptr 192 0), (39, .slice (b1.map int)), (40, int (b1.length : Int))] [(192, .blk true [int b0.Deadline, .slice (b0.Activities.map eTActivity), .slice (b0.Links.map eTLink), .slice (b0.Resources.map eTResource), .slice (b0.Stocks.map int)])] (fun bb S => (9, int bb.2) :: (41, int bb.1) :: S) (fun bb M => M) (fun n bb => 0 ≤ bb.1 ∧ bb.1 + n = (b1.length : Int) ∧ s_l07Ring_L1 b0 (b1.drop bb.1.toNat) bb.1 bb.2 = some o6) b1.length (0, 0) ⟨Int.le_refl _, by simp, h⟩ ?_
   clear h
   rintro JJ12 n12 ⟨z13, a14⟩ hag12 ⟨hza12, hzb12, h⟩
   dsimp only at hza12 hzb12 h
   refine Run.sr ?_
   refine X.bi ?_
   refine X.nil ?_
   refine Run.seq ?_
   refine R.cd (fun hc17 => ?_) (fun hc17 => ?_)
   ·obtain ⟨x15, xs16, hd12, hx12, hds12, hlt12⟩ := drop_atI hza12 hc17
    rw [hd12] at h
    rw [s_l07Ring_L1] at h
    refine Run.skip ?_
    refine Run.seq ?_
    refine Run.block ?_
    refine Run.sr ?_
    refine X.ix elt25 (idxL_spec hx12).1 (idxL_map int hx12) ?_
    refine X.lc shp3 ?_
    refine X.an ?_
    refine Run.reg ?_
    refine X.mv ?_
    refine X.ld shp34 ?_
    refine X.mv ?_
    obtain ⟨v18, hv18, h⟩ := bindE h
    refine X.cp (s_l07All_pc _ _ _ hv18) ?_
    refine X.addW (by rfl) (by rfl) (by rfl) ?_
    refine X.an ?_
    refine Run.blk ?_
    refine Run.reg ?_
    refine X.ad ?_
    refine X.mn ?_
    exact R.ag hag12 (n12 - 1) (z13 + 1, (W (a14 + v18))) (R.n3 (by first | (rw [hds12]; exact h) | (dsimp only; rw [hds12]; exact h)))
   ·rw [drop_endI hza12 hc17] at h
    rw [s_l07Ring_L1] at h
    refine Run.exit (by rfl) ?_
    exact R.mt hmeet8 a14 (Option.some.inj h)
  rintro p19 rfl
  refine Run.seq ?_
  refine Run.seq ?_
  obtain ⟨e20, he20, h2⟩ := bindE h
  refine R.regG [(1, .slice (b1.map int)), (58, bool e20)] [] ?_ ?_
  ·clear h; have h := he20; clear he20 h2
   refine X.mv ?_
   refine X.bi ?_
   refine X.mv ?_
   refine X.iG (fun hb21 => ?_) (fun hb21 => ?_)
   ·replace h := condT hb21 h
    refine X.mv ?_
    refine X.gy ?_
    refine X.ls elt25 ?_
    refine X.gy ?_
    refine X.mv ?_
    refine X.gy ?_
    refine X.bi ?_
    refine X.pT ?_
    cases h
    exact X.eG
   ·replace h := condF hb21 h
    refine X.gn ?_
    refine X.gn ?_
    refine X.gn ?_
    refine X.pF ?_
    cases h
    exact X.eG
  replace h := h2; clear h2
  refine R.cd (fun hc22 => ?_) (fun hc22 => ?_)
  ·replace h := condT hc22 h
   refine Run.sr ?_
   refine X.mv ?_
   refine X.an ?_
   cases h
   refine R.f1 Tryz.results151 ?_
   rfl
  ·replace h := condF hc22 h
   refine Run.skip ?_
   refine Run.sr ?_
   refine X.an ?_
   cases h
   refine R.castS (t := 6) (.slice []) (by rfl) (.inr (.inl ⟨rfl, rfl⟩)) ?_
   refine R.f1 Tryz.results151 ?_
   rfl
 ·replace h := condF hc5 h
  refine Run.skip ?_
  refine Run.seq ?_
  refine Run.sr ?_
  refine X.mv ?_
  refine X.ls elt25 ?_
  refine X.mv ?_
  refine X.bi ?_
  refine X.nil ?_
  refine R.cd (fun hc23 => ?_) (fun hc23 => ?_)
  ·replace h := condT hc23 h
   refine Run.sr ?_
   refine X.an ?_
   cases h
   refine R.castS (t := 6) (.slice []) (by rfl) (.inr (.inl ⟨rfl, rfl⟩)) ?_
   refine R.f1 Tryz.results151 ?_
   rfl
  ·replace h := condF hc23 h
   refine Run.skip ?_
   refine Run.seq ?_
   refine Run.sr ?_
   refine X.mv ?_
   refine X.mv ?_
   refine X.ls elt25 ?_
   refine X.subW (by rfl) (by rfl) (by rfl) ?_
   obtain ⟨v24, hv24, h⟩ := bindE h
   refine X.sliceS2 elt25 (by rfl) (by exact cells_map (f := int) (fun _ => rfl)) (by rfl) ⟨_, by rfl⟩ (subL_le _ hv24) (subL_map _ hv24) (by rfl) ?_
   refine X.ls elt25 ?_
   refine X.mn ?_
   obtain ⟨o25, ho25, h⟩ := bindE h
   refine R.join2 (β := Unit) [(1, .slice (b1.map int)), (2, int b2), (3, .lptr 192 0), (8, int v4.To)] [(192, .blk true [int b0.Deadline, .slice (b0.Activities.map eTActivity), .slice (b0.Links.map eTLink), .slice (b0.Resources.map eTResource), .slice (b0.Stocks.map int)])] (fun p38 S => S) (fun p38 M => M) (fun p38 => (Sum.inl p38) = o25) ?_ ?_
   ·intro JJ28 hmeet27
    have hup26 := h; clear h; have h := ho25; clear ho25
    refine Run.block ?_
    refine R.bndS (t := 68) (by rfl) (fun hbd31 => ?_)
    replace hbd31 : v24.length ≤ 9223372036854775807 := by first | (rw [List.length_map] at hbd31; exact hbd31) | simp
    refine R.lp (β := Int) [(1, .slice (b1.map int)), (2, int b2), (3, .lptr 192 0), (8, int v4.To), (68, .slice (v24.map int)), (69, int (v24.length : Int))] [(192, .blk true [int b0.Deadline, .slice (b0.Activities.map eTActivity), .slice (b0.Links.map eTLink), .slice (b0.Resources.map eTResource), .slice (b0.Stocks.map int)])] (fun bb S => (70, int bb) :: S) (fun bb M => M) (fun n bb => 0 ≤ bb ∧ bb + n = (v24.length : Int) ∧ s_l07Ring_L2 b0 v4 (v24.drop bb.toNat) bb = some o25) v24.length (0 : Int) ⟨Int.le_refl _, by simp, h⟩ ?_
    clear h
    rintro JJ31 n31 z32 hag31 ⟨hza31, hzb31, h⟩
    refine Run.sr ?_
    refine X.bi ?_
    refine X.nil ?_
    refine Run.seq ?_
    refine R.cd (fun hc35 => ?_) (fun hc35 => ?_)
    ·obtain ⟨x33, xs34, hd31, hx31, hds31, hlt31⟩ := drop_atI hza31 hc35
     rw [hd31] at h
     rw [s_l07Ring_L2] at h
     refine Run.skip ?_
     refine Run.seq ?_
     refine Run.block ?_
     refine Run.sr ?_
     refine X.ix elt25 (idxL_spec hx31).1 (idxL_map int hx31) ?_
     refine X.lc shp3 ?_
     refine X.an ?_
     refine Run.sr ?_
     refine X.fl fld34_2 ?_
     refine X.ld shp31 ?_
     refine X.mv ?_
     obtain ⟨v36, hv36, h⟩ := bindE h
     refine X.ix elt31 (idxL_spec hv36).1 (idxL_map eTLink hv36) ?_
     refine X.fieldAddr_c fld87_1 (by rfl) (by rfl) ?_
     refine X.lc shp3 ?_
     refine X.mv ?_
     refine X.bi ?_
     refine X.nil ?_
     refine R.cd (fun hc37 => ?_) (fun hc37 => ?_)
     ·replace h := condT hc37 h
      refine Run.sr ?_
      refine X.an ?_
      cases h
      have h := hup26
      replace h := elimR h
      cases h
      refine R.castS (t := 6) (.slice []) (by rfl) (.inr (.inl ⟨rfl, rfl⟩)) ?_
      refine R.f1 Tryz.results151 ?_
      rfl
     ·replace h := condF hc37 h
      refine Run.skip ?_
      refine Run.blk ?_
      refine Run.reg ?_
      refine X.ad ?_
      refine X.mn ?_
      exact R.ag hag31 (n31 - 1) (z32 + 1) (R.n3 (by first | (rw [hds31]; exact h) | (dsimp only; rw [hds31]; exact h)))
    ·rw [drop_endI hza31 hc35] at h
     rw [s_l07Ring_L2] at h
     refine Run.exit (by rfl) ?_
     exact R.mt hmeet27 () (Option.some.inj h)
   rintro p38 rfl
   replace h := elimL h
   refine Run.seq ?_
   refine Run.sr ?_
   refine X.fl fld34_2 ?_
   refine X.ld shp31 ?_
   refine X.ls elt31 ?_
   refine X.mn ?_
   obtain ⟨o40, ho40, h⟩ := bindE h
   refine R.join2 (β := Unit) [] [] (fun p58 S => S) (fun p58 M => M) (fun p58 => (Sum.inl p58) = o40) ?_ ?_
   ·intro JJ43 hmeet42
    have hup41 := h; clear h; have h := ho40; clear ho40
    refine Run.block ?_
    refine R.bndS (t := 84) (by rfl) (fun hbd46 => ?_)
    replace hbd46 : b0.Links.length ≤ 9223372036854775807 := by first | (rw [List.length_map] at hbd46; exact hbd46) | simp
    refine R.lp (β := Int) [(1, .slice (b1.map int)), (2, int b2), (3, .lptr 192 0), (8, int v4.To), (84, .slice (b0.Links.map eTLink)), (85, int (b0.Links.length : Int))] [(192, .blk true [int b0.Deadline, .slice (b0.Activities.map eTActivity), .slice (b0.Links.map eTLink), .slice (b0.Resources.map eTResource), .slice (b0.Stocks.map int)])] (fun bb S => (86, int bb) :: S) (fun bb M => M) (fun n bb => 0 ≤ bb ∧ bb + n = (b0.Links.length : Int) ∧ s_l07Ring_L3 b0 b1 b2 rec v1 v4 (b0.Links.drop bb.toNat) bb = some o40) b0.Links.length (0 : Int) ⟨Int.le_refl _, by simp, h⟩ ?_
    clear h
    rintro JJ46 n46 z47 hag46 ⟨hza46, hzb46, h⟩
    refine Run.sr ?_
    refine X.bi ?_
    refine X.nil ?_
    refine Run.seq ?_
    refine R.cd (fun hc50 => ?_) (fun hc50 => ?_)
    ·obtain ⟨x48, xs49, hd46, hx46, hds46, hlt46⟩ := drop_atI hza46 hc50
     rw [hd46] at h
     rw [s_l07Ring_L3] at h
     refine Run.skip ?_
     refine Run.seq ?_
     refine Run.block ?_
     refine Run.sr ?_
     refine X.mv ?_
     refine X.ix elt31 (idxL_spec hx46).1 (idxL_map eTLink hx46) ?_
     refine X.lc shp87 ?_
     refine X.alloc zer87 (by rfl) (by rfl) (by rfl) ?_
     refine X.as ?_
     refine X.sl shp87 ?_
     refine X.nil ?_
     refine Run.seq ?_
     refine Run.seq ?_
     obtain ⟨e51, he51, h2⟩ := bindE h
     refine R.regG [(1, .slice (b1.map int)), (2, int b2), (3, .lptr 192 0), (8, int v4.To), (14, int z47), (84, .slice (b0.Links.map eTLink)), (85, int (b0.Links.length : Int)), (86, int z47), (101, bool e51)] [(192, .blk true [int b0.Deadline, .slice (b0.Activities.map eTActivity), .slice (b0.Links.map eTLink), .slice (b0.Resources.map eTResource), .slice (b0.Stocks.map int)])] ?_ ?_
     ·clear h; have h := he51; clear he51 h2
      refine X.fl fld87_0 ?_
      refine X.ld shp3 ?_
      refine X.mv ?_
      refine X.bi ?_
      refine X.mv ?_
      refine X.iG (fun hb52 => ?_) (fun hb52 => ?_)
      ·replace h := condF hb52 h
       refine X.mv ?_
       refine X.gy ?_
       refine X.mv ?_
       refine X.gy ?_
       refine X.ix elt25 (idxL_spec hv1).1 (idxL_map int hv1) ?_
       refine X.gy ?_
       refine X.lc shp3 ?_
       refine X.gy ?_
       refine X.bi ?_
       refine X.pF ?_
       cases h
       exact X.eG
      ·replace h := condT hb52 h
       refine X.gn ?_
       refine X.gn ?_
       refine X.gn ?_
       refine X.gn ?_
       refine X.pT ?_
       cases h
       exact X.eG
     replace h := h2; clear h2
     refine R.cd (fun hc53 => ?_) (fun hc53 => ?_)
     ·replace h := condT hc53 h
      refine Run.exit (by rfl) ?_
      refine Run.reg ?_
      refine X.ad ?_
      refine X.mn ?_
      exact R.ag hag46 (n46 - 1) (z47 + 1) (R.n3 (by first | (rw [hds46]; exact h) | (dsimp only; rw [hds46]; exact h)))
     ·replace h := condF hc53 h
      refine Run.skip ?_
      refine Run.seq ?_
      refine Run.draw2 (footOf [(0, ([192], [], [], [])), (1, ([6592], [6592], [], [])), (3, ([6592], [6592], [], [])), (5, ([6848], [6848], [], [])), (6, ([6592, 6848], [6592], [], [])), (8, ([6592], [], [], []))]) mixed (by kernel_rfl) (by kernel_rfl) ?_
      refine X.ld shp34 ?_
      refine X.buildSlice false elt25 zer3 (by rfl) (by rfl) (by rfl) (by rfl) (by rfl) (by rfl) (by repeat (first | trivial | refine ⟨by first | rfl | simp [setL], ?_⟩)) (allSz_spec (by rfl)) (by rfl) (by rfl) (by rfl) ?_
      refine X.mv ?_
      obtain ⟨v54, hv54, h⟩ := bindE h
      refine X.append elt25 zer3 (by rfl) (by rfl) (by first | rfl | simp [setL] | omega) (by rfl) (.pure _) (by exact cells_map (f := int) (fun _ => rfl)) (appL_len int hv54) (appL_map int hv54) (by rfl) (by rfl) (by rfl) (by rfl) ?_
      refine X.mv ?_
      refine X.buildSlice false elt25 zer3 (by rfl) (by rfl) (by rfl) (by rfl) (by rfl) (by rfl) (by repeat (first | trivial | refine ⟨by first | rfl | simp [setL], ?_⟩)) (allSz_spec (by rfl)) (by rfl) (by rfl) (by rfl) ?_
      obtain ⟨v55, hv55, h⟩ := bindE h
      refine X.append elt25 zer3 (by rfl) (by rfl) (by first | rfl | simp [setL] | omega) (by rfl) (.own _ _ _ _ _ _ (look_mem (by rfl)) (by first | rfl | simp [setL] | omega)) (allSz_spec (by rfl)) (appL_len int hv55) (appL_map int hv55) (by rfl) (by rfl) (by rfl) (by rfl) ?_
      refine X.mv ?_
      obtain ⟨v56, hv56, h⟩ := bindE h
      refine X.cp (hrec _ _ _ _ hv56) ?_
      refine X.an ?_
      refine Run.sr ?_
      refine X.mv ?_
      refine X.ls elt25 ?_
      refine X.bi ?_
      refine X.nil ?_
      refine R.cd (fun hc57 => ?_) (fun hc57 => ?_)
      ·replace h := condT hc57 h
       refine Run.sr ?_
       refine X.mv ?_
       refine X.an ?_
       cases h
       have h := hup41
       replace h := elimR h
       cases h
       refine R.f1 Tryz.results151 ?_
       rfl
      ·replace h := condF hc57 h
       refine Run.skip ?_
       refine Run.blk ?_
       refine Run.reg ?_
       refine X.ad ?_
       refine X.mn ?_
       exact R.ag hag46 (n46 - 1) (z47 + 1) (R.n3 (by first | (rw [hds46]; exact h) | (dsimp only; rw [hds46]; exact h)))
    ·rw [drop_endI hza46 hc50] at h
     rw [s_l07Ring_L3] at h
     refine Run.exit (by rfl) ?_
     exact R.mt hmeet42 () (Option.some.inj h)
   rintro p58 rfl
   replace h := elimL h
   refine Run.sr ?_
   refine X.an ?_
   cases h
   refine R.castS (t := 6) (.slice []) (by rfl) (.inr (.inl ⟨rfl, rfl⟩)) ?_
   refine R.f1 Tryz.results151 ?_
   rfl
theorem s_l07Ring_pc (b0 : TProject) (b1 : List Int) (b2 : Int) (r : List Int) (h : s_l07Ring b0 b1 b2 = some r) : PC Tryz.prog 151 [eTProject b0, .slice (b1.map int), int b2] (.slice (r.map int)) := by
 have key : ∀ (n : Nat) (b0 : TProject) (b1 : List Int) (b2 : Int) (r : List Int), s_l07Ring_R n b0 b1 b2 = some r → PC Tryz.prog 151 [eTProject b0, .slice (b1.map int), int b2] (.slice (r.map int)) := by
  intro n
  induction n with
  | zero => intro b0 b1 b2 r h; cases h
  | succ n ih => intro b0 b1 b2 r h; exact s_l07Ring_S_pc (s_l07Ring_R n) ih b0 b1 b2 r h
 exact key F0 b0 b1 b2 r h
theorem s_PositiveCycle_pc (b0 : TProject) (r : List Int) (h : s_PositiveCycle b0 = some r) : PC Tryz.prog 132 [eTProject b0] (.slice (r.map int)) := by
 unfold s_PositiveCycle at h
 refine PC.start Tryz.func132 Tryz.ntmps132 rfl ok132 rfl ?_
 refine Run.sr ?_
 refine X.bx ?_
 refine X.an ?_
 refine Run.seq ?_
 refine Run.sr ?_
 refine X.ld shp34 ?_
 obtain ⟨v1, hv1, h⟩ := bindE h
 refine X.cp (s_ProjectOk_pc _ _ hv1) ?_
 refine X.un (by rfl) (by rfl) (by rfl) ?_
 refine X.nil ?_
 refine R.cd (fun hc2 => ?_) (fun hc2 => ?_)
 ·replace h := condT hc2 h
  refine Run.sr ?_
  refine X.an ?_
  cases h
  refine R.castS (t := 2) (.slice []) (by rfl) (.inr (.inl ⟨rfl, rfl⟩)) ?_
  refine R.f1 Tryz.results132 ?_
  rfl
 ·replace h := condF hc2 h
  refine Run.skip ?_
  refine Run.seq ?_
  refine Run.sr ?_
  refine X.an ?_
  obtain ⟨o3, ho3, h⟩ := bindE h
  refine R.join2 (β := Unit) [] [] (fun p27 S => S) (fun p27 M => M) (fun p27 => (Sum.inl p27) = o3) ?_ ?_
  ·intro JJ6 hmeet5
   have hup4 := h; clear h; have h := ho3; clear ho3
   refine Run.block ?_
   refine R.lp (β := Int) [(1, .lptr 64 0)] [(64, .blk true [int b0.Deadline, .slice (b0.Activities.map eTActivity), .slice (b0.Links.map eTLink), .slice (b0.Resources.map eTResource), .slice (b0.Stocks.map int)])] (fun bb S => (3, int bb) :: S) (fun bb M => M) (fun n bb => s_PositiveCycle_L1 b0 n bb = some o3) F0 2 h ?_
   clear h
   rintro JJ6 n6 a8 hag6 h
   obtain _ | n6 := n6
   ·exact absurd h (by simp [s_PositiveCycle_L1])
   rw [s_PositiveCycle_L1] at h
   refine Run.seq ?_
   refine Run.sr ?_
   refine X.mv ?_
   refine X.fl fld34_1 ?_
   refine X.ld shp30 ?_
   refine X.ls elt30 ?_
   refine X.bi ?_
   refine X.nil ?_
   refine R.cd (fun hc11 => ?_) (fun hc11 => ?_)
   ·replace h := condT hc11 h
    refine Run.skip ?_
    refine Run.seq ?_
    refine Run.block ?_
    refine Run.sr ?_
    refine X.fl fld34_2 ?_
    refine X.ld shp31 ?_
    refine X.ls elt31 ?_
    refine X.mn ?_
    obtain ⟨o12, ho12, h⟩ := bindE h
    refine R.join2 (β := Unit) [(1, .lptr 64 0), (3, int a8)] [(64, .blk true [int b0.Deadline, .slice (b0.Activities.map eTActivity), .slice (b0.Links.map eTLink), .slice (b0.Resources.map eTResource), .slice (b0.Stocks.map int)])] (fun p25 S => S) (fun p25 M => M) (fun p25 => (Sum.inl p25) = o12) ?_ ?_
    ·intro JJ15 hmeet14
     have hup13 := h; clear h; have h := ho12; clear ho12
     refine Run.block ?_
     refine R.bndS (t := 17) (by rfl) (fun hbd18 => ?_)
     replace hbd18 : b0.Links.length ≤ 9223372036854775807 := by first | (rw [List.length_map] at hbd18; exact hbd18) | simp
     refine R.lp (β := Int) [(1, .lptr 64 0), (3, int a8), (18, int (b0.Links.length : Int))] [(64, .blk true [int b0.Deadline, .slice (b0.Activities.map eTActivity), .slice (b0.Links.map eTLink), .slice (b0.Resources.map eTResource), .slice (b0.Stocks.map int)])] (fun bb S => (19, int bb) :: S) (fun bb M => M) (fun n bb => 0 ≤ bb ∧ bb + n = (b0.Links.length : Int) ∧ s_PositiveCycle_L2 b0 a8 (b0.Links.drop bb.toNat) bb = some o12) b0.Links.length (0 : Int) ⟨Int.le_refl _, by simp, h⟩ ?_
     clear h
     rintro JJ18 n18 z19 hag18 ⟨hza18, hzb18, h⟩
     refine Run.sr ?_
     refine X.bi ?_
     refine X.nil ?_
     refine Run.seq ?_
     refine R.cd (fun hc22 => ?_) (fun hc22 => ?_)
     ·obtain ⟨x20, xs21, hd18, hx18, hds18, hlt18⟩ := drop_atI hza18 hc22
      rw [hd18] at h
      rw [s_PositiveCycle_L2] at h
      refine Run.skip ?_
      refine Run.seq ?_
      refine Run.block ?_
      refine Run.sr ?_
      refine X.mv ?_
      refine X.an ?_
      refine Run.sr ?_
      refine X.ld shp34 ?_
      refine X.mv ?_
      refine X.buildSlice false elt25 zer3 (by rfl) (by rfl) (by rfl) (by rfl) (by rfl) (by rfl) (by repeat (first | trivial | refine ⟨by first | rfl | simp [setL], ?_⟩)) (allSz_spec (by rfl)) (by rfl) (by rfl) (by rfl) ?_
      refine X.mv ?_
      obtain ⟨v23, hv23, h⟩ := bindE h
      refine X.cp (s_l07Ring_pc _ _ _ _ hv23) ?_
      refine X.an ?_
      refine Run.sr ?_
      refine X.mv ?_
      refine X.ls elt25 ?_
      refine X.bi ?_
      refine X.nil ?_
      refine R.cd (fun hc24 => ?_) (fun hc24 => ?_)
      ·replace h := condT hc24 h
       refine Run.sr ?_
       refine X.mv ?_
       refine X.an ?_
       cases h
       have h := hup13
       replace h := elimR h
       cases h
       have h := hup4
       replace h := elimR h
       cases h
       refine R.f1 Tryz.results132 ?_
       rfl
      ·replace h := condF hc24 h
       refine Run.skip ?_
       refine Run.blk ?_
       refine Run.reg ?_
       refine X.ad ?_
       refine X.mn ?_
       exact R.ag hag18 (n18 - 1) (z19 + 1) (R.n3 (by first | (rw [hds18]; exact h) | (dsimp only; rw [hds18]; exact h)))
     ·rw [drop_endI hza18 hc22] at h
      rw [s_PositiveCycle_L2] at h
      refine Run.exit (by rfl) ?_
      exact R.mt hmeet14 () (Option.some.inj h)
    rintro p25 rfl
    replace h := elimL h
    refine Run.blk ?_
    refine Run.reg ?_
    refine X.mv ?_
    refine X.addW (by rfl) (by rfl) (by rfl) ?_
    refine X.an ?_
    exact hag6 n6 (W (a8 + 1)) _ _ (by omega) h (by trivial) (by trivial) (by rfl) (by rfl)
   ·replace h := condF hc11 h
    refine Run.exit (by rfl) ?_
    exact R.mt hmeet5 () (Option.some.inj h)
  rintro p27 rfl
  replace h := elimL h
  refine Run.sr ?_
  refine X.an ?_
  cases h
  refine R.castS (t := 2) (.slice []) (by rfl) (.inr (.inl ⟨rfl, rfl⟩)) ?_
  refine R.f1 Tryz.results132 ?_
  rfl
theorem s_l02Max_pc (b0 : Int) (b1 : Int) (r : Int) (h : s_l02Max b0 b1 = some r) : PC Tryz.prog 24 [int b0, int b1] (int r) := by
 unfold s_l02Max at h
 refine PC.start Tryz.func24 Tryz.ntmps24 rfl ok24 rfl ?_
 refine Run.sr ?_
 refine X.an ?_
 refine Run.seq ?_
 refine Run.sr ?_
 refine X.mv ?_
 refine X.mv ?_
 refine X.bi ?_
 refine X.nil ?_
 refine R.cd (fun hc1 => ?_) (fun hc1 => ?_)
 ·replace h := condT hc1 h
  refine Run.sr ?_
  refine X.mv ?_
  refine X.an ?_
  cases h
  refine R.f1 Tryz.results24 ?_
  rfl
 ·replace h := condF hc1 h
  refine Run.skip ?_
  refine Run.sr ?_
  refine X.mv ?_
  refine X.an ?_
  cases h
  refine R.f1 Tryz.results24 ?_
  rfl
theorem s_l08Dist_pc (b0 : TProject) (r : List (List Int)) (h : s_l08Dist b0 = some r) : PC Tryz.prog 133 [eTProject b0] (.tre 25 1 (r.map t_int)) := by
 unfold s_l08Dist at h
 refine PC.start Tryz.func133 Tryz.ntmps133 rfl ok133 rfl ?_
 refine Run.sr ?_
 refine X.bx ?_
 refine X.an ?_
 refine Run.seq ?_
 refine Run.region ?_
 refine Run.buildT0 elt59 (by rfl) zer25 (by rfl) (by rfl) (by rfl) ?_
 refine Run.aso ?_
 refine Run.nil ?_
 refine Run.seq ?_
 refine Run.sr ?_
 refine X.fl fld34_1 ?_
 refine X.ld shp30 ?_
 refine X.ls elt30 ?_
 refine X.mn ?_
 obtain ⟨o1, ho1, h⟩ := bindE h
 refine R.join2 (β := (List (List Int))) [(1, .lptr 64 0)] [(64, .blk true [int b0.Deadline, .slice (b0.Activities.map eTActivity), .slice (b0.Links.map eTLink), .slice (b0.Resources.map eTResource), .slice (b0.Stocks.map int)])] (fun p34 S => (3, .tref 832 (p34.map t_int).length .out) :: S) (fun p34 M => (832, .tre 25 1 (p34.map t_int)) :: M) (fun p34 => p34 = o1) ?_ ?_
 ·intro JJ4 hmeet3
  have hup2 := h; clear h; have h := ho1; clear ho1
  refine Run.block ?_
  refine R.bndS (t := 15) (by rfl) (fun hbd7 => ?_)
  replace hbd7 : b0.Activities.length ≤ 9223372036854775807 := by first | (rw [List.length_map] at hbd7; exact hbd7) | simp
  refine R.lp (β := Int × (List (List Int))) [(1, .lptr 64 0), (16, int (b0.Activities.length : Int))] [(64, .blk true [int b0.Deadline, .slice (b0.Activities.map eTActivity), .slice (b0.Links.map eTLink), .slice (b0.Resources.map eTResource), .slice (b0.Stocks.map int)])] (fun bb S => (3, .tref 832 (bb.2.map t_int).length .out) :: (17, int bb.1) :: S) (fun bb M => (832, .tre 25 1 (bb.2.map t_int)) :: M) (fun n bb => 0 ≤ bb.1 ∧ bb.1 + n = (b0.Activities.length : Int) ∧ s_l08Dist_L1 b0 (b0.Activities.drop bb.1.toNat) bb.1 bb.2 = some o1) b0.Activities.length (0, ([] : List (List Int))) ⟨Int.le_refl _, by simp, h⟩ ?_
  clear h
  rintro JJ7 n7 ⟨z8, a9⟩ hag7 ⟨hza7, hzb7, h⟩
  dsimp only at hza7 hzb7 h
  refine Run.sr ?_
  refine X.bi ?_
  refine X.nil ?_
  refine Run.seq ?_
  refine R.cd (fun hc12 => ?_) (fun hc12 => ?_)
  ·obtain ⟨x10, xs11, hd7, hx7, hds7, hlt7⟩ := drop_atI hza7 hc12
   rw [hd7] at h
   rw [s_l08Dist_L1] at h
   refine Run.skip ?_
   refine Run.seq ?_
   refine Run.block ?_
   refine Run.sr ?_
   refine X.mv ?_
   refine X.an ?_
   refine Run.sr ?_
   refine X.buildSlice true elt25 zer3 (by rfl) (by rfl) (by rfl) (by rfl) (by rfl) (by rfl) (by repeat (first | trivial | refine ⟨by first | rfl | simp [setL], ?_⟩)) (allSz_spec (by rfl)) (by rfl) (by rfl) (by rfl) ?_
   refine X.an ?_
   refine Run.seq ?_
   refine Run.sr ?_
   refine X.fl fld34_1 ?_
   refine X.ld shp30 ?_
   refine X.ls elt30 ?_
   refine X.mn ?_
   obtain ⟨o13, ho13, h⟩ := bindE h
   refine R.join2 (β := (List Int)) [(1, .lptr 64 0), (16, int (b0.Activities.length : Int)), (17, int z8)] [(64, .blk true [int b0.Deadline, .slice (b0.Activities.map eTActivity), .slice (b0.Links.map eTLink), .slice (b0.Resources.map eTResource), .slice (b0.Stocks.map int)]), (832, .tre 25 1 (a9.map t_int))] (fun p32 S => (3, .tref 832 (a9.map t_int).length .out) :: (5, .own 1280 (p32.map int).length) :: S) (fun p32 M => (1280, .obj true 3 1 (p32.map int)) :: M) (fun p32 => p32 = o13) ?_ ?_
   ·intro JJ16 hmeet15
    have hup14 := h; clear h; have h := ho13; clear ho13
    refine Run.block ?_
    refine R.bndS (t := 22) (by rfl) (fun hbd19 => ?_)
    replace hbd19 : b0.Activities.length ≤ 9223372036854775807 := by first | (rw [List.length_map] at hbd19; exact hbd19) | simp
    refine R.lp (β := Int × (List Int)) [(1, .lptr 64 0), (4, int z8), (16, int (b0.Activities.length : Int)), (17, int z8), (23, int (b0.Activities.length : Int))] [(64, .blk true [int b0.Deadline, .slice (b0.Activities.map eTActivity), .slice (b0.Links.map eTLink), .slice (b0.Resources.map eTResource), .slice (b0.Stocks.map int)]), (832, .tre 25 1 (a9.map t_int))] (fun bb S => (3, .tref 832 (a9.map t_int).length .out) :: (5, .own 1280 (bb.2.map int).length) :: (24, int bb.1) :: S) (fun bb M => (1280, .obj true 3 1 (bb.2.map int)) :: M) (fun n bb => 0 ≤ bb.1 ∧ bb.1 + n = (b0.Activities.length : Int) ∧ s_l08Dist_L2 z8 (b0.Activities.drop bb.1.toNat) bb.1 bb.2 = some o13) b0.Activities.length (0, ([] : List Int)) ⟨Int.le_refl _, by simp, h⟩ ?_
    clear h
    rintro JJ19 n19 ⟨z20, a21⟩ hag19 ⟨hza19, hzb19, h⟩
    dsimp only at hza19 hzb19 h
    refine Run.sr ?_
    refine X.bi ?_
    refine X.nil ?_
    refine Run.seq ?_
    refine R.cd (fun hc24 => ?_) (fun hc24 => ?_)
    ·obtain ⟨x22, xs23, hd19, hx19, hds19, hlt19⟩ := drop_atI hza19 hc24
     rw [hd19] at h
     rw [s_l08Dist_L2] at h
     refine Run.skip ?_
     refine Run.seq ?_
     refine Run.block ?_
     refine Run.sr ?_
     refine X.mv ?_
     refine X.an ?_
     refine Run.sr ?_
     refine X.an ?_
     refine Run.seq ?_
     refine Run.sr ?_
     refine X.mv ?_
     refine X.mv ?_
     refine X.bi ?_
     refine X.nil ?_
     obtain ⟨o25, ho25, h⟩ := bindE h
     refine R.join2 (β := Int) [(1, .lptr 64 0), (4, int z8), (16, int (b0.Activities.length : Int)), (17, int z8), (23, int (b0.Activities.length : Int)), (24, int z20)] [(64, .blk true [int b0.Deadline, .slice (b0.Activities.map eTActivity), .slice (b0.Links.map eTLink), .slice (b0.Resources.map eTResource), .slice (b0.Stocks.map int)]), (832, .tre 25 1 (a9.map t_int)), (1280, .obj true 3 1 (a21.map int))] (fun p30 S => (3, .tref 832 (a9.map t_int).length .out) :: (5, .own 1280 (a21.map int).length) :: (7, int p30) :: S) (fun p30 M => M) (fun p30 => p30 = o25) ?_ ?_
     ·intro JJ28 hmeet27
      have hup26 := h; clear h; have h := ho25; clear ho25
      refine R.cd (fun hc29 => ?_) (fun hc29 => ?_)
      ·replace h := condT hc29 h
       refine Run.reg ?_
       refine X.an ?_
       exact R.mt hmeet27 0 (Option.some.inj h)
      ·replace h := condF hc29 h
       refine Run.skip ?_
       exact R.mt hmeet27 (-1000) (Option.some.inj h)
     rintro p30 rfl
     refine Run.reg ?_
     refine X.mv ?_
     refine X.mv ?_
     refine X.buildSlice false elt25 zer3 (by rfl) (by rfl) (by rfl) (by rfl) (by rfl) (by rfl) (by repeat (first | trivial | refine ⟨by first | rfl | simp [setL], ?_⟩)) (allSz_spec (by rfl)) (by rfl) (by rfl) (by rfl) ?_
     obtain ⟨v31, hv31, h⟩ := bindE h
     refine X.append elt25 zer3 (by rfl) (by rfl) (by first | rfl | simp [setL] | omega) (by rfl) (.own _ _ _ _ _ _ (look_mem (by rfl)) (by first | rfl | simp [setL] | omega)) (allSz_spec (by rfl)) (appL_len int hv31) (appL_map int hv31) (by rfl) (by rfl) (by rfl) (by rfl) ?_
     refine X.an ?_
     refine Run.blk ?_
     refine Run.reg ?_
     refine X.ad ?_
     refine X.mn ?_
     exact R.ag hag19 (n19 - 1) (z20 + 1, v31) (R.n3 (by first | (rw [hds19]; exact h) | (dsimp only; rw [hds19]; exact h)))
    ·rw [drop_endI hza19 hc24] at h
     rw [s_l08Dist_L2] at h
     refine Run.exit (by rfl) ?_
     exact R.mt hmeet15 a21 (Option.some.inj h)
   rintro p32 rfl
   refine Run.region ?_
   refine Run.mvo ?_
   refine Run.mvo ?_
   refine Run.buildT1 (S' := [(1, .lptr 64 0), (16, int (b0.Activities.length : Int)), (17, int z8), (35, .tref 832 (a9.map t_int).length .out)]) (M' := [(64, .blk true [int b0.Deadline, .slice (b0.Activities.map eTActivity), .slice (b0.Links.map eTLink), .slice (b0.Resources.map eTResource), .slice (b0.Stocks.map int)]), (832, .tre 25 1 (a9.map t_int))]) (q := t_int p32) elt59 (by rfl) (by rfl) zer25 (by rfl) (by rfl) (by exact (.own _ _ _ _ _ _ _ _ (by rfl) (by first | rfl | simp [setL] | omega) (flat_lit _ (fun _ => (by repeat (first | exact trivial | refine ⟨trivial, ?_⟩)))) (by simp) .nil)) (by rfl) (by repeat (first | trivial | refine ⟨by first | rfl | simp [setL], ?_⟩)) (by repeat (first | trivial | refine ⟨by first | rfl | simp [setL], ?_⟩)) (by rfl) (by rfl) (by rfl) (by rfl) (by rfl) ?_
   obtain ⟨v33, hv33, h⟩ := bindE h
   refine Run.appT (S' := [(1, .lptr 64 0), (16, int (b0.Activities.length : Int)), (17, int z8)]) (M' := [(64, .blk true [int b0.Deadline, .slice (b0.Activities.map eTActivity), .slice (b0.Links.map eTLink), .slice (b0.Resources.map eTResource), .slice (b0.Stocks.map int)])]) (appL_map t_int hv33) elt59 (by rfl) zer25 (by rfl) (by rfl) (by rfl) (by first | rfl | simp [setL] | omega) (by rfl) (by rfl) (by first | rfl | simp [setL] | omega) (by rfl) (by rfl) (appL_len t_int hv33) (by rfl) (by repeat (first | trivial | refine ⟨by first | rfl | simp [setL], ?_⟩)) (by repeat (first | trivial | refine ⟨by first | rfl | simp [setL], ?_⟩)) (by rfl) (by rfl) (by rfl) (by rfl) (by rfl) ?_
   refine Run.aso ?_
   refine Run.nil ?_
   refine Run.blk ?_
   refine Run.reg ?_
   refine X.ad ?_
   refine X.mn ?_
   exact R.ag hag7 (n7 - 1) (z8 + 1, v33) (R.n3 (by first | (rw [hds7]; exact h) | (dsimp only; rw [hds7]; exact h)))
  ·rw [drop_endI hza7 hc12] at h
   rw [s_l08Dist_L1] at h
   refine Run.exit (by rfl) ?_
   exact R.mt hmeet3 a9 (Option.some.inj h)
 rintro p34 rfl
 refine Run.seq ?_
 refine Run.sr ?_
 refine X.fl fld34_2 ?_
 refine X.ld shp31 ?_
 refine X.ls elt31 ?_
 refine X.mn ?_
 obtain ⟨o35, ho35, h⟩ := bindE h
 refine R.join2 (β := (List (List Int))) [(1, .lptr 64 0)] [(64, .blk true [int b0.Deadline, .slice (b0.Activities.map eTActivity), .slice (b0.Links.map eTLink), .slice (b0.Resources.map eTResource), .slice (b0.Stocks.map int)])] (fun p51 S => (3, .tref 832 (p51.map t_int).length .out) :: S) (fun p51 M => (832, .tre 25 1 (p51.map t_int)) :: M) (fun p51 => p51 = o35) ?_ ?_
 ·intro JJ38 hmeet37
  have hup36 := h; clear h; have h := ho35; clear ho35
  refine Run.block ?_
  refine R.bndS (t := 41) (by rfl) (fun hbd41 => ?_)
  replace hbd41 : b0.Links.length ≤ 9223372036854775807 := by first | (rw [List.length_map] at hbd41; exact hbd41) | simp
  refine R.lp (β := Int × (List (List Int))) [(1, .lptr 64 0), (41, .slice (b0.Links.map eTLink)), (42, int (b0.Links.length : Int))] [(64, .blk true [int b0.Deadline, .slice (b0.Activities.map eTActivity), .slice (b0.Links.map eTLink), .slice (b0.Resources.map eTResource), .slice (b0.Stocks.map int)])] (fun bb S => (3, .tref 832 (bb.2.map t_int).length .out) :: (43, int bb.1) :: S) (fun bb M => (832, .tre 25 1 (bb.2.map t_int)) :: M) (fun n bb => 0 ≤ bb.1 ∧ bb.1 + n = (b0.Links.length : Int) ∧ s_l08Dist_L3 b0 (b0.Links.drop bb.1.toNat) bb.1 bb.2 = some o35) b0.Links.length (0, p34) ⟨Int.le_refl _, by simp, h⟩ ?_
  clear h
  rintro JJ41 n41 ⟨z42, a43⟩ hag41 ⟨hza41, hzb41, h⟩
  dsimp only at hza41 hzb41 h
  refine Run.sr ?_
  refine X.bi ?_
  refine X.nil ?_
  refine Run.seq ?_
  refine R.cd (fun hc46 => ?_) (fun hc46 => ?_)
  ·obtain ⟨x44, xs45, hd41, hx41, hds41, hlt41⟩ := drop_atI hza41 hc46
   rw [hd41] at h
   rw [s_l08Dist_L3] at h
   refine Run.skip ?_
   refine Run.seq ?_
   refine Run.block ?_
   refine Run.sr ?_
   refine X.mv ?_
   refine X.ix elt31 (idxL_spec hx41).1 (idxL_map eTLink hx41) ?_
   refine X.lc shp87 ?_
   refine X.alloc zer87 (by rfl) (by rfl) (by rfl) ?_
   refine X.as ?_
   refine X.sl shp87 ?_
   refine X.nil ?_
   refine Run.draw (footOf [(2, ([576], [], [], [])), (3, ([832], [], [], [])), (4, ([832], [], [], [])), (6, ([576], [], [], [])), (9, ([576], [], [], [])), (10, ([832], [], [], [])), (11, ([832], [], [], [])), (13, ([576], [], [], [])), (14, ([832], [], [], [])), (15, ([832], [], [], [])), (16, ([64], [], [], [])), (20, ([832], [], [], [])), (21, ([832], [832], [], []))]) mixed (by kernel_rfl) (by kernel_rfl) ?_
   refine X.mv ?_
   refine X.fl fld87_0 ?_
   refine X.ld shp3 ?_
   obtain ⟨v47, hv47, h⟩ := bindE h
   refine X.idxT (l := a43.map t_int) elt59 ⟨(idxL_spec hv47).1, by have h0 := (idxL_spec hv47).1; have h1 := idxL_lt hv47; rw [List.length_map]; (try dsimp only); omega⟩ (by first | rfl | simp [setL] | omega) ?_
   refine X.ldRow (sz := 1) shp25 (flat_at2 (off := 0) (by exact cells_map (f := t_int) (fun _ => rfl)) (idxL_map t_int hv47) (by rfl)) (by first | rfl | simp [setL] | omega) ?_
   refine X.fl fld87_1 ?_
   refine X.ld shp3 ?_
   refine X.mv ?_
   refine X.fl fld87_0 ?_
   refine X.ld shp3 ?_
   refine X.idxT (l := a43.map t_int) elt59 ⟨(idxL_spec hv47).1, by have h0 := (idxL_spec hv47).1; have h1 := idxL_lt hv47; rw [List.length_map]; (try dsimp only); omega⟩ (by first | rfl | simp [setL] | omega) ?_
   refine X.ldRow (sz := 1) shp25 (flat_at2 (off := 0) (by exact cells_map (f := t_int) (fun _ => rfl)) (idxL_map t_int hv47) (by rfl)) (by first | rfl | simp [setL] | omega) ?_
   refine X.fl fld87_1 ?_
   refine X.ld shp3 ?_
   obtain ⟨v48, hv48, h⟩ := bindE h
   refine X.idxR (l := a43.map t_int) (rl := v47.map int) elt25 (flat_at2 (off := 0) (by exact cells_map (f := t_int) (fun _ => rfl)) (idxL_map t_int hv47) (by rfl)) ⟨(idxL_spec hv48).1, by have h0 := (idxL_spec hv48).1; have h1 := idxL_lt hv48; rw [List.length_map]; (try dsimp only); omega⟩ (by first | rfl | simp [setL] | omega) ?_
   refine X.ldE (sz2 := 1) shp3 (flat_at2 (off := 0) (by exact cells_map (f := t_int) (fun _ => rfl)) (idxL_map t_int hv47) (by rfl)) (flat_at2 (off := 0) (by exact cells_map (f := int) (fun _ => rfl)) (idxL_map int hv48) (by rfl)) (by first | rfl | simp [setL] | omega) ?_
   refine X.ld shp34 ?_
   refine X.mv ?_
   obtain ⟨v49, hv49, h⟩ := bindE h
   refine X.cp (s_l07All_pc _ _ _ hv49) ?_
   obtain ⟨v50, hv50, h⟩ := bindE h
   refine X.cp (s_l02Max_pc _ _ _ hv50) ?_
   refine X.idxR (l := a43.map t_int) (rl := v47.map int) elt25 (flat_at2 (off := 0) (by exact cells_map (f := t_int) (fun _ => rfl)) (idxL_map t_int hv47) (by rfl)) ⟨(idxL_spec hv48).1, by have h0 := (idxL_spec hv48).1; have h1 := idxL_lt hv48; rw [List.length_map]; (try dsimp only); omega⟩ (by first | rfl | simp [setL] | omega) ?_
   refine X.stE (l2 := (setL a43 x44.From (setL v47 x44.To v50)).map t_int) (rl2 := (setL v47 x44.To v50).map int) (sz2 := 1) (sz := 1) shp3 (flat_at2 (off := 0) (by exact cells_map (f := t_int) (fun _ => rfl)) (idxL_map t_int hv47) (by rfl)) (flat_at2 (off := 0) (by exact cells_map (f := int) (fun _ => rfl)) (idxL_map int hv48) (by rfl)) (by simp [setL]) (by exact cells_map (f := int) (fun _ => rfl)) (by rw [← setL_map]; exact flat_setC (by exact cells_map (f := int) (fun _ => rfl)) (idxL_map int hv48) (by rfl) (by decide)) (by simp [setL]) (by exact cells_map (f := t_int) (fun _ => rfl)) (by rw [← setL_map]; exact flat_setC (by exact cells_map (f := t_int) (fun _ => rfl)) (idxL_map t_int hv47) (by rfl) (by decide)) (by first | rfl | simp [setL] | omega) ?_
   refine X.nil ?_
   refine Run.blk ?_
   refine Run.reg ?_
   refine X.ad ?_
   refine X.mn ?_
   refine R.castS (t := 3) (.tref 832 ((setL a43 x44.From (setL v47 x44.To v50)).map t_int).length .out) (by rfl) (.inl (by first | rfl | simp [setL])) ?_
   exact R.ag hag41 (n41 - 1) (z42 + 1, (setL a43 x44.From (setL v47 x44.To v50))) (R.n3 (by first | (rw [hds41]; exact h) | (dsimp only; rw [hds41]; exact h)))
  ·rw [drop_endI hza41 hc46] at h
   rw [s_l08Dist_L3] at h
   refine Run.exit (by rfl) ?_
   exact R.mt hmeet37 a43 (Option.some.inj h)
 rintro p51 rfl
 refine Run.seq ?_
 refine Run.sr ?_
 refine X.fl fld34_1 ?_
 refine X.ld shp30 ?_
 refine X.ls elt30 ?_
 refine X.mn ?_
 obtain ⟨o52, ho52, h⟩ := bindE h
 refine R.join2 (β := (List (List Int))) [] [] (fun p101 S => (3, .tref 832 (p101.map t_int).length .out) :: S) (fun p101 M => (832, .tre 25 1 (p101.map t_int)) :: M) (fun p101 => p101 = o52) ?_ ?_
 ·intro JJ55 hmeet54
  have hup53 := h; clear h; have h := ho52; clear ho52
  refine Run.block ?_
  refine R.bndS (t := 71) (by rfl) (fun hbd58 => ?_)
  replace hbd58 : b0.Activities.length ≤ 9223372036854775807 := by first | (rw [List.length_map] at hbd58; exact hbd58) | simp
  refine R.lp (β := Int × (List (List Int))) [(1, .lptr 64 0), (72, int (b0.Activities.length : Int))] [(64, .blk true [int b0.Deadline, .slice (b0.Activities.map eTActivity), .slice (b0.Links.map eTLink), .slice (b0.Resources.map eTResource), .slice (b0.Stocks.map int)])] (fun bb S => (3, .tref 832 (bb.2.map t_int).length .out) :: (73, int bb.1) :: S) (fun bb M => (832, .tre 25 1 (bb.2.map t_int)) :: M) (fun n bb => 0 ≤ bb.1 ∧ bb.1 + n = (b0.Activities.length : Int) ∧ s_l08Dist_L4 b0 (b0.Activities.drop bb.1.toNat) bb.1 bb.2 = some o52) b0.Activities.length (0, p51) ⟨Int.le_refl _, by simp, h⟩ ?_
  clear h
  rintro JJ58 n58 ⟨z59, a60⟩ hag58 ⟨hza58, hzb58, h⟩
  dsimp only at hza58 hzb58 h
  refine Run.sr ?_
  refine X.bi ?_
  refine X.nil ?_
  refine Run.seq ?_
  refine R.cd (fun hc63 => ?_) (fun hc63 => ?_)
  ·obtain ⟨x61, xs62, hd58, hx58, hds58, hlt58⟩ := drop_atI hza58 hc63
   rw [hd58] at h
   rw [s_l08Dist_L4] at h
   refine Run.skip ?_
   refine Run.seq ?_
   refine Run.block ?_
   refine Run.sr ?_
   refine X.mv ?_
   refine X.an ?_
   refine Run.sr ?_
   refine X.fl fld34_1 ?_
   refine X.ld shp30 ?_
   refine X.ls elt30 ?_
   refine X.mn ?_
   obtain ⟨o64, ho64, h⟩ := bindE h
   refine R.join2 (β := (List (List Int))) [(1, .lptr 64 0), (72, int (b0.Activities.length : Int)), (73, int z59)] [(64, .blk true [int b0.Deadline, .slice (b0.Activities.map eTActivity), .slice (b0.Links.map eTLink), .slice (b0.Resources.map eTResource), .slice (b0.Stocks.map int)])] (fun p100 S => (3, .tref 832 (p100.map t_int).length .out) :: S) (fun p100 M => (832, .tre 25 1 (p100.map t_int)) :: M) (fun p100 => p100 = o64) ?_ ?_
   ·intro JJ67 hmeet66
    have hup65 := h; clear h; have h := ho64; clear ho64
    refine Run.block ?_
    refine R.bndS (t := 77) (by rfl) (fun hbd70 => ?_)
    replace hbd70 : b0.Activities.length ≤ 9223372036854775807 := by first | (rw [List.length_map] at hbd70; exact hbd70) | simp
    refine R.lp (β := Int × (List (List Int))) [(1, .lptr 64 0), (10, int z59), (72, int (b0.Activities.length : Int)), (73, int z59), (78, int (b0.Activities.length : Int))] [(64, .blk true [int b0.Deadline, .slice (b0.Activities.map eTActivity), .slice (b0.Links.map eTLink), .slice (b0.Resources.map eTResource), .slice (b0.Stocks.map int)])] (fun bb S => (3, .tref 832 (bb.2.map t_int).length .out) :: (79, int bb.1) :: S) (fun bb M => (832, .tre 25 1 (bb.2.map t_int)) :: M) (fun n bb => 0 ≤ bb.1 ∧ bb.1 + n = (b0.Activities.length : Int) ∧ s_l08Dist_L5 b0 z59 (b0.Activities.drop bb.1.toNat) bb.1 bb.2 = some o64) b0.Activities.length (0, a60) ⟨Int.le_refl _, by simp, h⟩ ?_
    clear h
    rintro JJ70 n70 ⟨z71, a72⟩ hag70 ⟨hza70, hzb70, h⟩
    dsimp only at hza70 hzb70 h
    refine Run.sr ?_
    refine X.bi ?_
    refine X.nil ?_
    refine Run.seq ?_
    refine R.cd (fun hc75 => ?_) (fun hc75 => ?_)
    ·obtain ⟨x73, xs74, hd70, hx70, hds70, hlt70⟩ := drop_atI hza70 hc75
     rw [hd70] at h
     rw [s_l08Dist_L5] at h
     refine Run.skip ?_
     refine Run.seq ?_
     refine Run.block ?_
     refine Run.sr ?_
     refine X.mv ?_
     refine X.an ?_
     refine Run.sr ?_
     refine X.fl fld34_1 ?_
     refine X.ld shp30 ?_
     refine X.ls elt30 ?_
     refine X.mn ?_
     obtain ⟨o76, ho76, h⟩ := bindE h
     refine R.join2 (β := (List (List Int))) [(1, .lptr 64 0), (10, int z59), (72, int (b0.Activities.length : Int)), (73, int z59), (78, int (b0.Activities.length : Int)), (79, int z71)] [(64, .blk true [int b0.Deadline, .slice (b0.Activities.map eTActivity), .slice (b0.Links.map eTLink), .slice (b0.Resources.map eTResource), .slice (b0.Stocks.map int)])] (fun p99 S => (3, .tref 832 (p99.map t_int).length .out) :: S) (fun p99 M => (832, .tre 25 1 (p99.map t_int)) :: M) (fun p99 => p99 = o76) ?_ ?_
     ·intro JJ79 hmeet78
      have hup77 := h; clear h; have h := ho76; clear ho76
      refine Run.block ?_
      refine R.bndS (t := 83) (by rfl) (fun hbd82 => ?_)
      replace hbd82 : b0.Activities.length ≤ 9223372036854775807 := by first | (rw [List.length_map] at hbd82; exact hbd82) | simp
      refine R.lp (β := Int × (List (List Int))) [(1, .lptr 64 0), (10, int z59), (11, int z71), (72, int (b0.Activities.length : Int)), (73, int z59), (78, int (b0.Activities.length : Int)), (79, int z71), (84, int (b0.Activities.length : Int))] [(64, .blk true [int b0.Deadline, .slice (b0.Activities.map eTActivity), .slice (b0.Links.map eTLink), .slice (b0.Resources.map eTResource), .slice (b0.Stocks.map int)])] (fun bb S => (3, .tref 832 (bb.2.map t_int).length .out) :: (85, int bb.1) :: S) (fun bb M => (832, .tre 25 1 (bb.2.map t_int)) :: M) (fun n bb => 0 ≤ bb.1 ∧ bb.1 + n = (b0.Activities.length : Int) ∧ s_l08Dist_L6 z59 z71 (b0.Activities.drop bb.1.toNat) bb.1 bb.2 = some o76) b0.Activities.length (0, a72) ⟨Int.le_refl _, by simp, h⟩ ?_
      clear h
      rintro JJ82 n82 ⟨z83, a84⟩ hag82 ⟨hza82, hzb82, h⟩
      dsimp only at hza82 hzb82 h
      refine Run.sr ?_
      refine X.bi ?_
      refine X.nil ?_
      refine Run.seq ?_
      refine R.cd (fun hc87 => ?_) (fun hc87 => ?_)
      ·obtain ⟨x85, xs86, hd82, hx82, hds82, hlt82⟩ := drop_atI hza82 hc87
       rw [hd82] at h
       rw [s_l08Dist_L6] at h
       refine Run.skip ?_
       refine Run.seq ?_
       refine Run.block ?_
       refine Run.sr ?_
       refine X.mv ?_
       refine X.an ?_
       refine Run.seq ?_
       obtain ⟨v88, hv88, h⟩ := bindE h
       obtain ⟨v89, hv89, h⟩ := bindE h
       obtain ⟨e90, he90, h2⟩ := bindE h
       refine R.regG [(1, .lptr 64 0), (3, .tref 832 (a84.map t_int).length .out), (10, int z59), (11, int z71), (12, int z83), (72, int (b0.Activities.length : Int)), (73, int z59), (78, int (b0.Activities.length : Int)), (79, int z71), (84, int (b0.Activities.length : Int)), (85, int z83), (105, bool e90)] [(64, .blk true [int b0.Deadline, .slice (b0.Activities.map eTActivity), .slice (b0.Links.map eTLink), .slice (b0.Resources.map eTResource), .slice (b0.Stocks.map int)]), (832, .tre 25 1 (a84.map t_int))] ?_ ?_
       ·clear h; have h := he90; clear he90 h2
        refine X.mv ?_
        refine X.mv ?_
        refine X.idxT (l := a84.map t_int) elt59 ⟨(idxL_spec hv88).1, by have h0 := (idxL_spec hv88).1; have h1 := idxL_lt hv88; rw [List.length_map]; (try dsimp only); omega⟩ (by first | rfl | simp [setL] | omega) ?_
        refine X.ldRow (sz := 1) shp25 (flat_at2 (off := 0) (by exact cells_map (f := t_int) (fun _ => rfl)) (idxL_map t_int hv88) (by rfl)) (by first | rfl | simp [setL] | omega) ?_
        refine X.mv ?_
        refine X.idxR (l := a84.map t_int) (rl := v88.map int) elt25 (flat_at2 (off := 0) (by exact cells_map (f := t_int) (fun _ => rfl)) (idxL_map t_int hv88) (by rfl)) ⟨(idxL_spec hv89).1, by have h0 := (idxL_spec hv89).1; have h1 := idxL_lt hv89; rw [List.length_map]; (try dsimp only); omega⟩ (by first | rfl | simp [setL] | omega) ?_
        refine X.ldE (sz2 := 1) shp3 (flat_at2 (off := 0) (by exact cells_map (f := t_int) (fun _ => rfl)) (idxL_map t_int hv88) (by rfl)) (flat_at2 (off := 0) (by exact cells_map (f := int) (fun _ => rfl)) (idxL_map int hv89) (by rfl)) (by first | rfl | simp [setL] | omega) ?_
        refine X.bi ?_
        refine X.mv ?_
        refine X.iG (fun hb91 => ?_) (fun hb91 => ?_)
        ·replace h := condT hb91 h
         refine X.mv ?_
         refine X.gy ?_
         refine X.mv ?_
         refine X.gy ?_
         obtain ⟨v92, hv92, h⟩ := bindE h
         refine X.idxT (l := a84.map t_int) elt59 ⟨(idxL_spec hv92).1, by have h0 := (idxL_spec hv92).1; have h1 := idxL_lt hv92; rw [List.length_map]; (try dsimp only); omega⟩ (by first | rfl | simp [setL] | omega) ?_
         refine X.gy ?_
         refine X.ldRow (sz := 1) shp25 (flat_at2 (off := 0) (by exact cells_map (f := t_int) (fun _ => rfl)) (idxL_map t_int hv92) (by rfl)) (by first | rfl | simp [setL] | omega) ?_
         refine X.gy ?_
         refine X.mv ?_
         refine X.gy ?_
         obtain ⟨v93, hv93, h⟩ := bindE h
         refine X.idxR (l := a84.map t_int) (rl := v92.map int) elt25 (flat_at2 (off := 0) (by exact cells_map (f := t_int) (fun _ => rfl)) (idxL_map t_int hv92) (by rfl)) ⟨(idxL_spec hv93).1, by have h0 := (idxL_spec hv93).1; have h1 := idxL_lt hv93; rw [List.length_map]; (try dsimp only); omega⟩ (by first | rfl | simp [setL] | omega) ?_
         refine X.gy ?_
         refine X.ldE (sz2 := 1) shp3 (flat_at2 (off := 0) (by exact cells_map (f := t_int) (fun _ => rfl)) (idxL_map t_int hv92) (by rfl)) (flat_at2 (off := 0) (by exact cells_map (f := int) (fun _ => rfl)) (idxL_map int hv93) (by rfl)) (by first | rfl | simp [setL] | omega) ?_
         refine X.gy ?_
         refine X.bi ?_
         refine X.pT ?_
         cases h
         exact X.eG
        ·replace h := condF hb91 h
         refine X.gn ?_
         refine X.gn ?_
         refine X.gn ?_
         refine X.gn ?_
         refine X.gn ?_
         refine X.gn ?_
         refine X.gn ?_
         refine X.pF ?_
         cases h
         exact X.eG
       replace h := h2; clear h2
       refine R.cd (fun hc94 => ?_) (fun hc94 => ?_)
       ·replace h := condT hc94 h
        refine Run.draw (footOf [(2, ([832], [], [], [])), (3, ([832], [], [], [])), (7, ([832], [], [], [])), (8, ([832], [], [], [])), (10, ([832], [], [], [])), (11, ([832], [], [], [])), (14, ([832], [], [], [])), (15, ([832], [], [], [])), (17, ([832], [], [], [])), (18, ([832], [], [], [])), (21, ([832], [], [], [])), (22, ([832], [], [], [])), (24, ([832], [], [], [])), (25, ([832], [], [], [])), (28, ([832], [], [], [])), (29, ([832], [832], [], []))]) mixed (by kernel_rfl) (by kernel_rfl) ?_
        refine X.mv ?_
        refine X.mv ?_
        refine X.idxT (l := a84.map t_int) elt59 ⟨(idxL_spec hv88).1, by have h0 := (idxL_spec hv88).1; have h1 := idxL_lt hv88; rw [List.length_map]; (try dsimp only); omega⟩ (by first | rfl | simp [setL] | omega) ?_
        refine X.ldRow (sz := 1) shp25 (flat_at2 (off := 0) (by exact cells_map (f := t_int) (fun _ => rfl)) (idxL_map t_int hv88) (by rfl)) (by first | rfl | simp [setL] | omega) ?_
        refine X.mv ?_
        refine X.mv ?_
        refine X.mv ?_
        refine X.idxT (l := a84.map t_int) elt59 ⟨(idxL_spec hv88).1, by have h0 := (idxL_spec hv88).1; have h1 := idxL_lt hv88; rw [List.length_map]; (try dsimp only); omega⟩ (by first | rfl | simp [setL] | omega) ?_
        refine X.ldRow (sz := 1) shp25 (flat_at2 (off := 0) (by exact cells_map (f := t_int) (fun _ => rfl)) (idxL_map t_int hv88) (by rfl)) (by first | rfl | simp [setL] | omega) ?_
        refine X.mv ?_
        obtain ⟨v95, hv95, h⟩ := bindE h
        refine X.idxR (l := a84.map t_int) (rl := v88.map int) elt25 (flat_at2 (off := 0) (by exact cells_map (f := t_int) (fun _ => rfl)) (idxL_map t_int hv88) (by rfl)) ⟨(idxL_spec hv95).1, by have h0 := (idxL_spec hv95).1; have h1 := idxL_lt hv95; rw [List.length_map]; (try dsimp only); omega⟩ (by first | rfl | simp [setL] | omega) ?_
        refine X.ldE (sz2 := 1) shp3 (flat_at2 (off := 0) (by exact cells_map (f := t_int) (fun _ => rfl)) (idxL_map t_int hv88) (by rfl)) (flat_at2 (off := 0) (by exact cells_map (f := int) (fun _ => rfl)) (idxL_map int hv95) (by rfl)) (by first | rfl | simp [setL] | omega) ?_
        refine X.mv ?_
        refine X.mv ?_
        refine X.idxT (l := a84.map t_int) elt59 ⟨(idxL_spec hv88).1, by have h0 := (idxL_spec hv88).1; have h1 := idxL_lt hv88; rw [List.length_map]; (try dsimp only); omega⟩ (by first | rfl | simp [setL] | omega) ?_
        refine X.ldRow (sz := 1) shp25 (flat_at2 (off := 0) (by exact cells_map (f := t_int) (fun _ => rfl)) (idxL_map t_int hv88) (by rfl)) (by first | rfl | simp [setL] | omega) ?_
        refine X.mv ?_
        refine X.idxR (l := a84.map t_int) (rl := v88.map int) elt25 (flat_at2 (off := 0) (by exact cells_map (f := t_int) (fun _ => rfl)) (idxL_map t_int hv88) (by rfl)) ⟨(idxL_spec hv89).1, by have h0 := (idxL_spec hv89).1; have h1 := idxL_lt hv89; rw [List.length_map]; (try dsimp only); omega⟩ (by first | rfl | simp [setL] | omega) ?_
        refine X.ldE (sz2 := 1) shp3 (flat_at2 (off := 0) (by exact cells_map (f := t_int) (fun _ => rfl)) (idxL_map t_int hv88) (by rfl)) (flat_at2 (off := 0) (by exact cells_map (f := int) (fun _ => rfl)) (idxL_map int hv89) (by rfl)) (by first | rfl | simp [setL] | omega) ?_
        refine X.mv ?_
        refine X.mv ?_
        obtain ⟨v96, hv96, h⟩ := bindE h
        refine X.idxT (l := a84.map t_int) elt59 ⟨(idxL_spec hv96).1, by have h0 := (idxL_spec hv96).1; have h1 := idxL_lt hv96; rw [List.length_map]; (try dsimp only); omega⟩ (by first | rfl | simp [setL] | omega) ?_
        refine X.ldRow (sz := 1) shp25 (flat_at2 (off := 0) (by exact cells_map (f := t_int) (fun _ => rfl)) (idxL_map t_int hv96) (by rfl)) (by first | rfl | simp [setL] | omega) ?_
        refine X.mv ?_
        obtain ⟨v97, hv97, h⟩ := bindE h
        refine X.idxR (l := a84.map t_int) (rl := v96.map int) elt25 (flat_at2 (off := 0) (by exact cells_map (f := t_int) (fun _ => rfl)) (idxL_map t_int hv96) (by rfl)) ⟨(idxL_spec hv97).1, by have h0 := (idxL_spec hv97).1; have h1 := idxL_lt hv97; rw [List.length_map]; (try dsimp only); omega⟩ (by first | rfl | simp [setL] | omega) ?_
        refine X.ldE (sz2 := 1) shp3 (flat_at2 (off := 0) (by exact cells_map (f := t_int) (fun _ => rfl)) (idxL_map t_int hv96) (by rfl)) (flat_at2 (off := 0) (by exact cells_map (f := int) (fun _ => rfl)) (idxL_map int hv97) (by rfl)) (by first | rfl | simp [setL] | omega) ?_
        refine X.addW (by rfl) (by rfl) (by rfl) ?_
        obtain ⟨v98, hv98, h⟩ := bindE h
        refine X.cp (s_l02Max_pc _ _ _ hv98) ?_
        refine X.idxR (l := a84.map t_int) (rl := v88.map int) elt25 (flat_at2 (off := 0) (by exact cells_map (f := t_int) (fun _ => rfl)) (idxL_map t_int hv88) (by rfl)) ⟨(idxL_spec hv95).1, by have h0 := (idxL_spec hv95).1; have h1 := idxL_lt hv95; rw [List.length_map]; (try dsimp only); omega⟩ (by first | rfl | simp [setL] | omega) ?_
        refine X.stE (l2 := (setL a84 z71 (setL v88 z83 v98)).map t_int) (rl2 := (setL v88 z83 v98).map int) (sz2 := 1) (sz := 1) shp3 (flat_at2 (off := 0) (by exact cells_map (f := t_int) (fun _ => rfl)) (idxL_map t_int hv88) (by rfl)) (flat_at2 (off := 0) (by exact cells_map (f := int) (fun _ => rfl)) (idxL_map int hv95) (by rfl)) (by simp [setL]) (by exact cells_map (f := int) (fun _ => rfl)) (by rw [← setL_map]; exact flat_setC (by exact cells_map (f := int) (fun _ => rfl)) (idxL_map int hv95) (by rfl) (by decide)) (by simp [setL]) (by exact cells_map (f := t_int) (fun _ => rfl)) (by rw [← setL_map]; exact flat_setC (by exact cells_map (f := t_int) (fun _ => rfl)) (idxL_map t_int hv88) (by rfl) (by decide)) (by first | rfl | simp [setL] | omega) ?_
        refine X.nil ?_
        refine Run.blk ?_
        refine Run.reg ?_
        refine X.ad ?_
        refine X.mn ?_
        refine R.castS (t := 3) (.tref 832 ((setL a84 z71 (setL v88 z83 v98)).map t_int).length .out) (by rfl) (.inl (by first | rfl | simp [setL])) ?_
        exact R.ag hag82 (n82 - 1) (z83 + 1, (setL a84 z71 (setL v88 z83 v98))) (R.n3 (by first | (rw [hds82]; exact h) | (dsimp only; rw [hds82]; exact h)))
       ·replace h := condF hc94 h
        refine Run.skip ?_
        refine Run.blk ?_
        refine Run.reg ?_
        refine X.ad ?_
        refine X.mn ?_
        exact R.ag hag82 (n82 - 1) (z83 + 1, a84) (R.n3 (by first | (rw [hds82]; exact h) | (dsimp only; rw [hds82]; exact h)))
      ·rw [drop_endI hza82 hc87] at h
       rw [s_l08Dist_L6] at h
       refine Run.exit (by rfl) ?_
       exact R.mt hmeet78 a84 (Option.some.inj h)
     rintro p99 rfl
     refine Run.blk ?_
     refine Run.reg ?_
     refine X.ad ?_
     refine X.mn ?_
     exact R.ag hag70 (n70 - 1) (z71 + 1, p99) (R.n3 (by first | (rw [hds70]; exact h) | (dsimp only; rw [hds70]; exact h)))
    ·rw [drop_endI hza70 hc75] at h
     rw [s_l08Dist_L5] at h
     refine Run.exit (by rfl) ?_
     exact R.mt hmeet66 a72 (Option.some.inj h)
   rintro p100 rfl
   refine Run.blk ?_
   refine Run.reg ?_
   refine X.ad ?_
   refine X.mn ?_
   exact R.ag hag58 (n58 - 1) (z59 + 1, p100) (R.n3 (by first | (rw [hds58]; exact h) | (dsimp only; rw [hds58]; exact h)))
  ·rw [drop_endI hza58 hc63] at h
   rw [s_l08Dist_L4] at h
   refine Run.exit (by rfl) ?_
   exact R.mt hmeet54 a60 (Option.some.inj h)
 rintro p101 rfl
 refine Run.sr ?_
 refine X.mv ?_
 refine X.an ?_
 cases h
 refine R.fin1t Tryz.results133 (by rfl) (by rfl) (by first | rfl | simp [setL] | omega) ?_
 rfl
theorem s_Distances_pc (b0 : TProject) (r : List (List Int)) (h : s_Distances b0 = some r) : PC Tryz.prog 90 [eTProject b0] (.tre 25 1 (r.map t_int)) := by
 unfold s_Distances at h
 refine PC.start Tryz.func90 Tryz.ntmps90 rfl ok90 rfl ?_
 refine Run.sr ?_
 refine X.bx ?_
 refine X.an ?_
 refine Run.seq ?_
 refine Run.seq ?_
 obtain ⟨v1, hv1, h⟩ := bindE h
 obtain ⟨e2, he2, h2⟩ := bindE h
 refine R.regG [(1, .lptr 64 0), (11, bool e2)] [(64, .blk true [int b0.Deadline, .slice (b0.Activities.map eTActivity), .slice (b0.Links.map eTLink), .slice (b0.Resources.map eTResource), .slice (b0.Stocks.map int)])] ?_ ?_
 ·clear h; have h := he2; clear he2 h2
  refine X.ld shp34 ?_
  refine X.cp (s_ProjectOk_pc _ _ hv1) ?_
  refine X.un (by rfl) (by rfl) (by rfl) ?_
  refine X.mv ?_
  refine X.iG (fun hb3 => ?_) (fun hb3 => ?_)
  ·replace h := condF hb3 h
   refine X.ld shp34 ?_
   refine X.gy ?_
   obtain ⟨v4, hv4, h⟩ := bindE h
   refine X.cp (s_PositiveCycle_pc _ _ hv4) ?_
   refine X.gy ?_
   refine X.ls elt25 ?_
   refine X.gy ?_
   refine X.bi ?_
   refine X.pF ?_
   cases h
   exact X.eG
  ·replace h := condT hb3 h
   refine X.gn ?_
   refine X.gn ?_
   refine X.gn ?_
   refine X.pT ?_
   cases h
   exact X.eG
 replace h := h2; clear h2
 refine R.cd (fun hc5 => ?_) (fun hc5 => ?_)
 ·replace h := condT hc5 h
  refine Run.sr ?_
  refine X.an ?_
  cases h
  refine R.fin1tn (e := 25) (sz := 1) Tryz.results90 (by rfl) (by decide) ?_
  rfl
 ·replace h := condF hc5 h
  refine Run.skip ?_
  refine Run.sr ?_
  refine X.ld shp34 ?_
  obtain ⟨v6, hv6, h⟩ := bindE h
  refine X.callTr (s_l08Dist_pc _ _ hv6) (by rfl) (by rfl) (by rfl) (by trivial) (by rfl) (by rfl) (by rfl) (by rfl) ?_
  refine X.an ?_
  cases h
  refine R.fin1t Tryz.results90 (by rfl) (by rfl) (by first | rfl | simp [setL] | omega) ?_
  rfl
theorem s_EarliestStarts_pc (b0 : TProject) (r : List Int) (h : s_EarliestStarts b0 = some r) : PC Tryz.prog 63 [eTProject b0] (.fresh false 3 1 (r.map int)) := by
 unfold s_EarliestStarts at h
 refine PC.start Tryz.func63 Tryz.ntmps63 rfl ok63 rfl ?_
 refine Run.sr ?_
 refine X.bx ?_
 refine X.an ?_
 refine Run.sr ?_
 refine X.ld shp34 ?_
 obtain ⟨v1, hv1, h⟩ := bindE h
 refine X.callTr (s_Distances_pc _ _ hv1) (by rfl) (by rfl) (by rfl) (by trivial) (by rfl) (by rfl) (by rfl) (by rfl) ?_
 refine X.an ?_
 refine Run.sr ?_
 refine X.buildSlice false elt25 zer3 (by rfl) (by rfl) (by rfl) (by rfl) (by rfl) (by rfl) (by repeat (first | trivial | refine ⟨by first | rfl | simp [setL], ?_⟩)) (allSz_spec (by rfl)) (by rfl) (by rfl) (by rfl) ?_
 refine X.an ?_
 refine Run.seq ?_
 refine Run.sr ?_
 refine X.mv ?_
 refine X.lenT (z := (v1.length : Int)) elt59 (by rfl) (by rfl) (by first | rfl | simp [setL] | omega) (by simp) (by rfl) (by rfl) ?_
 refine X.mn ?_
 obtain ⟨o2, ho2, h⟩ := bindE h
 refine R.join2 (β := (List Int)) [] [] (fun p29 S => (4, .own 640 (p29.map int).length) :: S) (fun p29 M => (640, .obj false 3 1 (p29.map int)) :: M) (fun p29 => p29 = o2) ?_ ?_
 ·intro JJ5 hmeet4
  have hup3 := h; clear h; have h := ho2; clear ho2
  refine Run.block ?_
  refine R.lp (β := Int × (List Int)) [(12, int (v1.length : Int))] [(576, .tre 25 1 (v1.map t_int))] (fun bb S => (3, .tref 576 (v1.map t_int).length .out) :: (4, .own 640 (bb.2.map int).length) :: (13, int bb.1) :: S) (fun bb M => (640, .obj false 3 1 (bb.2.map int)) :: M) (fun n bb => s_EarliestStarts_L1 v1 n bb.1 bb.2 = some o2) F0 (0, ([] : List Int)) h ?_
  clear h
  rintro JJ6 n6 ⟨a8, a9⟩ hag6 h
  dsimp only at h
  obtain _ | n6 := n6
  ·exact absurd h (by simp [s_EarliestStarts_L1])
  rw [s_EarliestStarts_L1] at h
  refine Run.sr ?_
  refine X.bi ?_
  refine X.nil ?_
  refine Run.seq ?_
  refine R.cd (fun hc12 => ?_) (fun hc12 => ?_)
  ·replace h := condT hc12 h
   refine Run.skip ?_
   refine Run.seq ?_
   refine Run.block ?_
   refine Run.sr ?_
   refine X.mv ?_
   refine X.an ?_
   refine Run.sr ?_
   refine X.an ?_
   refine Run.seq ?_
   refine Run.sr ?_
   refine X.mv ?_
   refine X.lenT (z := (v1.length : Int)) elt59 (by rfl) (by rfl) (by first | rfl | simp [setL] | omega) (by simp) (by rfl) (by rfl) ?_
   refine X.mn ?_
   obtain ⟨o13, ho13, h⟩ := bindE h
   refine R.join2 (β := Int) [(12, int (v1.length : Int)), (13, int a8)] [(576, .tre 25 1 (v1.map t_int)), (640, .obj false 3 1 (a9.map int))] (fun p27 S => (3, .tref 576 (v1.map t_int).length .out) :: (4, .own 640 (a9.map int).length) :: (6, int p27) :: S) (fun p27 M => M) (fun p27 => p27 = o13) ?_ ?_
   ·intro JJ16 hmeet15
    have hup14 := h; clear h; have h := ho13; clear ho13
    refine Run.block ?_
    refine R.lp (β := Int × Int) [(5, int a8), (12, int (v1.length : Int)), (13, int a8), (17, int (v1.length : Int))] [(576, .tre 25 1 (v1.map t_int)), (640, .obj false 3 1 (a9.map int))] (fun bb S => (3, .tref 576 (v1.map t_int).length .out) :: (4, .own 640 (a9.map int).length) :: (6, int bb.1) :: (18, int bb.2) :: S) (fun bb M => M) (fun n bb => s_EarliestStarts_L2 v1 a8 n bb.1 bb.2 = some o13) F0 (0, 0) h ?_
    clear h
    rintro JJ17 n17 ⟨a19, a20⟩ hag17 h
    dsimp only at h
    obtain _ | n17 := n17
    ·exact absurd h (by simp [s_EarliestStarts_L2])
    rw [s_EarliestStarts_L2] at h
    refine Run.sr ?_
    refine X.bi ?_
    refine X.nil ?_
    refine Run.seq ?_
    refine R.cd (fun hc23 => ?_) (fun hc23 => ?_)
    ·replace h := condT hc23 h
     refine Run.skip ?_
     refine Run.seq ?_
     refine Run.block ?_
     refine Run.sr ?_
     refine X.mv ?_
     refine X.an ?_
     refine Run.reg ?_
     refine X.mv ?_
     refine X.mv ?_
     refine X.mv ?_
     obtain ⟨v24, hv24, h⟩ := bindE h
     refine X.idxT (l := v1.map t_int) elt59 ⟨(idxL_spec hv24).1, by have h0 := (idxL_spec hv24).1; have h1 := idxL_lt hv24; rw [List.length_map]; (try dsimp only); omega⟩ (by first | rfl | simp [setL] | omega) ?_
     refine X.ldRow (sz := 1) shp25 (flat_at2 (off := 0) (by exact cells_map (f := t_int) (fun _ => rfl)) (idxL_map t_int hv24) (by rfl)) (by first | rfl | simp [setL] | omega) ?_
     refine X.mv ?_
     obtain ⟨v25, hv25, h⟩ := bindE h
     refine X.idxR (l := v1.map t_int) (rl := v24.map int) elt25 (flat_at2 (off := 0) (by exact cells_map (f := t_int) (fun _ => rfl)) (idxL_map t_int hv24) (by rfl)) ⟨(idxL_spec hv25).1, by have h0 := (idxL_spec hv25).1; have h1 := idxL_lt hv25; rw [List.length_map]; (try dsimp only); omega⟩ (by first | rfl | simp [setL] | omega) ?_
     refine X.ldE (sz2 := 1) shp3 (flat_at2 (off := 0) (by exact cells_map (f := t_int) (fun _ => rfl)) (idxL_map t_int hv24) (by rfl)) (flat_at2 (off := 0) (by exact cells_map (f := int) (fun _ => rfl)) (idxL_map int hv25) (by rfl)) (by first | rfl | simp [setL] | omega) ?_
     obtain ⟨v26, hv26, h⟩ := bindE h
     refine X.cp (s_l02Max_pc _ _ _ hv26) ?_
     refine X.an ?_
     refine Run.blk ?_
     refine Run.reg ?_
     refine X.addW (by rfl) (by rfl) (by rfl) ?_
     refine X.mn ?_
     exact hag17 n17 (v26, (W (a20 + 1))) _ _ (by omega) h (by repeat (first | trivial | refine ⟨by first | rfl | simp [setL], ?_⟩)) (by repeat (first | trivial | refine ⟨by first | rfl | simp [setL], ?_⟩)) (by rfl) (by rfl)
    ·replace h := condF hc23 h
     refine Run.exit (by rfl) ?_
     exact R.mt hmeet15 a19 (Option.some.inj h)
   rintro p27 rfl
   refine Run.reg ?_
   refine X.mv ?_
   refine X.mv ?_
   refine X.buildSlice false elt25 zer3 (by rfl) (by rfl) (by rfl) (by rfl) (by rfl) (by rfl) (by repeat (first | trivial | refine ⟨by first | rfl | simp [setL], ?_⟩)) (allSz_spec (by rfl)) (by rfl) (by rfl) (by rfl) ?_
   obtain ⟨v28, hv28, h⟩ := bindE h
   refine X.append elt25 zer3 (by rfl) (by rfl) (by first | rfl | simp [setL] | omega) (by rfl) (.own _ _ _ _ _ _ (look_mem (by rfl)) (by first | rfl | simp [setL] | omega)) (allSz_spec (by rfl)) (appL_len int hv28) (appL_map int hv28) (by rfl) (by rfl) (by rfl) (by rfl) ?_
   refine X.an ?_
   refine Run.blk ?_
   refine Run.reg ?_
   refine X.addW (by rfl) (by rfl) (by rfl) ?_
   refine X.mn ?_
   exact hag6 n6 ((W (a8 + 1)), v28) _ _ (by omega) h (by repeat (first | trivial | refine ⟨by first | rfl | simp [setL], ?_⟩)) (by repeat (first | trivial | refine ⟨by first | rfl | simp [setL], ?_⟩)) (by rfl) (by rfl)
  ·replace h := condF hc12 h
   refine Run.exit (by rfl) ?_
   exact R.mt hmeet4 a9 (Option.some.inj h)
 rintro p29 rfl
 refine Run.sr ?_
 refine X.mv ?_
 refine X.an ?_
 cases h
 refine R.fin1o Tryz.results63 (by rfl) (by rfl) (by first | rfl | simp [setL] | omega) ?_
 rfl
theorem s_l08Short_pc (b0 : TProject) (b1 : Int) (r : Int) (h : s_l08Short b0 b1 = some r) : PC Tryz.prog 64 [eTProject b0, int b1] (int r) := by
 unfold s_l08Short at h
 refine PC.start Tryz.func64 Tryz.ntmps64 rfl ok64 rfl ?_
 refine Run.sr ?_
 refine X.bx ?_
 refine X.an ?_
 refine Run.seq ?_
 refine Run.draw (footOf [(1, ([128], [], [], [])), (6, ([128], [], [], [])), (10, ([], [960], [], [])), (11, ([960], [], [], []))]) mixed (by kernel_rfl) (by kernel_rfl) ?_
 refine X.fl fld34_1 ?_
 refine X.ld shp30 ?_
 refine X.mv ?_
 obtain ⟨v1, hv1, h⟩ := bindE h
 refine X.ix elt30 (idxL_spec hv1).1 (idxL_map eTActivity hv1) ?_
 refine X.lc shp50 ?_
 refine X.fl fld34_1 ?_
 refine X.ld shp30 ?_
 refine X.mv ?_
 refine X.ix elt30 (idxL_spec hv1).1 (idxL_map eTActivity hv1) ?_
 refine X.lc shp50 ?_
 obtain ⟨v2, hv2, h⟩ := bindE h
 refine X.callF (s_ModeIndexes_pc _ _ hv2) (by rfl) (by rfl) (by rfl) (by trivial) (by rfl) (by rfl) (by rfl) (by rfl) ?_
 obtain ⟨v3, hv3, h⟩ := bindE h
 refine X.cp (s_MinDuration_pc _ _ _ hv3) ?_
 refine X.an ?_
 cases h
 refine R.f1 Tryz.results64 ?_
 rfl
theorem s_PathBound_pc (b0 : TProject) (r : Int) (h : s_PathBound b0 = some r) : PC Tryz.prog 25 [eTProject b0] (int r) := by
 unfold s_PathBound at h
 refine PC.start Tryz.func25 Tryz.ntmps25 rfl ok25 rfl ?_
 refine Run.sr ?_
 refine X.bx ?_
 refine X.an ?_
 refine Run.sr ?_
 refine X.an ?_
 refine Run.seq ?_
 refine Run.sr ?_
 refine X.ld shp34 ?_
 obtain ⟨v1, hv1, h⟩ := bindE h
 refine X.callF (s_EarliestStarts_pc _ _ hv1) (by rfl) (by rfl) (by rfl) (by trivial) (by rfl) (by rfl) (by rfl) (by rfl) ?_
 refine X.len_o elt25 (by rfl) (by rfl) (by first | rfl | simp [setL] | omega) (by first | exact List.length_map .. | rfl) (by rfl) (by rfl) ?_
 refine X.mn ?_
 obtain ⟨o2, ho2, h⟩ := bindE h
 refine R.join2 (β := Int) [] [] (fun p16 S => (3, int p16) :: S) (fun p16 M => M) (fun p16 => p16 = o2) ?_ ?_
 ·intro JJ5 hmeet4
  have hup3 := h; clear h; have h := ho2; clear ho2
  refine Run.block ?_
  refine R.bndO (n := 448) (by rfl) (fun hbd8 => ?_)
  replace hbd8 : v1.length ≤ 9223372036854775807 := by first | (rw [List.length_map] at hbd8; exact hbd8) | simp
  refine R.lp (β := Int × Int) [(1, .lptr 64 0), (8, int (v1.length : Int))] [(64, .blk true [int b0.Deadline, .slice (b0.Activities.map eTActivity), .slice (b0.Links.map eTLink), .slice (b0.Resources.map eTResource), .slice (b0.Stocks.map int)]), (448, .obj false 3 1 (v1.map int))] (fun bb S => (3, int bb.2) :: (7, .own 448 (v1.map int).length) :: (9, int bb.1) :: S) (fun bb M => M) (fun n bb => 0 ≤ bb.1 ∧ bb.1 + n = (v1.length : Int) ∧ s_PathBound_L1 b0 (v1.drop bb.1.toNat) bb.1 bb.2 = some o2) v1.length (0, 0) ⟨Int.le_refl _, by simp, h⟩ ?_
  clear h
  rintro JJ8 n8 ⟨z9, a10⟩ hag8 ⟨hza8, hzb8, h⟩
  dsimp only at hza8 hzb8 h
  refine Run.sr ?_
  refine X.bi ?_
  refine X.nil ?_
  refine Run.seq ?_
  refine R.cd (fun hc13 => ?_) (fun hc13 => ?_)
  ·obtain ⟨x11, xs12, hd8, hx8, hds8, hlt8⟩ := drop_atI hza8 hc13
   rw [hd8] at h
   rw [s_PathBound_L1] at h
   refine Run.skip ?_
   refine Run.seq ?_
   refine Run.block ?_
   refine Run.sr ?_
   refine X.mv ?_
   refine X.index_o elt25 (by rfl) (by rfl) (by first | rfl | simp [setL] | omega) (by rfl) (idxL_spec hx8).1 (idxL_map int hx8) (by rfl) (by rfl) (by rfl) ?_
   refine X.lc shp3 ?_
   refine X.as ?_
   refine X.an ?_
   refine Run.reg ?_
   refine X.mv ?_
   refine X.mv ?_
   refine X.ld shp34 ?_
   refine X.mv ?_
   obtain ⟨v14, hv14, h⟩ := bindE h
   refine X.cp (s_l08Short_pc _ _ _ hv14) ?_
   refine X.addW (by rfl) (by rfl) (by rfl) ?_
   obtain ⟨v15, hv15, h⟩ := bindE h
   refine X.cp (s_l02Max_pc _ _ _ hv15) ?_
   refine X.an ?_
   refine Run.blk ?_
   refine Run.reg ?_
   refine X.ad ?_
   refine X.mn ?_
   exact R.ag hag8 (n8 - 1) (z9 + 1, v15) (R.n3 (by first | (rw [hds8]; exact h) | (dsimp only; rw [hds8]; exact h)))
  ·rw [drop_endI hza8 hc13] at h
   rw [s_PathBound_L1] at h
   refine Run.exit (by rfl) ?_
   exact R.mt hmeet4 a10 (Option.some.inj h)
 rintro p16 rfl
 refine Run.sr ?_
 refine X.mv ?_
 refine X.an ?_
 cases h
 refine R.f1 Tryz.results25 ?_
 rfl
theorem s_l04Least_pc (b0 : TActivity) (b1 : List Int) (b2 : Int) (b3 : Bool) (b4 : Bool) (r : Int) (h : s_l04Least b0 b1 b2 b3 b4 = some r) : PC Tryz.prog 65 [eTActivity b0, .slice (b1.map int), int b2, bool b3, bool b4] (int r) := by
 unfold s_l04Least at h
 refine PC.start Tryz.func65 Tryz.ntmps65 rfl ok65 rfl ?_
 refine Run.sr ?_
 refine X.bx ?_
 refine X.an ?_
 refine Run.sr ?_
 refine X.an ?_
 refine Run.sr ?_
 refine X.an ?_
 refine Run.seq ?_
 refine Run.sr ?_
 refine X.fl fld50_2 ?_
 refine X.ld shp48 ?_
 refine X.ls elt48 ?_
 refine X.mn ?_
 obtain ⟨o1, ho1, h⟩ := bindE h
 refine R.join2 (β := Int) [] [] (fun p34 S => (11, int p34) :: S) (fun p34 M => M) (fun p34 => (Sum.inl p34) = o1) ?_ ?_
 ·intro JJ4 hmeet3
  have hup2 := h; clear h; have h := ho1; clear ho1
  refine Run.block ?_
  refine R.bndS (t := 18) (by rfl) (fun hbd7 => ?_)
  replace hbd7 : b0.Modes.length ≤ 9223372036854775807 := by first | (rw [List.length_map] at hbd7; exact hbd7) | simp
  refine R.lp (β := Int × Int × Bool) [(1, .slice (b1.map int)), (2, int b2), (3, bool b3), (4, bool b4), (18, .slice (b0.Modes.map eTMode)), (19, int (b0.Modes.length : Int))] [] (fun bb S => (11, int bb.2.1) :: (12, bool bb.2.2) :: (20, int bb.1) :: S) (fun bb M => M) (fun n bb => 0 ≤ bb.1 ∧ bb.1 + n = (b0.Modes.length : Int) ∧ s_l04Least_L1 b1 b2 b3 b4 (b0.Modes.drop bb.1.toNat) bb.1 bb.2.1 bb.2.2 = some o1) b0.Modes.length (0, 0, false) ⟨Int.le_refl _, by simp, h⟩ ?_
  clear h
  rintro JJ7 n7 ⟨z8, a9, a10⟩ hag7 ⟨hza7, hzb7, h⟩
  dsimp only at hza7 hzb7 h
  refine Run.sr ?_
  refine X.bi ?_
  refine X.nil ?_
  refine Run.seq ?_
  refine R.cd (fun hc13 => ?_) (fun hc13 => ?_)
  ·obtain ⟨x11, xs12, hd7, hx7, hds7, hlt7⟩ := drop_atI hza7 hc13
   rw [hd7] at h
   rw [s_l04Least_L1] at h
   refine Run.skip ?_
   refine Run.seq ?_
   refine Run.block ?_
   refine Run.sr ?_
   refine X.mv ?_
   refine X.ix elt48 (idxL_spec hx7).1 (idxL_map eTMode hx7) ?_
   refine X.lc shp100 ?_
   refine X.alloc zer100 (by rfl) (by rfl) (by rfl) ?_
   refine X.as ?_
   refine X.sl shp100 ?_
   refine X.nil ?_
   refine Run.seq ?_
   refine Run.sr ?_
   refine X.mv ?_
   refine X.mv ?_
   obtain ⟨v14, hv14, h⟩ := bindE h
   refine X.cp (s_SetHas_pc _ _ _ hv14) ?_
   refine X.un (by rfl) (by rfl) (by rfl) ?_
   refine X.nil ?_
   refine R.cd (fun hc15 => ?_) (fun hc15 => ?_)
   ·replace h := condT hc15 h
    refine Run.exit (by rfl) ?_
    refine Run.reg ?_
    refine X.ad ?_
    refine X.mn ?_
    exact R.ag hag7 (n7 - 1) (z8 + 1, a9, a10) (R.n3 (by first | (rw [hds7]; exact h) | (dsimp only; rw [hds7]; exact h)))
   ·replace h := condF hc15 h
    refine Run.skip ?_
    refine Run.sr ?_
    refine X.fl fld100_1 ?_
    refine X.ld shp25 ?_
    refine X.an ?_
    refine Run.seq ?_
    refine Run.sr ?_
    refine X.mn ?_
    obtain ⟨o16, ho16, h⟩ := bindE h
    refine R.join2 (β := (List Int)) [(1, .slice (b1.map int)), (2, int b2), (3, bool b3), (4, bool b4), (11, int a9), (12, bool a10), (14, .lptr 896 0), (18, .slice (b0.Modes.map eTMode)), (19, int (b0.Modes.length : Int)), (20, int z8)] [(896, .blk true [int x11.Duration, .slice (x11.Usage.map int), .slice (x11.Consumption.map int)])] (fun p21 S => (15, .slice (p21.map int)) :: S) (fun p21 M => M) (fun p21 => p21 = o16) ?_ ?_
    ·intro JJ19 hmeet18
     have hup17 := h; clear h; have h := ho16; clear ho16
     refine R.cd (fun hc20 => ?_) (fun hc20 => ?_)
     ·replace h := condT hc20 h
      refine Run.reg ?_
      refine X.fl fld100_2 ?_
      refine X.ld shp25 ?_
      refine X.an ?_
      exact R.mt hmeet18 x11.Consumption (Option.some.inj h)
     ·replace h := condF hc20 h
      refine Run.skip ?_
      exact R.mt hmeet18 x11.Usage (Option.some.inj h)
    rintro p21 rfl
    refine Run.seq ?_
    refine Run.sr ?_
    refine X.mv ?_
    refine X.mv ?_
    refine X.ls elt25 ?_
    refine X.subW (by rfl) (by rfl) (by rfl) ?_
    obtain ⟨v22, hv22, h⟩ := bindE h
    refine X.cp (s_l01In_pc _ _ _ _ hv22) ?_
    refine X.un (by rfl) (by rfl) (by rfl) ?_
    refine X.nil ?_
    refine R.cd (fun hc23 => ?_) (fun hc23 => ?_)
    ·replace h := condT hc23 h
     refine Run.sr ?_
     refine X.an ?_
     cases h
     have h := hup2
     replace h := elimR h
     cases h
     refine R.f1 Tryz.results65 ?_
     rfl
    ·replace h := condF hc23 h
     refine Run.skip ?_
     refine Run.sr ?_
     refine X.mv ?_
     refine X.mv ?_
     obtain ⟨v24, hv24, h⟩ := bindE h
     refine X.ix elt25 (idxL_spec hv24).1 (idxL_map int hv24) ?_
     refine X.lc shp3 ?_
     refine X.an ?_
     refine Run.seq ?_
     refine Run.sr ?_
     refine X.mn ?_
     obtain ⟨o25, ho25, h⟩ := bindE h
     refine R.join2 (β := Int) [(1, .slice (b1.map int)), (2, int b2), (3, bool b3), (4, bool b4), (11, int a9), (12, bool a10), (18, .slice (b0.Modes.map eTMode)), (19, int (b0.Modes.length : Int)), (20, int z8)] [] (fun p30 S => (16, int p30) :: S) (fun p30 M => M) (fun p30 => p30 = o25) ?_ ?_
     ·intro JJ28 hmeet27
      have hup26 := h; clear h; have h := ho25; clear ho25
      refine R.cd (fun hc29 => ?_) (fun hc29 => ?_)
      ·replace h := condT hc29 h
       refine Run.reg ?_
       refine X.mv ?_
       refine X.fl fld100_0 ?_
       refine X.ld shp3 ?_
       refine X.mulW (by rfl) (by rfl) (by rfl) ?_
       refine X.an ?_
       exact R.mt hmeet27 (W (v24 * x11.Duration)) (Option.some.inj h)
      ·replace h := condF hc29 h
       refine Run.skip ?_
       exact R.mt hmeet27 v24 (Option.some.inj h)
     rintro p30 rfl
     refine Run.seq ?_
     refine Run.seq ?_
     obtain ⟨e31, he31, h2⟩ := bindE h
     refine R.regG [(1, .slice (b1.map int)), (2, int b2), (3, bool b3), (4, bool b4), (11, int a9), (16, int p30), (18, .slice (b0.Modes.map eTMode)), (19, int (b0.Modes.length : Int)), (20, int z8), (55, bool e31)] [] ?_ ?_
     ·clear h; have h := he31; clear he31 h2
      refine X.mv ?_
      refine X.un (by rfl) (by rfl) (by rfl) ?_
      refine X.mv ?_
      refine X.iG (fun hb32 => ?_) (fun hb32 => ?_)
      ·replace h := condF hb32 h
       refine X.mv ?_
       refine X.gy ?_
       refine X.mv ?_
       refine X.gy ?_
       refine X.bi ?_
       refine X.pF ?_
       cases h
       exact X.eG
      ·replace h := condT hb32 h
       refine X.gn ?_
       refine X.gn ?_
       refine X.pT ?_
       cases h
       exact X.eG
     replace h := h2; clear h2
     refine R.cd (fun hc33 => ?_) (fun hc33 => ?_)
     ·replace h := condT hc33 h
      refine Run.reg ?_
      refine X.mv ?_
      refine X.an ?_
      refine Run.reg ?_
      refine X.an ?_
      refine Run.blk ?_
      refine Run.reg ?_
      refine X.ad ?_
      refine X.mn ?_
      exact R.ag hag7 (n7 - 1) (z8 + 1, p30, true) (R.n3 (by first | (rw [hds7]; exact h) | (dsimp only; rw [hds7]; exact h)))
     ·replace h := condF hc33 h
      refine Run.skip ?_
      refine Run.reg ?_
      refine X.an ?_
      refine Run.blk ?_
      refine Run.reg ?_
      refine X.ad ?_
      refine X.mn ?_
      exact R.ag hag7 (n7 - 1) (z8 + 1, a9, true) (R.n3 (by first | (rw [hds7]; exact h) | (dsimp only; rw [hds7]; exact h)))
  ·rw [drop_endI hza7 hc13] at h
   rw [s_l04Least_L1] at h
   refine Run.exit (by rfl) ?_
   exact R.mt hmeet3 a9 (Option.some.inj h)
 rintro p34 rfl
 replace h := elimL h
 refine Run.sr ?_
 refine X.mv ?_
 refine X.an ?_
 cases h
 refine R.f1 Tryz.results65 ?_
 rfl
theorem s_MinWork_pc (b0 : TActivity) (b1 : List Int) (b2 : Int) (r : Int) (h : s_MinWork b0 b1 b2 = some r) : PC Tryz.prog 26 [eTActivity b0, .slice (b1.map int), int b2] (int r) := by
 unfold s_MinWork at h
 refine PC.start Tryz.func26 Tryz.ntmps26 rfl ok26 rfl ?_
 refine Run.sr ?_
 refine X.bx ?_
 refine X.an ?_
 refine Run.sr ?_
 refine X.ld shp50 ?_
 refine X.mv ?_
 refine X.mv ?_
 obtain ⟨v1, hv1, h⟩ := bindE h
 refine X.cp (s_l04Least_pc _ _ _ _ _ _ hv1) ?_
 refine X.an ?_
 cases h
 refine R.f1 Tryz.results26 ?_
 rfl
theorem s_l03Span_pc (b0 : List TStep) (b1 : Int) (b2 : Int) (r : Bool) (h : s_l03Span b0 b1 b2 = some r) : PC Tryz.prog 117 [.slice (b0.map eTStep), int b1, int b2] (bool r) := by
 unfold s_l03Span at h
 refine PC.start Tryz.func117 Tryz.ntmps117 rfl ok117 rfl ?_
 refine Run.sr ?_
 refine X.an ?_
 refine Run.seq ?_
 obtain ⟨v1, hv1, h⟩ := bindE h
 obtain ⟨e2, he2, h2⟩ := bindE h
 refine R.regG [(6, bool e2)] [] ?_ ?_
 ·clear h; have h := he2; clear he2 h2
  refine X.mv ?_
  refine X.cp (s_StepsOk_pc _ _ hv1) ?_
  refine X.mv ?_
  refine X.iG (fun hb3 => ?_) (fun hb3 => ?_)
  ·replace h := condT hb3 h
   refine X.mv ?_
   refine X.gy ?_
   obtain ⟨v4, hv4, h⟩ := bindE h
   refine X.cp (s_l01In_pc _ _ _ _ hv4) ?_
   refine X.pT ?_
   refine X.mv ?_
   refine X.iG (fun hb5 => ?_) (fun hb5 => ?_)
   ·replace h := condT hb5 h
    refine X.mv ?_
    refine X.gy ?_
    obtain ⟨v6, hv6, h⟩ := bindE h
    refine X.cp (s_l01In_pc _ _ _ _ hv6) ?_
    refine X.pT ?_
    refine X.as ?_
    cases h
    exact X.eG
   ·replace h := condF hb5 h
    refine X.gn ?_
    refine X.pF ?_
    refine X.as ?_
    cases h
    exact X.eG
  ·replace h := condF hb3 h
   refine X.gn ?_
   refine X.pF ?_
   refine X.mv ?_
   refine X.gn ?_
   refine X.gn ?_
   refine X.pF ?_
   refine X.as ?_
   cases h
   exact X.eG
 replace h := h2; clear h2
 cases h
 refine R.f1 Tryz.results117 ?_
 rfl
theorem s_l03At_pc (b0 : List TStep) (b1 : Int) (r : Int) (h : s_l03At b0 b1 = some r) : PC Tryz.prog 118 [.slice (b0.map eTStep), int b1] (int r) := by
 unfold s_l03At at h
 refine PC.start Tryz.func118 Tryz.ntmps118 rfl ok118 rfl ?_
 refine Run.sr ?_
 refine X.an ?_
 refine Run.sr ?_
 refine X.an ?_
 refine Run.seq ?_
 refine Run.sr ?_
 refine X.mv ?_
 refine X.ls elt58 ?_
 refine X.mn ?_
 obtain ⟨o1, ho1, h⟩ := bindE h
 refine R.join2 (β := Int) [] [] (fun p14 S => (5, int p14) :: S) (fun p14 M => M) (fun p14 => p14 = o1) ?_ ?_
 ·intro JJ4 hmeet3
  have hup2 := h; clear h; have h := ho1; clear ho1
  refine Run.block ?_
  refine R.bndS (t := 0) (by rfl) (fun hbd7 => ?_)
  replace hbd7 : b0.length ≤ 9223372036854775807 := by first | (rw [List.length_map] at hbd7; exact hbd7) | simp
  refine R.lp (β := Int × Int) [(1, int b1), (8, .slice (b0.map eTStep)), (9, int (b0.length : Int))] [] (fun bb S => (5, int bb.2) :: (10, int bb.1) :: S) (fun bb M => M) (fun n bb => 0 ≤ bb.1 ∧ bb.1 + n = (b0.length : Int) ∧ s_l03At_L1 b1 (b0.drop bb.1.toNat) bb.1 bb.2 = some o1) b0.length (0, 0) ⟨Int.le_refl _, by simp, h⟩ ?_
  clear h
  rintro JJ7 n7 ⟨z8, a9⟩ hag7 ⟨hza7, hzb7, h⟩
  dsimp only at hza7 hzb7 h
  refine Run.sr ?_
  refine X.bi ?_
  refine X.nil ?_
  refine Run.seq ?_
  refine R.cd (fun hc12 => ?_) (fun hc12 => ?_)
  ·obtain ⟨x10, xs11, hd7, hx7, hds7, hlt7⟩ := drop_atI hza7 hc12
   rw [hd7] at h
   rw [s_l03At_L1] at h
   refine Run.skip ?_
   refine Run.seq ?_
   refine Run.block ?_
   refine Run.sr ?_
   refine X.ix elt58 (idxL_spec hx7).1 (idxL_map eTStep hx7) ?_
   refine X.lc shp136 ?_
   refine X.alloc zer136 (by rfl) (by rfl) (by rfl) ?_
   refine X.sl shp136 ?_
   refine X.nil ?_
   refine Run.sr ?_
   refine X.fl fld136_0 ?_
   refine X.ld shp3 ?_
   refine X.mv ?_
   refine X.bi ?_
   refine X.nil ?_
   refine R.cd (fun hc13 => ?_) (fun hc13 => ?_)
   ·replace h := condT hc13 h
    refine Run.reg ?_
    refine X.fl fld136_1 ?_
    refine X.ld shp3 ?_
    refine X.an ?_
    refine Run.blk ?_
    refine Run.reg ?_
    refine X.ad ?_
    refine X.mn ?_
    exact R.ag hag7 (n7 - 1) (z8 + 1, x10.Capacity) (R.n3 (by first | (rw [hds7]; exact h) | (dsimp only; rw [hds7]; exact h)))
   ·replace h := condF hc13 h
    refine Run.skip ?_
    refine Run.blk ?_
    refine Run.reg ?_
    refine X.ad ?_
    refine X.mn ?_
    exact R.ag hag7 (n7 - 1) (z8 + 1, a9) (R.n3 (by first | (rw [hds7]; exact h) | (dsimp only; rw [hds7]; exact h)))
  ·rw [drop_endI hza7 hc12] at h
   rw [s_l03At_L1] at h
   refine Run.exit (by rfl) ?_
   exact R.mt hmeet3 a9 (Option.some.inj h)
 rintro p14 rfl
 refine Run.sr ?_
 refine X.mv ?_
 refine X.an ?_
 cases h
 refine R.f1 Tryz.results118 ?_
 rfl
theorem s_TotalCapacity_pc (b0 : List TStep) (b1 : Int) (b2 : Int) (r : Int) (h : s_TotalCapacity b0 b1 b2 = some r) : PC Tryz.prog 67 [.slice (b0.map eTStep), int b1, int b2] (int r) := by
 unfold s_TotalCapacity at h
 refine PC.start Tryz.func67 Tryz.ntmps67 rfl ok67 rfl ?_
 refine Run.sr ?_
 refine X.an ?_
 refine Run.seq ?_
 refine Run.sr ?_
 refine X.mv ?_
 refine X.mv ?_
 refine X.mv ?_
 obtain ⟨v1, hv1, h⟩ := bindE h
 refine X.cp (s_l03Span_pc _ _ _ _ hv1) ?_
 refine X.un (by rfl) (by rfl) (by rfl) ?_
 refine X.nil ?_
 refine R.cd (fun hc2 => ?_) (fun hc2 => ?_)
 ·replace h := condT hc2 h
  refine Run.sr ?_
  refine X.an ?_
  cases h
  refine R.f1 Tryz.results67 ?_
  rfl
 ·replace h := condF hc2 h
  refine Run.skip ?_
  refine Run.sr ?_
  refine X.an ?_
  refine Run.seq ?_
  refine Run.sr ?_
  refine X.mv ?_
  refine X.an ?_
  obtain ⟨o3, ho3, h⟩ := bindE h
  refine R.join2 (β := Int) [] [] (fun p14 S => (7, int p14) :: S) (fun p14 M => M) (fun p14 => p14 = o3) ?_ ?_
  ·intro JJ6 hmeet5
   have hup4 := h; clear h; have h := ho3; clear ho3
   refine Run.block ?_
   refine R.lp (β := Int × Int) [(0, .slice (b0.map eTStep)), (2, int b2)] [] (fun bb S => (7, int bb.1) :: (8, int bb.2) :: S) (fun bb M => M) (fun n bb => s_TotalCapacity_L1 b0 b2 n bb.1 bb.2 = some o3) F0 (0, b1) h ?_
   clear h
   rintro JJ6 n6 ⟨a8, a9⟩ hag6 h
   dsimp only at h
   obtain _ | n6 := n6
   ·exact absurd h (by simp [s_TotalCapacity_L1])
   rw [s_TotalCapacity_L1] at h
   refine Run.seq ?_
   refine Run.sr ?_
   refine X.mv ?_
   refine X.mv ?_
   refine X.bi ?_
   refine X.nil ?_
   refine R.cd (fun hc12 => ?_) (fun hc12 => ?_)
   ·replace h := condT hc12 h
    refine Run.skip ?_
    refine Run.seq ?_
    refine Run.block ?_
    refine Run.reg ?_
    refine X.mv ?_
    refine X.mv ?_
    refine X.mv ?_
    obtain ⟨v13, hv13, h⟩ := bindE h
    refine X.cp (s_l03At_pc _ _ _ hv13) ?_
    refine X.addW (by rfl) (by rfl) (by rfl) ?_
    refine X.an ?_
    refine Run.blk ?_
    refine Run.reg ?_
    refine X.mv ?_
    refine X.addW (by rfl) (by rfl) (by rfl) ?_
    refine X.an ?_
    exact hag6 n6 ((W (a8 + v13)), (W (a9 + 1))) _ _ (by omega) h (by trivial) (by trivial) (by rfl) (by rfl)
   ·replace h := condF hc12 h
    refine Run.exit (by rfl) ?_
    exact R.mt hmeet5 a8 (Option.some.inj h)
  rintro p14 rfl
  refine Run.sr ?_
  refine X.mv ?_
  refine X.an ?_
  cases h
  refine R.f1 Tryz.results67 ?_
  rfl
theorem s_CapacityIn_pc (b0 : TProject) (b1 : Int) (b2 : Int) (b3 : Int) (r : Int) (h : s_CapacityIn b0 b1 b2 b3 = some r) : PC Tryz.prog 28 [eTProject b0, int b1, int b2, int b3] (int r) := by
 unfold s_CapacityIn at h
 refine PC.start Tryz.func28 Tryz.ntmps28 rfl ok28 rfl ?_
 refine Run.sr ?_
 refine X.bx ?_
 refine X.an ?_
 refine Run.seq ?_
 refine Run.seq ?_
 obtain ⟨v1, hv1, h⟩ := bindE h
 obtain ⟨e2, he2, h2⟩ := bindE h
 refine R.regG [(1, int b1), (2, int b2), (3, int b3), (4, .lptr 256 0), (20, bool e2)] [(256, .blk true [int b0.Deadline, .slice (b0.Activities.map eTActivity), .slice (b0.Links.map eTLink), .slice (b0.Resources.map eTResource), .slice (b0.Stocks.map int)])] ?_ ?_
 ·clear h; have h := he2; clear he2 h2
  refine X.ld shp34 ?_
  refine X.cp (s_ProjectOk_pc _ _ hv1) ?_
  refine X.un (by rfl) (by rfl) (by rfl) ?_
  refine X.mv ?_
  refine X.iG (fun hb3 => ?_) (fun hb3 => ?_)
  ·replace h := condF hb3 h
   refine X.mv ?_
   refine X.gy ?_
   refine X.fl fld34_3 ?_
   refine X.gy ?_
   refine X.ld shp32 ?_
   refine X.gy ?_
   refine X.ls elt32 ?_
   refine X.gy ?_
   refine X.subW (by rfl) (by rfl) (by rfl) ?_
   refine X.gy ?_
   obtain ⟨v4, hv4, h⟩ := bindE h
   refine X.cp (s_l01In_pc _ _ _ _ hv4) ?_
   refine X.gy ?_
   refine X.un (by rfl) (by rfl) (by rfl) ?_
   refine X.pF ?_
   cases h
   exact X.eG
  ·replace h := condT hb3 h
   refine X.gn ?_
   refine X.gn ?_
   refine X.gn ?_
   refine X.gn ?_
   refine X.gn ?_
   refine X.gn ?_
   refine X.pT ?_
   cases h
   exact X.eG
 replace h := h2; clear h2
 refine R.cd (fun hc5 => ?_) (fun hc5 => ?_)
 ·replace h := condT hc5 h
  refine Run.sr ?_
  refine X.an ?_
  cases h
  refine R.f1 Tryz.results28 ?_
  rfl
 ·replace h := condF hc5 h
  refine Run.skip ?_
  refine Run.sr ?_
  refine X.fl fld34_3 ?_
  refine X.ld shp32 ?_
  refine X.mv ?_
  obtain ⟨v6, hv6, h⟩ := bindE h
  refine X.ix elt32 (idxL_spec hv6).1 (idxL_map eTResource hv6) ?_
  refine X.fieldAddr_c fld61_0 (by rfl) (by rfl) ?_
  refine X.lc shp58 ?_
  refine X.mv ?_
  refine X.mv ?_
  obtain ⟨v7, hv7, h⟩ := bindE h
  refine X.cp (s_TotalCapacity_pc _ _ _ _ hv7) ?_
  refine X.an ?_
  cases h
  refine R.f1 Tryz.results28 ?_
  rfl
theorem s_WorkBound_pc (b0 : TProject) (r : Int) (h : s_WorkBound b0 = some r) : PC Tryz.prog 7 [eTProject b0] (int r) := by
 unfold s_WorkBound at h
 refine PC.start Tryz.func7 Tryz.ntmps7 rfl ok7 rfl ?_
 refine Run.sr ?_
 refine X.bx ?_
 refine X.an ?_
 refine Run.seq ?_
 refine Run.sr ?_
 refine X.ld shp34 ?_
 obtain ⟨v1, hv1, h⟩ := bindE h
 refine X.cp (s_ProjectOk_pc _ _ hv1) ?_
 refine X.un (by rfl) (by rfl) (by rfl) ?_
 refine X.nil ?_
 refine R.cd (fun hc2 => ?_) (fun hc2 => ?_)
 ·replace h := condT hc2 h
  refine Run.sr ?_
  refine X.an ?_
  cases h
  refine R.f1 Tryz.results7 ?_
  rfl
 ·replace h := condF hc2 h
  refine Run.skip ?_
  refine Run.seq ?_
  refine Run.sr ?_
  refine X.ld shp34 ?_
  obtain ⟨v3, hv3, h⟩ := bindE h
  refine X.cp (s_PathBound_pc _ _ hv3) ?_
  obtain ⟨v4, hv4, h⟩ := bindE h
  refine X.cp (s_l02Max_pc _ _ _ hv4) ?_
  refine X.an ?_
  obtain ⟨o5, ho5, h⟩ := bindE h
  refine R.join2 (β := Unit) [] [] (fun p46 S => S) (fun p46 M => M) (fun p46 => (Sum.inl p46) = o5) ?_ ?_
  ·intro JJ8 hmeet7
   have hup6 := h; clear h; have h := ho5; clear ho5
   refine Run.block ?_
   refine R.lp (β := Int) [(1, .lptr 64 0)] [(64, .blk true [int b0.Deadline, .slice (b0.Activities.map eTActivity), .slice (b0.Links.map eTLink), .slice (b0.Resources.map eTResource), .slice (b0.Stocks.map int)])] (fun bb S => (3, int bb) :: S) (fun bb M => M) (fun n bb => s_WorkBound_L1 b0 n bb = some o5) F0 v4 h ?_
   clear h
   rintro JJ8 n8 a10 hag8 h
   obtain _ | n8 := n8
   ·exact absurd h (by simp [s_WorkBound_L1])
   rw [s_WorkBound_L1] at h
   refine Run.seq ?_
   refine Run.sr ?_
   refine X.mv ?_
   refine X.bi ?_
   refine X.nil ?_
   refine R.cd (fun hc13 => ?_) (fun hc13 => ?_)
   ·replace h := condT hc13 h
    refine Run.skip ?_
    refine Run.seq ?_
    refine Run.block ?_
    refine Run.sr ?_
    refine X.an ?_
    refine Run.seq ?_
    refine Run.sr ?_
    refine X.fl fld34_3 ?_
    refine X.ld shp32 ?_
    refine X.ls elt32 ?_
    refine X.mn ?_
    obtain ⟨o14, ho14, h⟩ := bindE h
    refine R.join2 (β := Bool) [(1, .lptr 64 0), (3, int a10)] [(64, .blk true [int b0.Deadline, .slice (b0.Activities.map eTActivity), .slice (b0.Links.map eTLink), .slice (b0.Resources.map eTResource), .slice (b0.Stocks.map int)])] (fun p44 S => (4, bool p44) :: S) (fun p44 M => M) (fun p44 => p44 = o14) ?_ ?_
    ·intro JJ17 hmeet16
     have hup15 := h; clear h; have h := ho14; clear ho14
     refine Run.block ?_
     refine R.bndS (t := 20) (by rfl) (fun hbd20 => ?_)
     replace hbd20 : b0.Resources.length ≤ 9223372036854775807 := by first | (rw [List.length_map] at hbd20; exact hbd20) | simp
     refine R.lp (β := Int × Bool) [(1, .lptr 64 0), (3, int a10), (21, int (b0.Resources.length : Int))] [(64, .blk true [int b0.Deadline, .slice (b0.Activities.map eTActivity), .slice (b0.Links.map eTLink), .slice (b0.Resources.map eTResource), .slice (b0.Stocks.map int)])] (fun bb S => (4, bool bb.2) :: (22, int bb.1) :: S) (fun bb M => M) (fun n bb => 0 ≤ bb.1 ∧ bb.1 + n = (b0.Resources.length : Int) ∧ s_WorkBound_L2 b0 a10 (b0.Resources.drop bb.1.toNat) bb.1 bb.2 = some o14) b0.Resources.length (0, true) ⟨Int.le_refl _, by simp, h⟩ ?_
     clear h
     rintro JJ20 n20 ⟨z21, a22⟩ hag20 ⟨hza20, hzb20, h⟩
     dsimp only at hza20 hzb20 h
     refine Run.sr ?_
     refine X.bi ?_
     refine X.nil ?_
     refine Run.seq ?_
     refine R.cd (fun hc25 => ?_) (fun hc25 => ?_)
     ·obtain ⟨x23, xs24, hd20, hx20, hds20, hlt20⟩ := drop_atI hza20 hc25
      rw [hd20] at h
      rw [s_WorkBound_L2] at h
      refine Run.skip ?_
      refine Run.seq ?_
      refine Run.block ?_
      refine Run.sr ?_
      refine X.mv ?_
      refine X.an ?_
      refine Run.sr ?_
      refine X.an ?_
      refine Run.seq ?_
      refine Run.sr ?_
      refine X.fl fld34_1 ?_
      refine X.ld shp30 ?_
      refine X.ls elt30 ?_
      refine X.mn ?_
      obtain ⟨o26, ho26, h⟩ := bindE h
      refine R.join2 (β := Int) [(1, .lptr 64 0), (3, int a10), (4, bool a22), (5, int z21), (21, int (b0.Resources.length : Int)), (22, int z21)] [(64, .blk true [int b0.Deadline, .slice (b0.Activities.map eTActivity), .slice (b0.Links.map eTLink), .slice (b0.Resources.map eTResource), .slice (b0.Stocks.map int)])] (fun p40 S => (6, int p40) :: S) (fun p40 M => M) (fun p40 => p40 = o26) ?_ ?_
      ·intro JJ29 hmeet28
       have hup27 := h; clear h; have h := ho26; clear ho26
       refine Run.block ?_
       refine R.bndS (t := 26) (by rfl) (fun hbd32 => ?_)
       replace hbd32 : b0.Activities.length ≤ 9223372036854775807 := by first | (rw [List.length_map] at hbd32; exact hbd32) | simp
       refine R.lp (β := Int × Int) [(1, .lptr 64 0), (3, int a10), (4, bool a22), (5, int z21), (21, int (b0.Resources.length : Int)), (22, int z21), (26, .slice (b0.Activities.map eTActivity)), (27, int (b0.Activities.length : Int))] [(64, .blk true [int b0.Deadline, .slice (b0.Activities.map eTActivity), .slice (b0.Links.map eTLink), .slice (b0.Resources.map eTResource), .slice (b0.Stocks.map int)])] (fun bb S => (6, int bb.2) :: (28, int bb.1) :: S) (fun bb M => M) (fun n bb => 0 ≤ bb.1 ∧ bb.1 + n = (b0.Activities.length : Int) ∧ s_WorkBound_L3 z21 (b0.Activities.drop bb.1.toNat) bb.1 bb.2 = some o26) b0.Activities.length (0, 0) ⟨Int.le_refl _, by simp, h⟩ ?_
       clear h
       rintro JJ32 n32 ⟨z33, a34⟩ hag32 ⟨hza32, hzb32, h⟩
       dsimp only at hza32 hzb32 h
       refine Run.sr ?_
       refine X.bi ?_
       refine X.nil ?_
       refine Run.seq ?_
       refine R.cd (fun hc37 => ?_) (fun hc37 => ?_)
       ·obtain ⟨x35, xs36, hd32, hx32, hds32, hlt32⟩ := drop_atI hza32 hc37
        rw [hd32] at h
        rw [s_WorkBound_L3] at h
        refine Run.skip ?_
        refine Run.seq ?_
        refine Run.block ?_
        refine Run.sr ?_
        refine X.ix elt30 (idxL_spec hx32).1 (idxL_map eTActivity hx32) ?_
        refine X.lc shp50 ?_
        refine X.alloc zer50 (by rfl) (by rfl) (by rfl) ?_
        refine X.sl shp50 ?_
        refine X.nil ?_
        refine Run.draw (footOf [(1, ([512], [], [], [])), (2, ([512], [], [], [])), (3, ([], [2240], [], [])), (5, ([2240], [], [], []))]) mixed (by kernel_rfl) (by kernel_rfl) ?_
        refine X.mv ?_
        refine X.ld shp50 ?_
        refine X.ld shp50 ?_
        obtain ⟨v38, hv38, h⟩ := bindE h
        refine X.callF (s_ModeIndexes_pc _ _ hv38) (by rfl) (by rfl) (by rfl) (by trivial) (by rfl) (by rfl) (by rfl) (by rfl) ?_
        refine X.mv ?_
        obtain ⟨v39, hv39, h⟩ := bindE h
        refine X.cp (s_MinWork_pc _ _ _ _ hv39) ?_
        refine X.addW (by rfl) (by rfl) (by rfl) ?_
        refine X.an ?_
        refine Run.blk ?_
        refine Run.reg ?_
        refine X.ad ?_
        refine X.mn ?_
        exact R.ag hag32 (n32 - 1) (z33 + 1, (W (a34 + v39))) (R.n3 (by first | (rw [hds32]; exact h) | (dsimp only; rw [hds32]; exact h)))
       ·rw [drop_endI hza32 hc37] at h
        rw [s_WorkBound_L3] at h
        refine Run.exit (by rfl) ?_
        exact R.mt hmeet28 a34 (Option.some.inj h)
      rintro p40 rfl
      obtain ⟨e41, he41, h2⟩ := bindE h
      refine R.regG [(1, .lptr 64 0), (3, int a10), (4, bool e41), (21, int (b0.Resources.length : Int)), (22, int z21)] [(64, .blk true [int b0.Deadline, .slice (b0.Activities.map eTActivity), .slice (b0.Links.map eTLink), .slice (b0.Resources.map eTResource), .slice (b0.Stocks.map int)])] ?_ ?_
      ·clear h; have h := he41; clear he41 h2
       refine X.mv ?_
       refine X.mv ?_
       refine X.iG (fun hb42 => ?_) (fun hb42 => ?_)
       ·replace h := condT hb42 h
        refine X.mv ?_
        refine X.gy ?_
        refine X.ld shp34 ?_
        refine X.gy ?_
        refine X.mv ?_
        refine X.gy ?_
        refine X.mv ?_
        refine X.gy ?_
        obtain ⟨v43, hv43, h⟩ := bindE h
        refine X.cp (s_CapacityIn_pc _ _ _ _ _ hv43) ?_
        refine X.gy ?_
        refine X.bi ?_
        refine X.pT ?_
        refine X.as ?_
        cases h
        exact X.eG
       ·replace h := condF hb42 h
        refine X.gn ?_
        refine X.gn ?_
        refine X.gn ?_
        refine X.gn ?_
        refine X.gn ?_
        refine X.pF ?_
        refine X.as ?_
        cases h
        exact X.eG
      replace h := h2; clear h2
      refine Run.blk ?_
      refine Run.reg ?_
      refine X.ad ?_
      refine X.mn ?_
      exact R.ag hag20 (n20 - 1) (z21 + 1, e41) (R.n3 (by first | (rw [hds20]; exact h) | (dsimp only; rw [hds20]; exact h)))
     ·rw [drop_endI hza20 hc25] at h
      rw [s_WorkBound_L2] at h
      refine Run.exit (by rfl) ?_
      exact R.mt hmeet16 a22 (Option.some.inj h)
    rintro p44 rfl
    refine Run.sr ?_
    refine X.mn ?_
    refine R.cd (fun hc45 => ?_) (fun hc45 => ?_)
    ·replace h := condT hc45 h
     refine Run.sr ?_
     refine X.mv ?_
     refine X.an ?_
     cases h
     have h := hup6
     replace h := elimR h
     cases h
     refine R.f1 Tryz.results7 ?_
     rfl
    ·replace h := condF hc45 h
     refine Run.skip ?_
     refine Run.blk ?_
     refine Run.reg ?_
     refine X.mv ?_
     refine X.addW (by rfl) (by rfl) (by rfl) ?_
     refine X.an ?_
     exact hag8 n8 (W (a10 + 1)) _ _ (by omega) h (by trivial) (by trivial) (by rfl) (by rfl)
   ·replace h := condF hc13 h
    refine Run.exit (by rfl) ?_
    exact R.mt hmeet7 () (Option.some.inj h)
  rintro p46 rfl
  replace h := elimL h
  refine Run.sr ?_
  refine X.an ?_
  cases h
  refine R.f1 Tryz.results7 ?_
  rfl
theorem i_within_pc (b0 : Int) (b1 : Int) (b2 : Int) (r : Bool) (h : i_within b0 b1 b2 = some r) : PC Tryz.prog 71 [int b0, int b1, int b2] (bool r) := by
 unfold i_within at h
 refine PC.start Tryz.func71 Tryz.ntmps71 rfl ok71 rfl ?_
 refine Run.sr ?_
 refine X.an ?_
 refine Run.seq ?_
 obtain ⟨e1, he1, h2⟩ := bindE h
 refine R.regG [(6, bool e1)] [] ?_ ?_
 ·clear h; have h := he1; clear he1 h2
  refine X.mv ?_
  refine X.mv ?_
  refine X.bi ?_
  refine X.mv ?_
  refine X.iG (fun hb2 => ?_) (fun hb2 => ?_)
  ·replace h := condT hb2 h
   refine X.mv ?_
   refine X.gy ?_
   refine X.mv ?_
   refine X.gy ?_
   refine X.bi ?_
   refine X.pT ?_
   refine X.as ?_
   cases h
   exact X.eG
  ·replace h := condF hb2 h
   refine X.gn ?_
   refine X.gn ?_
   refine X.pF ?_
   refine X.as ?_
   cases h
   exact X.eG
 replace h := h2; clear h2
 cases h
 refine R.f1 Tryz.results71 ?_
 rfl
theorem i_isAmount_pc (b0 : Int) (r : Bool) (h : i_isAmount b0 = some r) : PC Tryz.prog 128 [int b0] (bool r) := by
 unfold i_isAmount at h
 refine PC.start Tryz.func128 Tryz.ntmps128 rfl ok128 rfl ?_
 refine Run.sr ?_
 refine X.an ?_
 refine Run.sr ?_
 refine X.mv ?_
 obtain ⟨v1, hv1, h⟩ := bindE h
 refine X.cp (i_within_pc _ _ _ _ hv1) ?_
 refine X.an ?_
 cases h
 refine R.f1 Tryz.results128 ?_
 rfl
theorem i_areAmounts_pc (b0 : List Int) (b1 : Int) (r : Bool) (h : i_areAmounts b0 b1 = some r) : PC Tryz.prog 147 [.slice (b0.map int), int b1] (bool r) := by
 unfold i_areAmounts at h
 refine PC.start Tryz.func147 Tryz.ntmps147 rfl ok147 rfl ?_
 refine Run.sr ?_
 refine X.an ?_
 refine Run.seq ?_
 refine Run.sr ?_
 refine X.mv ?_
 refine X.ls elt25 ?_
 refine X.mn ?_
 obtain ⟨o1, ho1, h⟩ := bindE h
 refine R.join2 (β := Unit) [(0, .slice (b0.map int)), (1, int b1)] [] (fun p14 S => S) (fun p14 M => M) (fun p14 => (Sum.inl p14) = o1) ?_ ?_
 ·intro JJ4 hmeet3
  have hup2 := h; clear h; have h := ho1; clear ho1
  refine Run.block ?_
  refine R.bndS (t := 0) (by rfl) (fun hbd7 => ?_)
  replace hbd7 : b0.length ≤ 9223372036854775807 := by first | (rw [List.length_map] at hbd7; exact hbd7) | simp
  refine R.lp (β := Int) [(0, .slice (b0.map int)), (1, int b1), (7, .slice (b0.map int)), (8, int (b0.length : Int))] [] (fun bb S => (9, int bb) :: S) (fun bb M => M) (fun n bb => 0 ≤ bb ∧ bb + n = (b0.length : Int) ∧ i_areAmounts_L1 (b0.drop bb.toNat) bb = some o1) b0.length (0 : Int) ⟨Int.le_refl _, by simp, h⟩ ?_
  clear h
  rintro JJ7 n7 z8 hag7 ⟨hza7, hzb7, h⟩
  refine Run.sr ?_
  refine X.bi ?_
  refine X.nil ?_
  refine Run.seq ?_
  refine R.cd (fun hc11 => ?_) (fun hc11 => ?_)
  ·obtain ⟨x9, xs10, hd7, hx7, hds7, hlt7⟩ := drop_atI hza7 hc11
   rw [hd7] at h
   rw [i_areAmounts_L1] at h
   refine Run.skip ?_
   refine Run.seq ?_
   refine Run.block ?_
   refine Run.sr ?_
   refine X.ix elt25 (idxL_spec hx7).1 (idxL_map int hx7) ?_
   refine X.lc shp3 ?_
   refine X.an ?_
   refine Run.sr ?_
   refine X.mv ?_
   obtain ⟨v12, hv12, h⟩ := bindE h
   refine X.cp (i_isAmount_pc _ _ hv12) ?_
   refine X.un (by rfl) (by rfl) (by rfl) ?_
   refine X.nil ?_
   refine R.cd (fun hc13 => ?_) (fun hc13 => ?_)
   ·replace h := condT hc13 h
    refine Run.sr ?_
    refine X.an ?_
    cases h
    have h := hup2
    replace h := elimR h
    cases h
    refine R.f1 Tryz.results147 ?_
    rfl
   ·replace h := condF hc13 h
    refine Run.skip ?_
    refine Run.blk ?_
    refine Run.reg ?_
    refine X.ad ?_
    refine X.mn ?_
    exact R.ag hag7 (n7 - 1) (z8 + 1) (R.n3 (by first | (rw [hds7]; exact h) | (dsimp only; rw [hds7]; exact h)))
  ·rw [drop_endI hza7 hc11] at h
   rw [i_areAmounts_L1] at h
   refine Run.exit (by rfl) ?_
   exact R.mt hmeet3 () (Option.some.inj h)
 rintro p14 rfl
 replace h := elimL h
 refine Run.sr ?_
 refine X.mv ?_
 refine X.ls elt25 ?_
 refine X.mv ?_
 refine X.bi ?_
 refine X.an ?_
 cases h
 refine R.f1 Tryz.results147 ?_
 rfl
theorem i_ModeOk_pc (b0 : TMode) (b1 : Int) (b2 : Int) (r : Bool) (h : i_ModeOk b0 b1 b2 = some r) : PC Tryz.prog 122 [eTMode b0, int b1, int b2] (bool r) := by
 unfold i_ModeOk at h
 refine PC.start Tryz.func122 Tryz.ntmps122 rfl ok122 rfl ?_
 refine Run.sr ?_
 refine X.bx ?_
 refine X.an ?_
 refine Run.seq ?_
 obtain ⟨v1, hv1, h⟩ := bindE h
 obtain ⟨e2, he2, h2⟩ := bindE h
 refine R.regG [(6, bool e2)] [] ?_ ?_
 ·clear h; have h := he2; clear he2 h2
  refine X.fl fld100_0 ?_
  refine X.ld shp3 ?_
  refine X.cp (i_within_pc _ _ _ _ hv1) ?_
  refine X.mv ?_
  refine X.iG (fun hb3 => ?_) (fun hb3 => ?_)
  ·replace h := condT hb3 h
   refine X.fl fld100_1 ?_
   refine X.gy ?_
   refine X.ld shp25 ?_
   refine X.gy ?_
   refine X.mv ?_
   refine X.gy ?_
   obtain ⟨v4, hv4, h⟩ := bindE h
   refine X.cp (i_areAmounts_pc _ _ _ hv4) ?_
   refine X.pT ?_
   refine X.mv ?_
   refine X.iG (fun hb5 => ?_) (fun hb5 => ?_)
   ·replace h := condT hb5 h
    refine X.fl fld100_2 ?_
    refine X.gy ?_
    refine X.ld shp25 ?_
    refine X.gy ?_
    refine X.mv ?_
    refine X.gy ?_
    obtain ⟨v6, hv6, h⟩ := bindE h
    refine X.cp (i_areAmounts_pc _ _ _ hv6) ?_
    refine X.pT ?_
    refine X.as ?_
    cases h
    exact X.eG
   ·replace h := condF hb5 h
    refine X.gn ?_
    refine X.gn ?_
    refine X.gn ?_
    refine X.pF ?_
    refine X.as ?_
    cases h
    exact X.eG
  ·replace h := condF hb3 h
   refine X.gn ?_
   refine X.gn ?_
   refine X.gn ?_
   refine X.pF ?_
   refine X.mv ?_
   refine X.gn ?_
   refine X.gn ?_
   refine X.gn ?_
   refine X.gn ?_
   refine X.pF ?_
   refine X.as ?_
   cases h
   exact X.eG
 replace h := h2; clear h2
 cases h
 refine R.f1 Tryz.results122 ?_
 rfl
theorem i_IsName_pc (b0 : ByteArray) (r : Bool) (h : i_IsName b0 = some r) : PC Tryz.prog 123 [str b0] (bool r) := by
 unfold i_IsName at h
 refine PC.start Tryz.func123 Tryz.ntmps123 rfl ok123 rfl ?_
 refine Run.sr ?_
 refine X.an ?_
 refine Run.seq ?_
 refine Run.sr ?_
 refine X.mv ?_
 refine X.lenStr Tryz.underlying9 (by rfl) (by rfl) ?_
 refine X.mn ?_
 obtain ⟨o1, ho1, h⟩ := bindE h
 refine R.join2 (β := Unit) [(0, str b0)] [] (fun p19 S => S) (fun p19 M => M) (fun p19 => (Sum.inl p19) = o1) ?_ ?_
 ·intro JJ4 hmeet3
  have hup2 := h; clear h; have h := ho1; clear ho1
  refine Run.block ?_
  refine R.lp (β := Int) [(0, str b0), (6, int (b0.size : Int))] [] (fun bb S => (7, int bb) :: S) (fun bb M => M) (fun n bb => i_IsName_L1 b0 n bb = some o1) F0 0 h ?_
  clear h
  rintro JJ5 n5 a7 hag5 h
  obtain _ | n5 := n5
  ·exact absurd h (by simp [i_IsName_L1])
  rw [i_IsName_L1] at h
  refine Run.sr ?_
  refine X.bi ?_
  refine X.nil ?_
  refine Run.seq ?_
  refine R.cd (fun hc10 => ?_) (fun hc10 => ?_)
  ·replace h := condT hc10 h
   refine Run.skip ?_
   refine Run.seq ?_
   refine Run.block ?_
   refine Run.sr ?_
   refine X.mv ?_
   refine X.an ?_
   refine Run.seq ?_
   obtain ⟨v11, hv11, h⟩ := bindE h
   obtain ⟨e12, he12, h2⟩ := bindE h
   refine R.regG [(0, str b0), (3, int a7), (4, bool e12), (6, int (b0.size : Int)), (7, int a7)] [] ?_ ?_
   ·clear h; have h := he12; clear he12 h2
    refine X.mv ?_
    refine X.mv ?_
    refine X.indexStr2 hv11 Tryz.underlying9 (by rfl) (by rfl) (by rfl) ?_
    refine X.bi ?_
    refine X.mv ?_
    refine X.iG (fun hb13 => ?_) (fun hb13 => ?_)
    ·replace h := condT hb13 h
     refine X.mv ?_
     refine X.gy ?_
     refine X.mv ?_
     refine X.gy ?_
     refine X.indexStr2 hv11 Tryz.underlying9 (by rfl) (by rfl) (by rfl) ?_
     refine X.gy ?_
     refine X.bi ?_
     refine X.pT ?_
     refine X.as ?_
     cases h
     exact X.eG
    ·replace h := condF hb13 h
     refine X.gn ?_
     refine X.gn ?_
     refine X.gn ?_
     refine X.pF ?_
     refine X.as ?_
     cases h
     exact X.eG
   replace h := h2; clear h2
   refine Run.seq ?_
   obtain ⟨e14, he14, h2⟩ := bindE h
   refine R.regG [(0, str b0), (6, int (b0.size : Int)), (7, int a7), (37, bool e14)] [] ?_ ?_
   ·clear h; have h := he14; clear he14 h2
    refine X.mv ?_
    refine X.un (by rfl) (by rfl) (by rfl) ?_
    refine X.mv ?_
    refine X.iG (fun hb15 => ?_) (fun hb15 => ?_)
    ·replace h := condT hb15 h
     refine X.mv ?_
     refine X.gy ?_
     refine X.bi ?_
     refine X.gy ?_
     refine X.mv ?_
     refine X.iG (fun hb16 => ?_) (fun hb16 => ?_)
     ·replace h := condF hb16 h
      refine X.mv ?_
      refine X.gy ?_
      refine X.mv ?_
      refine X.gy ?_
      refine X.indexStr2 hv11 Tryz.underlying9 (by rfl) (by rfl) (by rfl) ?_
      refine X.gy ?_
      refine X.bi ?_
      refine X.gy ?_
      refine X.pF ?_
      refine X.gy ?_
      refine X.mv ?_
      refine X.iG (fun hb17 => ?_) (fun hb17 => ?_)
      ·replace h := condF hb17 h
       refine X.mv ?_
       refine X.gy ?_
       refine X.mv ?_
       refine X.gy ?_
       refine X.indexStr2 hv11 Tryz.underlying9 (by rfl) (by rfl) (by rfl) ?_
       refine X.gy ?_
       refine X.bi ?_
       refine X.gy ?_
       refine X.pF ?_
       refine X.pT ?_
       cases h
       exact X.eG
      ·replace h := condT hb17 h
       refine X.gn ?_
       refine X.gn ?_
       refine X.gn ?_
       refine X.gy ?_
       refine X.pT ?_
       refine X.pT ?_
       cases h
       exact X.eG
     ·replace h := condT hb16 h
      refine X.gn ?_
      refine X.gn ?_
      refine X.gn ?_
      refine X.gy ?_
      refine X.pT ?_
      refine X.gy ?_
      refine X.mv ?_
      refine X.gn ?_
      refine X.gn ?_
      refine X.gn ?_
      refine X.gn ?_
      refine X.gy ?_
      refine X.pT ?_
      refine X.pT ?_
      cases h
      exact X.eG
    ·replace h := condF hb15 h
     refine X.gn ?_
     refine X.gn ?_
     refine X.gU (by rfl) (by rfl) (by rfl) ?_
     refine X.gU (by rfl) (by rfl) (by rfl) ?_
     refine X.gU (by rfl) (by rfl) (by rfl) ?_
     refine X.gU (by rfl) (by rfl) (by rfl) ?_
     refine X.gn ?_
     refine X.gn ?_
     refine X.gU (by rfl) (by rfl) (by rfl) ?_
     refine X.gU (by rfl) (by rfl) (by rfl) ?_
     refine X.gU (by rfl) (by rfl) (by rfl) ?_
     refine X.gU (by rfl) (by rfl) (by rfl) ?_
     refine X.gn ?_
     refine X.pF ?_
     cases h
     exact X.eG
   replace h := h2; clear h2
   refine R.cd (fun hc18 => ?_) (fun hc18 => ?_)
   ·replace h := condT hc18 h
    refine Run.sr ?_
    refine X.an ?_
    cases h
    have h := hup2
    replace h := elimR h
    cases h
    refine R.f1 Tryz.results123 ?_
    rfl
   ·replace h := condF hc18 h
    refine Run.skip ?_
    refine Run.blk ?_
    refine Run.reg ?_
    refine X.addW (by rfl) (by rfl) (by rfl) ?_
    refine X.mn ?_
    exact hag5 n5 (W (a7 + 1)) _ _ (by omega) h (by trivial) (by trivial) (by rfl) (by rfl)
  ·replace h := condF hc10 h
   refine Run.exit (by rfl) ?_
   exact R.mt hmeet3 () (Option.some.inj h)
 rintro p19 rfl
 replace h := elimL h
 refine Run.sr ?_
 refine X.mv ?_
 refine X.lenStr Tryz.underlying9 (by rfl) (by rfl) ?_
 obtain ⟨v21, hv21, h⟩ := bindE h
 refine X.cp (i_within_pc _ _ _ _ hv21) ?_
 refine X.an ?_
 cases h
 refine R.f1 Tryz.results123 ?_
 rfl
theorem i_ActivityOk_pc (b0 : TActivity) (b1 : Int) (b2 : Int) (r : Bool) (h : i_ActivityOk b0 b1 b2 = some r) : PC Tryz.prog 72 [eTActivity b0, int b1, int b2] (bool r) := by
 unfold i_ActivityOk at h
 refine PC.start Tryz.func72 Tryz.ntmps72 rfl ok72 rfl ?_
 refine Run.sr ?_
 refine X.bx ?_
 refine X.an ?_
 refine Run.seq ?_
 refine Run.sr ?_
 refine X.fl fld50_2 ?_
 refine X.ld shp48 ?_
 refine X.ls elt48 ?_
 refine X.mn ?_
 obtain ⟨o1, ho1, h⟩ := bindE h
 refine R.join2 (β := Unit) [(3, .lptr 192 0)] [(192, .blk true [str b0.Name, int b0.Family, .slice (b0.Modes.map eTMode)])] (fun p14 S => S) (fun p14 M => M) (fun p14 => (Sum.inl p14) = o1) ?_ ?_
 ·intro JJ4 hmeet3
  have hup2 := h; clear h; have h := ho1; clear ho1
  refine Run.block ?_
  refine R.bndS (t := 10) (by rfl) (fun hbd7 => ?_)
  replace hbd7 : b0.Modes.length ≤ 9223372036854775807 := by first | (rw [List.length_map] at hbd7; exact hbd7) | simp
  refine R.lp (β := Int) [(1, int b1), (2, int b2), (3, .lptr 192 0), (10, .slice (b0.Modes.map eTMode)), (11, int (b0.Modes.length : Int))] [(192, .blk true [str b0.Name, int b0.Family, .slice (b0.Modes.map eTMode)])] (fun bb S => (12, int bb) :: S) (fun bb M => M) (fun n bb => 0 ≤ bb ∧ bb + n = (b0.Modes.length : Int) ∧ i_ActivityOk_L1 b1 b2 (b0.Modes.drop bb.toNat) bb = some o1) b0.Modes.length (0 : Int) ⟨Int.le_refl _, by simp, h⟩ ?_
  clear h
  rintro JJ7 n7 z8 hag7 ⟨hza7, hzb7, h⟩
  refine Run.sr ?_
  refine X.bi ?_
  refine X.nil ?_
  refine Run.seq ?_
  refine R.cd (fun hc11 => ?_) (fun hc11 => ?_)
  ·obtain ⟨x9, xs10, hd7, hx7, hds7, hlt7⟩ := drop_atI hza7 hc11
   rw [hd7] at h
   rw [i_ActivityOk_L1] at h
   refine Run.skip ?_
   refine Run.seq ?_
   refine Run.block ?_
   refine Run.sr ?_
   refine X.ix elt48 (idxL_spec hx7).1 (idxL_map eTMode hx7) ?_
   refine X.lc shp100 ?_
   refine X.alloc zer100 (by rfl) (by rfl) (by rfl) ?_
   refine X.sl shp100 ?_
   refine X.nil ?_
   refine Run.sr ?_
   refine X.ld shp100 ?_
   refine X.mv ?_
   refine X.mv ?_
   obtain ⟨v12, hv12, h⟩ := bindE h
   refine X.cp (i_ModeOk_pc _ _ _ _ hv12) ?_
   refine X.un (by rfl) (by rfl) (by rfl) ?_
   refine X.nil ?_
   refine R.cd (fun hc13 => ?_) (fun hc13 => ?_)
   ·replace h := condT hc13 h
    refine Run.sr ?_
    refine X.an ?_
    cases h
    have h := hup2
    replace h := elimR h
    cases h
    refine R.f1 Tryz.results72 ?_
    rfl
   ·replace h := condF hc13 h
    refine Run.skip ?_
    refine Run.blk ?_
    refine Run.reg ?_
    refine X.ad ?_
    refine X.mn ?_
    exact R.ag hag7 (n7 - 1) (z8 + 1) (R.n3 (by first | (rw [hds7]; exact h) | (dsimp only; rw [hds7]; exact h)))
  ·rw [drop_endI hza7 hc11] at h
   rw [i_ActivityOk_L1] at h
   refine Run.exit (by rfl) ?_
   exact R.mt hmeet3 () (Option.some.inj h)
 rintro p14 rfl
 replace h := elimL h
 refine Run.seq ?_
 obtain ⟨v16, hv16, h⟩ := bindE h
 obtain ⟨e17, he17, h2⟩ := bindE h
 refine R.regG [(6, bool e17)] [] ?_ ?_
 ·clear h; have h := he17; clear he17 h2
  refine X.fl fld50_0 ?_
  refine X.ld shp9 ?_
  refine X.cp (i_IsName_pc _ _ hv16) ?_
  refine X.mv ?_
  refine X.iG (fun hb18 => ?_) (fun hb18 => ?_)
  ·replace h := condT hb18 h
   refine X.fl fld50_1 ?_
   refine X.gy ?_
   refine X.ld shp3 ?_
   refine X.gy ?_
   obtain ⟨v19, hv19, h⟩ := bindE h
   refine X.cp (i_within_pc _ _ _ _ hv19) ?_
   refine X.pT ?_
   refine X.mv ?_
   refine X.iG (fun hb20 => ?_) (fun hb20 => ?_)
   ·replace h := condT hb20 h
    refine X.fl fld50_2 ?_
    refine X.gy ?_
    refine X.ld shp48 ?_
    refine X.gy ?_
    refine X.ls elt48 ?_
    refine X.gy ?_
    obtain ⟨v21, hv21, h⟩ := bindE h
    refine X.cp (i_within_pc _ _ _ _ hv21) ?_
    refine X.pT ?_
    refine X.as ?_
    cases h
    exact X.eG
   ·replace h := condF hb20 h
    refine X.gn ?_
    refine X.gn ?_
    refine X.gn ?_
    refine X.pF ?_
    refine X.as ?_
    cases h
    exact X.eG
  ·replace h := condF hb18 h
   refine X.gn ?_
   refine X.gn ?_
   refine X.pF ?_
   refine X.mv ?_
   refine X.gn ?_
   refine X.gn ?_
   refine X.gn ?_
   refine X.gn ?_
   refine X.pF ?_
   refine X.as ?_
   cases h
   exact X.eG
 replace h := h2; clear h2
 cases h
 refine R.f1 Tryz.results72 ?_
 rfl
theorem i_ActivityIndex_c1_pc (b0 : TActivity) (c1 : ByteArray) (r : Bool) (h : i_ActivityIndex_c1 b0 c1 = some r) : PC Tryz.prog 125 [eTActivity b0, .cptr (str c1 : PV).cells 0] (bool r) := by
 unfold i_ActivityIndex_c1 at h
 refine PC.start Tryz.func125 Tryz.ntmps125 rfl ok125 rfl ?_
 refine Run.sr ?_
 refine X.bx ?_
 refine X.an ?_
 refine Run.sr ?_
 refine X.fl fld50_0 ?_
 refine X.ld shp9 ?_
 refine X.lc shp9 ?_
 refine X.bi ?_
 refine X.an ?_
 cases h
 refine R.f1 Tryz.results125 ?_
 rfl
theorem slices_IndexFunc_Activity_pc (b0 : List TActivity) (g1 : TActivity → Option Bool) (g1id : Nat) (g1c : List PV) (hg1 : ∀ (x0 : TActivity) v, g1 x0 = some v → PC Tryz.prog g1id ([eTActivity x0] ++ g1c) (bool v)) (r : Int) (h : slices_IndexFunc_Activity b0 g1 = some r) : PC Tryz.prog 124 [.slice (b0.map eTActivity), .fn g1id g1c] (int r) := by
 unfold slices_IndexFunc_Activity at h
 refine PC.start Tryz.func124 Tryz.ntmps124 rfl ok124 rfl ?_
 refine Run.sr ?_
 refine X.an ?_
 refine Run.seq ?_
 refine Run.sr ?_
 refine X.mv ?_
 refine X.ls elt30 ?_
 refine X.mn ?_
 obtain ⟨o1, ho1, h⟩ := bindE h
 refine R.join2 (β := Unit) [] [] (fun p14 S => S) (fun p14 M => M) (fun p14 => (Sum.inl p14) = o1) ?_ ?_
 ·intro JJ4 hmeet3
  have hup2 := h; clear h; have h := ho1; clear ho1
  refine Run.block ?_
  refine R.bndS (t := 0) (by rfl) (fun hbd7 => ?_)
  replace hbd7 : b0.length ≤ 9223372036854775807 := by first | (rw [List.length_map] at hbd7; exact hbd7) | simp
  refine R.lp (β := Int) [(0, .slice (b0.map eTActivity)), (1, .fn g1id g1c), (7, int (b0.length : Int))] [] (fun bb S => (8, int bb) :: S) (fun bb M => M) (fun n bb => 0 ≤ bb ∧ bb + n = (b0.length : Int) ∧ slices_IndexFunc_Activity_L1 g1 (b0.drop bb.toNat) bb = some o1) b0.length (0 : Int) ⟨Int.le_refl _, by simp, h⟩ ?_
  clear h
  rintro JJ7 n7 z8 hag7 ⟨hza7, hzb7, h⟩
  refine Run.sr ?_
  refine X.bi ?_
  refine X.nil ?_
  refine Run.seq ?_
  refine R.cd (fun hc11 => ?_) (fun hc11 => ?_)
  ·obtain ⟨x9, xs10, hd7, hx7, hds7, hlt7⟩ := drop_atI hza7 hc11
   rw [hd7] at h
   rw [slices_IndexFunc_Activity_L1] at h
   refine Run.skip ?_
   refine Run.seq ?_
   refine Run.block ?_
   refine Run.sr ?_
   refine X.mv ?_
   refine X.an ?_
   refine Run.sr ?_
   refine X.mv ?_
   refine X.mv ?_
   refine X.mv ?_
   refine X.ix elt30 (idxL_spec hx7).1 (idxL_map eTActivity hx7) ?_
   refine X.lc shp50 ?_
   obtain ⟨v12, hv12, h⟩ := bindE h
   refine X.cp (hg1 _ _ hv12) ?_
   refine X.nil ?_
   refine R.cd (fun hc13 => ?_) (fun hc13 => ?_)
   ·replace h := condT hc13 h
    refine Run.sr ?_
    refine X.mv ?_
    refine X.an ?_
    cases h
    have h := hup2
    replace h := elimR h
    cases h
    refine R.f1 Tryz.results124 ?_
    rfl
   ·replace h := condF hc13 h
    refine Run.skip ?_
    refine Run.blk ?_
    refine Run.reg ?_
    refine X.ad ?_
    refine X.mn ?_
    exact R.ag hag7 (n7 - 1) (z8 + 1) (R.n3 (by first | (rw [hds7]; exact h) | (dsimp only; rw [hds7]; exact h)))
  ·rw [drop_endI hza7 hc11] at h
   rw [slices_IndexFunc_Activity_L1] at h
   refine Run.exit (by rfl) ?_
   exact R.mt hmeet3 () (Option.some.inj h)
 rintro p14 rfl
 replace h := elimL h
 refine Run.sr ?_
 refine X.an ?_
 cases h
 refine R.f1 Tryz.results124 ?_
 rfl
theorem i_ActivityIndex_pc (b0 : TProject) (b1 : ByteArray) (r : Int) (h : i_ActivityIndex b0 b1 = some r) : PC Tryz.prog 73 [eTProject b0, str b1] (int r) := by
 unfold i_ActivityIndex at h
 refine PC.start Tryz.func73 Tryz.ntmps73 rfl ok73 rfl ?_
 refine Run.sr ?_
 refine X.bx ?_
 refine X.bx ?_
 refine X.an ?_
 refine Run.seq ?_
 refine R.pubBlk (n := 192) (by rfl) (by rfl) (by repeat (first | trivial | refine ⟨by first | rfl | simp [setL], ?_⟩)) ?_
 refine Run.reg ?_
 refine X.fl fld34_1 ?_
 refine X.ld shp30 ?_
 refine X.makeFunc (by rfl) (by rfl) (by repeat (first | trivial | refine ⟨by first | rfl | simp [setL], ?_⟩)) (by rfl) (by rfl) ?_
 obtain ⟨v1, hv1, h⟩ := bindE h
 refine X.cp (slices_IndexFunc_Activity_pc _ (fun x0 => i_ActivityIndex_c1 x0 b1) _ _ (fun x0 v hv => i_ActivityIndex_c1_pc _ _ _ hv) _ hv1) ?_
 refine X.an ?_
 cases h
 refine R.f1 Tryz.results73 ?_
 rfl
theorem i_isTime_pc (b0 : Int) (r : Bool) (h : i_isTime b0 = some r) : PC Tryz.prog 85 [int b0] (bool r) := by
 unfold i_isTime at h
 refine PC.start Tryz.func85 Tryz.ntmps85 rfl ok85 rfl ?_
 refine Run.sr ?_
 refine X.an ?_
 refine Run.sr ?_
 refine X.mv ?_
 obtain ⟨v1, hv1, h⟩ := bindE h
 refine X.cp (i_within_pc _ _ _ _ hv1) ?_
 refine X.an ?_
 cases h
 refine R.f1 Tryz.results85 ?_
 rfl
theorem i_StepsOk_pc (b0 : List TStep) (r : Bool) (h : i_StepsOk b0 = some r) : PC Tryz.prog 84 [.slice (b0.map eTStep)] (bool r) := by
 unfold i_StepsOk at h
 refine PC.start Tryz.func84 Tryz.ntmps84 rfl ok84 rfl ?_
 refine Run.sr ?_
 refine X.an ?_
 refine Run.seq ?_
 refine Run.sr ?_
 refine X.mv ?_
 refine X.ls elt58 ?_
 refine X.mn ?_
 obtain ⟨o1, ho1, h⟩ := bindE h
 refine R.join2 (β := Unit) [(0, .slice (b0.map eTStep))] [] (fun p24 S => S) (fun p24 M => M) (fun p24 => (Sum.inl p24) = o1) ?_ ?_
 ·intro JJ4 hmeet3
  have hup2 := h; clear h; have h := ho1; clear ho1
  refine Run.block ?_
  refine R.bndS (t := 0) (by rfl) (fun hbd7 => ?_)
  replace hbd7 : b0.length ≤ 9223372036854775807 := by first | (rw [List.length_map] at hbd7; exact hbd7) | simp
  refine R.lp (β := Int) [(0, .slice (b0.map eTStep)), (5, .slice (b0.map eTStep)), (6, int (b0.length : Int))] [] (fun bb S => (7, int bb) :: S) (fun bb M => M) (fun n bb => 0 ≤ bb ∧ bb + n = (b0.length : Int) ∧ i_StepsOk_L1 b0 (b0.drop bb.toNat) bb = some o1) b0.length (0 : Int) ⟨Int.le_refl _, by simp, h⟩ ?_
  clear h
  rintro JJ7 n7 z8 hag7 ⟨hza7, hzb7, h⟩
  refine Run.sr ?_
  refine X.bi ?_
  refine X.nil ?_
  refine Run.seq ?_
  refine R.cd (fun hc11 => ?_) (fun hc11 => ?_)
  ·obtain ⟨x9, xs10, hd7, hx7, hds7, hlt7⟩ := drop_atI hza7 hc11
   rw [hd7] at h
   rw [i_StepsOk_L1] at h
   refine Run.skip ?_
   refine Run.seq ?_
   refine Run.block ?_
   refine Run.sr ?_
   refine X.mv ?_
   refine X.ix elt58 (idxL_spec hx7).1 (idxL_map eTStep hx7) ?_
   refine X.lc shp136 ?_
   refine X.alloc zer136 (by rfl) (by rfl) (by rfl) ?_
   refine X.as ?_
   refine X.sl shp136 ?_
   refine X.nil ?_
   refine Run.seq ?_
   obtain ⟨v12, hv12, h⟩ := bindE h
   obtain ⟨e13, he13, h2⟩ := bindE h
   refine R.drawG [(0, .slice (b0.map eTStep)), (5, .slice (b0.map eTStep)), (6, int (b0.length : Int)), (7, int z8), (45, bool e13)] [] (footOf [(1, ([256], [], [], [])), (6, ([256], [], [], [])), (15, ([256], [], [], [])), (24, ([256], [], [], []))]) mixed (by kernel_rfl) (by kernel_rfl) ?_ ?_
   ·clear h; have h := he13; clear he13 h2
    refine X.fl fld136_0 ?_
    refine X.ld shp3 ?_
    refine X.cp (i_isTime_pc _ _ hv12) ?_
    refine X.un (by rfl) (by rfl) (by rfl) ?_
    refine X.mv ?_
    refine X.iG (fun hb14 => ?_) (fun hb14 => ?_)
    ·replace h := condF hb14 h
     refine X.fl fld136_1 ?_
     refine X.gy ?_
     refine X.ld shp3 ?_
     refine X.gy ?_
     obtain ⟨v15, hv15, h⟩ := bindE h
     refine X.cp (i_isAmount_pc _ _ hv15) ?_
     refine X.gy ?_
     refine X.un (by rfl) (by rfl) (by rfl) ?_
     refine X.pF ?_
     refine X.mv ?_
     refine X.iG (fun hb16 => ?_) (fun hb16 => ?_)
     ·replace h := condF hb16 h
      refine X.mv ?_
      refine X.gy ?_
      refine X.bi ?_
      refine X.gy ?_
      refine X.mv ?_
      refine X.iG (fun hb17 => ?_) (fun hb17 => ?_)
      ·replace h := condT hb17 h
       refine X.fl fld136_0 ?_
       refine X.gy ?_
       refine X.ld shp3 ?_
       refine X.gy ?_
       refine X.bi ?_
       refine X.gy ?_
       refine X.pT ?_
       refine X.pF ?_
       refine X.mv ?_
       refine X.iG (fun hb18 => ?_) (fun hb18 => ?_)
       ·replace h := condF hb18 h
        refine X.mv ?_
        refine X.gy ?_
        refine X.bi ?_
        refine X.gy ?_
        refine X.mv ?_
        refine X.iG (fun hb19 => ?_) (fun hb19 => ?_)
        ·replace h := condT hb19 h
         refine X.fl fld136_0 ?_
         refine X.gy ?_
         refine X.ld shp3 ?_
         refine X.gy ?_
         refine X.mv ?_
         refine X.gy ?_
         refine X.mv ?_
         refine X.gy ?_
         refine X.sub (by rfl) (by rfl) (by omega) (by rfl) ?_
         refine X.gy ?_
         obtain ⟨v20, hv20, h⟩ := bindE h
         refine X.ix elt58 (idxL_spec hv20).1 (idxL_map eTStep hv20) ?_
         refine X.gy ?_
         refine X.fieldAddr_c fld136_0 (by rfl) (by rfl) ?_
         refine X.gy ?_
         refine X.lc shp3 ?_
         refine X.gy ?_
         refine X.bi ?_
         refine X.gy ?_
         refine X.pT ?_
         refine X.pF ?_
         cases h
         exact X.eG
        ·replace h := condF hb19 h
         refine X.gn ?_
         refine X.gn ?_
         refine X.gn ?_
         refine X.gn ?_
         refine X.gn ?_
         refine X.gn ?_
         refine X.gn ?_
         refine X.gn ?_
         refine X.gy ?_
         refine X.pF ?_
         refine X.pF ?_
         cases h
         exact X.eG
       ·replace h := condT hb18 h
        refine X.gn ?_
        refine X.gn ?_
        refine X.gU (by rfl) (by rfl) (by rfl) ?_
        refine X.gU (by rfl) (by rfl) (by rfl) ?_
        refine X.gU (by rfl) (by rfl) (by rfl) ?_
        refine X.gU (by rfl) (by rfl) (by rfl) ?_
        refine X.gU (by rfl) (by rfl) (by rfl) ?_
        refine X.gU (by rfl) (by rfl) (by rfl) ?_
        refine X.gU (by rfl) (by rfl) (by rfl) ?_
        refine X.gU (by rfl) (by rfl) (by rfl) ?_
        refine X.gU (by rfl) (by rfl) (by rfl) ?_
        refine X.gn ?_
        refine X.pT ?_
        cases h
        exact X.eG
      ·replace h := condF hb17 h
       refine X.gn ?_
       refine X.gn ?_
       refine X.gy ?_
       refine X.pF ?_
       refine X.pF ?_
       refine X.mv ?_
       refine X.gy ?_
       refine X.mv ?_
       refine X.gy ?_
       refine X.bi ?_
       refine X.gy ?_
       refine X.mv ?_
       refine X.iG (fun hb21 => ?_) (fun hb21 => ?_)
       ·replace h := condT hb21 h
        refine X.fl fld136_0 ?_
        refine X.gy ?_
        refine X.ld shp3 ?_
        refine X.gy ?_
        refine X.mv ?_
        refine X.gy ?_
        refine X.mv ?_
        refine X.gy ?_
        refine X.sub (by rfl) (by rfl) (by omega) (by rfl) ?_
        refine X.gy ?_
        obtain ⟨v22, hv22, h⟩ := bindE h
        refine X.ix elt58 (idxL_spec hv22).1 (idxL_map eTStep hv22) ?_
        refine X.gy ?_
        refine X.fieldAddr_c fld136_0 (by rfl) (by rfl) ?_
        refine X.gy ?_
        refine X.lc shp3 ?_
        refine X.gy ?_
        refine X.bi ?_
        refine X.gy ?_
        refine X.pT ?_
        refine X.pF ?_
        cases h
        exact X.eG
       ·replace h := condF hb21 h
        refine X.gn ?_
        refine X.gn ?_
        refine X.gn ?_
        refine X.gn ?_
        refine X.gn ?_
        refine X.gn ?_
        refine X.gn ?_
        refine X.gn ?_
        refine X.gy ?_
        refine X.pF ?_
        refine X.pF ?_
        cases h
        exact X.eG
     ·replace h := condT hb16 h
      refine X.gn ?_
      refine X.gn ?_
      refine X.gU (by rfl) (by rfl) (by rfl) ?_
      refine X.gU (by rfl) (by rfl) (by rfl) ?_
      refine X.gU (by rfl) (by rfl) (by rfl) ?_
      refine X.gn ?_
      refine X.pT ?_
      refine X.mv ?_
      refine X.gn ?_
      refine X.gn ?_
      refine X.gn ?_
      refine X.gU (by rfl) (by rfl) (by rfl) ?_
      refine X.gU (by rfl) (by rfl) (by rfl) ?_
      refine X.gU (by rfl) (by rfl) (by rfl) ?_
      refine X.gU (by rfl) (by rfl) (by rfl) ?_
      refine X.gU (by rfl) (by rfl) (by rfl) ?_
      refine X.gU (by rfl) (by rfl) (by rfl) ?_
      refine X.gU (by rfl) (by rfl) (by rfl) ?_
      refine X.gU (by rfl) (by rfl) (by rfl) ?_
      refine X.gU (by rfl) (by rfl) (by rfl) ?_
      refine X.gn ?_
      refine X.pT ?_
      cases h
      exact X.eG
    ·replace h := condT hb14 h
     refine X.gn ?_
     refine X.gn ?_
     refine X.gn ?_
     refine X.pT ?_
     refine X.mv ?_
     refine X.gn ?_
     refine X.gn ?_
     refine X.gn ?_
     refine X.gU (by rfl) (by rfl) (by rfl) ?_
     refine X.gU (by rfl) (by rfl) (by rfl) ?_
     refine X.gU (by rfl) (by rfl) (by rfl) ?_
     refine X.gn ?_
     refine X.pT ?_
     refine X.mv ?_
     refine X.gn ?_
     refine X.gn ?_
     refine X.gn ?_
     refine X.gU (by rfl) (by rfl) (by rfl) ?_
     refine X.gU (by rfl) (by rfl) (by rfl) ?_
     refine X.gU (by rfl) (by rfl) (by rfl) ?_
     refine X.gU (by rfl) (by rfl) (by rfl) ?_
     refine X.gU (by rfl) (by rfl) (by rfl) ?_
     refine X.gU (by rfl) (by rfl) (by rfl) ?_
     refine X.gU (by rfl) (by rfl) (by rfl) ?_
     refine X.gU (by rfl) (by rfl) (by rfl) ?_
     refine X.gU (by rfl) (by rfl) (by rfl) ?_
     refine X.gn ?_
     refine X.pT ?_
     cases h
     exact X.eG
   replace h := h2; clear h2
   refine R.cd (fun hc23 => ?_) (fun hc23 => ?_)
   ·replace h := condT hc23 h
    refine Run.sr ?_
    refine X.an ?_
    cases h
    have h := hup2
    replace h := elimR h
    cases h
    refine R.f1 Tryz.results84 ?_
    rfl
   ·replace h := condF hc23 h
    refine Run.skip ?_
    refine Run.blk ?_
    refine Run.reg ?_
    refine X.ad ?_
    refine X.mn ?_
    exact R.ag hag7 (n7 - 1) (z8 + 1) (R.n3 (by first | (rw [hds7]; exact h) | (dsimp only; rw [hds7]; exact h)))
  ·rw [drop_endI hza7 hc11] at h
   rw [i_StepsOk_L1] at h
   refine Run.exit (by rfl) ?_
   exact R.mt hmeet3 () (Option.some.inj h)
 rintro p24 rfl
 replace h := elimL h
 refine Run.sr ?_
 refine X.mv ?_
 refine X.ls elt58 ?_
 obtain ⟨v26, hv26, h⟩ := bindE h
 refine X.cp (i_within_pc _ _ _ _ hv26) ?_
 refine X.an ?_
 cases h
 refine R.f1 Tryz.results84 ?_
 rfl
theorem i_ResourceOk_pc (b0 : TResource) (r : Bool) (h : i_ResourceOk b0 = some r) : PC Tryz.prog 74 [eTResource b0] (bool r) := by
 unfold i_ResourceOk at h
 refine PC.start Tryz.func74 Tryz.ntmps74 rfl ok74 rfl ?_
 refine Run.sr ?_
 refine X.bx ?_
 refine X.an ?_
 refine Run.seq ?_
 refine Run.sr ?_
 refine X.fl fld61_1 ?_
 refine X.ld shp59 ?_
 refine X.ls elt59 ?_
 refine X.mn ?_
 obtain ⟨o1, ho1, h⟩ := bindE h
 refine R.join2 (β := Unit) [(1, .lptr 64 0)] [(64, .blk true [.slice (b0.Steps.map eTStep), .slice (b0.Setup.map l_int)])] (fun p28 S => S) (fun p28 M => M) (fun p28 => (Sum.inl p28) = o1) ?_ ?_
 ·intro JJ4 hmeet3
  have hup2 := h; clear h; have h := ho1; clear ho1
  refine Run.block ?_
  refine R.bndS (t := 8) (by rfl) (fun hbd7 => ?_)
  replace hbd7 : b0.Setup.length ≤ 9223372036854775807 := by first | (rw [List.length_map] at hbd7; exact hbd7) | simp
  refine R.lp (β := Int) [(1, .lptr 64 0), (8, .slice (b0.Setup.map l_int)), (9, int (b0.Setup.length : Int))] [(64, .blk true [.slice (b0.Steps.map eTStep), .slice (b0.Setup.map l_int)])] (fun bb S => (10, int bb) :: S) (fun bb M => M) (fun n bb => 0 ≤ bb ∧ bb + n = (b0.Setup.length : Int) ∧ i_ResourceOk_L1 (b0.Setup.drop bb.toNat) bb = some o1) b0.Setup.length (0 : Int) ⟨Int.le_refl _, by simp, h⟩ ?_
  clear h
  rintro JJ7 n7 z8 hag7 ⟨hza7, hzb7, h⟩
  refine Run.sr ?_
  refine X.bi ?_
  refine X.nil ?_
  refine Run.seq ?_
  refine R.cd (fun hc11 => ?_) (fun hc11 => ?_)
  ·obtain ⟨x9, xs10, hd7, hx7, hds7, hlt7⟩ := drop_atI hza7 hc11
   rw [hd7] at h
   rw [i_ResourceOk_L1] at h
   refine Run.skip ?_
   refine Run.seq ?_
   refine Run.block ?_
   refine Run.sr ?_
   refine X.ix elt59 (idxL_spec hx7).1 (idxL_map l_int hx7) ?_
   refine X.lc shp25 ?_
   refine X.an ?_
   refine Run.seq ?_
   refine Run.sr ?_
   refine X.mv ?_
   refine X.ls elt25 ?_
   refine X.bi ?_
   refine X.nil ?_
   refine R.cd (fun hc12 => ?_) (fun hc12 => ?_)
   ·replace h := condT hc12 h
    refine Run.sr ?_
    refine X.an ?_
    cases h
    have h := hup2
    replace h := elimR h
    cases h
    refine R.f1 Tryz.results74 ?_
    rfl
   ·replace h := condF hc12 h
    refine Run.skip ?_
    refine Run.sr ?_
    refine X.mv ?_
    refine X.ls elt25 ?_
    refine X.mn ?_
    obtain ⟨o13, ho13, h⟩ := bindE h
    refine R.join2 (β := Unit) [(1, .lptr 64 0), (8, .slice (b0.Setup.map l_int)), (9, int (b0.Setup.length : Int)), (10, int z8)] [(64, .blk true [.slice (b0.Steps.map eTStep), .slice (b0.Setup.map l_int)])] (fun p26 S => S) (fun p26 M => M) (fun p26 => (Sum.inl p26) = o13) ?_ ?_
    ·intro JJ16 hmeet15
     have hup14 := h; clear h; have h := ho13; clear ho13
     refine Run.block ?_
     refine R.bndS (t := 4) (by rfl) (fun hbd19 => ?_)
     replace hbd19 : x9.length ≤ 9223372036854775807 := by first | (rw [List.length_map] at hbd19; exact hbd19) | simp
     refine R.lp (β := Int) [(1, .lptr 64 0), (8, .slice (b0.Setup.map l_int)), (9, int (b0.Setup.length : Int)), (10, int z8), (17, .slice (x9.map int)), (18, int (x9.length : Int))] [(64, .blk true [.slice (b0.Steps.map eTStep), .slice (b0.Setup.map l_int)])] (fun bb S => (19, int bb) :: S) (fun bb M => M) (fun n bb => 0 ≤ bb ∧ bb + n = (x9.length : Int) ∧ i_ResourceOk_L2 (x9.drop bb.toNat) bb = some o13) x9.length (0 : Int) ⟨Int.le_refl _, by simp, h⟩ ?_
     clear h
     rintro JJ19 n19 z20 hag19 ⟨hza19, hzb19, h⟩
     refine Run.sr ?_
     refine X.bi ?_
     refine X.nil ?_
     refine Run.seq ?_
     refine R.cd (fun hc23 => ?_) (fun hc23 => ?_)
     ·obtain ⟨x21, xs22, hd19, hx19, hds19, hlt19⟩ := drop_atI hza19 hc23
      rw [hd19] at h
      rw [i_ResourceOk_L2] at h
      refine Run.skip ?_
      refine Run.seq ?_
      refine Run.block ?_
      refine Run.sr ?_
      refine X.ix elt25 (idxL_spec hx19).1 (idxL_map int hx19) ?_
      refine X.lc shp3 ?_
      refine X.an ?_
      refine Run.sr ?_
      refine X.mv ?_
      obtain ⟨v24, hv24, h⟩ := bindE h
      refine X.cp (i_within_pc _ _ _ _ hv24) ?_
      refine X.un (by rfl) (by rfl) (by rfl) ?_
      refine X.nil ?_
      refine R.cd (fun hc25 => ?_) (fun hc25 => ?_)
      ·replace h := condT hc25 h
       refine Run.sr ?_
       refine X.an ?_
       cases h
       have h := hup14
       replace h := elimR h
       cases h
       have h := hup2
       replace h := elimR h
       cases h
       refine R.f1 Tryz.results74 ?_
       rfl
      ·replace h := condF hc25 h
       refine Run.skip ?_
       refine Run.blk ?_
       refine Run.reg ?_
       refine X.ad ?_
       refine X.mn ?_
       exact R.ag hag19 (n19 - 1) (z20 + 1) (R.n3 (by first | (rw [hds19]; exact h) | (dsimp only; rw [hds19]; exact h)))
     ·rw [drop_endI hza19 hc23] at h
      rw [i_ResourceOk_L2] at h
      refine Run.exit (by rfl) ?_
      exact R.mt hmeet15 () (Option.some.inj h)
    rintro p26 rfl
    replace h := elimL h
    refine Run.blk ?_
    refine Run.reg ?_
    refine X.ad ?_
    refine X.mn ?_
    exact R.ag hag7 (n7 - 1) (z8 + 1) (R.n3 (by first | (rw [hds7]; exact h) | (dsimp only; rw [hds7]; exact h)))
  ·rw [drop_endI hza7 hc11] at h
   rw [i_ResourceOk_L1] at h
   refine Run.exit (by rfl) ?_
   exact R.mt hmeet3 () (Option.some.inj h)
 rintro p28 rfl
 replace h := elimL h
 refine Run.seq ?_
 obtain ⟨v30, hv30, h⟩ := bindE h
 obtain ⟨e31, he31, h2⟩ := bindE h
 refine R.regG [(2, bool e31)] [] ?_ ?_
 ·clear h; have h := he31; clear he31 h2
  refine X.fl fld61_0 ?_
  refine X.ld shp58 ?_
  refine X.cp (i_StepsOk_pc _ _ hv30) ?_
  refine X.mv ?_
  refine X.iG (fun hb32 => ?_) (fun hb32 => ?_)
  ·replace h := condT hb32 h
   refine X.fl fld61_1 ?_
   refine X.gy ?_
   refine X.ld shp59 ?_
   refine X.gy ?_
   refine X.ls elt59 ?_
   refine X.gy ?_
   refine X.bi ?_
   refine X.gy ?_
   refine X.mv ?_
   refine X.iG (fun hb33 => ?_) (fun hb33 => ?_)
   ·replace h := condF hb33 h
    refine X.fl fld61_1 ?_
    refine X.gy ?_
    refine X.ld shp59 ?_
    refine X.gy ?_
    refine X.ls elt59 ?_
    refine X.gy ?_
    refine X.bi ?_
    refine X.gy ?_
    refine X.pF ?_
    refine X.pT ?_
    refine X.as ?_
    cases h
    exact X.eG
   ·replace h := condT hb33 h
    refine X.gn ?_
    refine X.gn ?_
    refine X.gn ?_
    refine X.gy ?_
    refine X.pT ?_
    refine X.pT ?_
    refine X.as ?_
    cases h
    exact X.eG
  ·replace h := condF hb32 h
   refine X.gn ?_
   refine X.gn ?_
   refine X.gn ?_
   refine X.gn ?_
   refine X.gU (by rfl) (by rfl) (by rfl) ?_
   refine X.gU (by rfl) (by rfl) (by rfl) ?_
   refine X.gU (by rfl) (by rfl) (by rfl) ?_
   refine X.gU (by rfl) (by rfl) (by rfl) ?_
   refine X.gn ?_
   refine X.pF ?_
   refine X.as ?_
   cases h
   exact X.eG
 replace h := h2; clear h2
 cases h
 refine R.f1 Tryz.results74 ?_
 rfl
theorem i_Project_hasActivity_pc (b0 : TProject) (b1 : Int) (r : Bool) (h : i_Project_hasActivity b0 b1 = some r) : PC Tryz.prog 99 [eTProject b0, int b1] (bool r) := by
 unfold i_Project_hasActivity at h
 refine PC.start Tryz.func99 Tryz.ntmps99 rfl ok99 rfl ?_
 refine Run.sr ?_
 refine X.bx ?_
 refine X.an ?_
 refine Run.sr ?_
 refine X.mv ?_
 refine X.fl fld34_1 ?_
 refine X.ld shp30 ?_
 refine X.ls elt30 ?_
 refine X.subW (by rfl) (by rfl) (by rfl) ?_
 obtain ⟨v1, hv1, h⟩ := bindE h
 refine X.cp (i_within_pc _ _ _ _ hv1) ?_
 refine X.an ?_
 cases h
 refine R.f1 Tryz.results99 ?_
 rfl
theorem i_Project_linkOk_pc (b0 : TProject) (b1 : TLink) (r : Bool) (h : i_Project_linkOk b0 b1 = some r) : PC Tryz.prog 77 [eTProject b0, eTLink b1] (bool r) := by
 unfold i_Project_linkOk at h
 refine PC.start Tryz.func77 Tryz.ntmps77 rfl ok77 rfl ?_
 refine Run.sr ?_
 refine X.bx ?_
 refine X.bx ?_
 refine X.an ?_
 refine Run.seq ?_
 obtain ⟨v1, hv1, h⟩ := bindE h
 obtain ⟨e2, he2, h2⟩ := bindE h
 refine R.regG [(4, bool e2)] [] ?_ ?_
 ·clear h; have h := he2; clear he2 h2
  refine X.ld shp34 ?_
  refine X.fl fld87_0 ?_
  refine X.ld shp3 ?_
  refine X.cp (i_Project_hasActivity_pc _ _ _ hv1) ?_
  refine X.mv ?_
  refine X.iG (fun hb3 => ?_) (fun hb3 => ?_)
  ·replace h := condT hb3 h
   refine X.ld shp34 ?_
   refine X.gy ?_
   refine X.fl fld87_1 ?_
   refine X.gy ?_
   refine X.ld shp3 ?_
   refine X.gy ?_
   obtain ⟨v4, hv4, h⟩ := bindE h
   refine X.cp (i_Project_hasActivity_pc _ _ _ hv4) ?_
   refine X.pT ?_
   refine X.mv ?_
   refine X.iG (fun hb5 => ?_) (fun hb5 => ?_)
   ·replace h := condT hb5 h
    refine X.fl fld87_0 ?_
    refine X.gy ?_
    refine X.ld shp3 ?_
    refine X.gy ?_
    refine X.fl fld87_1 ?_
    refine X.gy ?_
    refine X.ld shp3 ?_
    refine X.gy ?_
    refine X.bi ?_
    refine X.pT ?_
    refine X.mv ?_
    refine X.iG (fun hb6 => ?_) (fun hb6 => ?_)
    ·replace h := condT hb6 h
     refine X.fl fld87_3 ?_
     refine X.gy ?_
     refine X.ld shp3 ?_
     refine X.gy ?_
     obtain ⟨v7, hv7, h⟩ := bindE h
     refine X.cp (i_within_pc _ _ _ _ hv7) ?_
     refine X.pT ?_
     refine X.as ?_
     cases h
     exact X.eG
    ·replace h := condF hb6 h
     refine X.gn ?_
     refine X.gn ?_
     refine X.pF ?_
     refine X.as ?_
     cases h
     exact X.eG
   ·replace h := condF hb5 h
    refine X.gn ?_
    refine X.gn ?_
    refine X.gn ?_
    refine X.gn ?_
    refine X.pF ?_
    refine X.mv ?_
    refine X.gn ?_
    refine X.gn ?_
    refine X.gn ?_
    refine X.pF ?_
    refine X.as ?_
    cases h
    exact X.eG
  ·replace h := condF hb3 h
   refine X.gn ?_
   refine X.gn ?_
   refine X.gn ?_
   refine X.pF ?_
   refine X.mv ?_
   refine X.gn ?_
   refine X.gn ?_
   refine X.gn ?_
   refine X.gn ?_
   refine X.gn ?_
   refine X.pF ?_
   refine X.mv ?_
   refine X.gn ?_
   refine X.gn ?_
   refine X.gn ?_
   refine X.pF ?_
   refine X.as ?_
   cases h
   exact X.eG
 replace h := h2; clear h2
 cases h
 refine R.f1 Tryz.results77 ?_
 rfl
theorem i_ProjectOk_c1_pc (b0 : TLink) (c1 : TProject) (r : Bool) (h : i_ProjectOk_c1 b0 c1 = some r) : PC Tryz.prog 76 [eTLink b0, .cptr (eTProject c1 : PV).cells 0] (bool r) := by
 unfold i_ProjectOk_c1 at h
 refine PC.start Tryz.func76 Tryz.ntmps76 rfl ok76 rfl ?_
 refine Run.sr ?_
 refine X.bx ?_
 refine X.an ?_
 refine Run.sr ?_
 refine X.lc shp34 ?_
 refine X.ld shp87 ?_
 obtain ⟨v1, hv1, h⟩ := bindE h
 refine X.cp (i_Project_linkOk_pc _ _ _ hv1) ?_
 refine X.un (by rfl) (by rfl) (by rfl) ?_
 refine X.an ?_
 cases h
 refine R.f1 Tryz.results76 ?_
 rfl
end Go.Px.YtimegoembedagaaGreat
