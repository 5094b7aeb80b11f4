/-
  PROVED: contracts of functions of the program over pure values. No condition beyond those that each theorem names.
-/
import Derived.Test.YtchaabloaaaonaaGreatProg
import Derived.Test.YtchaabloaaaonaaGreatD1
import Derived.Test.YtchaabloaaaonaaGreatS
namespace Go.Px.YtchaabloaaaonaaGreat
set_option linter.unusedSimpArgs false
set_option linter.unusedVariables false
open Go.Px Go.Proofs
theorem shp27 : shp Tryz.prog 27 = some (true, 5) := by kernel_rfl
theorem fld27_1 : fldOff Tryz.prog 27 1 = some 1 := by kernel_rfl
theorem shp22 : shp Tryz.prog 22 = some (false, 1) := by kernel_rfl
theorem elt22 : eltOf Tryz.prog 22 = some (76, 3, 48) := by kernel_rfl
theorem shp76 : shp Tryz.prog 76 = some (true, 3) := by kernel_rfl
theorem fld76_0 : fldOff Tryz.prog 76 0 = some 0 := by kernel_rfl
theorem shp9 : shp Tryz.prog 9 = some (false, 1) := by kernel_rfl
theorem fld76_2 : fldOff Tryz.prog 76 2 = some 2 := by kernel_rfl
theorem shp74 : shp Tryz.prog 74 = some (false, 1) := by kernel_rfl
theorem elt74 : eltOf Tryz.prog 74 = some (119, 3, 56) := by kernel_rfl
theorem shp119 : shp Tryz.prog 119 = some (true, 3) := by kernel_rfl
theorem fld119_1 : fldOff Tryz.prog 119 1 = some 1 := by kernel_rfl
theorem shp25 : shp Tryz.prog 25 = some (false, 1) := by kernel_rfl
theorem elt25 : eltOf Tryz.prog 25 = some (3, 1, 8) := by kernel_rfl
theorem ok20 : okFn Tryz.prog 20 = true := by kernel_rfl
theorem fld119_2 : fldOff Tryz.prog 119 2 = some 2 := by kernel_rfl
theorem ok87 : okFn Tryz.prog 87 = true := by kernel_rfl
theorem ok67 : okFn Tryz.prog 67 = true := by kernel_rfl
theorem ok45 : okFn Tryz.prog 45 = true := by kernel_rfl
theorem ok17 : okFn Tryz.prog 17 = true := by kernel_rfl
theorem fld27_2 : fldOff Tryz.prog 27 2 = some 2 := by kernel_rfl
theorem shp23 : shp Tryz.prog 23 = some (false, 1) := by kernel_rfl
theorem elt23 : eltOf Tryz.prog 23 = some (89, 4, 32) := by kernel_rfl
theorem ok18 : okFn Tryz.prog 18 = true := by kernel_rfl
theorem fld27_3 : fldOff Tryz.prog 27 3 = some 3 := by kernel_rfl
theorem shp24 : shp Tryz.prog 24 = some (false, 1) := by kernel_rfl
theorem elt24 : eltOf Tryz.prog 24 = some (80, 2, 48) := by kernel_rfl
theorem shp80 : shp Tryz.prog 80 = some (true, 2) := by kernel_rfl
theorem fld80_0 : fldOff Tryz.prog 80 0 = some 0 := by kernel_rfl
theorem shp78 : shp Tryz.prog 78 = some (false, 1) := by kernel_rfl
theorem elt78 : eltOf Tryz.prog 78 = some (126, 2, 16) := by kernel_rfl
theorem ok68 : okFn Tryz.prog 68 = true := by kernel_rfl
theorem fld80_1 : fldOff Tryz.prog 80 1 = some 1 := by kernel_rfl
theorem shp28 : shp Tryz.prog 28 = some (false, 1) := by kernel_rfl
theorem elt28 : eltOf Tryz.prog 28 = some (25, 1, 24) := by kernel_rfl
theorem ok21 : okFn Tryz.prog 21 = true := by kernel_rfl
theorem ok46 : okFn Tryz.prog 46 = true := by kernel_rfl
theorem ok19 : okFn Tryz.prog 19 = true := by kernel_rfl
theorem fld27_4 : fldOff Tryz.prog 27 4 = some 4 := by kernel_rfl
theorem ok4 : okFn Tryz.prog 4 = true := by kernel_rfl
theorem shp30 : shp Tryz.prog 30 = some (true, 3) := by kernel_rfl
theorem fld30_0 : fldOff Tryz.prog 30 0 = some 0 := by kernel_rfl
theorem fld30_1 : fldOff Tryz.prog 30 1 = some 1 := by kernel_rfl
theorem fld30_2 : fldOff Tryz.prog 30 2 = some 2 := by kernel_rfl
theorem ok5 : okFn Tryz.prog 5 = true := by kernel_rfl
theorem zer38 : zeroPV Tryz.prog 38 = some [.lit (.int .i64 0), .nils, .nils, .nils, .nils] := by kernel_rfl
theorem fld27_0 : fldOff Tryz.prog 27 0 = some 0 := by kernel_rfl
theorem shp3 : shp Tryz.prog 3 = some (false, 1) := by kernel_rfl
theorem fld38_0 : fldOff Tryz.prog 38 0 = some 0 := by kernel_rfl
theorem elt34 : eltOf Tryz.prog 34 = some (58, 3, 48) := by kernel_rfl
theorem zer58 : zeroPV Tryz.prog 58 = some [.lit (.string ByteArray.empty), .lit (.int .i64 0), .nils] := by kernel_rfl
theorem fld58_0 : fldOff Tryz.prog 58 0 = some 0 := by kernel_rfl
theorem fld76_1 : fldOff Tryz.prog 76 1 = some 1 := by kernel_rfl
theorem fld58_1 : fldOff Tryz.prog 58 1 = some 1 := by kernel_rfl
theorem elt56 : eltOf Tryz.prog 56 = some (83, 3, 56) := by kernel_rfl
theorem zer83 : zeroPV Tryz.prog 83 = some [.lit (.int .i64 0), .nils, .nils] := by kernel_rfl
theorem fld119_0 : fldOff Tryz.prog 119 0 = some 0 := by kernel_rfl
theorem fld83_0 : fldOff Tryz.prog 83 0 = some 0 := by kernel_rfl
theorem zer3 : zeroPV Tryz.prog 3 = some [.lit (.int .i64 0)] := by kernel_rfl
theorem ok30 : okFn Tryz.prog 30 = true := by kernel_rfl
theorem fld83_1 : fldOff Tryz.prog 83 1 = some 1 := by kernel_rfl
theorem fld83_2 : fldOff Tryz.prog 83 2 = some 2 := by kernel_rfl
theorem shp83 : shp Tryz.prog 83 = some (true, 3) := by kernel_rfl
theorem ok92 : okFn Tryz.prog 92 = true := by kernel_rfl
theorem ok73 : okFn Tryz.prog 73 = true := by kernel_rfl
theorem fld58_2 : fldOff Tryz.prog 58 2 = some 2 := by kernel_rfl
theorem shp56 : shp Tryz.prog 56 = some (false, 1) := by kernel_rfl
theorem shp58 : shp Tryz.prog 58 = some (true, 3) := by kernel_rfl
theorem ok51 : okFn Tryz.prog 51 = true := by kernel_rfl
theorem ok27 : okFn Tryz.prog 27 = true := by kernel_rfl
theorem fld38_1 : fldOff Tryz.prog 38 1 = some 1 := by kernel_rfl
theorem shp34 : shp Tryz.prog 34 = some (false, 1) := by kernel_rfl
theorem elt35 : eltOf Tryz.prog 35 = some (87, 4, 32) := by kernel_rfl
theorem zer87 : zeroPV Tryz.prog 87 = some [.lit (.int .i64 0), .lit (.int .i64 0), .lit (.bool false), .lit (.int .i64 0)] := by kernel_rfl
theorem shp89 : shp Tryz.prog 89 = some (true, 4) := by kernel_rfl
theorem fld89_0 : fldOff Tryz.prog 89 0 = some 0 := by kernel_rfl
theorem fld87_0 : fldOff Tryz.prog 87 0 = some 0 := by kernel_rfl
theorem fld89_1 : fldOff Tryz.prog 89 1 = some 1 := by kernel_rfl
theorem fld87_1 : fldOff Tryz.prog 87 1 = some 1 := by kernel_rfl
theorem fld89_2 : fldOff Tryz.prog 89 2 = some 2 := by kernel_rfl
theorem shp4 : shp Tryz.prog 4 = some (false, 1) := by kernel_rfl
theorem fld87_2 : fldOff Tryz.prog 87 2 = some 2 := by kernel_rfl
theorem fld89_3 : fldOff Tryz.prog 89 3 = some 3 := by kernel_rfl
theorem fld87_3 : fldOff Tryz.prog 87 3 = some 3 := by kernel_rfl
theorem shp87 : shp Tryz.prog 87 = some (true, 4) := by kernel_rfl
theorem ok52 : okFn Tryz.prog 52 = true := by kernel_rfl
theorem ok28 : okFn Tryz.prog 28 = true := by kernel_rfl
theorem fld38_2 : fldOff Tryz.prog 38 2 = some 2 := by kernel_rfl
theorem shp35 : shp Tryz.prog 35 = some (false, 1) := by kernel_rfl
theorem elt36 : eltOf Tryz.prog 36 = some (92, 2, 48) := by kernel_rfl
theorem zer92 : zeroPV Tryz.prog 92 = some [.nils, .nils] := by kernel_rfl
theorem elt90 : eltOf Tryz.prog 90 = some (117, 2, 16) := by kernel_rfl
theorem zer117 : zeroPV Tryz.prog 117 = some [.lit (.int .i64 0), .lit (.int .i64 0)] := by kernel_rfl
theorem shp126 : shp Tryz.prog 126 = some (true, 2) := by kernel_rfl
theorem fld126_0 : fldOff Tryz.prog 126 0 = some 0 := by kernel_rfl
theorem fld117_0 : fldOff Tryz.prog 117 0 = some 0 := by kernel_rfl
theorem fld126_1 : fldOff Tryz.prog 126 1 = some 1 := by kernel_rfl
theorem fld117_1 : fldOff Tryz.prog 117 1 = some 1 := by kernel_rfl
theorem shp117 : shp Tryz.prog 117 = some (true, 2) := by kernel_rfl
theorem ok93 : okFn Tryz.prog 93 = true := by kernel_rfl
theorem ok74 : okFn Tryz.prog 74 = true := by kernel_rfl
theorem fld92_0 : fldOff Tryz.prog 92 0 = some 0 := by kernel_rfl
theorem shp90 : shp Tryz.prog 90 = some (false, 1) := by kernel_rfl
theorem zer25 : zeroPV Tryz.prog 25 = some [.nils] := by kernel_rfl
theorem ok31 : okFn Tryz.prog 31 = true := by kernel_rfl
theorem fld92_1 : fldOff Tryz.prog 92 1 = some 1 := by kernel_rfl
theorem shp92 : shp Tryz.prog 92 = some (true, 2) := by kernel_rfl
theorem ok53 : okFn Tryz.prog 53 = true := by kernel_rfl
theorem ok29 : okFn Tryz.prog 29 = true := by kernel_rfl
theorem fld38_3 : fldOff Tryz.prog 38 3 = some 3 := by kernel_rfl
theorem shp36 : shp Tryz.prog 36 = some (false, 1) := by kernel_rfl
theorem fld38_4 : fldOff Tryz.prog 38 4 = some 4 := by kernel_rfl
theorem shp38 : shp Tryz.prog 38 = some (true, 5) := by kernel_rfl
theorem ok7 : okFn Tryz.prog 7 = true := by kernel_rfl
theorem zer40 : zeroPV Tryz.prog 40 = some [.nils, .nils, .nils] := by kernel_rfl
theorem fld40_0 : fldOff Tryz.prog 40 0 = some 0 := by kernel_rfl
theorem fld40_1 : fldOff Tryz.prog 40 1 = some 1 := by kernel_rfl
theorem fld40_2 : fldOff Tryz.prog 40 2 = some 2 := by kernel_rfl
theorem shp40 : shp Tryz.prog 40 = some (true, 3) := by kernel_rfl
theorem ok8 : okFn Tryz.prog 8 = true := by kernel_rfl
theorem ok26 : okFn Tryz.prog 26 = true := by kernel_rfl
theorem ok133 : okFn Tryz.prog 133 = true := by kernel_rfl
theorem ok116 : okFn Tryz.prog 116 = true := by kernel_rfl
theorem ok117 : okFn Tryz.prog 117 = true := by kernel_rfl
theorem ok88 : okFn Tryz.prog 88 = true := by kernel_rfl
theorem ok89 : okFn Tryz.prog 89 = true := by kernel_rfl
theorem mixed : Tryz.prog.follows .mixedOrders = true := by kernel_rfl
theorem ok118 : okFn Tryz.prog 118 = true := by kernel_rfl
theorem ok90 : okFn Tryz.prog 90 = true := by kernel_rfl
theorem ok69 : okFn Tryz.prog 69 = true := by kernel_rfl
theorem ok70 : okFn Tryz.prog 70 = true := by kernel_rfl
theorem ok91 : okFn Tryz.prog 91 = true := by kernel_rfl
theorem ok72 : okFn Tryz.prog 72 = true := by kernel_rfl
theorem ok50 : okFn Tryz.prog 50 = true := by kernel_rfl
theorem ok71 : okFn Tryz.prog 71 = true := by kernel_rfl
theorem ok47 : okFn Tryz.prog 47 = true := by kernel_rfl
theorem ok48 : okFn Tryz.prog 48 = true := by kernel_rfl
theorem ok22 : okFn Tryz.prog 22 = true := by kernel_rfl
theorem ok24 : okFn Tryz.prog 24 = true := by kernel_rfl
theorem ok49 : okFn Tryz.prog 49 = true := by kernel_rfl
theorem ok25 : okFn Tryz.prog 25 = true := by kernel_rfl
theorem ok23 : okFn Tryz.prog 23 = true := by kernel_rfl
theorem ok6 : okFn Tryz.prog 6 = true := by kernel_rfl
theorem ok60 : okFn Tryz.prog 60 = true := by kernel_rfl
theorem ok135 : okFn Tryz.prog 135 = true := by kernel_rfl
theorem ok134 : okFn Tryz.prog 134 = true := by kernel_rfl
theorem ok119 : okFn Tryz.prog 119 = true := by kernel_rfl
theorem ok120 : okFn Tryz.prog 120 = true := by kernel_rfl
theorem ok94 : okFn Tryz.prog 94 = true := by kernel_rfl
theorem ok122 : okFn Tryz.prog 122 = true := by kernel_rfl
theorem ok121 : okFn Tryz.prog 121 = true := by kernel_rfl
theorem ok95 : okFn Tryz.prog 95 = true := by kernel_rfl
theorem ok35 : okFn Tryz.prog 35 = true := by kernel_rfl
theorem ok123 : okFn Tryz.prog 123 = true := by kernel_rfl
theorem ok96 : okFn Tryz.prog 96 = true := by kernel_rfl
theorem ok125 : okFn Tryz.prog 125 = true := by kernel_rfl
theorem ok99 : okFn Tryz.prog 99 = true := by kernel_rfl
theorem ok98 : okFn Tryz.prog 98 = true := by kernel_rfl
theorem ok124 : okFn Tryz.prog 124 = true := by kernel_rfl
theorem ok97 : okFn Tryz.prog 97 = true := by kernel_rfl
theorem ok75 : okFn Tryz.prog 75 = true := by kernel_rfl
theorem ok76 : okFn Tryz.prog 76 = true := by kernel_rfl
theorem ok77 : okFn Tryz.prog 77 = true := by kernel_rfl
theorem ok100 : okFn Tryz.prog 100 = true := by kernel_rfl
theorem ok79 : okFn Tryz.prog 79 = true := by kernel_rfl
theorem ok126 : okFn Tryz.prog 126 = true := by kernel_rfl
theorem ok102 : okFn Tryz.prog 102 = true := by kernel_rfl
theorem ok82 : okFn Tryz.prog 82 = true := by kernel_rfl
theorem ok78 : okFn Tryz.prog 78 = true := by kernel_rfl
theorem ok54 : okFn Tryz.prog 54 = true := by kernel_rfl
theorem ok101 : okFn Tryz.prog 101 = true := by kernel_rfl
theorem ok80 : okFn Tryz.prog 80 = true := by kernel_rfl
theorem ok81 : okFn Tryz.prog 81 = true := by kernel_rfl
theorem ok55 : okFn Tryz.prog 55 = true := by kernel_rfl
theorem ok32 : okFn Tryz.prog 32 = true := by kernel_rfl
theorem ok56 : okFn Tryz.prog 56 = true := by kernel_rfl
theorem ok33 : okFn Tryz.prog 33 = true := by kernel_rfl
theorem ok57 : okFn Tryz.prog 57 = true := by kernel_rfl
theorem ok58 : okFn Tryz.prog 58 = true := by kernel_rfl
theorem ok34 : okFn Tryz.prog 34 = true := by kernel_rfl
theorem ok9 : okFn Tryz.prog 9 = true := by kernel_rfl
theorem ok36 : okFn Tryz.prog 36 = true := by kernel_rfl
theorem ok10 : okFn Tryz.prog 10 = true := by kernel_rfl
theorem ok114 : okFn Tryz.prog 114 = true := by kernel_rfl
theorem ok85 : okFn Tryz.prog 85 = true := by kernel_rfl
theorem ok61 : okFn Tryz.prog 61 = true := by kernel_rfl
theorem ok37 : okFn Tryz.prog 37 = true := by kernel_rfl
theorem ok62 : okFn Tryz.prog 62 = true := by kernel_rfl
theorem ok38 : okFn Tryz.prog 38 = true := by kernel_rfl
theorem ok115 : okFn Tryz.prog 115 = true := by kernel_rfl
theorem ok86 : okFn Tryz.prog 86 = true := by kernel_rfl
theorem ok63 : okFn Tryz.prog 63 = true := by kernel_rfl
theorem ok39 : okFn Tryz.prog 39 = true := by kernel_rfl
theorem ok11 : okFn Tryz.prog 11 = true := by kernel_rfl
theorem ok12 : okFn Tryz.prog 12 = true := by kernel_rfl
theorem elt115 : eltOf Tryz.prog 115 = some (5, 1, 1) := by kernel_rfl
theorem zer5 : zeroPV Tryz.prog 5 = some [.lit (.int .u8 0)] := by kernel_rfl
theorem ok64 : okFn Tryz.prog 64 = true := by kernel_rfl
theorem ok43 : okFn Tryz.prog 43 = true := by kernel_rfl
theorem ok65 : okFn Tryz.prog 65 = true := by kernel_rfl
theorem ok40 : okFn Tryz.prog 40 = true := by kernel_rfl
theorem ok41 : okFn Tryz.prog 41 = true := by kernel_rfl
theorem ok66 : okFn Tryz.prog 66 = true := by kernel_rfl
theorem ok15 : okFn Tryz.prog 15 = true := by kernel_rfl
theorem ok42 : okFn Tryz.prog 42 = true := by kernel_rfl
theorem ok13 : okFn Tryz.prog 13 = true := by kernel_rfl
theorem ok14 : okFn Tryz.prog 14 = true := by kernel_rfl
theorem shape_t_int (a b : List (List Int)) (h : b.length = a.length) : ShapeT (a.map t_int) (b.map t_int) := shapeT_map (fun x y i e sz rl h => by
  rcases i with _ | i
  · first | (cases h; done) | (cases h; exact ⟨_, rfl⟩)
  · cases h) (fun _ _ => rfl) a b h
theorem ok44 : okFn Tryz.prog 44 = true := by kernel_rfl
theorem ok16 : okFn Tryz.prog 16 = true := by kernel_rfl
theorem ok3 : okFn Tryz.prog 3 = true := by kernel_rfl
theorem ok59 : okFn Tryz.prog 59 = true := by kernel_rfl
theorem cut59 (b0 r : List Int) (h : compactL b0 = some r) : CCut Tryz.prog 59 3 1 (b0.map int) (r.map int) := by
  cases h
  exact CCut.compactInt (by decide) ok59 (fun blk off cap zs w h1 h2 h3 => Tryz.slices_Compact_int blk off cap zs w h1 h2 h3) (fun a cap w => Tryz.slices_Compact_int_empty a cap w) b0 (compactL_le b0) (compactL_nil b0)
theorem w_szIntS_pc (b0 : List Int) (b1 : Int) (r : Int) (h : w_szIntS b0 b1 = some r) : PC Tryz.prog 20 [.slice (b0.map int), int b1] (int r) := by
 unfold w_szIntS at h
 refine PC.start Tryz.func20 Tryz.ntmps20 rfl ok20 rfl ?_
 refine Run.sr ?_
 refine X.an ?_
 refine Run.sr ?_
 refine X.mv ?_
 refine X.mv ?_
 refine X.ls elt25 ?_
 refine X.subW (by rfl) (by rfl) (by rfl) ?_
 refine X.an ?_
 refine Run.seq ?_
 refine Run.sr ?_
 refine X.mv ?_
 refine X.bi ?_
 refine X.nil ?_
 refine R.cd (fun hc1 => ?_) (fun hc1 => ?_)
 ·replace h := condT hc1 h
  refine Run.sr ?_
  refine X.an ?_
  cases h
  refine R.f1 Tryz.results20 ?_
  rfl
 ·replace h := condF hc1 h
  refine Run.skip ?_
  refine Run.sr ?_
  refine X.mv ?_
  refine X.an ?_
  cases h
  refine R.f1 Tryz.results20 ?_
  rfl
theorem w_szMode_pc (b0 : TMode) (b1 : Int) (r : Int) (h : w_szMode b0 b1 = some r) : PC Tryz.prog 87 [eTMode b0, int b1] (int r) := by
 unfold w_szMode at h
 refine PC.start Tryz.func87 Tryz.ntmps87 rfl ok87 rfl ?_
 refine Run.sr ?_
 refine X.bx ?_
 refine X.an ?_
 refine Run.sr ?_
 refine X.fl fld119_1 ?_
 refine X.ld shp25 ?_
 refine X.mv ?_
 obtain ⟨v1, hv1, h⟩ := bindE h
 refine X.cp (w_szIntS_pc _ _ _ hv1) ?_
 refine X.an ?_
 refine Run.seq ?_
 refine Run.sr ?_
 refine X.mv ?_
 refine X.bi ?_
 refine X.nil ?_
 refine R.cd (fun hc2 => ?_) (fun hc2 => ?_)
 ·replace h := condT hc2 h
  refine Run.sr ?_
  refine X.an ?_
  cases h
  refine R.f1 Tryz.results87 ?_
  rfl
 ·replace h := condF hc2 h
  refine Run.skip ?_
  refine Run.sr ?_
  refine X.fl fld119_2 ?_
  refine X.ld shp25 ?_
  refine X.mv ?_
  obtain ⟨v3, hv3, h⟩ := bindE h
  refine X.cp (w_szIntS_pc _ _ _ hv3) ?_
  refine X.an ?_
  refine Run.seq ?_
  refine Run.sr ?_
  refine X.mv ?_
  refine X.bi ?_
  refine X.nil ?_
  refine R.cd (fun hc4 => ?_) (fun hc4 => ?_)
  ·replace h := condT hc4 h
   refine Run.sr ?_
   refine X.an ?_
   cases h
   refine R.f1 Tryz.results87 ?_
   rfl
  ·replace h := condF hc4 h
   refine Run.skip ?_
   refine Run.sr ?_
   refine X.mv ?_
   refine X.an ?_
   cases h
   refine R.f1 Tryz.results87 ?_
   rfl
theorem w_szModeS_pc (b0 : List TMode) (b1 : Int) (r : Int) (h : w_szModeS b0 b1 = some r) : PC Tryz.prog 67 [.slice (b0.map eTMode), int b1] (int r) := by
 unfold w_szModeS at h
 refine PC.start Tryz.func67 Tryz.ntmps67 rfl ok67 rfl ?_
 refine Run.sr ?_
 refine X.an ?_
 refine Run.sr ?_
 refine X.mv ?_
 refine X.mv ?_
 refine X.ls elt74 ?_
 refine X.subW (by rfl) (by rfl) (by rfl) ?_
 refine X.an ?_
 refine Run.seq ?_
 refine Run.sr ?_
 refine X.mv ?_
 refine X.bi ?_
 refine X.nil ?_
 refine R.cd (fun hc1 => ?_) (fun hc1 => ?_)
 ·replace h := condT hc1 h
  refine Run.sr ?_
  refine X.an ?_
  cases h
  refine R.f1 Tryz.results67 ?_
  rfl
 ·replace h := condF hc1 h
  refine Run.skip ?_
  refine Run.seq ?_
  refine Run.sr ?_
  refine X.an ?_
  obtain ⟨o2, ho2, h⟩ := bindE h
  refine R.join2 (β := Int) [] [] (fun p16 S => (1, int p16) :: S) (fun p16 M => M) (fun p16 => (Sum.inl p16) = o2) ?_ ?_
  ·intro JJ5 hmeet4
   have hup3 := h; clear h; have h := ho2; clear ho2
   refine Run.block ?_
   refine R.bndS (t := 0) (by rfl) (fun hbd8 => ?_)
   replace hbd8 : b0.length ≤ 9223372036854775807 := by first | (rw [List.length_map] at hbd8; exact hbd8) | simp
   refine R.lp (β := Int × Int) [(0, .slice (b0.map eTMode))] [] (fun bb S => (1, int bb.2) :: (5, int bb.1) :: S) (fun bb M => M) (fun n bb => 0 ≤ bb.1 ∧ bb.1 + n = (b0.length : Int) ∧ w_szModeS_L1 (b0.drop bb.1.toNat) bb.1 bb.2 = some o2) b0.length (0, (W (b1 - (b0.length : Int)))) ⟨Int.le_refl _, by simp, h⟩ ?_
   clear h
   rintro JJ8 n8 ⟨z9, a10⟩ hag8 ⟨hza8, hzb8, h⟩
   dsimp only at hza8 hzb8 h
   refine Run.seq ?_
   refine Run.sr ?_
   refine X.mv ?_
   refine X.mv ?_
   refine X.ls elt74 ?_
   refine X.bi ?_
   refine X.nil ?_
   refine R.cd (fun hc13 => ?_) (fun hc13 => ?_)
   ·obtain ⟨x11, xs12, hd8, hx8, hds8, hlt8⟩ := drop_atI hza8 hc13
    rw [hd8] at h
    rw [w_szModeS_L1] at h
    refine Run.skip ?_
    refine Run.seq ?_
    refine Run.block ?_
    refine Run.sr ?_
    refine X.mv ?_
    refine X.mv ?_
    refine X.ix elt74 (idxL_spec hx8).1 (idxL_map eTMode hx8) ?_
    refine X.lc shp119 ?_
    refine X.mv ?_
    obtain ⟨v14, hv14, h⟩ := bindE h
    refine X.cp (w_szMode_pc _ _ _ hv14) ?_
    refine X.an ?_
    refine Run.sr ?_
    refine X.mv ?_
    refine X.bi ?_
    refine X.nil ?_
    refine R.cd (fun hc15 => ?_) (fun hc15 => ?_)
    ·replace h := condT hc15 h
     refine Run.sr ?_
     refine X.an ?_
     cases h
     have h := hup3
     replace h := elimR h
     cases h
     refine R.f1 Tryz.results67 ?_
     rfl
    ·replace h := condF hc15 h
     refine Run.skip ?_
     refine Run.blk ?_
     refine Run.reg ?_
     refine X.mv ?_
     refine X.ad ?_
     refine X.an ?_
     exact R.ag hag8 (n8 - 1) (z9 + 1, v14) (R.n3 (by first | (rw [hds8]; exact h) | (dsimp only; rw [hds8]; exact h)))
   ·rw [drop_endI hza8 hc13] at h
    rw [w_szModeS_L1] at h
    refine Run.exit (by rfl) ?_
    exact R.mt hmeet4 a10 (Option.some.inj h)
  rintro p16 rfl
  replace h := elimL h
  refine Run.sr ?_
  refine X.mv ?_
  refine X.an ?_
  cases h
  refine R.f1 Tryz.results67 ?_
  rfl
theorem w_szActivity_pc (b0 : TActivity) (b1 : Int) (r : Int) (h : w_szActivity b0 b1 = some r) : PC Tryz.prog 45 [eTActivity b0, int b1] (int r) := by
 unfold w_szActivity at h
 refine PC.start Tryz.func45 Tryz.ntmps45 rfl ok45 rfl ?_
 refine Run.sr ?_
 refine X.bx ?_
 refine X.an ?_
 refine Run.sr ?_
 refine X.mv ?_
 refine X.fl fld76_0 ?_
 refine X.ld shp9 ?_
 refine X.lenStr Tryz.underlying9 (by rfl) (by rfl) ?_
 refine X.subW (by rfl) (by rfl) (by rfl) ?_
 refine X.an ?_
 refine Run.seq ?_
 refine Run.sr ?_
 refine X.mv ?_
 refine X.bi ?_
 refine X.nil ?_
 refine R.cd (fun hc1 => ?_) (fun hc1 => ?_)
 ·replace h := condT hc1 h
  refine Run.sr ?_
  refine X.an ?_
  cases h
  refine R.f1 Tryz.results45 ?_
  rfl
 ·replace h := condF hc1 h
  refine Run.skip ?_
  refine Run.sr ?_
  refine X.fl fld76_2 ?_
  refine X.ld shp74 ?_
  refine X.mv ?_
  obtain ⟨v2, hv2, h⟩ := bindE h
  refine X.cp (w_szModeS_pc _ _ _ hv2) ?_
  refine X.an ?_
  refine Run.seq ?_
  refine Run.sr ?_
  refine X.mv ?_
  refine X.bi ?_
  refine X.nil ?_
  refine R.cd (fun hc3 => ?_) (fun hc3 => ?_)
  ·replace h := condT hc3 h
   refine Run.sr ?_
   refine X.an ?_
   cases h
   refine R.f1 Tryz.results45 ?_
   rfl
  ·replace h := condF hc3 h
   refine Run.skip ?_
   refine Run.sr ?_
   refine X.mv ?_
   refine X.an ?_
   cases h
   refine R.f1 Tryz.results45 ?_
   rfl
theorem w_szActivityS_pc (b0 : List TActivity) (b1 : Int) (r : Int) (h : w_szActivityS b0 b1 = some r) : PC Tryz.prog 17 [.slice (b0.map eTActivity), int b1] (int r) := by
 unfold w_szActivityS at h
 refine PC.start Tryz.func17 Tryz.ntmps17 rfl ok17 rfl ?_
 refine Run.sr ?_
 refine X.an ?_
 refine Run.sr ?_
 refine X.mv ?_
 refine X.mv ?_
 refine X.ls elt22 ?_
 refine X.subW (by rfl) (by rfl) (by rfl) ?_
 refine X.an ?_
 refine Run.seq ?_
 refine Run.sr ?_
 refine X.mv ?_
 refine X.bi ?_
 refine X.nil ?_
 refine R.cd (fun hc1 => ?_) (fun hc1 => ?_)
 ·replace h := condT hc1 h
  refine Run.sr ?_
  refine X.an ?_
  cases h
  refine R.f1 Tryz.results17 ?_
  rfl
 ·replace h := condF hc1 h
  refine Run.skip ?_
  refine Run.seq ?_
  refine Run.sr ?_
  refine X.an ?_
  obtain ⟨o2, ho2, h⟩ := bindE h
  refine R.join2 (β := Int) [] [] (fun p16 S => (1, int p16) :: S) (fun p16 M => M) (fun p16 => (Sum.inl p16) = o2) ?_ ?_
  ·intro JJ5 hmeet4
   have hup3 := h; clear h; have h := ho2; clear ho2
   refine Run.block ?_
   refine R.bndS (t := 0) (by rfl) (fun hbd8 => ?_)
   replace hbd8 : b0.length ≤ 9223372036854775807 := by first | (rw [List.length_map] at hbd8; exact hbd8) | simp
   refine R.lp (β := Int × Int) [(0, .slice (b0.map eTActivity))] [] (fun bb S => (1, int bb.2) :: (5, int bb.1) :: S) (fun bb M => M) (fun n bb => 0 ≤ bb.1 ∧ bb.1 + n = (b0.length : Int) ∧ w_szActivityS_L1 (b0.drop bb.1.toNat) bb.1 bb.2 = some o2) b0.length (0, (W (b1 - (b0.length : Int)))) ⟨Int.le_refl _, by simp, h⟩ ?_
   clear h
   rintro JJ8 n8 ⟨z9, a10⟩ hag8 ⟨hza8, hzb8, h⟩
   dsimp only at hza8 hzb8 h
   refine Run.seq ?_
   refine Run.sr ?_
   refine X.mv ?_
   refine X.mv ?_
   refine X.ls elt22 ?_
   refine X.bi ?_
   refine X.nil ?_
   refine R.cd (fun hc13 => ?_) (fun hc13 => ?_)
   ·obtain ⟨x11, xs12, hd8, hx8, hds8, hlt8⟩ := drop_atI hza8 hc13
    rw [hd8] at h
    rw [w_szActivityS_L1] at h
    refine Run.skip ?_
    refine Run.seq ?_
    refine Run.block ?_
    refine Run.sr ?_
    refine X.mv ?_
    refine X.mv ?_
    refine X.ix elt22 (idxL_spec hx8).1 (idxL_map eTActivity hx8) ?_
    refine X.lc shp76 ?_
    refine X.mv ?_
    obtain ⟨v14, hv14, h⟩ := bindE h
    refine X.cp (w_szActivity_pc _ _ _ hv14) ?_
    refine X.an ?_
    refine Run.sr ?_
    refine X.mv ?_
    refine X.bi ?_
    refine X.nil ?_
    refine R.cd (fun hc15 => ?_) (fun hc15 => ?_)
    ·replace h := condT hc15 h
     refine Run.sr ?_
     refine X.an ?_
     cases h
     have h := hup3
     replace h := elimR h
     cases h
     refine R.f1 Tryz.results17 ?_
     rfl
    ·replace h := condF hc15 h
     refine Run.skip ?_
     refine Run.blk ?_
     refine Run.reg ?_
     refine X.mv ?_
     refine X.ad ?_
     refine X.an ?_
     exact R.ag hag8 (n8 - 1) (z9 + 1, v14) (R.n3 (by first | (rw [hds8]; exact h) | (dsimp only; rw [hds8]; exact h)))
   ·rw [drop_endI hza8 hc13] at h
    rw [w_szActivityS_L1] at h
    refine Run.exit (by rfl) ?_
    exact R.mt hmeet4 a10 (Option.some.inj h)
  rintro p16 rfl
  replace h := elimL h
  refine Run.sr ?_
  refine X.mv ?_
  refine X.an ?_
  cases h
  refine R.f1 Tryz.results17 ?_
  rfl
theorem w_szLinkS_pc (b0 : List TLink) (b1 : Int) (r : Int) (h : w_szLinkS b0 b1 = some r) : PC Tryz.prog 18 [.slice (b0.map eTLink), int b1] (int r) := by
 unfold w_szLinkS at h
 refine PC.start Tryz.func18 Tryz.ntmps18 rfl ok18 rfl ?_
 refine Run.sr ?_
 refine X.an ?_
 refine Run.sr ?_
 refine X.mv ?_
 refine X.mv ?_
 refine X.ls elt23 ?_
 refine X.subW (by rfl) (by rfl) (by rfl) ?_
 refine X.an ?_
 refine Run.seq ?_
 refine Run.sr ?_
 refine X.mv ?_
 refine X.bi ?_
 refine X.nil ?_
 refine R.cd (fun hc1 => ?_) (fun hc1 => ?_)
 ·replace h := condT hc1 h
  refine Run.sr ?_
  refine X.an ?_
  cases h
  refine R.f1 Tryz.results18 ?_
  rfl
 ·replace h := condF hc1 h
  refine Run.skip ?_
  refine Run.sr ?_
  refine X.mv ?_
  refine X.an ?_
  cases h
  refine R.f1 Tryz.results18 ?_
  rfl
theorem w_szStepS_pc (b0 : List TStep) (b1 : Int) (r : Int) (h : w_szStepS b0 b1 = some r) : PC Tryz.prog 68 [.slice (b0.map eTStep), int b1] (int r) := by
 unfold w_szStepS at h
 refine PC.start Tryz.func68 Tryz.ntmps68 rfl ok68 rfl ?_
 refine Run.sr ?_
 refine X.an ?_
 refine Run.sr ?_
 refine X.mv ?_
 refine X.mv ?_
 refine X.ls elt78 ?_
 refine X.subW (by rfl) (by rfl) (by rfl) ?_
 refine X.an ?_
 refine Run.seq ?_
 refine Run.sr ?_
 refine X.mv ?_
 refine X.bi ?_
 refine X.nil ?_
 refine R.cd (fun hc1 => ?_) (fun hc1 => ?_)
 ·replace h := condT hc1 h
  refine Run.sr ?_
  refine X.an ?_
  cases h
  refine R.f1 Tryz.results68 ?_
  rfl
 ·replace h := condF hc1 h
  refine Run.skip ?_
  refine Run.sr ?_
  refine X.mv ?_
  refine X.an ?_
  cases h
  refine R.f1 Tryz.results68 ?_
  rfl
theorem w_szIntSS_pc (b0 : List (List Int)) (b1 : Int) (r : Int) (h : w_szIntSS b0 b1 = some r) : PC Tryz.prog 21 [.slice (b0.map l_int), int b1] (int r) := by
 unfold w_szIntSS at h
 refine PC.start Tryz.func21 Tryz.ntmps21 rfl ok21 rfl ?_
 refine Run.sr ?_
 refine X.an ?_
 refine Run.sr ?_
 refine X.mv ?_
 refine X.mv ?_
 refine X.ls elt28 ?_
 refine X.subW (by rfl) (by rfl) (by rfl) ?_
 refine X.an ?_
 refine Run.seq ?_
 refine Run.sr ?_
 refine X.mv ?_
 refine X.bi ?_
 refine X.nil ?_
 refine R.cd (fun hc1 => ?_) (fun hc1 => ?_)
 ·replace h := condT hc1 h
  refine Run.sr ?_
  refine X.an ?_
  cases h
  refine R.f1 Tryz.results21 ?_
  rfl
 ·replace h := condF hc1 h
  refine Run.skip ?_
  refine Run.seq ?_
  refine Run.sr ?_
  refine X.an ?_
  obtain ⟨o2, ho2, h⟩ := bindE h
  refine R.join2 (β := Int) [] [] (fun p16 S => (1, int p16) :: S) (fun p16 M => M) (fun p16 => (Sum.inl p16) = o2) ?_ ?_
  ·intro JJ5 hmeet4
   have hup3 := h; clear h; have h := ho2; clear ho2
   refine Run.block ?_
   refine R.bndS (t := 0) (by rfl) (fun hbd8 => ?_)
   replace hbd8 : b0.length ≤ 9223372036854775807 := by first | (rw [List.length_map] at hbd8; exact hbd8) | simp
   refine R.lp (β := Int × Int) [(0, .slice (b0.map l_int))] [] (fun bb S => (1, int bb.2) :: (5, int bb.1) :: S) (fun bb M => M) (fun n bb => 0 ≤ bb.1 ∧ bb.1 + n = (b0.length : Int) ∧ w_szIntSS_L1 (b0.drop bb.1.toNat) bb.1 bb.2 = some o2) b0.length (0, (W (b1 - (b0.length : Int)))) ⟨Int.le_refl _, by simp, h⟩ ?_
   clear h
   rintro JJ8 n8 ⟨z9, a10⟩ hag8 ⟨hza8, hzb8, h⟩
   dsimp only at hza8 hzb8 h
   refine Run.seq ?_
   refine Run.sr ?_
   refine X.mv ?_
   refine X.mv ?_
   refine X.ls elt28 ?_
   refine X.bi ?_
   refine X.nil ?_
   refine R.cd (fun hc13 => ?_) (fun hc13 => ?_)
   ·obtain ⟨x11, xs12, hd8, hx8, hds8, hlt8⟩ := drop_atI hza8 hc13
    rw [hd8] at h
    rw [w_szIntSS_L1] at h
    refine Run.skip ?_
    refine Run.seq ?_
    refine Run.block ?_
    refine Run.sr ?_
    refine X.mv ?_
    refine X.mv ?_
    refine X.ix elt28 (idxL_spec hx8).1 (idxL_map l_int hx8) ?_
    refine X.lc shp25 ?_
    refine X.mv ?_
    obtain ⟨v14, hv14, h⟩ := bindE h
    refine X.cp (w_szIntS_pc _ _ _ hv14) ?_
    refine X.an ?_
    refine Run.sr ?_
    refine X.mv ?_
    refine X.bi ?_
    refine X.nil ?_
    refine R.cd (fun hc15 => ?_) (fun hc15 => ?_)
    ·replace h := condT hc15 h
     refine Run.sr ?_
     refine X.an ?_
     cases h
     have h := hup3
     replace h := elimR h
     cases h
     refine R.f1 Tryz.results21 ?_
     rfl
    ·replace h := condF hc15 h
     refine Run.skip ?_
     refine Run.blk ?_
     refine Run.reg ?_
     refine X.mv ?_
     refine X.ad ?_
     refine X.an ?_
     exact R.ag hag8 (n8 - 1) (z9 + 1, v14) (R.n3 (by first | (rw [hds8]; exact h) | (dsimp only; rw [hds8]; exact h)))
   ·rw [drop_endI hza8 hc13] at h
    rw [w_szIntSS_L1] at h
    refine Run.exit (by rfl) ?_
    exact R.mt hmeet4 a10 (Option.some.inj h)
  rintro p16 rfl
  replace h := elimL h
  refine Run.sr ?_
  refine X.mv ?_
  refine X.an ?_
  cases h
  refine R.f1 Tryz.results21 ?_
  rfl
theorem w_szResource_pc (b0 : TResource) (b1 : Int) (r : Int) (h : w_szResource b0 b1 = some r) : PC Tryz.prog 46 [eTResource b0, int b1] (int r) := by
 unfold w_szResource at h
 refine PC.start Tryz.func46 Tryz.ntmps46 rfl ok46 rfl ?_
 refine Run.sr ?_
 refine X.bx ?_
 refine X.an ?_
 refine Run.sr ?_
 refine X.fl fld80_0 ?_
 refine X.ld shp78 ?_
 refine X.mv ?_
 obtain ⟨v1, hv1, h⟩ := bindE h
 refine X.cp (w_szStepS_pc _ _ _ hv1) ?_
 refine X.an ?_
 refine Run.seq ?_
 refine Run.sr ?_
 refine X.mv ?_
 refine X.bi ?_
 refine X.nil ?_
 refine R.cd (fun hc2 => ?_) (fun hc2 => ?_)
 ·replace h := condT hc2 h
  refine Run.sr ?_
  refine X.an ?_
  cases h
  refine R.f1 Tryz.results46 ?_
  rfl
 ·replace h := condF hc2 h
  refine Run.skip ?_
  refine Run.sr ?_
  refine X.fl fld80_1 ?_
  refine X.ld shp28 ?_
  refine X.mv ?_
  obtain ⟨v3, hv3, h⟩ := bindE h
  refine X.cp (w_szIntSS_pc _ _ _ hv3) ?_
  refine X.an ?_
  refine Run.seq ?_
  refine Run.sr ?_
  refine X.mv ?_
  refine X.bi ?_
  refine X.nil ?_
  refine R.cd (fun hc4 => ?_) (fun hc4 => ?_)
  ·replace h := condT hc4 h
   refine Run.sr ?_
   refine X.an ?_
   cases h
   refine R.f1 Tryz.results46 ?_
   rfl
  ·replace h := condF hc4 h
   refine Run.skip ?_
   refine Run.sr ?_
   refine X.mv ?_
   refine X.an ?_
   cases h
   refine R.f1 Tryz.results46 ?_
   rfl
theorem w_szResourceS_pc (b0 : List TResource) (b1 : Int) (r : Int) (h : w_szResourceS b0 b1 = some r) : PC Tryz.prog 19 [.slice (b0.map eTResource), int b1] (int r) := by
 unfold w_szResourceS at h
 refine PC.start Tryz.func19 Tryz.ntmps19 rfl ok19 rfl ?_
 refine Run.sr ?_
 refine X.an ?_
 refine Run.sr ?_
 refine X.mv ?_
 refine X.mv ?_
 refine X.ls elt24 ?_
 refine X.subW (by rfl) (by rfl) (by rfl) ?_
 refine X.an ?_
 refine Run.seq ?_
 refine Run.sr ?_
 refine X.mv ?_
 refine X.bi ?_
 refine X.nil ?_
 refine R.cd (fun hc1 => ?_) (fun hc1 => ?_)
 ·replace h := condT hc1 h
  refine Run.sr ?_
  refine X.an ?_
  cases h
  refine R.f1 Tryz.results19 ?_
  rfl
 ·replace h := condF hc1 h
  refine Run.skip ?_
  refine Run.seq ?_
  refine Run.sr ?_
  refine X.an ?_
  obtain ⟨o2, ho2, h⟩ := bindE h
  refine R.join2 (β := Int) [] [] (fun p16 S => (1, int p16) :: S) (fun p16 M => M) (fun p16 => (Sum.inl p16) = o2) ?_ ?_
  ·intro JJ5 hmeet4
   have hup3 := h; clear h; have h := ho2; clear ho2
   refine Run.block ?_
   refine R.bndS (t := 0) (by rfl) (fun hbd8 => ?_)
   replace hbd8 : b0.length ≤ 9223372036854775807 := by first | (rw [List.length_map] at hbd8; exact hbd8) | simp
   refine R.lp (β := Int × Int) [(0, .slice (b0.map eTResource))] [] (fun bb S => (1, int bb.2) :: (5, int bb.1) :: S) (fun bb M => M) (fun n bb => 0 ≤ bb.1 ∧ bb.1 + n = (b0.length : Int) ∧ w_szResourceS_L1 (b0.drop bb.1.toNat) bb.1 bb.2 = some o2) b0.length (0, (W (b1 - (b0.length : Int)))) ⟨Int.le_refl _, by simp, h⟩ ?_
   clear h
   rintro JJ8 n8 ⟨z9, a10⟩ hag8 ⟨hza8, hzb8, h⟩
   dsimp only at hza8 hzb8 h
   refine Run.seq ?_
   refine Run.sr ?_
   refine X.mv ?_
   refine X.mv ?_
   refine X.ls elt24 ?_
   refine X.bi ?_
   refine X.nil ?_
   refine R.cd (fun hc13 => ?_) (fun hc13 => ?_)
   ·obtain ⟨x11, xs12, hd8, hx8, hds8, hlt8⟩ := drop_atI hza8 hc13
    rw [hd8] at h
    rw [w_szResourceS_L1] at h
    refine Run.skip ?_
    refine Run.seq ?_
    refine Run.block ?_
    refine Run.sr ?_
    refine X.mv ?_
    refine X.mv ?_
    refine X.ix elt24 (idxL_spec hx8).1 (idxL_map eTResource hx8) ?_
    refine X.lc shp80 ?_
    refine X.mv ?_
    obtain ⟨v14, hv14, h⟩ := bindE h
    refine X.cp (w_szResource_pc _ _ _ hv14) ?_
    refine X.an ?_
    refine Run.sr ?_
    refine X.mv ?_
    refine X.bi ?_
    refine X.nil ?_
    refine R.cd (fun hc15 => ?_) (fun hc15 => ?_)
    ·replace h := condT hc15 h
     refine Run.sr ?_
     refine X.an ?_
     cases h
     have h := hup3
     replace h := elimR h
     cases h
     refine R.f1 Tryz.results19 ?_
     rfl
    ·replace h := condF hc15 h
     refine Run.skip ?_
     refine Run.blk ?_
     refine Run.reg ?_
     refine X.mv ?_
     refine X.ad ?_
     refine X.an ?_
     exact R.ag hag8 (n8 - 1) (z9 + 1, v14) (R.n3 (by first | (rw [hds8]; exact h) | (dsimp only; rw [hds8]; exact h)))
   ·rw [drop_endI hza8 hc13] at h
    rw [w_szResourceS_L1] at h
    refine Run.exit (by rfl) ?_
    exact R.mt hmeet4 a10 (Option.some.inj h)
  rintro p16 rfl
  replace h := elimL h
  refine Run.sr ?_
  refine X.mv ?_
  refine X.an ?_
  cases h
  refine R.f1 Tryz.results19 ?_
  rfl
theorem w_szProject_pc (b0 : TProject) (b1 : Int) (r : Int) (h : w_szProject b0 b1 = some r) : PC Tryz.prog 4 [eTProject b0, int b1] (int r) := by
 unfold w_szProject at h
 refine PC.start Tryz.func4 Tryz.ntmps4 rfl ok4 rfl ?_
 refine Run.sr ?_
 refine X.bx ?_
 refine X.an ?_
 refine Run.sr ?_
 refine X.fl fld27_1 ?_
 refine X.ld shp22 ?_
 refine X.mv ?_
 obtain ⟨v1, hv1, h⟩ := bindE h
 refine X.cp (w_szActivityS_pc _ _ _ hv1) ?_
 refine X.an ?_
 refine Run.seq ?_
 refine Run.sr ?_
 refine X.mv ?_
 refine X.bi ?_
 refine X.nil ?_
 refine R.cd (fun hc2 => ?_) (fun hc2 => ?_)
 ·replace h := condT hc2 h
  refine Run.sr ?_
  refine X.an ?_
  cases h
  refine R.f1 Tryz.results4 ?_
  rfl
 ·replace h := condF hc2 h
  refine Run.skip ?_
  refine Run.sr ?_
  refine X.fl fld27_2 ?_
  refine X.ld shp23 ?_
  refine X.mv ?_
  obtain ⟨v3, hv3, h⟩ := bindE h
  refine X.cp (w_szLinkS_pc _ _ _ hv3) ?_
  refine X.an ?_
  refine Run.seq ?_
  refine Run.sr ?_
  refine X.mv ?_
  refine X.bi ?_
  refine X.nil ?_
  refine R.cd (fun hc4 => ?_) (fun hc4 => ?_)
  ·replace h := condT hc4 h
   refine Run.sr ?_
   refine X.an ?_
   cases h
   refine R.f1 Tryz.results4 ?_
   rfl
  ·replace h := condF hc4 h
   refine Run.skip ?_
   refine Run.sr ?_
   refine X.fl fld27_3 ?_
   refine X.ld shp24 ?_
   refine X.mv ?_
   obtain ⟨v5, hv5, h⟩ := bindE h
   refine X.cp (w_szResourceS_pc _ _ _ hv5) ?_
   refine X.an ?_
   refine Run.seq ?_
   refine Run.sr ?_
   refine X.mv ?_
   refine X.bi ?_
   refine X.nil ?_
   refine R.cd (fun hc6 => ?_) (fun hc6 => ?_)
   ·replace h := condT hc6 h
    refine Run.sr ?_
    refine X.an ?_
    cases h
    refine R.f1 Tryz.results4 ?_
    rfl
   ·replace h := condF hc6 h
    refine Run.skip ?_
    refine Run.sr ?_
    refine X.fl fld27_4 ?_
    refine X.ld shp25 ?_
    refine X.mv ?_
    obtain ⟨v7, hv7, h⟩ := bindE h
    refine X.cp (w_szIntS_pc _ _ _ hv7) ?_
    refine X.an ?_
    refine Run.seq ?_
    refine Run.sr ?_
    refine X.mv ?_
    refine X.bi ?_
    refine X.nil ?_
    refine R.cd (fun hc8 => ?_) (fun hc8 => ?_)
    ·replace h := condT hc8 h
     refine Run.sr ?_
     refine X.an ?_
     cases h
     refine R.f1 Tryz.results4 ?_
     rfl
    ·replace h := condF hc8 h
     refine Run.skip ?_
     refine Run.sr ?_
     refine X.mv ?_
     refine X.an ?_
     cases h
     refine R.f1 Tryz.results4 ?_
     rfl
theorem w_szDomain_pc (b0 : TDomain) (b1 : Int) (r : Int) (h : w_szDomain b0 b1 = some r) : PC Tryz.prog 5 [eTDomain b0, int b1] (int r) := by
 unfold w_szDomain at h
 refine PC.start Tryz.func5 Tryz.ntmps5 rfl ok5 rfl ?_
 refine Run.sr ?_
 refine X.bx ?_
 refine X.an ?_
 refine Run.sr ?_
 refine X.fl fld30_0 ?_
 refine X.ld shp25 ?_
 refine X.mv ?_
 obtain ⟨v1, hv1, h⟩ := bindE h
 refine X.cp (w_szIntS_pc _ _ _ hv1) ?_
 refine X.an ?_
 refine Run.seq ?_
 refine Run.sr ?_
 refine X.mv ?_
 refine X.bi ?_
 refine X.nil ?_
 refine R.cd (fun hc2 => ?_) (fun hc2 => ?_)
 ·replace h := condT hc2 h
  refine Run.sr ?_
  refine X.an ?_
  cases h
  refine R.f1 Tryz.results5 ?_
  rfl
 ·replace h := condF hc2 h
  refine Run.skip ?_
  refine Run.sr ?_
  refine X.fl fld30_1 ?_
  refine X.ld shp25 ?_
  refine X.mv ?_
  obtain ⟨v3, hv3, h⟩ := bindE h
  refine X.cp (w_szIntS_pc _ _ _ hv3) ?_
  refine X.an ?_
  refine Run.seq ?_
  refine Run.sr ?_
  refine X.mv ?_
  refine X.bi ?_
  refine X.nil ?_
  refine R.cd (fun hc4 => ?_) (fun hc4 => ?_)
  ·replace h := condT hc4 h
   refine Run.sr ?_
   refine X.an ?_
   cases h
   refine R.f1 Tryz.results5 ?_
   rfl
  ·replace h := condF hc4 h
   refine Run.skip ?_
   refine Run.sr ?_
   refine X.fl fld30_2 ?_
   refine X.ld shp28 ?_
   refine X.mv ?_
   obtain ⟨v5, hv5, h⟩ := bindE h
   refine X.cp (w_szIntSS_pc _ _ _ hv5) ?_
   refine X.an ?_
   refine Run.seq ?_
   refine Run.sr ?_
   refine X.mv ?_
   refine X.bi ?_
   refine X.nil ?_
   refine R.cd (fun hc6 => ?_) (fun hc6 => ?_)
   ·replace h := condT hc6 h
    refine Run.sr ?_
    refine X.an ?_
    cases h
    refine R.f1 Tryz.results5 ?_
    rfl
   ·replace h := condF hc6 h
    refine Run.skip ?_
    refine Run.sr ?_
    refine X.mv ?_
    refine X.an ?_
    cases h
    refine R.f1 Tryz.results5 ?_
    rfl
theorem w_toIntS_pc (b0 : List Int) (r : List Int) (h : w_toIntS b0 = some r) : PCM Tryz.prog 30 [.yng 63 (.slice (b0.map int))] [(63, .yreg false false)] (.fresh false 3 1 (r.map int)) [(63, .yreg false false)] := by
 unfold w_toIntS at h
 refine PCM.start Tryz.func30 Tryz.ntmps30 rfl ok30 rfl (by rfl) (by rfl) (by rfl) (by rfl) (by rfl) ?_
 refine Run.sr ?_
 refine X.an ?_
 refine Run.sr ?_
 refine X.mv ?_
 refine X.lenY false 63 elt25 (by rfl) (by exact List.length_map ..) (by rfl) ?_
 obtain ⟨v1, hv1, h⟩ := bindE h
 refine X.makeSlice2 int hv1 elt25 zer3 (by rfl) (by rfl) (by rfl) (by simp [PV.plain]) (by rfl) (by rfl) (by rfl) (by rfl) (by rfl) (by rfl) ?_
 refine X.an ?_
 refine Run.seq ?_
 refine Run.sr ?_
 refine X.an ?_
 obtain ⟨o2, ho2, h⟩ := bindE h
 refine R.join2 (β := (List Int)) [] [(63, .yreg false false)] (fun p15 S => (3, .own 448 (p15.map int).length) :: S) (fun p15 M => (448, .obj true 3 1 (p15.map int)) :: M) (fun p15 => p15 = o2) ?_ ?_
 ·intro JJ5 hmeet4
  have hup3 := h; clear h; have h := ho2; clear ho2
  refine Run.block ?_
  refine R.bndY false 63 (t := 0) (by rfl) (fun hbd8 => ?_)
  replace hbd8 : b0.length ≤ 9223372036854775807 := by first | (rw [List.length_map] at hbd8; exact hbd8) | simp
  refine R.lp (β := Int × (List Int)) [(0, .yng 63 (.slice (b0.map int)))] [(63, .yreg false false)] (fun bb S => (3, .own 448 (bb.2.map int).length) :: (4, int bb.1) :: S) (fun bb M => (448, .obj true 3 1 (bb.2.map int)) :: M) (fun n bb => 0 ≤ bb.1 ∧ bb.1 + n = (b0.length : Int) ∧ w_toIntS_L1 (b0.drop bb.1.toNat) bb.1 bb.2 = some o2) b0.length (0, v1) ⟨Int.le_refl _, by simp, h⟩ ?_
  clear h
  rintro JJ8 n8 ⟨z9, a10⟩ hag8 ⟨hza8, hzb8, h⟩
  dsimp only at hza8 hzb8 h
  refine Run.seq ?_
  refine Run.sr ?_
  refine X.mv ?_
  refine X.mv ?_
  refine X.lenY false 63 elt25 (by rfl) (by exact List.length_map ..) (by rfl) ?_
  refine X.bi ?_
  refine X.nil ?_
  refine R.cd (fun hc13 => ?_) (fun hc13 => ?_)
  ·obtain ⟨x11, xs12, hd8, hx8, hds8, hlt8⟩ := drop_atI hza8 hc13
   rw [hd8] at h
   rw [w_toIntS_L1] at h
   refine Run.skip ?_
   refine Run.seq ?_
   refine Run.block ?_
   refine Run.reg ?_
   refine X.mv ?_
   refine X.mv ?_
   refine X.mv ?_
   refine X.mv ?_
   refine X.indexY false 63 elt25 (by rfl) (by rfl) (idxL_spec hx8).1 (idxL_map int hx8) (by rfl) (by rfl) ?_
   refine X.loadY false 63 shp3 (by rfl) (by rfl) (by rfl) (by rfl) ?_
   obtain ⟨v14, hv14, h⟩ := bindE h
   refine X.index_xs elt25 (by rfl) (by rfl) (by first | rfl | simp [setL] | omega) (by rfl) (by exact (Int.toNat_of_nonneg (idxL_spec hv14).1).symm) (by have := idxL_lt hv14; first | exact this | (rw [List.length_map]; exact this)) (by rfl) (by rfl) ?_
   refine X.store_es shp3 (by rfl) (by rfl) (by first | rfl | simp [setL] | omega) (idxL_map _ hv14) (by rfl) (by rfl) (by repeat (first | trivial | refine ⟨by first | rfl | simp [setL], ?_⟩)) (by rfl) (by rfl) (by rfl) (by rfl) (by exact setL_map _ _ _ x11) ?_
   refine X.nil ?_
   refine Run.blk ?_
   refine Run.reg ?_
   refine X.mv ?_
   refine X.ad ?_
   refine X.an ?_
   refine R.castS (t := 3) (.own 448 ((setL a10 z9 x11).map int).length) (by rfl) (.inl (by first | rfl | simp [setL])) ?_
   exact R.ag hag8 (n8 - 1) (z9 + 1, (setL a10 z9 x11)) (R.n3 (by first | (rw [hds8]; exact h) | (dsimp only; rw [hds8]; exact h)))
  ·rw [drop_endI hza8 hc13] at h
   rw [w_toIntS_L1] at h
   refine Run.exit (by rfl) ?_
   exact R.mt hmeet4 a10 (Option.some.inj h)
 rintro p15 rfl
 refine Run.sr ?_
 refine X.mv ?_
 refine X.an ?_
 cases h
 refine R.pubObj (n := 448) (by rfl) ?_
 exact R.finM1o Tryz.results30 (by rfl) (by rfl) (by first | rfl | simp [setL] | omega) (by rfl) (by repeat (first | exact trivial | refine ⟨by rfl, ?_⟩)) rfl
theorem w_toMode_pc (b0 : TMode) (r : TMode) (h : w_toMode b0 = some r) : PCM Tryz.prog 92 [.agg [int b0.Duration, .yng 63 (.slice (b0.Usage.map int)), .yng 63 (.slice (b0.Consumption.map int))]] [(63, .yreg false false)] (.agg [int r.Duration, .fresh false 3 1 (r.Usage.map int), .fresh false 3 1 (r.Consumption.map int)]) [(63, .yreg false false)] := by
 unfold w_toMode at h
 refine PCM.start Tryz.func92 Tryz.ntmps92 rfl ok92 rfl (by rfl) (by rfl) (by rfl) (by rfl) (by rfl) ?_
 refine Run.sr ?_
 refine X.bx ?_
 refine X.alloc zer83 (by rfl) (by rfl) (by rfl) ?_
 refine X.nil ?_
 refine Run.sr ?_
 refine X.alloc zer83 (by rfl) (by rfl) (by rfl) ?_
 refine X.nil ?_
 refine Run.sr ?_
 refine X.fl fld119_0 ?_
 refine X.ld shp3 ?_
 refine X.fl fld83_0 ?_
 refine X.sl shp3 ?_
 refine X.nil ?_
 refine Run.sr ?_
 refine X.fl fld119_1 ?_
 refine X.ld shp25 ?_
 obtain ⟨v1, hv1, h⟩ := bindE h
 refine X.callM [(63, 63)] (w_toIntS_pc _ _ hv1) (by rfl) (by rfl) (.yngB 63 (by rfl) (by rfl) .nil) (by rfl) ⟨rfl, rfl, ⟨_, by rfl, by constructor⟩, by constructor, trivial⟩ (by rfl) (by rfl) (by rfl) (by rfl) (by rfl) (by rfl) (by rfl) (by rfl) (by rfl) ?_
 refine X.fl fld83_1 ?_
 refine X.sl shp25 ?_
 refine X.nil ?_
 refine Run.sr ?_
 refine X.fl fld119_2 ?_
 refine X.ld shp25 ?_
 obtain ⟨v2, hv2, h⟩ := bindE h
 refine X.callM [(63, 63)] (w_toIntS_pc _ _ hv2) (by rfl) (by rfl) (.yngB 63 (by rfl) (by rfl) .nil) (by rfl) ⟨rfl, rfl, ⟨_, by rfl, by constructor⟩, by constructor, trivial⟩ (by rfl) (by rfl) (by rfl) (by rfl) (by rfl) (by rfl) (by rfl) (by rfl) (by rfl) ?_
 refine X.fl fld83_2 ?_
 refine X.sl shp25 ?_
 refine X.nil ?_
 refine Run.sr ?_
 refine X.ld shp83 ?_
 refine X.sl shp83 ?_
 refine X.nil ?_
 cases h
 exact R.finMC Tryz.results92 shp83 (by rfl) (by rfl) (by rfl) (by rfl) (by repeat (first | trivial | refine ⟨by first | rfl | simp [setL], ?_⟩)) (by rfl) (by repeat (first | exact trivial | refine ⟨by rfl, ?_⟩)) rfl
theorem w_toModeS_pc (b0 : List TMode) (r : List TMode) (h : w_toModeS b0 = some r) : PCM Tryz.prog 73 [.yng 63 (.slice (b0.map eTMode))] [(63, .yreg false false)] (.fresh false 83 3 (r.map eTMode)) [(63, .yreg false false)] := by
 unfold w_toModeS at h
 refine PCM.start Tryz.func73 Tryz.ntmps73 rfl ok73 rfl (by rfl) (by rfl) (by rfl) (by rfl) (by rfl) ?_
 refine Run.sr ?_
 refine X.an ?_
 refine Run.sr ?_
 refine X.mv ?_
 refine X.lenY false 63 elt74 (by rfl) (by exact List.length_map ..) (by rfl) ?_
 obtain ⟨v1, hv1, h⟩ := bindE h
 refine X.makeSlice2 eTMode hv1 elt56 zer83 (by rfl) (by rfl) (by rfl) (by simp [PV.plain]) (by rfl) (by rfl) (by rfl) (by rfl) (by rfl) (by rfl) ?_
 refine X.an ?_
 refine Run.seq ?_
 refine Run.sr ?_
 refine X.an ?_
 obtain ⟨o2, ho2, h⟩ := bindE h
 refine R.join2 (β := (List TMode)) [] [(63, .yreg false false)] (fun p16 S => (3, .own 448 (p16.map eTMode).length) :: S) (fun p16 M => (448, .obj true 83 3 (p16.map eTMode)) :: M) (fun p16 => p16 = o2) ?_ ?_
 ·intro JJ5 hmeet4
  have hup3 := h; clear h; have h := ho2; clear ho2
  refine Run.block ?_
  refine R.bndY false 63 (t := 0) (by rfl) (fun hbd8 => ?_)
  replace hbd8 : b0.length ≤ 9223372036854775807 := by first | (rw [List.length_map] at hbd8; exact hbd8) | simp
  refine R.lp (β := Int × (List TMode)) [(0, .yng 63 (.slice (b0.map eTMode)))] [(63, .yreg false false)] (fun bb S => (3, .own 448 (bb.2.map eTMode).length) :: (4, int bb.1) :: S) (fun bb M => (448, .obj true 83 3 (bb.2.map eTMode)) :: M) (fun n bb => 0 ≤ bb.1 ∧ bb.1 + n = (b0.length : Int) ∧ w_toModeS_L1 (b0.drop bb.1.toNat) bb.1 bb.2 = some o2) b0.length (0, v1) ⟨Int.le_refl _, by simp, h⟩ ?_
  clear h
  rintro JJ8 n8 ⟨z9, a10⟩ hag8 ⟨hza8, hzb8, h⟩
  dsimp only at hza8 hzb8 h
  refine Run.seq ?_
  refine Run.sr ?_
  refine X.mv ?_
  refine X.mv ?_
  refine X.lenY false 63 elt74 (by rfl) (by exact List.length_map ..) (by rfl) ?_
  refine X.bi ?_
  refine X.nil ?_
  refine R.cd (fun hc13 => ?_) (fun hc13 => ?_)
  ·obtain ⟨x11, xs12, hd8, hx8, hds8, hlt8⟩ := drop_atI hza8 hc13
   rw [hd8] at h
   rw [w_toModeS_L1] at h
   refine Run.skip ?_
   refine Run.seq ?_
   refine Run.block ?_
   refine Run.reg ?_
   refine X.mv ?_
   refine X.mv ?_
   refine X.mv ?_
   refine X.mv ?_
   refine X.indexY false 63 elt74 (by rfl) (by rfl) (idxL_spec hx8).1 (idxL_map eTMode hx8) (by rfl) (by rfl) ?_
   refine X.loadY false 63 shp119 (by rfl) (by rfl) (by rfl) (by rfl) ?_
   obtain ⟨v14, hv14, h⟩ := bindE h
   refine X.callM [(63, 63)] (w_toMode_pc _ _ hv14) (by rfl) (by rfl) (.agg _ _ _ _ _ _ (.pureB (by rfl) (by repeat (first | trivial | refine ⟨by first | rfl | simp [setL], ?_⟩)) (.yngB 63 (by rfl) (by rfl) (.yngB 63 (by rfl) (by rfl) .nil))) .nil) (by rfl) ⟨rfl, rfl, ⟨_, by rfl, by constructor⟩, by constructor, trivial⟩ (by rfl) (by rfl) (by rfl) (by rfl) (by rfl) (by rfl) (by rfl) (by rfl) (by rfl) ?_
   obtain ⟨v15, hv15, h⟩ := bindE h
   refine X.index_xs elt56 (by rfl) (by rfl) (by first | rfl | simp [setL] | omega) (by rfl) (by exact (Int.toNat_of_nonneg (idxL_spec hv15).1).symm) (by have := idxL_lt hv15; first | exact this | (rw [List.length_map]; exact this)) (by rfl) (by rfl) ?_
   refine X.store_es shp83 (by rfl) (by rfl) (by first | rfl | simp [setL] | omega) (idxL_map _ hv15) (by rfl) (by rfl) (by repeat (first | trivial | refine ⟨by first | rfl | simp [setL], ?_⟩)) (by rfl) (by rfl) (by rfl) (by rfl) (by exact setL_map _ _ _ v14) ?_
   refine X.nil ?_
   refine Run.blk ?_
   refine Run.reg ?_
   refine X.mv ?_
   refine X.ad ?_
   refine X.an ?_
   refine R.castS (t := 3) (.own 448 ((setL a10 z9 v14).map eTMode).length) (by rfl) (.inl (by first | rfl | simp [setL])) ?_
   exact R.ag hag8 (n8 - 1) (z9 + 1, (setL a10 z9 v14)) (R.n3 (by first | (rw [hds8]; exact h) | (dsimp only; rw [hds8]; exact h)))
  ·rw [drop_endI hza8 hc13] at h
   rw [w_toModeS_L1] at h
   refine Run.exit (by rfl) ?_
   exact R.mt hmeet4 a10 (Option.some.inj h)
 rintro p16 rfl
 refine Run.sr ?_
 refine X.mv ?_
 refine X.an ?_
 cases h
 refine R.pubObj (n := 448) (by rfl) ?_
 exact R.finM1o Tryz.results73 (by rfl) (by rfl) (by first | rfl | simp [setL] | omega) (by rfl) (by repeat (first | exact trivial | refine ⟨by rfl, ?_⟩)) rfl
theorem w_toActivity_pc (b0 : TActivity) (r : TActivity) (h : w_toActivity b0 = some r) : PCM Tryz.prog 51 [.agg [str b0.Name, int b0.Family, .yng 63 (.slice (b0.Modes.map eTMode))]] [(63, .yreg false false)] (.agg [str r.Name, int r.Family, .fresh false 83 3 (r.Modes.map eTMode)]) [(63, .yreg false false)] := by
 unfold w_toActivity at h
 refine PCM.start Tryz.func51 Tryz.ntmps51 rfl ok51 rfl (by rfl) (by rfl) (by rfl) (by rfl) (by rfl) ?_
 refine Run.sr ?_
 refine X.bx ?_
 refine X.alloc zer58 (by rfl) (by rfl) (by rfl) ?_
 refine X.nil ?_
 refine Run.sr ?_
 refine X.alloc zer58 (by rfl) (by rfl) (by rfl) ?_
 refine X.nil ?_
 refine Run.sr ?_
 refine X.fl fld76_0 ?_
 refine X.ld shp9 ?_
 refine X.fl fld58_0 ?_
 refine X.sl shp9 ?_
 refine X.nil ?_
 refine Run.sr ?_
 refine X.fl fld76_1 ?_
 refine X.ld shp3 ?_
 refine X.fl fld58_1 ?_
 refine X.sl shp3 ?_
 refine X.nil ?_
 refine Run.sr ?_
 refine X.fl fld76_2 ?_
 refine X.ld shp74 ?_
 obtain ⟨v1, hv1, h⟩ := bindE h
 refine X.callM [(63, 63)] (w_toModeS_pc _ _ hv1) (by rfl) (by rfl) (.yngB 63 (by rfl) (by rfl) .nil) (by rfl) ⟨rfl, rfl, ⟨_, by rfl, by constructor⟩, by constructor, trivial⟩ (by rfl) (by rfl) (by rfl) (by rfl) (by rfl) (by rfl) (by rfl) (by rfl) (by rfl) ?_
 refine X.fl fld58_2 ?_
 refine X.sl shp56 ?_
 refine X.nil ?_
 refine Run.sr ?_
 refine X.ld shp58 ?_
 refine X.sl shp58 ?_
 refine X.nil ?_
 cases h
 exact R.finMC Tryz.results51 shp58 (by rfl) (by rfl) (by rfl) (by rfl) (by repeat (first | trivial | refine ⟨by first | rfl | simp [setL], ?_⟩)) (by rfl) (by repeat (first | exact trivial | refine ⟨by rfl, ?_⟩)) rfl
theorem w_toActivityS_pc (b0 : List TActivity) (r : List TActivity) (h : w_toActivityS b0 = some r) : PCM Tryz.prog 27 [.yng 63 (.slice (b0.map eTActivity))] [(63, .yreg false false)] (.fresh false 58 3 (r.map eTActivity)) [(63, .yreg false false)] := by
 unfold w_toActivityS at h
 refine PCM.start Tryz.func27 Tryz.ntmps27 rfl ok27 rfl (by rfl) (by rfl) (by rfl) (by rfl) (by rfl) ?_
 refine Run.sr ?_
 refine X.an ?_
 refine Run.sr ?_
 refine X.mv ?_
 refine X.lenY false 63 elt22 (by rfl) (by exact List.length_map ..) (by rfl) ?_
 obtain ⟨v1, hv1, h⟩ := bindE h
 refine X.makeSlice2 eTActivity hv1 elt34 zer58 (by rfl) (by rfl) (by rfl) (by simp [PV.plain]) (by rfl) (by rfl) (by rfl) (by rfl) (by rfl) (by rfl) ?_
 refine X.an ?_
 refine Run.seq ?_
 refine Run.sr ?_
 refine X.an ?_
 obtain ⟨o2, ho2, h⟩ := bindE h
 refine R.join2 (β := (List TActivity)) [] [(63, .yreg false false)] (fun p16 S => (3, .own 448 (p16.map eTActivity).length) :: S) (fun p16 M => (448, .obj true 58 3 (p16.map eTActivity)) :: M) (fun p16 => p16 = o2) ?_ ?_
 ·intro JJ5 hmeet4
  have hup3 := h; clear h; have h := ho2; clear ho2
  refine Run.block ?_
  refine R.bndY false 63 (t := 0) (by rfl) (fun hbd8 => ?_)
  replace hbd8 : b0.length ≤ 9223372036854775807 := by first | (rw [List.length_map] at hbd8; exact hbd8) | simp
  refine R.lp (β := Int × (List TActivity)) [(0, .yng 63 (.slice (b0.map eTActivity)))] [(63, .yreg false false)] (fun bb S => (3, .own 448 (bb.2.map eTActivity).length) :: (4, int bb.1) :: S) (fun bb M => (448, .obj true 58 3 (bb.2.map eTActivity)) :: M) (fun n bb => 0 ≤ bb.1 ∧ bb.1 + n = (b0.length : Int) ∧ w_toActivityS_L1 (b0.drop bb.1.toNat) bb.1 bb.2 = some o2) b0.length (0, v1) ⟨Int.le_refl _, by simp, h⟩ ?_
  clear h
  rintro JJ8 n8 ⟨z9, a10⟩ hag8 ⟨hza8, hzb8, h⟩
  dsimp only at hza8 hzb8 h
  refine Run.seq ?_
  refine Run.sr ?_
  refine X.mv ?_
  refine X.mv ?_
  refine X.lenY false 63 elt22 (by rfl) (by exact List.length_map ..) (by rfl) ?_
  refine X.bi ?_
  refine X.nil ?_
  refine R.cd (fun hc13 => ?_) (fun hc13 => ?_)
  ·obtain ⟨x11, xs12, hd8, hx8, hds8, hlt8⟩ := drop_atI hza8 hc13
   rw [hd8] at h
   rw [w_toActivityS_L1] at h
   refine Run.skip ?_
   refine Run.seq ?_
   refine Run.block ?_
   refine Run.reg ?_
   refine X.mv ?_
   refine X.mv ?_
   refine X.mv ?_
   refine X.mv ?_
   refine X.indexY false 63 elt22 (by rfl) (by rfl) (idxL_spec hx8).1 (idxL_map eTActivity hx8) (by rfl) (by rfl) ?_
   refine X.loadY false 63 shp76 (by rfl) (by rfl) (by rfl) (by rfl) ?_
   obtain ⟨v14, hv14, h⟩ := bindE h
   refine X.callM [(63, 63)] (w_toActivity_pc _ _ hv14) (by rfl) (by rfl) (.agg _ _ _ _ _ _ (.pureB (by rfl) (by repeat (first | trivial | refine ⟨by first | rfl | simp [setL], ?_⟩)) (.pureB (by rfl) (by repeat (first | trivial | refine ⟨by first | rfl | simp [setL], ?_⟩)) (.yngB 63 (by rfl) (by rfl) .nil))) .nil) (by rfl) ⟨rfl, rfl, ⟨_, by rfl, by constructor⟩, by constructor, trivial⟩ (by rfl) (by rfl) (by rfl) (by rfl) (by rfl) (by rfl) (by rfl) (by rfl) (by rfl) ?_
   obtain ⟨v15, hv15, h⟩ := bindE h
   refine X.index_xs elt34 (by rfl) (by rfl) (by first | rfl | simp [setL] | omega) (by rfl) (by exact (Int.toNat_of_nonneg (idxL_spec hv15).1).symm) (by have := idxL_lt hv15; first | exact this | (rw [List.length_map]; exact this)) (by rfl) (by rfl) ?_
   refine X.store_es shp58 (by rfl) (by rfl) (by first | rfl | simp [setL] | omega) (idxL_map _ hv15) (by rfl) (by rfl) (by repeat (first | trivial | refine ⟨by first | rfl | simp [setL], ?_⟩)) (by rfl) (by rfl) (by rfl) (by rfl) (by exact setL_map _ _ _ v14) ?_
   refine X.nil ?_
   refine Run.blk ?_
   refine Run.reg ?_
   refine X.mv ?_
   refine X.ad ?_
   refine X.an ?_
   refine R.castS (t := 3) (.own 448 ((setL a10 z9 v14).map eTActivity).length) (by rfl) (.inl (by first | rfl | simp [setL])) ?_
   exact R.ag hag8 (n8 - 1) (z9 + 1, (setL a10 z9 v14)) (R.n3 (by first | (rw [hds8]; exact h) | (dsimp only; rw [hds8]; exact h)))
  ·rw [drop_endI hza8 hc13] at h
   rw [w_toActivityS_L1] at h
   refine Run.exit (by rfl) ?_
   exact R.mt hmeet4 a10 (Option.some.inj h)
 rintro p16 rfl
 refine Run.sr ?_
 refine X.mv ?_
 refine X.an ?_
 cases h
 refine R.pubObj (n := 448) (by rfl) ?_
 exact R.finM1o Tryz.results27 (by rfl) (by rfl) (by first | rfl | simp [setL] | omega) (by rfl) (by repeat (first | exact trivial | refine ⟨by rfl, ?_⟩)) rfl
theorem w_toLink_pc (b0 : TLink) (r : TLink) (h : w_toLink b0 = some r) : PC Tryz.prog 52 [eTLink b0] (eTLink r) := by
 unfold w_toLink at h
 refine PC.start Tryz.func52 Tryz.ntmps52 rfl ok52 rfl ?_
 refine Run.sr ?_
 refine X.bx ?_
 refine X.alloc zer87 (by rfl) (by rfl) (by rfl) ?_
 refine X.nil ?_
 refine Run.sr ?_
 refine X.alloc zer87 (by rfl) (by rfl) (by rfl) ?_
 refine X.nil ?_
 refine Run.sr ?_
 refine X.fl fld89_0 ?_
 refine X.ld shp3 ?_
 refine X.fl fld87_0 ?_
 refine X.sl shp3 ?_
 refine X.nil ?_
 refine Run.sr ?_
 refine X.fl fld89_1 ?_
 refine X.ld shp3 ?_
 refine X.fl fld87_1 ?_
 refine X.sl shp3 ?_
 refine X.nil ?_
 refine Run.sr ?_
 refine X.fl fld89_2 ?_
 refine X.ld shp4 ?_
 refine X.fl fld87_2 ?_
 refine X.sl shp4 ?_
 refine X.nil ?_
 refine Run.sr ?_
 refine X.fl fld89_3 ?_
 refine X.ld shp3 ?_
 refine X.fl fld87_3 ?_
 refine X.sl shp3 ?_
 refine X.nil ?_
 refine Run.sr ?_
 refine X.ld shp87 ?_
 refine X.sl shp87 ?_
 refine X.nil ?_
 cases h
 refine R.finC Tryz.results52 shp87 (by rfl) (by rfl) (by rfl) (by rfl) (by repeat (first | trivial | refine ⟨by first | rfl | simp [setL], ?_⟩)) ?_
 rfl
theorem w_toLinkS_pc (b0 : List TLink) (r : List TLink) (h : w_toLinkS b0 = some r) : PCM Tryz.prog 28 [.yng 63 (.slice (b0.map eTLink))] [(63, .yreg false false)] (.fresh false 87 4 (r.map eTLink)) [(63, .yreg false false)] := by
 unfold w_toLinkS at h
 refine PCM.start Tryz.func28 Tryz.ntmps28 rfl ok28 rfl (by rfl) (by rfl) (by rfl) (by rfl) (by rfl) ?_
 refine Run.sr ?_
 refine X.an ?_
 refine Run.sr ?_
 refine X.mv ?_
 refine X.lenY false 63 elt23 (by rfl) (by exact List.length_map ..) (by rfl) ?_
 obtain ⟨v1, hv1, h⟩ := bindE h
 refine X.makeSlice2 eTLink hv1 elt35 zer87 (by rfl) (by rfl) (by rfl) (by simp [PV.plain]) (by rfl) (by rfl) (by rfl) (by rfl) (by rfl) (by rfl) ?_
 refine X.an ?_
 refine Run.seq ?_
 refine Run.sr ?_
 refine X.an ?_
 obtain ⟨o2, ho2, h⟩ := bindE h
 refine R.join2 (β := (List TLink)) [] [(63, .yreg false false)] (fun p16 S => (3, .own 448 (p16.map eTLink).length) :: S) (fun p16 M => (448, .obj true 87 4 (p16.map eTLink)) :: M) (fun p16 => p16 = o2) ?_ ?_
 ·intro JJ5 hmeet4
  have hup3 := h; clear h; have h := ho2; clear ho2
  refine Run.block ?_
  refine R.bndY false 63 (t := 0) (by rfl) (fun hbd8 => ?_)
  replace hbd8 : b0.length ≤ 9223372036854775807 := by first | (rw [List.length_map] at hbd8; exact hbd8) | simp
  refine R.lp (β := Int × (List TLink)) [(0, .yng 63 (.slice (b0.map eTLink)))] [(63, .yreg false false)] (fun bb S => (3, .own 448 (bb.2.map eTLink).length) :: (4, int bb.1) :: S) (fun bb M => (448, .obj true 87 4 (bb.2.map eTLink)) :: M) (fun n bb => 0 ≤ bb.1 ∧ bb.1 + n = (b0.length : Int) ∧ w_toLinkS_L1 (b0.drop bb.1.toNat) bb.1 bb.2 = some o2) b0.length (0, v1) ⟨Int.le_refl _, by simp, h⟩ ?_
  clear h
  rintro JJ8 n8 ⟨z9, a10⟩ hag8 ⟨hza8, hzb8, h⟩
  dsimp only at hza8 hzb8 h
  refine Run.seq ?_
  refine Run.sr ?_
  refine X.mv ?_
  refine X.mv ?_
  refine X.lenY false 63 elt23 (by rfl) (by exact List.length_map ..) (by rfl) ?_
  refine X.bi ?_
  refine X.nil ?_
  refine R.cd (fun hc13 => ?_) (fun hc13 => ?_)
  ·obtain ⟨x11, xs12, hd8, hx8, hds8, hlt8⟩ := drop_atI hza8 hc13
   rw [hd8] at h
   rw [w_toLinkS_L1] at h
   refine Run.skip ?_
   refine Run.seq ?_
   refine Run.block ?_
   refine Run.reg ?_
   refine X.mv ?_
   refine X.mv ?_
   refine X.mv ?_
   refine X.mv ?_
   refine X.indexY false 63 elt23 (by rfl) (by rfl) (idxL_spec hx8).1 (idxL_map eTLink hx8) (by rfl) (by rfl) ?_
   refine X.loadY false 63 shp89 (by rfl) (by rfl) (by rfl) (by rfl) ?_
   obtain ⟨v14, hv14, h⟩ := bindE h
   refine X.callA (w_toLink_pc _ _ hv14) (by rfl) (by rfl) (by rfl) (by trivial) (by rfl) (by rfl) (by rfl) (by rfl) (by rfl) (by rfl) ?_
   obtain ⟨v15, hv15, h⟩ := bindE h
   refine X.index_xs elt35 (by rfl) (by rfl) (by first | rfl | simp [setL] | omega) (by rfl) (by exact (Int.toNat_of_nonneg (idxL_spec hv15).1).symm) (by have := idxL_lt hv15; first | exact this | (rw [List.length_map]; exact this)) (by rfl) (by rfl) ?_
   refine X.store_es shp87 (by rfl) (by rfl) (by first | rfl | simp [setL] | omega) (idxL_map _ hv15) (by rfl) (by rfl) (by repeat (first | trivial | refine ⟨by first | rfl | simp [setL], ?_⟩)) (by rfl) (by rfl) (by rfl) (by rfl) (by exact setL_map _ _ _ v14) ?_
   refine X.nil ?_
   refine Run.blk ?_
   refine Run.reg ?_
   refine X.mv ?_
   refine X.ad ?_
   refine X.an ?_
   refine R.castS (t := 3) (.own 448 ((setL a10 z9 v14).map eTLink).length) (by rfl) (.inl (by first | rfl | simp [setL])) ?_
   exact R.ag hag8 (n8 - 1) (z9 + 1, (setL a10 z9 v14)) (R.n3 (by first | (rw [hds8]; exact h) | (dsimp only; rw [hds8]; exact h)))
  ·rw [drop_endI hza8 hc13] at h
   rw [w_toLinkS_L1] at h
   refine Run.exit (by rfl) ?_
   exact R.mt hmeet4 a10 (Option.some.inj h)
 rintro p16 rfl
 refine Run.sr ?_
 refine X.mv ?_
 refine X.an ?_
 cases h
 refine R.pubObj (n := 448) (by rfl) ?_
 exact R.finM1o Tryz.results28 (by rfl) (by rfl) (by first | rfl | simp [setL] | omega) (by rfl) (by repeat (first | exact trivial | refine ⟨by rfl, ?_⟩)) rfl
theorem w_toStep_pc (b0 : TStep) (r : TStep) (h : w_toStep b0 = some r) : PC Tryz.prog 93 [eTStep b0] (eTStep r) := by
 unfold w_toStep at h
 refine PC.start Tryz.func93 Tryz.ntmps93 rfl ok93 rfl ?_
 refine Run.sr ?_
 refine X.bx ?_
 refine X.alloc zer117 (by rfl) (by rfl) (by rfl) ?_
 refine X.nil ?_
 refine Run.sr ?_
 refine X.alloc zer117 (by rfl) (by rfl) (by rfl) ?_
 refine X.nil ?_
 refine Run.sr ?_
 refine X.fl fld126_0 ?_
 refine X.ld shp3 ?_
 refine X.fl fld117_0 ?_
 refine X.sl shp3 ?_
 refine X.nil ?_
 refine Run.sr ?_
 refine X.fl fld126_1 ?_
 refine X.ld shp3 ?_
 refine X.fl fld117_1 ?_
 refine X.sl shp3 ?_
 refine X.nil ?_
 refine Run.sr ?_
 refine X.ld shp117 ?_
 refine X.sl shp117 ?_
 refine X.nil ?_
 cases h
 refine R.finC Tryz.results93 shp117 (by rfl) (by rfl) (by rfl) (by rfl) (by repeat (first | trivial | refine ⟨by first | rfl | simp [setL], ?_⟩)) ?_
 rfl
theorem w_toStepS_pc (b0 : List TStep) (r : List TStep) (h : w_toStepS b0 = some r) : PCM Tryz.prog 74 [.yng 63 (.slice (b0.map eTStep))] [(63, .yreg false false)] (.fresh false 117 2 (r.map eTStep)) [(63, .yreg false false)] := by
 unfold w_toStepS at h
 refine PCM.start Tryz.func74 Tryz.ntmps74 rfl ok74 rfl (by rfl) (by rfl) (by rfl) (by rfl) (by rfl) ?_
 refine Run.sr ?_
 refine X.an ?_
 refine Run.sr ?_
 refine X.mv ?_
 refine X.lenY false 63 elt78 (by rfl) (by exact List.length_map ..) (by rfl) ?_
 obtain ⟨v1, hv1, h⟩ := bindE h
 refine X.makeSlice2 eTStep hv1 elt90 zer117 (by rfl) (by rfl) (by rfl) (by simp [PV.plain]) (by rfl) (by rfl) (by rfl) (by rfl) (by rfl) (by rfl) ?_
 refine X.an ?_
 refine Run.seq ?_
 refine Run.sr ?_
 refine X.an ?_
 obtain ⟨o2, ho2, h⟩ := bindE h
 refine R.join2 (β := (List TStep)) [] [(63, .yreg false false)] (fun p16 S => (3, .own 448 (p16.map eTStep).length) :: S) (fun p16 M => (448, .obj true 117 2 (p16.map eTStep)) :: M) (fun p16 => p16 = o2) ?_ ?_
 ·intro JJ5 hmeet4
  have hup3 := h; clear h; have h := ho2; clear ho2
  refine Run.block ?_
  refine R.bndY false 63 (t := 0) (by rfl) (fun hbd8 => ?_)
  replace hbd8 : b0.length ≤ 9223372036854775807 := by first | (rw [List.length_map] at hbd8; exact hbd8) | simp
  refine R.lp (β := Int × (List TStep)) [(0, .yng 63 (.slice (b0.map eTStep)))] [(63, .yreg false false)] (fun bb S => (3, .own 448 (bb.2.map eTStep).length) :: (4, int bb.1) :: S) (fun bb M => (448, .obj true 117 2 (bb.2.map eTStep)) :: M) (fun n bb => 0 ≤ bb.1 ∧ bb.1 + n = (b0.length : Int) ∧ w_toStepS_L1 (b0.drop bb.1.toNat) bb.1 bb.2 = some o2) b0.length (0, v1) ⟨Int.le_refl _, by simp, h⟩ ?_
  clear h
  rintro JJ8 n8 ⟨z9, a10⟩ hag8 ⟨hza8, hzb8, h⟩
  dsimp only at hza8 hzb8 h
  refine Run.seq ?_
  refine Run.sr ?_
  refine X.mv ?_
  refine X.mv ?_
  refine X.lenY false 63 elt78 (by rfl) (by exact List.length_map ..) (by rfl) ?_
  refine X.bi ?_
  refine X.nil ?_
  refine R.cd (fun hc13 => ?_) (fun hc13 => ?_)
  ·obtain ⟨x11, xs12, hd8, hx8, hds8, hlt8⟩ := drop_atI hza8 hc13
   rw [hd8] at h
   rw [w_toStepS_L1] at h
   refine Run.skip ?_
   refine Run.seq ?_
   refine Run.block ?_
   refine Run.reg ?_
   refine X.mv ?_
   refine X.mv ?_
   refine X.mv ?_
   refine X.mv ?_
   refine X.indexY false 63 elt78 (by rfl) (by rfl) (idxL_spec hx8).1 (idxL_map eTStep hx8) (by rfl) (by rfl) ?_
   refine X.loadY false 63 shp126 (by rfl) (by rfl) (by rfl) (by rfl) ?_
   obtain ⟨v14, hv14, h⟩ := bindE h
   refine X.callA (w_toStep_pc _ _ hv14) (by rfl) (by rfl) (by rfl) (by trivial) (by rfl) (by rfl) (by rfl) (by rfl) (by rfl) (by rfl) ?_
   obtain ⟨v15, hv15, h⟩ := bindE h
   refine X.index_xs elt90 (by rfl) (by rfl) (by first | rfl | simp [setL] | omega) (by rfl) (by exact (Int.toNat_of_nonneg (idxL_spec hv15).1).symm) (by have := idxL_lt hv15; first | exact this | (rw [List.length_map]; exact this)) (by rfl) (by rfl) ?_
   refine X.store_es shp117 (by rfl) (by rfl) (by first | rfl | simp [setL] | omega) (idxL_map _ hv15) (by rfl) (by rfl) (by repeat (first | trivial | refine ⟨by first | rfl | simp [setL], ?_⟩)) (by rfl) (by rfl) (by rfl) (by rfl) (by exact setL_map _ _ _ v14) ?_
   refine X.nil ?_
   refine Run.blk ?_
   refine Run.reg ?_
   refine X.mv ?_
   refine X.ad ?_
   refine X.an ?_
   refine R.castS (t := 3) (.own 448 ((setL a10 z9 v14).map eTStep).length) (by rfl) (.inl (by first | rfl | simp [setL])) ?_
   exact R.ag hag8 (n8 - 1) (z9 + 1, (setL a10 z9 v14)) (R.n3 (by first | (rw [hds8]; exact h) | (dsimp only; rw [hds8]; exact h)))
  ·rw [drop_endI hza8 hc13] at h
   rw [w_toStepS_L1] at h
   refine Run.exit (by rfl) ?_
   exact R.mt hmeet4 a10 (Option.some.inj h)
 rintro p16 rfl
 refine Run.sr ?_
 refine X.mv ?_
 refine X.an ?_
 cases h
 refine R.pubObj (n := 448) (by rfl) ?_
 exact R.finM1o Tryz.results74 (by rfl) (by rfl) (by first | rfl | simp [setL] | omega) (by rfl) (by repeat (first | exact trivial | refine ⟨by rfl, ?_⟩)) rfl
theorem w_toIntSS_pc (b0 : List (List Int)) (r : List (List Int)) (h : w_toIntSS b0 = some r) : PCM Tryz.prog 31 [.yng 63 (.slice (b0.map l_int))] [(63, .yreg false false)] (.fresh false 25 1 (r.map l_int)) [(63, .yreg false false)] := by
 unfold w_toIntSS at h
 refine PCM.start Tryz.func31 Tryz.ntmps31 rfl ok31 rfl (by rfl) (by rfl) (by rfl) (by rfl) (by rfl) ?_
 refine Run.sr ?_
 refine X.an ?_
 refine Run.sr ?_
 refine X.mv ?_
 refine X.lenY false 63 elt28 (by rfl) (by exact List.length_map ..) (by rfl) ?_
 obtain ⟨v1, hv1, h⟩ := bindE h
 refine X.makeSlice2 l_int hv1 elt28 zer25 (by rfl) (by rfl) (by rfl) (by simp [PV.plain]) (by rfl) (by rfl) (by rfl) (by rfl) (by rfl) (by rfl) ?_
 refine X.an ?_
 refine Run.seq ?_
 refine Run.sr ?_
 refine X.an ?_
 obtain ⟨o2, ho2, h⟩ := bindE h
 refine R.join2 (β := (List (List Int))) [] [(63, .yreg false false)] (fun p16 S => (3, .own 448 (p16.map l_int).length) :: S) (fun p16 M => (448, .obj true 25 1 (p16.map l_int)) :: M) (fun p16 => p16 = o2) ?_ ?_
 ·intro JJ5 hmeet4
  have hup3 := h; clear h; have h := ho2; clear ho2
  refine Run.block ?_
  refine R.bndY false 63 (t := 0) (by rfl) (fun hbd8 => ?_)
  replace hbd8 : b0.length ≤ 9223372036854775807 := by first | (rw [List.length_map] at hbd8; exact hbd8) | simp
  refine R.lp (β := Int × (List (List Int))) [(0, .yng 63 (.slice (b0.map l_int)))] [(63, .yreg false false)] (fun bb S => (3, .own 448 (bb.2.map l_int).length) :: (4, int bb.1) :: S) (fun bb M => (448, .obj true 25 1 (bb.2.map l_int)) :: M) (fun n bb => 0 ≤ bb.1 ∧ bb.1 + n = (b0.length : Int) ∧ w_toIntSS_L1 (b0.drop bb.1.toNat) bb.1 bb.2 = some o2) b0.length (0, v1) ⟨Int.le_refl _, by simp, h⟩ ?_
  clear h
  rintro JJ8 n8 ⟨z9, a10⟩ hag8 ⟨hza8, hzb8, h⟩
  dsimp only at hza8 hzb8 h
  refine Run.seq ?_
  refine Run.sr ?_
  refine X.mv ?_
  refine X.mv ?_
  refine X.lenY false 63 elt28 (by rfl) (by exact List.length_map ..) (by rfl) ?_
  refine X.bi ?_
  refine X.nil ?_
  refine R.cd (fun hc13 => ?_) (fun hc13 => ?_)
  ·obtain ⟨x11, xs12, hd8, hx8, hds8, hlt8⟩ := drop_atI hza8 hc13
   rw [hd8] at h
   rw [w_toIntSS_L1] at h
   refine Run.skip ?_
   refine Run.seq ?_
   refine Run.block ?_
   refine Run.reg ?_
   refine X.mv ?_
   refine X.mv ?_
   refine X.mv ?_
   refine X.mv ?_
   refine X.indexY false 63 elt28 (by rfl) (by rfl) (idxL_spec hx8).1 (idxL_map l_int hx8) (by rfl) (by rfl) ?_
   refine X.loadY false 63 shp25 (by rfl) (by rfl) (by rfl) (by rfl) ?_
   obtain ⟨v14, hv14, h⟩ := bindE h
   refine X.callM [(63, 63)] (w_toIntS_pc _ _ hv14) (by rfl) (by rfl) (.yngB 63 (by rfl) (by rfl) .nil) (by rfl) ⟨rfl, rfl, ⟨_, by rfl, by constructor⟩, by constructor, trivial⟩ (by rfl) (by rfl) (by rfl) (by rfl) (by rfl) (by rfl) (by rfl) (by rfl) (by rfl) ?_
   obtain ⟨v15, hv15, h⟩ := bindE h
   refine X.index_xs elt28 (by rfl) (by rfl) (by first | rfl | simp [setL] | omega) (by rfl) (by exact (Int.toNat_of_nonneg (idxL_spec hv15).1).symm) (by have := idxL_lt hv15; first | exact this | (rw [List.length_map]; exact this)) (by rfl) (by rfl) ?_
   refine X.store_es shp25 (by rfl) (by rfl) (by first | rfl | simp [setL] | omega) (idxL_map _ hv15) (by rfl) (by rfl) (by repeat (first | trivial | refine ⟨by first | rfl | simp [setL], ?_⟩)) (by rfl) (by rfl) (by rfl) (by rfl) (by exact setL_map _ _ _ v14) ?_
   refine X.nil ?_
   refine Run.blk ?_
   refine Run.reg ?_
   refine X.mv ?_
   refine X.ad ?_
   refine X.an ?_
   refine R.castS (t := 3) (.own 448 ((setL a10 z9 v14).map l_int).length) (by rfl) (.inl (by first | rfl | simp [setL])) ?_
   exact R.ag hag8 (n8 - 1) (z9 + 1, (setL a10 z9 v14)) (R.n3 (by first | (rw [hds8]; exact h) | (dsimp only; rw [hds8]; exact h)))
  ·rw [drop_endI hza8 hc13] at h
   rw [w_toIntSS_L1] at h
   refine Run.exit (by rfl) ?_
   exact R.mt hmeet4 a10 (Option.some.inj h)
 rintro p16 rfl
 refine Run.sr ?_
 refine X.mv ?_
 refine X.an ?_
 cases h
 refine R.pubObj (n := 448) (by rfl) ?_
 exact R.finM1o Tryz.results31 (by rfl) (by rfl) (by first | rfl | simp [setL] | omega) (by rfl) (by repeat (first | exact trivial | refine ⟨by rfl, ?_⟩)) rfl
theorem w_toResource_pc (b0 : TResource) (r : TResource) (h : w_toResource b0 = some r) : PCM Tryz.prog 53 [.agg [.yng 63 (.slice (b0.Steps.map eTStep)), .yng 63 (.slice (b0.Setup.map l_int))]] [(63, .yreg false false)] (.agg [.fresh false 117 2 (r.Steps.map eTStep), .fresh false 25 1 (r.Setup.map l_int)]) [(63, .yreg false false)] := by
 unfold w_toResource at h
 refine PCM.start Tryz.func53 Tryz.ntmps53 rfl ok53 rfl (by rfl) (by rfl) (by rfl) (by rfl) (by rfl) ?_
 refine Run.sr ?_
 refine X.bx ?_
 refine X.alloc zer92 (by rfl) (by rfl) (by rfl) ?_
 refine X.nil ?_
 refine Run.sr ?_
 refine X.alloc zer92 (by rfl) (by rfl) (by rfl) ?_
 refine X.nil ?_
 refine Run.sr ?_
 refine X.fl fld80_0 ?_
 refine X.ld shp78 ?_
 obtain ⟨v1, hv1, h⟩ := bindE h
 refine X.callM [(63, 63)] (w_toStepS_pc _ _ hv1) (by rfl) (by rfl) (.yngB 63 (by rfl) (by rfl) .nil) (by rfl) ⟨rfl, rfl, ⟨_, by rfl, by constructor⟩, by constructor, trivial⟩ (by rfl) (by rfl) (by rfl) (by rfl) (by rfl) (by rfl) (by rfl) (by rfl) (by rfl) ?_
 refine X.fl fld92_0 ?_
 refine X.sl shp90 ?_
 refine X.nil ?_
 refine Run.sr ?_
 refine X.fl fld80_1 ?_
 refine X.ld shp28 ?_
 obtain ⟨v2, hv2, h⟩ := bindE h
 refine X.callM [(63, 63)] (w_toIntSS_pc _ _ hv2) (by rfl) (by rfl) (.yngB 63 (by rfl) (by rfl) .nil) (by rfl) ⟨rfl, rfl, ⟨_, by rfl, by constructor⟩, by constructor, trivial⟩ (by rfl) (by rfl) (by rfl) (by rfl) (by rfl) (by rfl) (by rfl) (by rfl) (by rfl) ?_
 refine X.fl fld92_1 ?_
 refine X.sl shp28 ?_
 refine X.nil ?_
 refine Run.sr ?_
 refine X.ld shp92 ?_
 refine X.sl shp92 ?_
 refine X.nil ?_
 cases h
 exact R.finMC Tryz.results53 shp92 (by rfl) (by rfl) (by rfl) (by rfl) (by repeat (first | trivial | refine ⟨by first | rfl | simp [setL], ?_⟩)) (by rfl) (by repeat (first | exact trivial | refine ⟨by rfl, ?_⟩)) rfl
theorem w_toResourceS_pc (b0 : List TResource) (r : List TResource) (h : w_toResourceS b0 = some r) : PCM Tryz.prog 29 [.yng 63 (.slice (b0.map eTResource))] [(63, .yreg false false)] (.fresh false 92 2 (r.map eTResource)) [(63, .yreg false false)] := by
 unfold w_toResourceS at h
 refine PCM.start Tryz.func29 Tryz.ntmps29 rfl ok29 rfl (by rfl) (by rfl) (by rfl) (by rfl) (by rfl) ?_
 refine Run.sr ?_
 refine X.an ?_
 refine Run.sr ?_
 refine X.mv ?_
 refine X.lenY false 63 elt24 (by rfl) (by exact List.length_map ..) (by rfl) ?_
 obtain ⟨v1, hv1, h⟩ := bindE h
 refine X.makeSlice2 eTResource hv1 elt36 zer92 (by rfl) (by rfl) (by rfl) (by simp [PV.plain]) (by rfl) (by rfl) (by rfl) (by rfl) (by rfl) (by rfl) ?_
 refine X.an ?_
 refine Run.seq ?_
 refine Run.sr ?_
 refine X.an ?_
 obtain ⟨o2, ho2, h⟩ := bindE h
 refine R.join2 (β := (List TResource)) [] [(63, .yreg false false)] (fun p16 S => (3, .own 448 (p16.map eTResource).length) :: S) (fun p16 M => (448, .obj true 92 2 (p16.map eTResource)) :: M) (fun p16 => p16 = o2) ?_ ?_
 ·intro JJ5 hmeet4
  have hup3 := h; clear h; have h := ho2; clear ho2
  refine Run.block ?_
  refine R.bndY false 63 (t := 0) (by rfl) (fun hbd8 => ?_)
  replace hbd8 : b0.length ≤ 9223372036854775807 := by first | (rw [List.length_map] at hbd8; exact hbd8) | simp
  refine R.lp (β := Int × (List TResource)) [(0, .yng 63 (.slice (b0.map eTResource)))] [(63, .yreg false false)] (fun bb S => (3, .own 448 (bb.2.map eTResource).length) :: (4, int bb.1) :: S) (fun bb M => (448, .obj true 92 2 (bb.2.map eTResource)) :: M) (fun n bb => 0 ≤ bb.1 ∧ bb.1 + n = (b0.length : Int) ∧ w_toResourceS_L1 (b0.drop bb.1.toNat) bb.1 bb.2 = some o2) b0.length (0, v1) ⟨Int.le_refl _, by simp, h⟩ ?_
  clear h
  rintro JJ8 n8 ⟨z9, a10⟩ hag8 ⟨hza8, hzb8, h⟩
  dsimp only at hza8 hzb8 h
  refine Run.seq ?_
  refine Run.sr ?_
  refine X.mv ?_
  refine X.mv ?_
  refine X.lenY false 63 elt24 (by rfl) (by exact List.length_map ..) (by rfl) ?_
  refine X.bi ?_
  refine X.nil ?_
  refine R.cd (fun hc13 => ?_) (fun hc13 => ?_)
  ·obtain ⟨x11, xs12, hd8, hx8, hds8, hlt8⟩ := drop_atI hza8 hc13
   rw [hd8] at h
   rw [w_toResourceS_L1] at h
   refine Run.skip ?_
   refine Run.seq ?_
   refine Run.block ?_
   refine Run.reg ?_
   refine X.mv ?_
   refine X.mv ?_
   refine X.mv ?_
   refine X.mv ?_
   refine X.indexY false 63 elt24 (by rfl) (by rfl) (idxL_spec hx8).1 (idxL_map eTResource hx8) (by rfl) (by rfl) ?_
   refine X.loadY false 63 shp80 (by rfl) (by rfl) (by rfl) (by rfl) ?_
   obtain ⟨v14, hv14, h⟩ := bindE h
   refine X.callM [(63, 63)] (w_toResource_pc _ _ hv14) (by rfl) (by rfl) (.agg _ _ _ _ _ _ (.yngB 63 (by rfl) (by rfl) (.yngB 63 (by rfl) (by rfl) .nil)) .nil) (by rfl) ⟨rfl, rfl, ⟨_, by rfl, by constructor⟩, by constructor, trivial⟩ (by rfl) (by rfl) (by rfl) (by rfl) (by rfl) (by rfl) (by rfl) (by rfl) (by rfl) ?_
   obtain ⟨v15, hv15, h⟩ := bindE h
   refine X.index_xs elt36 (by rfl) (by rfl) (by first | rfl | simp [setL] | omega) (by rfl) (by exact (Int.toNat_of_nonneg (idxL_spec hv15).1).symm) (by have := idxL_lt hv15; first | exact this | (rw [List.length_map]; exact this)) (by rfl) (by rfl) ?_
   refine X.store_es shp92 (by rfl) (by rfl) (by first | rfl | simp [setL] | omega) (idxL_map _ hv15) (by rfl) (by rfl) (by repeat (first | trivial | refine ⟨by first | rfl | simp [setL], ?_⟩)) (by rfl) (by rfl) (by rfl) (by rfl) (by exact setL_map _ _ _ v14) ?_
   refine X.nil ?_
   refine Run.blk ?_
   refine Run.reg ?_
   refine X.mv ?_
   refine X.ad ?_
   refine X.an ?_
   refine R.castS (t := 3) (.own 448 ((setL a10 z9 v14).map eTResource).length) (by rfl) (.inl (by first | rfl | simp [setL])) ?_
   exact R.ag hag8 (n8 - 1) (z9 + 1, (setL a10 z9 v14)) (R.n3 (by first | (rw [hds8]; exact h) | (dsimp only; rw [hds8]; exact h)))
  ·rw [drop_endI hza8 hc13] at h
   rw [w_toResourceS_L1] at h
   refine Run.exit (by rfl) ?_
   exact R.mt hmeet4 a10 (Option.some.inj h)
 rintro p16 rfl
 refine Run.sr ?_
 refine X.mv ?_
 refine X.an ?_
 cases h
 refine R.pubObj (n := 448) (by rfl) ?_
 exact R.finM1o Tryz.results29 (by rfl) (by rfl) (by first | rfl | simp [setL] | omega) (by rfl) (by repeat (first | exact trivial | refine ⟨by rfl, ?_⟩)) rfl
theorem w_toProject_pc (b0 : TProject) (r : TProject) (h : w_toProject b0 = some r) : PCM Tryz.prog 7 [.agg [int b0.Deadline, .yng 63 (.slice (b0.Activities.map eTActivity)), .yng 63 (.slice (b0.Links.map eTLink)), .yng 63 (.slice (b0.Resources.map eTResource)), .yng 63 (.slice (b0.Stocks.map int))]] [(63, .yreg false false)] (.agg [int r.Deadline, .fresh false 58 3 (r.Activities.map eTActivity), .fresh false 87 4 (r.Links.map eTLink), .fresh false 92 2 (r.Resources.map eTResource), .fresh false 3 1 (r.Stocks.map int)]) [(63, .yreg false false)] := by
 unfold w_toProject at h
 refine PCM.start Tryz.func7 Tryz.ntmps7 rfl ok7 rfl (by rfl) (by rfl) (by rfl) (by rfl) (by rfl) ?_
 refine Run.sr ?_
 refine X.bx ?_
 refine X.alloc zer38 (by rfl) (by rfl) (by rfl) ?_
 refine X.nil ?_
 refine Run.sr ?_
 refine X.alloc zer38 (by rfl) (by rfl) (by rfl) ?_
 refine X.nil ?_
 refine Run.sr ?_
 refine X.fl fld27_0 ?_
 refine X.ld shp3 ?_
 refine X.fl fld38_0 ?_
 refine X.sl shp3 ?_
 refine X.nil ?_
 refine Run.sr ?_
 refine X.fl fld27_1 ?_
 refine X.ld shp22 ?_
 obtain ⟨v1, hv1, h⟩ := bindE h
 refine X.callM [(63, 63)] (w_toActivityS_pc _ _ hv1) (by rfl) (by rfl) (.yngB 63 (by rfl) (by rfl) .nil) (by rfl) ⟨rfl, rfl, ⟨_, by rfl, by constructor⟩, by constructor, trivial⟩ (by rfl) (by rfl) (by rfl) (by rfl) (by rfl) (by rfl) (by rfl) (by rfl) (by rfl) ?_
 refine X.fl fld38_1 ?_
 refine X.sl shp34 ?_
 refine X.nil ?_
 refine Run.sr ?_
 refine X.fl fld27_2 ?_
 refine X.ld shp23 ?_
 obtain ⟨v2, hv2, h⟩ := bindE h
 refine X.callM [(63, 63)] (w_toLinkS_pc _ _ hv2) (by rfl) (by rfl) (.yngB 63 (by rfl) (by rfl) .nil) (by rfl) ⟨rfl, rfl, ⟨_, by rfl, by constructor⟩, by constructor, trivial⟩ (by rfl) (by rfl) (by rfl) (by rfl) (by rfl) (by rfl) (by rfl) (by rfl) (by rfl) ?_
 refine X.fl fld38_2 ?_
 refine X.sl shp35 ?_
 refine X.nil ?_
 refine Run.sr ?_
 refine X.fl fld27_3 ?_
 refine X.ld shp24 ?_
 obtain ⟨v3, hv3, h⟩ := bindE h
 refine X.callM [(63, 63)] (w_toResourceS_pc _ _ hv3) (by rfl) (by rfl) (.yngB 63 (by rfl) (by rfl) .nil) (by rfl) ⟨rfl, rfl, ⟨_, by rfl, by constructor⟩, by constructor, trivial⟩ (by rfl) (by rfl) (by rfl) (by rfl) (by rfl) (by rfl) (by rfl) (by rfl) (by rfl) ?_
 refine X.fl fld38_3 ?_
 refine X.sl shp36 ?_
 refine X.nil ?_
 refine Run.sr ?_
 refine X.fl fld27_4 ?_
 refine X.ld shp25 ?_
 obtain ⟨v4, hv4, h⟩ := bindE h
 refine X.callM [(63, 63)] (w_toIntS_pc _ _ hv4) (by rfl) (by rfl) (.yngB 63 (by rfl) (by rfl) .nil) (by rfl) ⟨rfl, rfl, ⟨_, by rfl, by constructor⟩, by constructor, trivial⟩ (by rfl) (by rfl) (by rfl) (by rfl) (by rfl) (by rfl) (by rfl) (by rfl) (by rfl) ?_
 refine X.fl fld38_4 ?_
 refine X.sl shp25 ?_
 refine X.nil ?_
 refine Run.sr ?_
 refine X.ld shp38 ?_
 refine X.sl shp38 ?_
 refine X.nil ?_
 cases h
 exact R.finMC Tryz.results7 shp38 (by rfl) (by rfl) (by rfl) (by rfl) (by repeat (first | trivial | refine ⟨by first | rfl | simp [setL], ?_⟩)) (by rfl) (by repeat (first | exact trivial | refine ⟨by rfl, ?_⟩)) rfl
theorem w_toDomain_pc (b0 : TDomain) (r : TDomain) (h : w_toDomain b0 = some r) : PCM Tryz.prog 8 [.agg [.yng 63 (.slice (b0.MinStart.map int)), .yng 63 (.slice (b0.MaxStart.map int)), .yng 63 (.slice (b0.Modes.map l_int))]] [(63, .yreg false false)] (.agg [.fresh false 3 1 (r.MinStart.map int), .fresh false 3 1 (r.MaxStart.map int), .fresh false 25 1 (r.Modes.map l_int)]) [(63, .yreg false false)] := by
 unfold w_toDomain at h
 refine PCM.start Tryz.func8 Tryz.ntmps8 rfl ok8 rfl (by rfl) (by rfl) (by rfl) (by rfl) (by rfl) ?_
 refine Run.sr ?_
 refine X.bx ?_
 refine X.alloc zer40 (by rfl) (by rfl) (by rfl) ?_
 refine X.nil ?_
 refine Run.sr ?_
 refine X.alloc zer40 (by rfl) (by rfl) (by rfl) ?_
 refine X.nil ?_
 refine Run.sr ?_
 refine X.fl fld30_0 ?_
 refine X.ld shp25 ?_
 obtain ⟨v1, hv1, h⟩ := bindE h
 refine X.callM [(63, 63)] (w_toIntS_pc _ _ hv1) (by rfl) (by rfl) (.yngB 63 (by rfl) (by rfl) .nil) (by rfl) ⟨rfl, rfl, ⟨_, by rfl, by constructor⟩, by constructor, trivial⟩ (by rfl) (by rfl) (by rfl) (by rfl) (by rfl) (by rfl) (by rfl) (by rfl) (by rfl) ?_
 refine X.fl fld40_0 ?_
 refine X.sl shp25 ?_
 refine X.nil ?_
 refine Run.sr ?_
 refine X.fl fld30_1 ?_
 refine X.ld shp25 ?_
 obtain ⟨v2, hv2, h⟩ := bindE h
 refine X.callM [(63, 63)] (w_toIntS_pc _ _ hv2) (by rfl) (by rfl) (.yngB 63 (by rfl) (by rfl) .nil) (by rfl) ⟨rfl, rfl, ⟨_, by rfl, by constructor⟩, by constructor, trivial⟩ (by rfl) (by rfl) (by rfl) (by rfl) (by rfl) (by rfl) (by rfl) (by rfl) (by rfl) ?_
 refine X.fl fld40_1 ?_
 refine X.sl shp25 ?_
 refine X.nil ?_
 refine Run.sr ?_
 refine X.fl fld30_2 ?_
 refine X.ld shp28 ?_
 obtain ⟨v3, hv3, h⟩ := bindE h
 refine X.callM [(63, 63)] (w_toIntSS_pc _ _ hv3) (by rfl) (by rfl) (.yngB 63 (by rfl) (by rfl) .nil) (by rfl) ⟨rfl, rfl, ⟨_, by rfl, by constructor⟩, by constructor, trivial⟩ (by rfl) (by rfl) (by rfl) (by rfl) (by rfl) (by rfl) (by rfl) (by rfl) (by rfl) ?_
 refine X.fl fld40_2 ?_
 refine X.sl shp28 ?_
 refine X.nil ?_
 refine Run.sr ?_
 refine X.ld shp40 ?_
 refine X.sl shp40 ?_
 refine X.nil ?_
 cases h
 exact R.finMC Tryz.results8 shp40 (by rfl) (by rfl) (by rfl) (by rfl) (by repeat (first | trivial | refine ⟨by first | rfl | simp [setL], ?_⟩)) (by rfl) (by repeat (first | exact trivial | refine ⟨by rfl, ?_⟩)) rfl
theorem s_l01In_pc (b0 : Int) (b1 : Int) (b2 : Int) (r : Bool) (h : s_l01In b0 b1 b2 = some r) : PC Tryz.prog 26 [int b0, int b1, int b2] (bool r) := by
 unfold s_l01In at h
 refine PC.start Tryz.func26 Tryz.ntmps26 rfl ok26 rfl ?_
 refine Run.sr ?_
 refine X.an ?_
 refine Run.seq ?_
 obtain ⟨e1, he1, h2⟩ := bindE h
 refine R.regG [(6, bool e1)] [] ?_ ?_
 ·clear h; have h := he1; clear he1 h2
  refine X.mv ?_
  refine X.mv ?_
  refine X.bi ?_
  refine X.mv ?_
  refine X.iG (fun hb2 => ?_) (fun hb2 => ?_)
  ·replace h := condT hb2 h
   refine X.mv ?_
   refine X.gy ?_
   refine X.mv ?_
   refine X.gy ?_
   refine X.bi ?_
   refine X.pT ?_
   refine X.as ?_
   cases h
   exact X.eG
  ·replace h := condF hb2 h
   refine X.gn ?_
   refine X.gn ?_
   refine X.pF ?_
   refine X.as ?_
   cases h
   exact X.eG
 replace h := h2; clear h2
 cases h
 refine R.f1 Tryz.results26 ?_
 rfl
theorem s_l04Nums_pc (b0 : List Int) (b1 : Int) (r : Bool) (h : s_l04Nums b0 b1 = some r) : PC Tryz.prog 133 [.slice (b0.map int), int b1] (bool r) := by
 unfold s_l04Nums at h
 refine PC.start Tryz.func133 Tryz.ntmps133 rfl ok133 rfl ?_
 refine Run.sr ?_
 refine X.an ?_
 refine Run.seq ?_
 refine Run.sr ?_
 refine X.mv ?_
 refine X.ls elt25 ?_
 refine X.mn ?_
 obtain ⟨o1, ho1, h⟩ := bindE h
 refine R.join2 (β := Unit) [(0, .slice (b0.map int)), (1, int b1)] [] (fun p14 S => S) (fun p14 M => M) (fun p14 => (Sum.inl p14) = o1) ?_ ?_
 ·intro JJ4 hmeet3
  have hup2 := h; clear h; have h := ho1; clear ho1
  refine Run.block ?_
  refine R.bndS (t := 0) (by rfl) (fun hbd7 => ?_)
  replace hbd7 : b0.length ≤ 9223372036854775807 := by first | (rw [List.length_map] at hbd7; exact hbd7) | simp
  refine R.lp (β := Int) [(0, .slice (b0.map int)), (1, int b1), (7, .slice (b0.map int)), (8, int (b0.length : Int))] [] (fun bb S => (9, int bb) :: S) (fun bb M => M) (fun n bb => 0 ≤ bb ∧ bb + n = (b0.length : Int) ∧ s_l04Nums_L1 (b0.drop bb.toNat) bb = some o1) b0.length (0 : Int) ⟨Int.le_refl _, by simp, h⟩ ?_
  clear h
  rintro JJ7 n7 z8 hag7 ⟨hza7, hzb7, h⟩
  refine Run.sr ?_
  refine X.bi ?_
  refine X.nil ?_
  refine Run.seq ?_
  refine R.cd (fun hc11 => ?_) (fun hc11 => ?_)
  ·obtain ⟨x9, xs10, hd7, hx7, hds7, hlt7⟩ := drop_atI hza7 hc11
   rw [hd7] at h
   rw [s_l04Nums_L1] at h
   refine Run.skip ?_
   refine Run.seq ?_
   refine Run.block ?_
   refine Run.sr ?_
   refine X.ix elt25 (idxL_spec hx7).1 (idxL_map int hx7) ?_
   refine X.lc shp3 ?_
   refine X.an ?_
   refine Run.sr ?_
   refine X.mv ?_
   obtain ⟨v12, hv12, h⟩ := bindE h
   refine X.cp (s_l01In_pc _ _ _ _ hv12) ?_
   refine X.un (by rfl) (by rfl) (by rfl) ?_
   refine X.nil ?_
   refine R.cd (fun hc13 => ?_) (fun hc13 => ?_)
   ·replace h := condT hc13 h
    refine Run.sr ?_
    refine X.an ?_
    cases h
    have h := hup2
    replace h := elimR h
    cases h
    refine R.f1 Tryz.results133 ?_
    rfl
   ·replace h := condF hc13 h
    refine Run.skip ?_
    refine Run.blk ?_
    refine Run.reg ?_
    refine X.ad ?_
    refine X.mn ?_
    exact R.ag hag7 (n7 - 1) (z8 + 1) (R.n3 (by first | (rw [hds7]; exact h) | (dsimp only; rw [hds7]; exact h)))
  ·rw [drop_endI hza7 hc11] at h
   rw [s_l04Nums_L1] at h
   refine Run.exit (by rfl) ?_
   exact R.mt hmeet3 () (Option.some.inj h)
 rintro p14 rfl
 replace h := elimL h
 refine Run.sr ?_
 refine X.mv ?_
 refine X.ls elt25 ?_
 refine X.mv ?_
 refine X.bi ?_
 refine X.an ?_
 cases h
 refine R.f1 Tryz.results133 ?_
 rfl
theorem s_ModeOk_pc (b0 : TMode) (b1 : Int) (b2 : Int) (r : Bool) (h : s_ModeOk b0 b1 b2 = some r) : PC Tryz.prog 116 [eTMode b0, int b1, int b2] (bool r) := by
 unfold s_ModeOk at h
 refine PC.start Tryz.func116 Tryz.ntmps116 rfl ok116 rfl ?_
 refine Run.sr ?_
 refine X.bx ?_
 refine X.an ?_
 refine Run.seq ?_
 obtain ⟨v1, hv1, h⟩ := bindE h
 obtain ⟨e2, he2, h2⟩ := bindE h
 refine R.regG [(6, bool e2)] [] ?_ ?_
 ·clear h; have h := he2; clear he2 h2
  refine X.fl fld83_0 ?_
  refine X.ld shp3 ?_
  refine X.cp (s_l01In_pc _ _ _ _ hv1) ?_
  refine X.mv ?_
  refine X.iG (fun hb3 => ?_) (fun hb3 => ?_)
  ·replace h := condT hb3 h
   refine X.fl fld83_1 ?_
   refine X.gy ?_
   refine X.ld shp25 ?_
   refine X.gy ?_
   refine X.mv ?_
   refine X.gy ?_
   obtain ⟨v4, hv4, h⟩ := bindE h
   refine X.cp (s_l04Nums_pc _ _ _ hv4) ?_
   refine X.pT ?_
   refine X.mv ?_
   refine X.iG (fun hb5 => ?_) (fun hb5 => ?_)
   ·replace h := condT hb5 h
    refine X.fl fld83_2 ?_
    refine X.gy ?_
    refine X.ld shp25 ?_
    refine X.gy ?_
    refine X.mv ?_
    refine X.gy ?_
    obtain ⟨v6, hv6, h⟩ := bindE h
    refine X.cp (s_l04Nums_pc _ _ _ hv6) ?_
    refine X.pT ?_
    refine X.as ?_
    cases h
    exact X.eG
   ·replace h := condF hb5 h
    refine X.gn ?_
    refine X.gn ?_
    refine X.gn ?_
    refine X.pF ?_
    refine X.as ?_
    cases h
    exact X.eG
  ·replace h := condF hb3 h
   refine X.gn ?_
   refine X.gn ?_
   refine X.gn ?_
   refine X.pF ?_
   refine X.mv ?_
   refine X.gn ?_
   refine X.gn ?_
   refine X.gn ?_
   refine X.gn ?_
   refine X.pF ?_
   refine X.as ?_
   cases h
   exact X.eG
 replace h := h2; clear h2
 cases h
 refine R.f1 Tryz.results116 ?_
 rfl
theorem s_IsName_pc (b0 : ByteArray) (r : Bool) (h : s_IsName b0 = some r) : PC Tryz.prog 117 [str b0] (bool r) := by
 unfold s_IsName at h
 refine PC.start Tryz.func117 Tryz.ntmps117 rfl ok117 rfl ?_
 refine Run.sr ?_
 refine X.an ?_
 refine Run.seq ?_
 refine Run.sr ?_
 refine X.an ?_
 obtain ⟨o1, ho1, h⟩ := bindE h
 refine R.join2 (β := Unit) [(0, str b0)] [] (fun p19 S => S) (fun p19 M => M) (fun p19 => (Sum.inl p19) = o1) ?_ ?_
 ·intro JJ4 hmeet3
  have hup2 := h; clear h; have h := ho1; clear ho1
  refine Run.block ?_
  refine R.lp (β := Int) [(0, str b0)] [] (fun bb S => (3, int bb) :: S) (fun bb M => M) (fun n bb => s_IsName_L1 b0 n bb = some o1) F0 0 h ?_
  clear h
  rintro JJ5 n5 a7 hag5 h
  obtain _ | n5 := n5
  ·exact absurd h (by simp [s_IsName_L1])
  rw [s_IsName_L1] at h
  refine Run.seq ?_
  refine Run.sr ?_
  refine X.mv ?_
  refine X.mv ?_
  refine X.lenStr Tryz.underlying9 (by rfl) (by rfl) ?_
  refine X.bi ?_
  refine X.nil ?_
  refine R.cd (fun hc10 => ?_) (fun hc10 => ?_)
  ·replace h := condT hc10 h
   refine Run.skip ?_
   refine Run.seq ?_
   refine Run.block ?_
   refine Run.seq ?_
   obtain ⟨v11, hv11, h⟩ := bindE h
   obtain ⟨e12, he12, h2⟩ := bindE h
   refine R.regG [(0, str b0), (3, int a7), (4, bool e12)] [] ?_ ?_
   ·clear h; have h := he12; clear he12 h2
    refine X.mv ?_
    refine X.mv ?_
    refine X.indexStr2 hv11 Tryz.underlying9 (by rfl) (by rfl) (by rfl) ?_
    refine X.bi ?_
    refine X.mv ?_
    refine X.iG (fun hb13 => ?_) (fun hb13 => ?_)
    ·replace h := condT hb13 h
     refine X.mv ?_
     refine X.gy ?_
     refine X.mv ?_
     refine X.gy ?_
     refine X.indexStr2 hv11 Tryz.underlying9 (by rfl) (by rfl) (by rfl) ?_
     refine X.gy ?_
     refine X.bi ?_
     refine X.pT ?_
     refine X.as ?_
     cases h
     exact X.eG
    ·replace h := condF hb13 h
     refine X.gn ?_
     refine X.gn ?_
     refine X.gn ?_
     refine X.pF ?_
     refine X.as ?_
     cases h
     exact X.eG
   replace h := h2; clear h2
   refine Run.seq ?_
   obtain ⟨e14, he14, h2⟩ := bindE h
   refine R.regG [(0, str b0), (3, int a7), (38, bool e14)] [] ?_ ?_
   ·clear h; have h := he14; clear he14 h2
    refine X.mv ?_
    refine X.un (by rfl) (by rfl) (by rfl) ?_
    refine X.mv ?_
    refine X.iG (fun hb15 => ?_) (fun hb15 => ?_)
    ·replace h := condT hb15 h
     refine X.mv ?_
     refine X.gy ?_
     refine X.bi ?_
     refine X.gy ?_
     refine X.mv ?_
     refine X.iG (fun hb16 => ?_) (fun hb16 => ?_)
     ·replace h := condF hb16 h
      refine X.mv ?_
      refine X.gy ?_
      refine X.mv ?_
      refine X.gy ?_
      refine X.indexStr2 hv11 Tryz.underlying9 (by rfl) (by rfl) (by rfl) ?_
      refine X.gy ?_
      refine X.bi ?_
      refine X.gy ?_
      refine X.pF ?_
      refine X.gy ?_
      refine X.mv ?_
      refine X.iG (fun hb17 => ?_) (fun hb17 => ?_)
      ·replace h := condF hb17 h
       refine X.mv ?_
       refine X.gy ?_
       refine X.mv ?_
       refine X.gy ?_
       refine X.indexStr2 hv11 Tryz.underlying9 (by rfl) (by rfl) (by rfl) ?_
       refine X.gy ?_
       refine X.bi ?_
       refine X.gy ?_
       refine X.pF ?_
       refine X.pT ?_
       cases h
       exact X.eG
      ·replace h := condT hb17 h
       refine X.gn ?_
       refine X.gn ?_
       refine X.gn ?_
       refine X.gy ?_
       refine X.pT ?_
       refine X.pT ?_
       cases h
       exact X.eG
     ·replace h := condT hb16 h
      refine X.gn ?_
      refine X.gn ?_
      refine X.gn ?_
      refine X.gy ?_
      refine X.pT ?_
      refine X.gy ?_
      refine X.mv ?_
      refine X.gn ?_
      refine X.gn ?_
      refine X.gn ?_
      refine X.gn ?_
      refine X.gy ?_
      refine X.pT ?_
      refine X.pT ?_
      cases h
      exact X.eG
    ·replace h := condF hb15 h
     refine X.gn ?_
     refine X.gn ?_
     refine X.gU (by rfl) (by rfl) (by rfl) ?_
     refine X.gU (by rfl) (by rfl) (by rfl) ?_
     refine X.gU (by rfl) (by rfl) (by rfl) ?_
     refine X.gU (by rfl) (by rfl) (by rfl) ?_
     refine X.gn ?_
     refine X.gn ?_
     refine X.gU (by rfl) (by rfl) (by rfl) ?_
     refine X.gU (by rfl) (by rfl) (by rfl) ?_
     refine X.gU (by rfl) (by rfl) (by rfl) ?_
     refine X.gU (by rfl) (by rfl) (by rfl) ?_
     refine X.gn ?_
     refine X.pF ?_
     cases h
     exact X.eG
   replace h := h2; clear h2
   refine R.cd (fun hc18 => ?_) (fun hc18 => ?_)
   ·replace h := condT hc18 h
    refine Run.sr ?_
    refine X.an ?_
    cases h
    have h := hup2
    replace h := elimR h
    cases h
    refine R.f1 Tryz.results117 ?_
    rfl
   ·replace h := condF hc18 h
    refine Run.skip ?_
    refine Run.blk ?_
    refine Run.reg ?_
    refine X.mv ?_
    refine X.addW (by rfl) (by rfl) (by rfl) ?_
    refine X.an ?_
    exact hag5 n5 (W (a7 + 1)) _ _ (by omega) h (by trivial) (by trivial) (by rfl) (by rfl)
  ·replace h := condF hc10 h
   refine Run.exit (by rfl) ?_
   exact R.mt hmeet3 () (Option.some.inj h)
 rintro p19 rfl
 replace h := elimL h
 refine Run.sr ?_
 refine X.mv ?_
 refine X.lenStr Tryz.underlying9 (by rfl) (by rfl) ?_
 obtain ⟨v21, hv21, h⟩ := bindE h
 refine X.cp (s_l01In_pc _ _ _ _ hv21) ?_
 refine X.an ?_
 cases h
 refine R.f1 Tryz.results117 ?_
 rfl
theorem s_ActivityOk_pc (b0 : TActivity) (b1 : Int) (b2 : Int) (r : Bool) (h : s_ActivityOk b0 b1 b2 = some r) : PC Tryz.prog 88 [eTActivity b0, int b1, int b2] (bool r) := by
 unfold s_ActivityOk at h
 refine PC.start Tryz.func88 Tryz.ntmps88 rfl ok88 rfl ?_
 refine Run.sr ?_
 refine X.bx ?_
 refine X.an ?_
 refine Run.seq ?_
 refine Run.sr ?_
 refine X.fl fld58_2 ?_
 refine X.ld shp56 ?_
 refine X.ls elt56 ?_
 refine X.mn ?_
 obtain ⟨o1, ho1, h⟩ := bindE h
 refine R.join2 (β := Unit) [(3, .lptr 192 0)] [(192, .blk true [str b0.Name, int b0.Family, .slice (b0.Modes.map eTMode)])] (fun p14 S => S) (fun p14 M => M) (fun p14 => (Sum.inl p14) = o1) ?_ ?_
 ·intro JJ4 hmeet3
  have hup2 := h; clear h; have h := ho1; clear ho1
  refine Run.block ?_
  refine R.bndS (t := 10) (by rfl) (fun hbd7 => ?_)
  replace hbd7 : b0.Modes.length ≤ 9223372036854775807 := by first | (rw [List.length_map] at hbd7; exact hbd7) | simp
  refine R.lp (β := Int) [(1, int b1), (2, int b2), (3, .lptr 192 0), (10, .slice (b0.Modes.map eTMode)), (11, int (b0.Modes.length : Int))] [(192, .blk true [str b0.Name, int b0.Family, .slice (b0.Modes.map eTMode)])] (fun bb S => (12, int bb) :: S) (fun bb M => M) (fun n bb => 0 ≤ bb ∧ bb + n = (b0.Modes.length : Int) ∧ s_ActivityOk_L1 b1 b2 (b0.Modes.drop bb.toNat) bb = some o1) b0.Modes.length (0 : Int) ⟨Int.le_refl _, by simp, h⟩ ?_
  clear h
  rintro JJ7 n7 z8 hag7 ⟨hza7, hzb7, h⟩
  refine Run.sr ?_
  refine X.bi ?_
  refine X.nil ?_
  refine Run.seq ?_
  refine R.cd (fun hc11 => ?_) (fun hc11 => ?_)
  ·obtain ⟨x9, xs10, hd7, hx7, hds7, hlt7⟩ := drop_atI hza7 hc11
   rw [hd7] at h
   rw [s_ActivityOk_L1] at h
   refine Run.skip ?_
   refine Run.seq ?_
   refine Run.block ?_
   refine Run.sr ?_
   refine X.ix elt56 (idxL_spec hx7).1 (idxL_map eTMode hx7) ?_
   refine X.lc shp83 ?_
   refine X.alloc zer83 (by rfl) (by rfl) (by rfl) ?_
   refine X.sl shp83 ?_
   refine X.nil ?_
   refine Run.sr ?_
   refine X.ld shp83 ?_
   refine X.mv ?_
   refine X.mv ?_
   obtain ⟨v12, hv12, h⟩ := bindE h
   refine X.cp (s_ModeOk_pc _ _ _ _ hv12) ?_
   refine X.un (by rfl) (by rfl) (by rfl) ?_
   refine X.nil ?_
   refine R.cd (fun hc13 => ?_) (fun hc13 => ?_)
   ·replace h := condT hc13 h
    refine Run.sr ?_
    refine X.an ?_
    cases h
    have h := hup2
    replace h := elimR h
    cases h
    refine R.f1 Tryz.results88 ?_
    rfl
   ·replace h := condF hc13 h
    refine Run.skip ?_
    refine Run.blk ?_
    refine Run.reg ?_
    refine X.ad ?_
    refine X.mn ?_
    exact R.ag hag7 (n7 - 1) (z8 + 1) (R.n3 (by first | (rw [hds7]; exact h) | (dsimp only; rw [hds7]; exact h)))
  ·rw [drop_endI hza7 hc11] at h
   rw [s_ActivityOk_L1] at h
   refine Run.exit (by rfl) ?_
   exact R.mt hmeet3 () (Option.some.inj h)
 rintro p14 rfl
 replace h := elimL h
 refine Run.seq ?_
 obtain ⟨v16, hv16, h⟩ := bindE h
 obtain ⟨e17, he17, h2⟩ := bindE h
 refine R.regG [(6, bool e17)] [] ?_ ?_
 ·clear h; have h := he17; clear he17 h2
  refine X.fl fld58_0 ?_
  refine X.ld shp9 ?_
  refine X.cp (s_IsName_pc _ _ hv16) ?_
  refine X.mv ?_
  refine X.iG (fun hb18 => ?_) (fun hb18 => ?_)
  ·replace h := condT hb18 h
   refine X.fl fld58_1 ?_
   refine X.gy ?_
   refine X.ld shp3 ?_
   refine X.gy ?_
   obtain ⟨v19, hv19, h⟩ := bindE h
   refine X.cp (s_l01In_pc _ _ _ _ hv19) ?_
   refine X.pT ?_
   refine X.mv ?_
   refine X.iG (fun hb20 => ?_) (fun hb20 => ?_)
   ·replace h := condT hb20 h
    refine X.fl fld58_2 ?_
    refine X.gy ?_
    refine X.ld shp56 ?_
    refine X.gy ?_
    refine X.ls elt56 ?_
    refine X.gy ?_
    obtain ⟨v21, hv21, h⟩ := bindE h
    refine X.cp (s_l01In_pc _ _ _ _ hv21) ?_
    refine X.pT ?_
    refine X.as ?_
    cases h
    exact X.eG
   ·replace h := condF hb20 h
    refine X.gn ?_
    refine X.gn ?_
    refine X.gn ?_
    refine X.pF ?_
    refine X.as ?_
    cases h
    exact X.eG
  ·replace h := condF hb18 h
   refine X.gn ?_
   refine X.gn ?_
   refine X.pF ?_
   refine X.mv ?_
   refine X.gn ?_
   refine X.gn ?_
   refine X.gn ?_
   refine X.gn ?_
   refine X.pF ?_
   refine X.as ?_
   cases h
   exact X.eG
 replace h := h2; clear h2
 cases h
 refine R.f1 Tryz.results88 ?_
 rfl
theorem s_ActivityIndex_pc (b0 : TProject) (b1 : ByteArray) (r : Int) (h : s_ActivityIndex b0 b1 = some r) : PC Tryz.prog 89 [eTProject b0, str b1] (int r) := by
 unfold s_ActivityIndex at h
 refine PC.start Tryz.func89 Tryz.ntmps89 rfl ok89 rfl ?_
 refine Run.sr ?_
 refine X.bx ?_
 refine X.an ?_
 refine Run.seq ?_
 refine Run.sr ?_
 refine X.fl fld38_1 ?_
 refine X.ld shp34 ?_
 refine X.ls elt34 ?_
 refine X.mn ?_
 obtain ⟨o1, ho1, h⟩ := bindE h
 refine R.join2 (β := Unit) [] [] (fun p13 S => S) (fun p13 M => M) (fun p13 => (Sum.inl p13) = o1) ?_ ?_
 ·intro JJ4 hmeet3
  have hup2 := h; clear h; have h := ho1; clear ho1
  refine Run.block ?_
  refine R.bndS (t := 8) (by rfl) (fun hbd7 => ?_)
  replace hbd7 : b0.Activities.length ≤ 9223372036854775807 := by first | (rw [List.length_map] at hbd7; exact hbd7) | simp
  refine R.lp (β := Int) [(1, str b1), (8, .slice (b0.Activities.map eTActivity)), (9, int (b0.Activities.length : Int))] [] (fun bb S => (10, int bb) :: S) (fun bb M => M) (fun n bb => 0 ≤ bb ∧ bb + n = (b0.Activities.length : Int) ∧ s_ActivityIndex_L1 b1 (b0.Activities.drop bb.toNat) bb = some o1) b0.Activities.length (0 : Int) ⟨Int.le_refl _, by simp, h⟩ ?_
  clear h
  rintro JJ7 n7 z8 hag7 ⟨hza7, hzb7, h⟩
  refine Run.sr ?_
  refine X.bi ?_
  refine X.nil ?_
  refine Run.seq ?_
  refine R.cd (fun hc11 => ?_) (fun hc11 => ?_)
  ·obtain ⟨x9, xs10, hd7, hx7, hds7, hlt7⟩ := drop_atI hza7 hc11
   rw [hd7] at h
   rw [s_ActivityIndex_L1] at h
   refine Run.skip ?_
   refine Run.seq ?_
   refine Run.block ?_
   refine Run.sr ?_
   refine X.mv ?_
   refine X.ix elt34 (idxL_spec hx7).1 (idxL_map eTActivity hx7) ?_
   refine X.lc shp58 ?_
   refine X.alloc zer58 (by rfl) (by rfl) (by rfl) ?_
   refine X.as ?_
   refine X.sl shp58 ?_
   refine X.nil ?_
   refine Run.sr ?_
   refine X.fl fld58_0 ?_
   refine X.ld shp9 ?_
   refine X.mv ?_
   refine X.bi ?_
   refine X.nil ?_
   refine R.cd (fun hc12 => ?_) (fun hc12 => ?_)
   ·replace h := condT hc12 h
    refine Run.sr ?_
    refine X.mv ?_
    refine X.an ?_
    cases h
    have h := hup2
    replace h := elimR h
    cases h
    refine R.f1 Tryz.results89 ?_
    rfl
   ·replace h := condF hc12 h
    refine Run.skip ?_
    refine Run.blk ?_
    refine Run.reg ?_
    refine X.ad ?_
    refine X.mn ?_
    exact R.ag hag7 (n7 - 1) (z8 + 1) (R.n3 (by first | (rw [hds7]; exact h) | (dsimp only; rw [hds7]; exact h)))
  ·rw [drop_endI hza7 hc11] at h
   rw [s_ActivityIndex_L1] at h
   refine Run.exit (by rfl) ?_
   exact R.mt hmeet3 () (Option.some.inj h)
 rintro p13 rfl
 replace h := elimL h
 refine Run.sr ?_
 refine X.an ?_
 cases h
 refine R.f1 Tryz.results89 ?_
 rfl
theorem s_StepsOk_pc (b0 : List TStep) (r : Bool) (h : s_StepsOk b0 = some r) : PC Tryz.prog 118 [.slice (b0.map eTStep)] (bool r) := by
 unfold s_StepsOk at h
 refine PC.start Tryz.func118 Tryz.ntmps118 rfl ok118 rfl ?_
 refine Run.sr ?_
 refine X.an ?_
 refine Run.seq ?_
 refine Run.sr ?_
 refine X.mv ?_
 refine X.ls elt90 ?_
 refine X.mn ?_
 obtain ⟨o1, ho1, h⟩ := bindE h
 refine R.join2 (β := Unit) [(0, .slice (b0.map eTStep))] [] (fun p20 S => S) (fun p20 M => M) (fun p20 => (Sum.inl p20) = o1) ?_ ?_
 ·intro JJ4 hmeet3
  have hup2 := h; clear h; have h := ho1; clear ho1
  refine Run.block ?_
  refine R.bndS (t := 0) (by rfl) (fun hbd7 => ?_)
  replace hbd7 : b0.length ≤ 9223372036854775807 := by first | (rw [List.length_map] at hbd7; exact hbd7) | simp
  refine R.lp (β := Int) [(0, .slice (b0.map eTStep)), (5, .slice (b0.map eTStep)), (6, int (b0.length : Int))] [] (fun bb S => (7, int bb) :: S) (fun bb M => M) (fun n bb => 0 ≤ bb ∧ bb + n = (b0.length : Int) ∧ s_StepsOk_L1 b0 (b0.drop bb.toNat) bb = some o1) b0.length (0 : Int) ⟨Int.le_refl _, by simp, h⟩ ?_
  clear h
  rintro JJ7 n7 z8 hag7 ⟨hza7, hzb7, h⟩
  refine Run.sr ?_
  refine X.bi ?_
  refine X.nil ?_
  refine Run.seq ?_
  refine R.cd (fun hc11 => ?_) (fun hc11 => ?_)
  ·obtain ⟨x9, xs10, hd7, hx7, hds7, hlt7⟩ := drop_atI hza7 hc11
   rw [hd7] at h
   rw [s_StepsOk_L1] at h
   refine Run.skip ?_
   refine Run.seq ?_
   refine Run.block ?_
   refine Run.sr ?_
   refine X.mv ?_
   refine X.ix elt90 (idxL_spec hx7).1 (idxL_map eTStep hx7) ?_
   refine X.lc shp117 ?_
   refine X.alloc zer117 (by rfl) (by rfl) (by rfl) ?_
   refine X.as ?_
   refine X.sl shp117 ?_
   refine X.nil ?_
   refine Run.seq ?_
   obtain ⟨v12, hv12, h⟩ := bindE h
   obtain ⟨e13, he13, h2⟩ := bindE h
   refine R.drawG [(0, .slice (b0.map eTStep)), (5, .slice (b0.map eTStep)), (6, int (b0.length : Int)), (7, int z8), (36, bool e13)] [] (footOf [(1, ([256], [], [], [])), (6, ([256], [], [], [])), (21, ([256], [], [], []))]) mixed (by kernel_rfl) (by kernel_rfl) ?_ ?_
   ·clear h; have h := he13; clear he13 h2
    refine X.fl fld117_0 ?_
    refine X.ld shp3 ?_
    refine X.cp (s_l01In_pc _ _ _ _ hv12) ?_
    refine X.un (by rfl) (by rfl) (by rfl) ?_
    refine X.mv ?_
    refine X.iG (fun hb14 => ?_) (fun hb14 => ?_)
    ·replace h := condF hb14 h
     refine X.fl fld117_1 ?_
     refine X.gy ?_
     refine X.ld shp3 ?_
     refine X.gy ?_
     obtain ⟨v15, hv15, h⟩ := bindE h
     refine X.cp (s_l01In_pc _ _ _ _ hv15) ?_
     refine X.gy ?_
     refine X.un (by rfl) (by rfl) (by rfl) ?_
     refine X.pF ?_
     refine X.mv ?_
     refine X.iG (fun hb16 => ?_) (fun hb16 => ?_)
     ·replace h := condF hb16 h
      refine X.mv ?_
      refine X.gy ?_
      refine X.bi ?_
      refine X.gy ?_
      refine X.mv ?_
      refine X.iG (fun hb17 => ?_) (fun hb17 => ?_)
      ·replace h := condT hb17 h
       refine X.mv ?_
       refine X.gy ?_
       refine X.mv ?_
       refine X.gy ?_
       refine X.sub (by rfl) (by rfl) (by omega) (by rfl) ?_
       refine X.gy ?_
       obtain ⟨v18, hv18, h⟩ := bindE h
       refine X.ix elt90 (idxL_spec hv18).1 (idxL_map eTStep hv18) ?_
       refine X.gy ?_
       refine X.fieldAddr_c fld117_0 (by rfl) (by rfl) ?_
       refine X.gy ?_
       refine X.lc shp3 ?_
       refine X.gy ?_
       refine X.fl fld117_0 ?_
       refine X.gy ?_
       refine X.ld shp3 ?_
       refine X.gy ?_
       refine X.bi ?_
       refine X.gy ?_
       refine X.pT ?_
       refine X.pF ?_
       cases h
       exact X.eG
      ·replace h := condF hb17 h
       refine X.gn ?_
       refine X.gn ?_
       refine X.gn ?_
       refine X.gn ?_
       refine X.gn ?_
       refine X.gn ?_
       refine X.gn ?_
       refine X.gn ?_
       refine X.gy ?_
       refine X.pF ?_
       refine X.pF ?_
       cases h
       exact X.eG
     ·replace h := condT hb16 h
      refine X.gn ?_
      refine X.gn ?_
      refine X.gU (by rfl) (by rfl) (by rfl) ?_
      refine X.gU (by rfl) (by rfl) (by rfl) ?_
      refine X.gU (by rfl) (by rfl) (by rfl) ?_
      refine X.gU (by rfl) (by rfl) (by rfl) ?_
      refine X.gU (by rfl) (by rfl) (by rfl) ?_
      refine X.gU (by rfl) (by rfl) (by rfl) ?_
      refine X.gU (by rfl) (by rfl) (by rfl) ?_
      refine X.gU (by rfl) (by rfl) (by rfl) ?_
      refine X.gU (by rfl) (by rfl) (by rfl) ?_
      refine X.gn ?_
      refine X.pT ?_
      cases h
      exact X.eG
    ·replace h := condT hb14 h
     refine X.gn ?_
     refine X.gn ?_
     refine X.gn ?_
     refine X.pT ?_
     refine X.mv ?_
     refine X.gn ?_
     refine X.gn ?_
     refine X.gn ?_
     refine X.gU (by rfl) (by rfl) (by rfl) ?_
     refine X.gU (by rfl) (by rfl) (by rfl) ?_
     refine X.gU (by rfl) (by rfl) (by rfl) ?_
     refine X.gU (by rfl) (by rfl) (by rfl) ?_
     refine X.gU (by rfl) (by rfl) (by rfl) ?_
     refine X.gU (by rfl) (by rfl) (by rfl) ?_
     refine X.gU (by rfl) (by rfl) (by rfl) ?_
     refine X.gU (by rfl) (by rfl) (by rfl) ?_
     refine X.gU (by rfl) (by rfl) (by rfl) ?_
     refine X.gn ?_
     refine X.pT ?_
     cases h
     exact X.eG
   replace h := h2; clear h2
   refine R.cd (fun hc19 => ?_) (fun hc19 => ?_)
   ·replace h := condT hc19 h
    refine Run.sr ?_
    refine X.an ?_
    cases h
    have h := hup2
    replace h := elimR h
    cases h
    refine R.f1 Tryz.results118 ?_
    rfl
   ·replace h := condF hc19 h
    refine Run.skip ?_
    refine Run.blk ?_
    refine Run.reg ?_
    refine X.ad ?_
    refine X.mn ?_
    exact R.ag hag7 (n7 - 1) (z8 + 1) (R.n3 (by first | (rw [hds7]; exact h) | (dsimp only; rw [hds7]; exact h)))
  ·rw [drop_endI hza7 hc11] at h
   rw [s_StepsOk_L1] at h
   refine Run.exit (by rfl) ?_
   exact R.mt hmeet3 () (Option.some.inj h)
 rintro p20 rfl
 replace h := elimL h
 refine Run.seq ?_
 obtain ⟨v22, hv22, h⟩ := bindE h
 obtain ⟨e23, he23, h2⟩ := bindE h
 refine R.regG [(2, bool e23)] [] ?_ ?_
 ·clear h; have h := he23; clear he23 h2
  refine X.mv ?_
  refine X.ls elt90 ?_
  refine X.cp (s_l01In_pc _ _ _ _ hv22) ?_
  refine X.mv ?_
  refine X.iG (fun hb24 => ?_) (fun hb24 => ?_)
  ·replace h := condT hb24 h
   refine X.mv ?_
   refine X.gy ?_
   obtain ⟨v25, hv25, h⟩ := bindE h
   refine X.ix elt90 (idxL_spec hv25).1 (idxL_map eTStep hv25) ?_
   refine X.gy ?_
   refine X.fieldAddr_c fld117_0 (by rfl) (by rfl) ?_
   refine X.gy ?_
   refine X.lc shp3 ?_
   refine X.gy ?_
   refine X.bi ?_
   refine X.pT ?_
   refine X.as ?_
   cases h
   exact X.eG
  ·replace h := condF hb24 h
   refine X.gn ?_
   refine X.gn ?_
   refine X.gn ?_
   refine X.gn ?_
   refine X.pF ?_
   refine X.as ?_
   cases h
   exact X.eG
 replace h := h2; clear h2
 cases h
 refine R.f1 Tryz.results118 ?_
 rfl
theorem s_ResourceOk_pc (b0 : TResource) (r : Bool) (h : s_ResourceOk b0 = some r) : PC Tryz.prog 90 [eTResource b0] (bool r) := by
 unfold s_ResourceOk at h
 refine PC.start Tryz.func90 Tryz.ntmps90 rfl ok90 rfl ?_
 refine Run.sr ?_
 refine X.bx ?_
 refine X.an ?_
 refine Run.seq ?_
 refine Run.sr ?_
 refine X.fl fld92_1 ?_
 refine X.ld shp28 ?_
 refine X.ls elt28 ?_
 refine X.mn ?_
 obtain ⟨o1, ho1, h⟩ := bindE h
 refine R.join2 (β := Unit) [(1, .lptr 64 0)] [(64, .blk true [.slice (b0.Steps.map eTStep), .slice (b0.Setup.map l_int)])] (fun p28 S => S) (fun p28 M => M) (fun p28 => (Sum.inl p28) = o1) ?_ ?_
 ·intro JJ4 hmeet3
  have hup2 := h; clear h; have h := ho1; clear ho1
  refine Run.block ?_
  refine R.bndS (t := 8) (by rfl) (fun hbd7 => ?_)
  replace hbd7 : b0.Setup.length ≤ 9223372036854775807 := by first | (rw [List.length_map] at hbd7; exact hbd7) | simp
  refine R.lp (β := Int) [(1, .lptr 64 0), (8, .slice (b0.Setup.map l_int)), (9, int (b0.Setup.length : Int))] [(64, .blk true [.slice (b0.Steps.map eTStep), .slice (b0.Setup.map l_int)])] (fun bb S => (10, int bb) :: S) (fun bb M => M) (fun n bb => 0 ≤ bb ∧ bb + n = (b0.Setup.length : Int) ∧ s_ResourceOk_L1 (b0.Setup.drop bb.toNat) bb = some o1) b0.Setup.length (0 : Int) ⟨Int.le_refl _, by simp, h⟩ ?_
  clear h
  rintro JJ7 n7 z8 hag7 ⟨hza7, hzb7, h⟩
  refine Run.sr ?_
  refine X.bi ?_
  refine X.nil ?_
  refine Run.seq ?_
  refine R.cd (fun hc11 => ?_) (fun hc11 => ?_)
  ·obtain ⟨x9, xs10, hd7, hx7, hds7, hlt7⟩ := drop_atI hza7 hc11
   rw [hd7] at h
   rw [s_ResourceOk_L1] at h
   refine Run.skip ?_
   refine Run.seq ?_
   refine Run.block ?_
   refine Run.sr ?_
   refine X.ix elt28 (idxL_spec hx7).1 (idxL_map l_int hx7) ?_
   refine X.lc shp25 ?_
   refine X.an ?_
   refine Run.seq ?_
   refine Run.sr ?_
   refine X.mv ?_
   refine X.ls elt25 ?_
   refine X.bi ?_
   refine X.nil ?_
   refine R.cd (fun hc12 => ?_) (fun hc12 => ?_)
   ·replace h := condT hc12 h
    refine Run.sr ?_
    refine X.an ?_
    cases h
    have h := hup2
    replace h := elimR h
    cases h
    refine R.f1 Tryz.results90 ?_
    rfl
   ·replace h := condF hc12 h
    refine Run.skip ?_
    refine Run.sr ?_
    refine X.mv ?_
    refine X.ls elt25 ?_
    refine X.mn ?_
    obtain ⟨o13, ho13, h⟩ := bindE h
    refine R.join2 (β := Unit) [(1, .lptr 64 0), (8, .slice (b0.Setup.map l_int)), (9, int (b0.Setup.length : Int)), (10, int z8)] [(64, .blk true [.slice (b0.Steps.map eTStep), .slice (b0.Setup.map l_int)])] (fun p26 S => S) (fun p26 M => M) (fun p26 => (Sum.inl p26) = o13) ?_ ?_
    ·intro JJ16 hmeet15
     have hup14 := h; clear h; have h := ho13; clear ho13
     refine Run.block ?_
     refine R.bndS (t := 4) (by rfl) (fun hbd19 => ?_)
     replace hbd19 : x9.length ≤ 9223372036854775807 := by first | (rw [List.length_map] at hbd19; exact hbd19) | simp
     refine R.lp (β := Int) [(1, .lptr 64 0), (8, .slice (b0.Setup.map l_int)), (9, int (b0.Setup.length : Int)), (10, int z8), (17, .slice (x9.map int)), (18, int (x9.length : Int))] [(64, .blk true [.slice (b0.Steps.map eTStep), .slice (b0.Setup.map l_int)])] (fun bb S => (19, int bb) :: S) (fun bb M => M) (fun n bb => 0 ≤ bb ∧ bb + n = (x9.length : Int) ∧ s_ResourceOk_L2 (x9.drop bb.toNat) bb = some o13) x9.length (0 : Int) ⟨Int.le_refl _, by simp, h⟩ ?_
     clear h
     rintro JJ19 n19 z20 hag19 ⟨hza19, hzb19, h⟩
     refine Run.sr ?_
     refine X.bi ?_
     refine X.nil ?_
     refine Run.seq ?_
     refine R.cd (fun hc23 => ?_) (fun hc23 => ?_)
     ·obtain ⟨x21, xs22, hd19, hx19, hds19, hlt19⟩ := drop_atI hza19 hc23
      rw [hd19] at h
      rw [s_ResourceOk_L2] at h
      refine Run.skip ?_
      refine Run.seq ?_
      refine Run.block ?_
      refine Run.sr ?_
      refine X.ix elt25 (idxL_spec hx19).1 (idxL_map int hx19) ?_
      refine X.lc shp3 ?_
      refine X.an ?_
      refine Run.sr ?_
      refine X.mv ?_
      obtain ⟨v24, hv24, h⟩ := bindE h
      refine X.cp (s_l01In_pc _ _ _ _ hv24) ?_
      refine X.un (by rfl) (by rfl) (by rfl) ?_
      refine X.nil ?_
      refine R.cd (fun hc25 => ?_) (fun hc25 => ?_)
      ·replace h := condT hc25 h
       refine Run.sr ?_
       refine X.an ?_
       cases h
       have h := hup14
       replace h := elimR h
       cases h
       have h := hup2
       replace h := elimR h
       cases h
       refine R.f1 Tryz.results90 ?_
       rfl
      ·replace h := condF hc25 h
       refine Run.skip ?_
       refine Run.blk ?_
       refine Run.reg ?_
       refine X.ad ?_
       refine X.mn ?_
       exact R.ag hag19 (n19 - 1) (z20 + 1) (R.n3 (by first | (rw [hds19]; exact h) | (dsimp only; rw [hds19]; exact h)))
     ·rw [drop_endI hza19 hc23] at h
      rw [s_ResourceOk_L2] at h
      refine Run.exit (by rfl) ?_
      exact R.mt hmeet15 () (Option.some.inj h)
    rintro p26 rfl
    replace h := elimL h
    refine Run.blk ?_
    refine Run.reg ?_
    refine X.ad ?_
    refine X.mn ?_
    exact R.ag hag7 (n7 - 1) (z8 + 1) (R.n3 (by first | (rw [hds7]; exact h) | (dsimp only; rw [hds7]; exact h)))
  ·rw [drop_endI hza7 hc11] at h
   rw [s_ResourceOk_L1] at h
   refine Run.exit (by rfl) ?_
   exact R.mt hmeet3 () (Option.some.inj h)
 rintro p28 rfl
 replace h := elimL h
 refine Run.seq ?_
 obtain ⟨v30, hv30, h⟩ := bindE h
 obtain ⟨e31, he31, h2⟩ := bindE h
 refine R.regG [(2, bool e31)] [] ?_ ?_
 ·clear h; have h := he31; clear he31 h2
  refine X.fl fld92_0 ?_
  refine X.ld shp90 ?_
  refine X.cp (s_StepsOk_pc _ _ hv30) ?_
  refine X.mv ?_
  refine X.iG (fun hb32 => ?_) (fun hb32 => ?_)
  ·replace h := condT hb32 h
   refine X.fl fld92_1 ?_
   refine X.gy ?_
   refine X.ld shp28 ?_
   refine X.gy ?_
   refine X.ls elt28 ?_
   refine X.gy ?_
   refine X.bi ?_
   refine X.gy ?_
   refine X.mv ?_
   refine X.iG (fun hb33 => ?_) (fun hb33 => ?_)
   ·replace h := condF hb33 h
    refine X.fl fld92_1 ?_
    refine X.gy ?_
    refine X.ld shp28 ?_
    refine X.gy ?_
    refine X.ls elt28 ?_
    refine X.gy ?_
    refine X.bi ?_
    refine X.gy ?_
    refine X.pF ?_
    refine X.pT ?_
    refine X.as ?_
    cases h
    exact X.eG
   ·replace h := condT hb33 h
    refine X.gn ?_
    refine X.gn ?_
    refine X.gn ?_
    refine X.gy ?_
    refine X.pT ?_
    refine X.pT ?_
    refine X.as ?_
    cases h
    exact X.eG
  ·replace h := condF hb32 h
   refine X.gn ?_
   refine X.gn ?_
   refine X.gn ?_
   refine X.gn ?_
   refine X.gU (by rfl) (by rfl) (by rfl) ?_
   refine X.gU (by rfl) (by rfl) (by rfl) ?_
   refine X.gU (by rfl) (by rfl) (by rfl) ?_
   refine X.gU (by rfl) (by rfl) (by rfl) ?_
   refine X.gn ?_
   refine X.pF ?_
   refine X.as ?_
   cases h
   exact X.eG
 replace h := h2; clear h2
 cases h
 refine R.f1 Tryz.results90 ?_
 rfl
theorem s_ProjectOk_pc (b0 : TProject) (r : Bool) (h : s_ProjectOk b0 = some r) : PC Tryz.prog 69 [eTProject b0] (bool r) := by
 unfold s_ProjectOk at h
 refine PC.start Tryz.func69 Tryz.ntmps69 rfl ok69 rfl ?_
 refine Run.sr ?_
 refine X.bx ?_
 refine X.an ?_
 refine Run.sr ?_
 refine X.fl fld38_1 ?_
 refine X.ld shp34 ?_
 refine X.ls elt34 ?_
 refine X.an ?_
 refine Run.seq ?_
 refine Run.seq ?_
 obtain ⟨v1, hv1, h⟩ := bindE h
 obtain ⟨e2, he2, h2⟩ := bindE h
 refine R.regG [(1, .lptr 64 0), (3, int (b0.Activities.length : Int)), (41, bool e2)] [(64, .blk true [int b0.Deadline, .slice (b0.Activities.map eTActivity), .slice (b0.Links.map eTLink), .slice (b0.Resources.map eTResource), .slice (b0.Stocks.map int)])] ?_ ?_
 ·clear h; have h := he2; clear he2 h2
  refine X.fl fld38_0 ?_
  refine X.ld shp3 ?_
  refine X.cp (s_l01In_pc _ _ _ _ hv1) ?_
  refine X.un (by rfl) (by rfl) (by rfl) ?_
  refine X.mv ?_
  refine X.iG (fun hb3 => ?_) (fun hb3 => ?_)
  ·replace h := condF hb3 h
   refine X.mv ?_
   refine X.gy ?_
   obtain ⟨v4, hv4, h⟩ := bindE h
   refine X.cp (s_l01In_pc _ _ _ _ hv4) ?_
   refine X.gy ?_
   refine X.un (by rfl) (by rfl) (by rfl) ?_
   refine X.pF ?_
   refine X.mv ?_
   refine X.iG (fun hb5 => ?_) (fun hb5 => ?_)
   ·replace h := condF hb5 h
    refine X.fl fld38_3 ?_
    refine X.gy ?_
    refine X.ld shp36 ?_
    refine X.gy ?_
    refine X.ls elt36 ?_
    refine X.gy ?_
    refine X.bi ?_
    refine X.pF ?_
    refine X.mv ?_
    refine X.iG (fun hb6 => ?_) (fun hb6 => ?_)
    ·replace h := condF hb6 h
     refine X.fl fld38_4 ?_
     refine X.gy ?_
     refine X.ld shp25 ?_
     refine X.gy ?_
     refine X.ls elt25 ?_
     refine X.gy ?_
     refine X.bi ?_
     refine X.pF ?_
     refine X.mv ?_
     refine X.iG (fun hb7 => ?_) (fun hb7 => ?_)
     ·replace h := condF hb7 h
      refine X.fl fld38_2 ?_
      refine X.gy ?_
      refine X.ld shp35 ?_
      refine X.gy ?_
      refine X.ls elt35 ?_
      refine X.gy ?_
      refine X.bi ?_
      refine X.pF ?_
      cases h
      exact X.eG
     ·replace h := condT hb7 h
      refine X.gn ?_
      refine X.gn ?_
      refine X.gn ?_
      refine X.pT ?_
      cases h
      exact X.eG
    ·replace h := condT hb6 h
     refine X.gn ?_
     refine X.gn ?_
     refine X.gn ?_
     refine X.pT ?_
     refine X.mv ?_
     refine X.gn ?_
     refine X.gn ?_
     refine X.gn ?_
     refine X.gn ?_
     refine X.pT ?_
     cases h
     exact X.eG
   ·replace h := condT hb5 h
    refine X.gn ?_
    refine X.gn ?_
    refine X.gn ?_
    refine X.pT ?_
    refine X.mv ?_
    refine X.gn ?_
    refine X.gn ?_
    refine X.gn ?_
    refine X.gn ?_
    refine X.pT ?_
    refine X.mv ?_
    refine X.gn ?_
    refine X.gn ?_
    refine X.gn ?_
    refine X.gn ?_
    refine X.pT ?_
    cases h
    exact X.eG
  ·replace h := condT hb3 h
   refine X.gn ?_
   refine X.gn ?_
   refine X.pT ?_
   refine X.mv ?_
   refine X.gn ?_
   refine X.gn ?_
   refine X.gn ?_
   refine X.gn ?_
   refine X.pT ?_
   refine X.mv ?_
   refine X.gn ?_
   refine X.gn ?_
   refine X.gn ?_
   refine X.gn ?_
   refine X.pT ?_
   refine X.mv ?_
   refine X.gn ?_
   refine X.gn ?_
   refine X.gn ?_
   refine X.gn ?_
   refine X.pT ?_
   cases h
   exact X.eG
 replace h := h2; clear h2
 refine R.cd (fun hc8 => ?_) (fun hc8 => ?_)
 ·replace h := condT hc8 h
  refine Run.sr ?_
  refine X.an ?_
  cases h
  refine R.f1 Tryz.results69 ?_
  rfl
 ·replace h := condF hc8 h
  refine Run.skip ?_
  refine Run.seq ?_
  refine Run.sr ?_
  refine X.fl fld38_1 ?_
  refine X.ld shp34 ?_
  refine X.ls elt34 ?_
  refine X.mn ?_
  obtain ⟨o9, ho9, h⟩ := bindE h
  refine R.join2 (β := Unit) [(1, .lptr 64 0), (3, int (b0.Activities.length : Int))] [(64, .blk true [int b0.Deadline, .slice (b0.Activities.map eTActivity), .slice (b0.Links.map eTLink), .slice (b0.Resources.map eTResource), .slice (b0.Stocks.map int)])] (fun p25 S => S) (fun p25 M => M) (fun p25 => (Sum.inl p25) = o9) ?_ ?_
  ·intro JJ12 hmeet11
   have hup10 := h; clear h; have h := ho9; clear ho9
   refine Run.block ?_
   refine R.bndS (t := 43) (by rfl) (fun hbd15 => ?_)
   replace hbd15 : b0.Activities.length ≤ 9223372036854775807 := by first | (rw [List.length_map] at hbd15; exact hbd15) | simp
   refine R.lp (β := Int) [(1, .lptr 64 0), (3, int (b0.Activities.length : Int)), (43, .slice (b0.Activities.map eTActivity)), (44, int (b0.Activities.length : Int))] [(64, .blk true [int b0.Deadline, .slice (b0.Activities.map eTActivity), .slice (b0.Links.map eTLink), .slice (b0.Resources.map eTResource), .slice (b0.Stocks.map int)])] (fun bb S => (45, int bb) :: S) (fun bb M => M) (fun n bb => 0 ≤ bb ∧ bb + n = (b0.Activities.length : Int) ∧ s_ProjectOk_L1 b0 (b0.Activities.drop bb.toNat) bb = some o9) b0.Activities.length (0 : Int) ⟨Int.le_refl _, by simp, h⟩ ?_
   clear h
   rintro JJ15 n15 z16 hag15 ⟨hza15, hzb15, h⟩
   refine Run.sr ?_
   refine X.bi ?_
   refine X.nil ?_
   refine Run.seq ?_
   refine R.cd (fun hc19 => ?_) (fun hc19 => ?_)
   ·obtain ⟨x17, xs18, hd15, hx15, hds15, hlt15⟩ := drop_atI hza15 hc19
    rw [hd15] at h
    rw [s_ProjectOk_L1] at h
    refine Run.skip ?_
    refine Run.seq ?_
    refine Run.block ?_
    refine Run.sr ?_
    refine X.mv ?_
    refine X.ix elt34 (idxL_spec hx15).1 (idxL_map eTActivity hx15) ?_
    refine X.lc shp58 ?_
    refine X.alloc zer58 (by rfl) (by rfl) (by rfl) ?_
    refine X.as ?_
    refine X.sl shp58 ?_
    refine X.nil ?_
    refine Run.seq ?_
    obtain ⟨v20, hv20, h⟩ := bindE h
    obtain ⟨e21, he21, h2⟩ := bindE h
    refine R.regG [(1, .lptr 64 0), (3, int (b0.Activities.length : Int)), (43, .slice (b0.Activities.map eTActivity)), (44, int (b0.Activities.length : Int)), (45, int z16), (66, bool e21)] [(64, .blk true [int b0.Deadline, .slice (b0.Activities.map eTActivity), .slice (b0.Links.map eTLink), .slice (b0.Resources.map eTResource), .slice (b0.Stocks.map int)])] ?_ ?_
    ·clear h; have h := he21; clear he21 h2
     refine X.ld shp58 ?_
     refine X.fl fld38_3 ?_
     refine X.ld shp36 ?_
     refine X.ls elt36 ?_
     refine X.fl fld38_4 ?_
     refine X.ld shp25 ?_
     refine X.ls elt25 ?_
     refine X.cp (s_ActivityOk_pc _ _ _ _ hv20) ?_
     refine X.un (by rfl) (by rfl) (by rfl) ?_
     refine X.mv ?_
     refine X.iG (fun hb22 => ?_) (fun hb22 => ?_)
     ·replace h := condF hb22 h
      refine X.ld shp38 ?_
      refine X.gy ?_
      refine X.fl fld58_0 ?_
      refine X.gy ?_
      refine X.ld shp9 ?_
      refine X.gy ?_
      obtain ⟨v23, hv23, h⟩ := bindE h
      refine X.cp (s_ActivityIndex_pc _ _ _ hv23) ?_
      refine X.gy ?_
      refine X.mv ?_
      refine X.gy ?_
      refine X.bi ?_
      refine X.pF ?_
      cases h
      exact X.eG
     ·replace h := condT hb22 h
      refine X.gn ?_
      refine X.gn ?_
      refine X.gn ?_
      refine X.gn ?_
      refine X.gn ?_
      refine X.pT ?_
      cases h
      exact X.eG
    replace h := h2; clear h2
    refine R.cd (fun hc24 => ?_) (fun hc24 => ?_)
    ·replace h := condT hc24 h
     refine Run.sr ?_
     refine X.an ?_
     cases h
     have h := hup10
     replace h := elimR h
     cases h
     refine R.f1 Tryz.results69 ?_
     rfl
    ·replace h := condF hc24 h
     refine Run.skip ?_
     refine Run.blk ?_
     refine Run.reg ?_
     refine X.ad ?_
     refine X.mn ?_
     exact R.ag hag15 (n15 - 1) (z16 + 1) (R.n3 (by first | (rw [hds15]; exact h) | (dsimp only; rw [hds15]; exact h)))
   ·rw [drop_endI hza15 hc19] at h
    rw [s_ProjectOk_L1] at h
    refine Run.exit (by rfl) ?_
    exact R.mt hmeet11 () (Option.some.inj h)
  rintro p25 rfl
  replace h := elimL h
  refine Run.seq ?_
  refine Run.sr ?_
  refine X.fl fld38_3 ?_
  refine X.ld shp36 ?_
  refine X.ls elt36 ?_
  refine X.mn ?_
  obtain ⟨o27, ho27, h⟩ := bindE h
  refine R.join2 (β := Unit) [(1, .lptr 64 0), (3, int (b0.Activities.length : Int))] [(64, .blk true [int b0.Deadline, .slice (b0.Activities.map eTActivity), .slice (b0.Links.map eTLink), .slice (b0.Resources.map eTResource), .slice (b0.Stocks.map int)])] (fun p40 S => S) (fun p40 M => M) (fun p40 => (Sum.inl p40) = o27) ?_ ?_
  ·intro JJ30 hmeet29
   have hup28 := h; clear h; have h := ho27; clear ho27
   refine Run.block ?_
   refine R.bndS (t := 69) (by rfl) (fun hbd33 => ?_)
   replace hbd33 : b0.Resources.length ≤ 9223372036854775807 := by first | (rw [List.length_map] at hbd33; exact hbd33) | simp
   refine R.lp (β := Int) [(1, .lptr 64 0), (3, int (b0.Activities.length : Int)), (69, .slice (b0.Resources.map eTResource)), (70, int (b0.Resources.length : Int))] [(64, .blk true [int b0.Deadline, .slice (b0.Activities.map eTActivity), .slice (b0.Links.map eTLink), .slice (b0.Resources.map eTResource), .slice (b0.Stocks.map int)])] (fun bb S => (71, int bb) :: S) (fun bb M => M) (fun n bb => 0 ≤ bb ∧ bb + n = (b0.Resources.length : Int) ∧ s_ProjectOk_L2 (b0.Resources.drop bb.toNat) bb = some o27) b0.Resources.length (0 : Int) ⟨Int.le_refl _, by simp, h⟩ ?_
   clear h
   rintro JJ33 n33 z34 hag33 ⟨hza33, hzb33, h⟩
   refine Run.sr ?_
   refine X.bi ?_
   refine X.nil ?_
   refine Run.seq ?_
   refine R.cd (fun hc37 => ?_) (fun hc37 => ?_)
   ·obtain ⟨x35, xs36, hd33, hx33, hds33, hlt33⟩ := drop_atI hza33 hc37
    rw [hd33] at h
    rw [s_ProjectOk_L2] at h
    refine Run.skip ?_
    refine Run.seq ?_
    refine Run.block ?_
    refine Run.sr ?_
    refine X.ix elt36 (idxL_spec hx33).1 (idxL_map eTResource hx33) ?_
    refine X.lc shp92 ?_
    refine X.alloc zer92 (by rfl) (by rfl) (by rfl) ?_
    refine X.sl shp92 ?_
    refine X.nil ?_
    refine Run.sr ?_
    refine X.ld shp92 ?_
    obtain ⟨v38, hv38, h⟩ := bindE h
    refine X.cp (s_ResourceOk_pc _ _ hv38) ?_
    refine X.un (by rfl) (by rfl) (by rfl) ?_
    refine X.nil ?_
    refine R.cd (fun hc39 => ?_) (fun hc39 => ?_)
    ·replace h := condT hc39 h
     refine Run.sr ?_
     refine X.an ?_
     cases h
     have h := hup28
     replace h := elimR h
     cases h
     refine R.f1 Tryz.results69 ?_
     rfl
    ·replace h := condF hc39 h
     refine Run.skip ?_
     refine Run.blk ?_
     refine Run.reg ?_
     refine X.ad ?_
     refine X.mn ?_
     exact R.ag hag33 (n33 - 1) (z34 + 1) (R.n3 (by first | (rw [hds33]; exact h) | (dsimp only; rw [hds33]; exact h)))
   ·rw [drop_endI hza33 hc37] at h
    rw [s_ProjectOk_L2] at h
    refine Run.exit (by rfl) ?_
    exact R.mt hmeet29 () (Option.some.inj h)
  rintro p40 rfl
  replace h := elimL h
  refine Run.seq ?_
  refine Run.sr ?_
  refine X.fl fld38_4 ?_
  refine X.ld shp25 ?_
  refine X.ls elt25 ?_
  refine X.mn ?_
  obtain ⟨o42, ho42, h⟩ := bindE h
  refine R.join2 (β := Unit) [(1, .lptr 64 0), (3, int (b0.Activities.length : Int))] [(64, .blk true [int b0.Deadline, .slice (b0.Activities.map eTActivity), .slice (b0.Links.map eTLink), .slice (b0.Resources.map eTResource), .slice (b0.Stocks.map int)])] (fun p55 S => S) (fun p55 M => M) (fun p55 => (Sum.inl p55) = o42) ?_ ?_
  ·intro JJ45 hmeet44
   have hup43 := h; clear h; have h := ho42; clear ho42
   refine Run.block ?_
   refine R.bndS (t := 80) (by rfl) (fun hbd48 => ?_)
   replace hbd48 : b0.Stocks.length ≤ 9223372036854775807 := by first | (rw [List.length_map] at hbd48; exact hbd48) | simp
   refine R.lp (β := Int) [(1, .lptr 64 0), (3, int (b0.Activities.length : Int)), (80, .slice (b0.Stocks.map int)), (81, int (b0.Stocks.length : Int))] [(64, .blk true [int b0.Deadline, .slice (b0.Activities.map eTActivity), .slice (b0.Links.map eTLink), .slice (b0.Resources.map eTResource), .slice (b0.Stocks.map int)])] (fun bb S => (82, int bb) :: S) (fun bb M => M) (fun n bb => 0 ≤ bb ∧ bb + n = (b0.Stocks.length : Int) ∧ s_ProjectOk_L3 (b0.Stocks.drop bb.toNat) bb = some o42) b0.Stocks.length (0 : Int) ⟨Int.le_refl _, by simp, h⟩ ?_
   clear h
   rintro JJ48 n48 z49 hag48 ⟨hza48, hzb48, h⟩
   refine Run.sr ?_
   refine X.bi ?_
   refine X.nil ?_
   refine Run.seq ?_
   refine R.cd (fun hc52 => ?_) (fun hc52 => ?_)
   ·obtain ⟨x50, xs51, hd48, hx48, hds48, hlt48⟩ := drop_atI hza48 hc52
    rw [hd48] at h
    rw [s_ProjectOk_L3] at h
    refine Run.skip ?_
    refine Run.seq ?_
    refine Run.block ?_
    refine Run.sr ?_
    refine X.ix elt25 (idxL_spec hx48).1 (idxL_map int hx48) ?_
    refine X.lc shp3 ?_
    refine X.an ?_
    refine Run.sr ?_
    refine X.mv ?_
    obtain ⟨v53, hv53, h⟩ := bindE h
    refine X.cp (s_l01In_pc _ _ _ _ hv53) ?_
    refine X.un (by rfl) (by rfl) (by rfl) ?_
    refine X.nil ?_
    refine R.cd (fun hc54 => ?_) (fun hc54 => ?_)
    ·replace h := condT hc54 h
     refine Run.sr ?_
     refine X.an ?_
     cases h
     have h := hup43
     replace h := elimR h
     cases h
     refine R.f1 Tryz.results69 ?_
     rfl
    ·replace h := condF hc54 h
     refine Run.skip ?_
     refine Run.blk ?_
     refine Run.reg ?_
     refine X.ad ?_
     refine X.mn ?_
     exact R.ag hag48 (n48 - 1) (z49 + 1) (R.n3 (by first | (rw [hds48]; exact h) | (dsimp only; rw [hds48]; exact h)))
   ·rw [drop_endI hza48 hc52] at h
    rw [s_ProjectOk_L3] at h
    refine Run.exit (by rfl) ?_
    exact R.mt hmeet44 () (Option.some.inj h)
  rintro p55 rfl
  replace h := elimL h
  refine Run.seq ?_
  refine Run.sr ?_
  refine X.fl fld38_2 ?_
  refine X.ld shp35 ?_
  refine X.ls elt35 ?_
  refine X.mn ?_
  obtain ⟨o57, ho57, h⟩ := bindE h
  refine R.join2 (β := Unit) [] [] (fun p76 S => S) (fun p76 M => M) (fun p76 => (Sum.inl p76) = o57) ?_ ?_
  ·intro JJ60 hmeet59
   have hup58 := h; clear h; have h := ho57; clear ho57
   refine Run.block ?_
   refine R.bndS (t := 91) (by rfl) (fun hbd63 => ?_)
   replace hbd63 : b0.Links.length ≤ 9223372036854775807 := by first | (rw [List.length_map] at hbd63; exact hbd63) | simp
   refine R.lp (β := Int) [(3, int (b0.Activities.length : Int)), (91, .slice (b0.Links.map eTLink)), (92, int (b0.Links.length : Int))] [] (fun bb S => (93, int bb) :: S) (fun bb M => M) (fun n bb => 0 ≤ bb ∧ bb + n = (b0.Links.length : Int) ∧ s_ProjectOk_L4 b0 (b0.Links.drop bb.toNat) bb = some o57) b0.Links.length (0 : Int) ⟨Int.le_refl _, by simp, h⟩ ?_
   clear h
   rintro JJ63 n63 z64 hag63 ⟨hza63, hzb63, h⟩
   refine Run.sr ?_
   refine X.bi ?_
   refine X.nil ?_
   refine Run.seq ?_
   refine R.cd (fun hc67 => ?_) (fun hc67 => ?_)
   ·obtain ⟨x65, xs66, hd63, hx63, hds63, hlt63⟩ := drop_atI hza63 hc67
    rw [hd63] at h
    rw [s_ProjectOk_L4] at h
    refine Run.skip ?_
    refine Run.seq ?_
    refine Run.block ?_
    refine Run.sr ?_
    refine X.ix elt35 (idxL_spec hx63).1 (idxL_map eTLink hx63) ?_
    refine X.lc shp87 ?_
    refine X.alloc zer87 (by rfl) (by rfl) (by rfl) ?_
    refine X.sl shp87 ?_
    refine X.nil ?_
    refine Run.seq ?_
    obtain ⟨v68, hv68, h⟩ := bindE h
    obtain ⟨e69, he69, h2⟩ := bindE h
    refine R.regG [(3, int (b0.Activities.length : Int)), (91, .slice (b0.Links.map eTLink)), (92, int (b0.Links.length : Int)), (93, int z64), (123, bool e69)] [] ?_ ?_
    ·clear h; have h := he69; clear he69 h2
     refine X.fl fld87_0 ?_
     refine X.ld shp3 ?_
     refine X.mv ?_
     refine X.subW (by rfl) (by rfl) (by rfl) ?_
     refine X.cp (s_l01In_pc _ _ _ _ hv68) ?_
     refine X.un (by rfl) (by rfl) (by rfl) ?_
     refine X.mv ?_
     refine X.iG (fun hb70 => ?_) (fun hb70 => ?_)
     ·replace h := condF hb70 h
      refine X.fl fld87_1 ?_
      refine X.gy ?_
      refine X.ld shp3 ?_
      refine X.gy ?_
      refine X.mv ?_
      refine X.gy ?_
      refine X.subW (by rfl) (by rfl) (by rfl) ?_
      refine X.gy ?_
      obtain ⟨v71, hv71, h⟩ := bindE h
      refine X.cp (s_l01In_pc _ _ _ _ hv71) ?_
      refine X.gy ?_
      refine X.un (by rfl) (by rfl) (by rfl) ?_
      refine X.pF ?_
      refine X.mv ?_
      refine X.iG (fun hb72 => ?_) (fun hb72 => ?_)
      ·replace h := condF hb72 h
       refine X.fl fld87_0 ?_
       refine X.gy ?_
       refine X.ld shp3 ?_
       refine X.gy ?_
       refine X.fl fld87_1 ?_
       refine X.gy ?_
       refine X.ld shp3 ?_
       refine X.gy ?_
       refine X.bi ?_
       refine X.pF ?_
       refine X.mv ?_
       refine X.iG (fun hb73 => ?_) (fun hb73 => ?_)
       ·replace h := condF hb73 h
        refine X.fl fld87_3 ?_
        refine X.gy ?_
        refine X.ld shp3 ?_
        refine X.gy ?_
        obtain ⟨v74, hv74, h⟩ := bindE h
        refine X.cp (s_l01In_pc _ _ _ _ hv74) ?_
        refine X.gy ?_
        refine X.un (by rfl) (by rfl) (by rfl) ?_
        refine X.pF ?_
        cases h
        exact X.eG
       ·replace h := condT hb73 h
        refine X.gn ?_
        refine X.gn ?_
        refine X.gn ?_
        refine X.pT ?_
        cases h
        exact X.eG
      ·replace h := condT hb72 h
       refine X.gn ?_
       refine X.gn ?_
       refine X.gn ?_
       refine X.gn ?_
       refine X.pT ?_
       refine X.mv ?_
       refine X.gn ?_
       refine X.gn ?_
       refine X.gn ?_
       refine X.gn ?_
       refine X.pT ?_
       cases h
       exact X.eG
     ·replace h := condT hb70 h
      refine X.gn ?_
      refine X.gn ?_
      refine X.gn ?_
      refine X.gn ?_
      refine X.gn ?_
      refine X.pT ?_
      refine X.mv ?_
      refine X.gn ?_
      refine X.gn ?_
      refine X.gn ?_
      refine X.gn ?_
      refine X.gn ?_
      refine X.pT ?_
      refine X.mv ?_
      refine X.gn ?_
      refine X.gn ?_
      refine X.gn ?_
      refine X.gn ?_
      refine X.pT ?_
      cases h
      exact X.eG
    replace h := h2; clear h2
    refine R.cd (fun hc75 => ?_) (fun hc75 => ?_)
    ·replace h := condT hc75 h
     refine Run.sr ?_
     refine X.an ?_
     cases h
     have h := hup58
     replace h := elimR h
     cases h
     refine R.f1 Tryz.results69 ?_
     rfl
    ·replace h := condF hc75 h
     refine Run.skip ?_
     refine Run.blk ?_
     refine Run.reg ?_
     refine X.ad ?_
     refine X.mn ?_
     exact R.ag hag63 (n63 - 1) (z64 + 1) (R.n3 (by first | (rw [hds63]; exact h) | (dsimp only; rw [hds63]; exact h)))
   ·rw [drop_endI hza63 hc67] at h
    rw [s_ProjectOk_L4] at h
    refine Run.exit (by rfl) ?_
    exact R.mt hmeet59 () (Option.some.inj h)
  rintro p76 rfl
  replace h := elimL h
  refine Run.sr ?_
  refine X.an ?_
  cases h
  refine R.f1 Tryz.results69 ?_
  rfl
theorem s_SetOk_pc (b0 : List Int) (r : Bool) (h : s_SetOk b0 = some r) : PC Tryz.prog 70 [.slice (b0.map int)] (bool r) := by
 unfold s_SetOk at h
 refine PC.start Tryz.func70 Tryz.ntmps70 rfl ok70 rfl ?_
 refine Run.sr ?_
 refine X.an ?_
 refine Run.seq ?_
 refine Run.sr ?_
 refine X.mv ?_
 refine X.ls elt25 ?_
 refine X.mn ?_
 obtain ⟨o1, ho1, h⟩ := bindE h
 refine R.join2 (β := Unit) [] [] (fun p16 S => S) (fun p16 M => M) (fun p16 => (Sum.inl p16) = o1) ?_ ?_
 ·intro JJ4 hmeet3
  have hup2 := h; clear h; have h := ho1; clear ho1
  refine Run.block ?_
  refine R.bndS (t := 0) (by rfl) (fun hbd7 => ?_)
  replace hbd7 : b0.length ≤ 9223372036854775807 := by first | (rw [List.length_map] at hbd7; exact hbd7) | simp
  refine R.lp (β := Int) [(0, .slice (b0.map int)), (5, int (b0.length : Int))] [] (fun bb S => (6, int bb) :: S) (fun bb M => M) (fun n bb => 0 ≤ bb ∧ bb + n = (b0.length : Int) ∧ s_SetOk_L1 b0 (b0.drop bb.toNat) bb = some o1) b0.length (0 : Int) ⟨Int.le_refl _, by simp, h⟩ ?_
  clear h
  rintro JJ7 n7 z8 hag7 ⟨hza7, hzb7, h⟩
  refine Run.sr ?_
  refine X.bi ?_
  refine X.nil ?_
  refine Run.seq ?_
  refine R.cd (fun hc11 => ?_) (fun hc11 => ?_)
  ·obtain ⟨x9, xs10, hd7, hx7, hds7, hlt7⟩ := drop_atI hza7 hc11
   rw [hd7] at h
   rw [s_SetOk_L1] at h
   refine Run.skip ?_
   refine Run.seq ?_
   refine Run.block ?_
   refine Run.sr ?_
   refine X.mv ?_
   refine X.an ?_
   refine Run.seq ?_
   obtain ⟨e12, he12, h2⟩ := bindE h
   refine R.drawG [(0, .slice (b0.map int)), (5, int (b0.length : Int)), (6, int z8), (22, bool e12)] [] (footOf []) mixed (by kernel_rfl) (by kernel_rfl) ?_ ?_
   ·clear h; have h := he12; clear he12 h2
    refine X.mv ?_
    refine X.bi ?_
    refine X.mv ?_
    refine X.iG (fun hb13 => ?_) (fun hb13 => ?_)
    ·replace h := condT hb13 h
     refine X.mv ?_
     refine X.gy ?_
     refine X.mv ?_
     refine X.gy ?_
     refine X.sub (by rfl) (by rfl) (by omega) (by rfl) ?_
     refine X.gy ?_
     obtain ⟨v14, hv14, h⟩ := bindE h
     refine X.ix elt25 (idxL_spec hv14).1 (idxL_map int hv14) ?_
     refine X.gy ?_
     refine X.lc shp3 ?_
     refine X.gy ?_
     refine X.mv ?_
     refine X.gy ?_
     refine X.mv ?_
     refine X.gy ?_
     refine X.ix elt25 (idxL_spec hx7).1 (idxL_map int hx7) ?_
     refine X.gy ?_
     refine X.lc shp3 ?_
     refine X.gy ?_
     refine X.bi ?_
     refine X.pT ?_
     cases h
     exact X.eG
    ·replace h := condF hb13 h
     refine X.gn ?_
     refine X.gn ?_
     refine X.gn ?_
     refine X.gn ?_
     refine X.gn ?_
     refine X.gn ?_
     refine X.gn ?_
     refine X.gn ?_
     refine X.gn ?_
     refine X.pF ?_
     cases h
     exact X.eG
   replace h := h2; clear h2
   refine R.cd (fun hc15 => ?_) (fun hc15 => ?_)
   ·replace h := condT hc15 h
    refine Run.sr ?_
    refine X.an ?_
    cases h
    have h := hup2
    replace h := elimR h
    cases h
    refine R.f1 Tryz.results70 ?_
    rfl
   ·replace h := condF hc15 h
    refine Run.skip ?_
    refine Run.blk ?_
    refine Run.reg ?_
    refine X.ad ?_
    refine X.mn ?_
    exact R.ag hag7 (n7 - 1) (z8 + 1) (R.n3 (by first | (rw [hds7]; exact h) | (dsimp only; rw [hds7]; exact h)))
  ·rw [drop_endI hza7 hc11] at h
   rw [s_SetOk_L1] at h
   refine Run.exit (by rfl) ?_
   exact R.mt hmeet3 () (Option.some.inj h)
 rintro p16 rfl
 replace h := elimL h
 refine Run.sr ?_
 refine X.an ?_
 cases h
 refine R.f1 Tryz.results70 ?_
 rfl
theorem s_IntRange_pc (b0 : Int) (r : List Int) (h : s_IntRange b0 = some r) : PC Tryz.prog 91 [int b0] (.fresh false 3 1 (r.map int)) := by
 unfold s_IntRange at h
 refine PC.start Tryz.func91 Tryz.ntmps91 rfl ok91 rfl ?_
 refine Run.sr ?_
 refine X.an ?_
 refine Run.sr ?_
 refine X.buildSlice false elt25 zer3 (by rfl) (by rfl) (by rfl) (by rfl) (by rfl) (by rfl) (by repeat (first | trivial | refine ⟨by first | rfl | simp [setL], ?_⟩)) (allSz_spec (by rfl)) (by rfl) (by rfl) (by rfl) ?_
 refine X.an ?_
 refine Run.seq ?_
 refine Run.sr ?_
 refine X.mv ?_
 obtain ⟨v1, hv1, h⟩ := bindE h
 refine X.cp (s_l01In_pc _ _ _ _ hv1) ?_
 refine X.un (by rfl) (by rfl) (by rfl) ?_
 refine X.nil ?_
 refine R.cd (fun hc2 => ?_) (fun hc2 => ?_)
 ·replace h := condT hc2 h
  refine Run.sr ?_
  refine X.an ?_
  cases h
  refine R.fin1n (x := false) (e := 3) (sz := 1) Tryz.results91 (by rfl) (by decide) ?_
  rfl
 ·replace h := condF hc2 h
  refine Run.skip ?_
  refine Run.seq ?_
  refine Run.sr ?_
  refine X.an ?_
  obtain ⟨o3, ho3, h⟩ := bindE h
  refine R.join2 (β := (List Int)) [] [] (fun p15 S => (3, .own 320 (p15.map int).length) :: S) (fun p15 M => (320, .obj false 3 1 (p15.map int)) :: M) (fun p15 => p15 = o3) ?_ ?_
  ·intro JJ6 hmeet5
   have hup4 := h; clear h; have h := ho3; clear ho3
   refine Run.block ?_
   refine R.lp (β := Int × (List Int)) [(0, int b0)] [] (fun bb S => (3, .own 320 (bb.2.map int).length) :: (4, int bb.1) :: S) (fun bb M => (320, .obj false 3 1 (bb.2.map int)) :: M) (fun n bb => s_IntRange_L1 b0 n bb.1 bb.2 = some o3) F0 (0, ([] : List Int)) h ?_
   clear h
   rintro JJ7 n7 ⟨a9, a10⟩ hag7 h
   dsimp only at h
   obtain _ | n7 := n7
   ·exact absurd h (by simp [s_IntRange_L1])
   rw [s_IntRange_L1] at h
   refine Run.seq ?_
   refine Run.sr ?_
   refine X.mv ?_
   refine X.mv ?_
   refine X.bi ?_
   refine X.nil ?_
   refine R.cd (fun hc13 => ?_) (fun hc13 => ?_)
   ·replace h := condT hc13 h
    refine Run.skip ?_
    refine Run.seq ?_
    refine Run.block ?_
    refine Run.reg ?_
    refine X.mv ?_
    refine X.mv ?_
    refine X.buildSlice false elt25 zer3 (by rfl) (by rfl) (by rfl) (by rfl) (by rfl) (by rfl) (by repeat (first | trivial | refine ⟨by first | rfl | simp [setL], ?_⟩)) (allSz_spec (by rfl)) (by rfl) (by rfl) (by rfl) ?_
    obtain ⟨v14, hv14, h⟩ := bindE h
    refine X.append elt25 zer3 (by rfl) (by rfl) (by first | rfl | simp [setL] | omega) (by rfl) (.own _ _ _ _ _ _ (look_mem (by rfl)) (by first | rfl | simp [setL] | omega)) (allSz_spec (by rfl)) (appL_len int hv14) (appL_map int hv14) (by rfl) (by rfl) (by rfl) (by rfl) ?_
    refine X.an ?_
    refine Run.blk ?_
    refine Run.reg ?_
    refine X.mv ?_
    refine X.addW (by rfl) (by rfl) (by rfl) ?_
    refine X.an ?_
    exact hag7 n7 ((W (a9 + 1)), v14) _ _ (by omega) h (by repeat (first | trivial | refine ⟨by first | rfl | simp [setL], ?_⟩)) (by repeat (first | trivial | refine ⟨by first | rfl | simp [setL], ?_⟩)) (by rfl) (by rfl)
   ·replace h := condF hc13 h
    refine Run.exit (by rfl) ?_
    exact R.mt hmeet5 a10 (Option.some.inj h)
  rintro p15 rfl
  refine Run.sr ?_
  refine X.mv ?_
  refine X.an ?_
  cases h
  refine R.fin1o Tryz.results91 (by rfl) (by rfl) (by first | rfl | simp [setL] | omega) ?_
  rfl
theorem s_ModeIndexes_pc (b0 : TActivity) (r : List Int) (h : s_ModeIndexes b0 = some r) : PC Tryz.prog 72 [eTActivity b0] (.fresh false 3 1 (r.map int)) := by
 unfold s_ModeIndexes at h
 refine PC.start Tryz.func72 Tryz.ntmps72 rfl ok72 rfl ?_
 refine Run.sr ?_
 refine X.bx ?_
 refine X.an ?_
 refine Run.sr ?_
 refine X.fl fld58_2 ?_
 refine X.ld shp56 ?_
 refine X.ls elt56 ?_
 obtain ⟨v1, hv1, h⟩ := bindE h
 refine X.callF (s_IntRange_pc _ _ hv1) (by rfl) (by rfl) (by rfl) (by trivial) (by rfl) (by rfl) (by rfl) (by rfl) ?_
 refine X.an ?_
 cases h
 refine R.fin1o Tryz.results72 (by rfl) (by rfl) (by first | rfl | simp [setL] | omega) ?_
 rfl
theorem s_SetHas_pc (b0 : List Int) (b1 : Int) (r : Bool) (h : s_SetHas b0 b1 = some r) : PC Tryz.prog 50 [.slice (b0.map int), int b1] (bool r) := by
 unfold s_SetHas at h
 refine PC.start Tryz.func50 Tryz.ntmps50 rfl ok50 rfl ?_
 refine Run.sr ?_
 refine X.an ?_
 refine Run.seq ?_
 refine Run.sr ?_
 refine X.mv ?_
 refine X.ls elt25 ?_
 refine X.mn ?_
 obtain ⟨o1, ho1, h⟩ := bindE h
 refine R.join2 (β := Unit) [] [] (fun p13 S => S) (fun p13 M => M) (fun p13 => (Sum.inl p13) = o1) ?_ ?_
 ·intro JJ4 hmeet3
  have hup2 := h; clear h; have h := ho1; clear ho1
  refine Run.block ?_
  refine R.bndS (t := 0) (by rfl) (fun hbd7 => ?_)
  replace hbd7 : b0.length ≤ 9223372036854775807 := by first | (rw [List.length_map] at hbd7; exact hbd7) | simp
  refine R.lp (β := Int) [(1, int b1), (7, .slice (b0.map int)), (8, int (b0.length : Int))] [] (fun bb S => (9, int bb) :: S) (fun bb M => M) (fun n bb => 0 ≤ bb ∧ bb + n = (b0.length : Int) ∧ s_SetHas_L1 b1 (b0.drop bb.toNat) bb = some o1) b0.length (0 : Int) ⟨Int.le_refl _, by simp, h⟩ ?_
  clear h
  rintro JJ7 n7 z8 hag7 ⟨hza7, hzb7, h⟩
  refine Run.sr ?_
  refine X.bi ?_
  refine X.nil ?_
  refine Run.seq ?_
  refine R.cd (fun hc11 => ?_) (fun hc11 => ?_)
  ·obtain ⟨x9, xs10, hd7, hx7, hds7, hlt7⟩ := drop_atI hza7 hc11
   rw [hd7] at h
   rw [s_SetHas_L1] at h
   refine Run.skip ?_
   refine Run.seq ?_
   refine Run.block ?_
   refine Run.sr ?_
   refine X.ix elt25 (idxL_spec hx7).1 (idxL_map int hx7) ?_
   refine X.lc shp3 ?_
   refine X.an ?_
   refine Run.sr ?_
   refine X.mv ?_
   refine X.mv ?_
   refine X.bi ?_
   refine X.nil ?_
   refine R.cd (fun hc12 => ?_) (fun hc12 => ?_)
   ·replace h := condT hc12 h
    refine Run.sr ?_
    refine X.an ?_
    cases h
    have h := hup2
    replace h := elimR h
    cases h
    refine R.f1 Tryz.results50 ?_
    rfl
   ·replace h := condF hc12 h
    refine Run.skip ?_
    refine Run.blk ?_
    refine Run.reg ?_
    refine X.ad ?_
    refine X.mn ?_
    exact R.ag hag7 (n7 - 1) (z8 + 1) (R.n3 (by first | (rw [hds7]; exact h) | (dsimp only; rw [hds7]; exact h)))
  ·rw [drop_endI hza7 hc11] at h
   rw [s_SetHas_L1] at h
   refine Run.exit (by rfl) ?_
   exact R.mt hmeet3 () (Option.some.inj h)
 rintro p13 rfl
 replace h := elimL h
 refine Run.sr ?_
 refine X.an ?_
 cases h
 refine R.f1 Tryz.results50 ?_
 rfl
theorem s_SetSubset_pc (b0 : List Int) (b1 : List Int) (r : Bool) (h : s_SetSubset b0 b1 = some r) : PC Tryz.prog 71 [.slice (b0.map int), .slice (b1.map int)] (bool r) := by
 unfold s_SetSubset at h
 refine PC.start Tryz.func71 Tryz.ntmps71 rfl ok71 rfl ?_
 refine Run.sr ?_
 refine X.an ?_
 refine Run.seq ?_
 refine Run.sr ?_
 refine X.mv ?_
 refine X.ls elt25 ?_
 refine X.mn ?_
 obtain ⟨o1, ho1, h⟩ := bindE h
 refine R.join2 (β := Unit) [] [] (fun p14 S => S) (fun p14 M => M) (fun p14 => (Sum.inl p14) = o1) ?_ ?_
 ·intro JJ4 hmeet3
  have hup2 := h; clear h; have h := ho1; clear ho1
  refine Run.block ?_
  refine R.bndS (t := 0) (by rfl) (fun hbd7 => ?_)
  replace hbd7 : b0.length ≤ 9223372036854775807 := by first | (rw [List.length_map] at hbd7; exact hbd7) | simp
  refine R.lp (β := Int) [(1, .slice (b1.map int)), (7, .slice (b0.map int)), (8, int (b0.length : Int))] [] (fun bb S => (9, int bb) :: S) (fun bb M => M) (fun n bb => 0 ≤ bb ∧ bb + n = (b0.length : Int) ∧ s_SetSubset_L1 b1 (b0.drop bb.toNat) bb = some o1) b0.length (0 : Int) ⟨Int.le_refl _, by simp, h⟩ ?_
  clear h
  rintro JJ7 n7 z8 hag7 ⟨hza7, hzb7, h⟩
  refine Run.sr ?_
  refine X.bi ?_
  refine X.nil ?_
  refine Run.seq ?_
  refine R.cd (fun hc11 => ?_) (fun hc11 => ?_)
  ·obtain ⟨x9, xs10, hd7, hx7, hds7, hlt7⟩ := drop_atI hza7 hc11
   rw [hd7] at h
   rw [s_SetSubset_L1] at h
   refine Run.skip ?_
   refine Run.seq ?_
   refine Run.block ?_
   refine Run.sr ?_
   refine X.ix elt25 (idxL_spec hx7).1 (idxL_map int hx7) ?_
   refine X.lc shp3 ?_
   refine X.an ?_
   refine Run.sr ?_
   refine X.mv ?_
   refine X.mv ?_
   obtain ⟨v12, hv12, h⟩ := bindE h
   refine X.cp (s_SetHas_pc _ _ _ hv12) ?_
   refine X.un (by rfl) (by rfl) (by rfl) ?_
   refine X.nil ?_
   refine R.cd (fun hc13 => ?_) (fun hc13 => ?_)
   ·replace h := condT hc13 h
    refine Run.sr ?_
    refine X.an ?_
    cases h
    have h := hup2
    replace h := elimR h
    cases h
    refine R.f1 Tryz.results71 ?_
    rfl
   ·replace h := condF hc13 h
    refine Run.skip ?_
    refine Run.blk ?_
    refine Run.reg ?_
    refine X.ad ?_
    refine X.mn ?_
    exact R.ag hag7 (n7 - 1) (z8 + 1) (R.n3 (by first | (rw [hds7]; exact h) | (dsimp only; rw [hds7]; exact h)))
  ·rw [drop_endI hza7 hc11] at h
   rw [s_SetSubset_L1] at h
   refine Run.exit (by rfl) ?_
   exact R.mt hmeet3 () (Option.some.inj h)
 rintro p14 rfl
 replace h := elimL h
 refine Run.sr ?_
 refine X.an ?_
 cases h
 refine R.f1 Tryz.results71 ?_
 rfl
theorem s_DomainForm_pc (b0 : TProject) (b1 : TDomain) (r : Bool) (h : s_DomainForm b0 b1 = some r) : PC Tryz.prog 47 [eTProject b0, eTDomain b1] (bool r) := by
 unfold s_DomainForm at h
 refine PC.start Tryz.func47 Tryz.ntmps47 rfl ok47 rfl ?_
 refine Run.sr ?_
 refine X.bx ?_
 refine X.bx ?_
 refine X.an ?_
 refine Run.seq ?_
 refine Run.seq ?_
 obtain ⟨v1, hv1, h⟩ := bindE h
 obtain ⟨e2, he2, h2⟩ := bindE h
 refine R.regG [(2, .lptr 128 0), (3, .lptr 192 0), (36, bool e2)] [(128, .blk true [int b0.Deadline, .slice (b0.Activities.map eTActivity), .slice (b0.Links.map eTLink), .slice (b0.Resources.map eTResource), .slice (b0.Stocks.map int)]), (192, .blk true [.slice (b1.MinStart.map int), .slice (b1.MaxStart.map int), .slice (b1.Modes.map l_int)])] ?_ ?_
 ·clear h; have h := he2; clear he2 h2
  refine X.ld shp38 ?_
  refine X.cp (s_ProjectOk_pc _ _ hv1) ?_
  refine X.un (by rfl) (by rfl) (by rfl) ?_
  refine X.mv ?_
  refine X.iG (fun hb3 => ?_) (fun hb3 => ?_)
  ·replace h := condF hb3 h
   refine X.fl fld40_0 ?_
   refine X.gy ?_
   refine X.ld shp25 ?_
   refine X.gy ?_
   refine X.ls elt25 ?_
   refine X.gy ?_
   refine X.fl fld38_1 ?_
   refine X.gy ?_
   refine X.ld shp34 ?_
   refine X.gy ?_
   refine X.ls elt34 ?_
   refine X.gy ?_
   refine X.bi ?_
   refine X.pF ?_
   refine X.mv ?_
   refine X.iG (fun hb4 => ?_) (fun hb4 => ?_)
   ·replace h := condF hb4 h
    refine X.fl fld40_1 ?_
    refine X.gy ?_
    refine X.ld shp25 ?_
    refine X.gy ?_
    refine X.ls elt25 ?_
    refine X.gy ?_
    refine X.fl fld38_1 ?_
    refine X.gy ?_
    refine X.ld shp34 ?_
    refine X.gy ?_
    refine X.ls elt34 ?_
    refine X.gy ?_
    refine X.bi ?_
    refine X.pF ?_
    refine X.mv ?_
    refine X.iG (fun hb5 => ?_) (fun hb5 => ?_)
    ·replace h := condF hb5 h
     refine X.fl fld40_2 ?_
     refine X.gy ?_
     refine X.ld shp28 ?_
     refine X.gy ?_
     refine X.ls elt28 ?_
     refine X.gy ?_
     refine X.fl fld38_1 ?_
     refine X.gy ?_
     refine X.ld shp34 ?_
     refine X.gy ?_
     refine X.ls elt34 ?_
     refine X.gy ?_
     refine X.bi ?_
     refine X.pF ?_
     cases h
     exact X.eG
    ·replace h := condT hb5 h
     refine X.gn ?_
     refine X.gn ?_
     refine X.gn ?_
     refine X.gn ?_
     refine X.gn ?_
     refine X.gn ?_
     refine X.pT ?_
     cases h
     exact X.eG
   ·replace h := condT hb4 h
    refine X.gn ?_
    refine X.gn ?_
    refine X.gn ?_
    refine X.gn ?_
    refine X.gn ?_
    refine X.gn ?_
    refine X.pT ?_
    refine X.mv ?_
    refine X.gn ?_
    refine X.gn ?_
    refine X.gn ?_
    refine X.gn ?_
    refine X.gn ?_
    refine X.gn ?_
    refine X.gn ?_
    refine X.pT ?_
    cases h
    exact X.eG
  ·replace h := condT hb3 h
   refine X.gn ?_
   refine X.gn ?_
   refine X.gn ?_
   refine X.gn ?_
   refine X.gn ?_
   refine X.gn ?_
   refine X.pT ?_
   refine X.mv ?_
   refine X.gn ?_
   refine X.gn ?_
   refine X.gn ?_
   refine X.gn ?_
   refine X.gn ?_
   refine X.gn ?_
   refine X.gn ?_
   refine X.pT ?_
   refine X.mv ?_
   refine X.gn ?_
   refine X.gn ?_
   refine X.gn ?_
   refine X.gn ?_
   refine X.gn ?_
   refine X.gn ?_
   refine X.gn ?_
   refine X.pT ?_
   cases h
   exact X.eG
 replace h := h2; clear h2
 refine R.cd (fun hc6 => ?_) (fun hc6 => ?_)
 ·replace h := condT hc6 h
  refine Run.sr ?_
  refine X.an ?_
  cases h
  refine R.f1 Tryz.results47 ?_
  rfl
 ·replace h := condF hc6 h
  refine Run.skip ?_
  refine Run.seq ?_
  refine Run.sr ?_
  refine X.fl fld38_1 ?_
  refine X.ld shp34 ?_
  refine X.ls elt34 ?_
  refine X.mn ?_
  obtain ⟨o7, ho7, h⟩ := bindE h
  refine R.join2 (β := Unit) [] [] (fun p31 S => S) (fun p31 M => M) (fun p31 => (Sum.inl p31) = o7) ?_ ?_
  ·intro JJ10 hmeet9
   have hup8 := h; clear h; have h := ho7; clear ho7
   refine Run.block ?_
   refine R.bndS (t := 38) (by rfl) (fun hbd13 => ?_)
   replace hbd13 : b0.Activities.length ≤ 9223372036854775807 := by first | (rw [List.length_map] at hbd13; exact hbd13) | simp
   refine R.lp (β := Int) [(3, .lptr 192 0), (38, .slice (b0.Activities.map eTActivity)), (39, int (b0.Activities.length : Int))] [(192, .blk true [.slice (b1.MinStart.map int), .slice (b1.MaxStart.map int), .slice (b1.Modes.map l_int)])] (fun bb S => (40, int bb) :: S) (fun bb M => M) (fun n bb => 0 ≤ bb ∧ bb + n = (b0.Activities.length : Int) ∧ s_DomainForm_L1 b1 (b0.Activities.drop bb.toNat) bb = some o7) b0.Activities.length (0 : Int) ⟨Int.le_refl _, by simp, h⟩ ?_
   clear h
   rintro JJ13 n13 z14 hag13 ⟨hza13, hzb13, h⟩
   refine Run.sr ?_
   refine X.bi ?_
   refine X.nil ?_
   refine Run.seq ?_
   refine R.cd (fun hc17 => ?_) (fun hc17 => ?_)
   ·obtain ⟨x15, xs16, hd13, hx13, hds13, hlt13⟩ := drop_atI hza13 hc17
    rw [hd13] at h
    rw [s_DomainForm_L1] at h
    refine Run.skip ?_
    refine Run.seq ?_
    refine Run.block ?_
    refine Run.sr ?_
    refine X.mv ?_
    refine X.ix elt34 (idxL_spec hx13).1 (idxL_map eTActivity hx13) ?_
    refine X.lc shp58 ?_
    refine X.alloc zer58 (by rfl) (by rfl) (by rfl) ?_
    refine X.as ?_
    refine X.sl shp58 ?_
    refine X.nil ?_
    refine Run.seq ?_
    obtain ⟨v18, hv18, h⟩ := bindE h
    obtain ⟨v19, hv19, h⟩ := bindE h
    obtain ⟨e20, he20, h2⟩ := bindE h
    refine R.drawG [(3, .lptr 192 0), (38, .slice (b0.Activities.map eTActivity)), (39, int (b0.Activities.length : Int)), (40, int z14), (80, bool e20)] [(192, .blk true [.slice (b1.MinStart.map int), .slice (b1.MaxStart.map int), .slice (b1.Modes.map l_int)])] (footOf [(1, ([192], [], [], [])), (9, ([192], [], [], [])), (18, ([192], [], [], [])), (27, ([192], [], [], [])), (31, ([384], [], [], [])), (32, ([], [4928], [], [])), (33, ([4928], [], [], []))]) mixed (by kernel_rfl) (by kernel_rfl) ?_ ?_
    ·clear h; have h := he20; clear he20 h2
     refine X.fl fld40_0 ?_
     refine X.ld shp25 ?_
     refine X.mv ?_
     refine X.ix elt25 (idxL_spec hv18).1 (idxL_map int hv18) ?_
     refine X.lc shp3 ?_
     refine X.cp (s_l01In_pc _ _ _ _ hv19) ?_
     refine X.un (by rfl) (by rfl) (by rfl) ?_
     refine X.mv ?_
     refine X.iG (fun hb21 => ?_) (fun hb21 => ?_)
     ·replace h := condF hb21 h
      refine X.fl fld40_1 ?_
      refine X.gy ?_
      refine X.ld shp25 ?_
      refine X.gy ?_
      refine X.mv ?_
      refine X.gy ?_
      obtain ⟨v22, hv22, h⟩ := bindE h
      refine X.ix elt25 (idxL_spec hv22).1 (idxL_map int hv22) ?_
      refine X.gy ?_
      refine X.lc shp3 ?_
      refine X.gy ?_
      obtain ⟨v23, hv23, h⟩ := bindE h
      refine X.cp (s_l01In_pc _ _ _ _ hv23) ?_
      refine X.gy ?_
      refine X.un (by rfl) (by rfl) (by rfl) ?_
      refine X.pF ?_
      refine X.mv ?_
      refine X.iG (fun hb24 => ?_) (fun hb24 => ?_)
      ·replace h := condF hb24 h
       refine X.fl fld40_2 ?_
       refine X.gy ?_
       refine X.ld shp28 ?_
       refine X.gy ?_
       refine X.mv ?_
       refine X.gy ?_
       obtain ⟨v25, hv25, h⟩ := bindE h
       refine X.ix elt28 (idxL_spec hv25).1 (idxL_map l_int hv25) ?_
       refine X.gy ?_
       refine X.lc shp25 ?_
       refine X.gy ?_
       obtain ⟨v26, hv26, h⟩ := bindE h
       refine X.cp (s_SetOk_pc _ _ hv26) ?_
       refine X.gy ?_
       refine X.un (by rfl) (by rfl) (by rfl) ?_
       refine X.pF ?_
       refine X.mv ?_
       refine X.iG (fun hb27 => ?_) (fun hb27 => ?_)
       ·replace h := condF hb27 h
        refine X.fl fld40_2 ?_
        refine X.gy ?_
        refine X.ld shp28 ?_
        refine X.gy ?_
        refine X.mv ?_
        refine X.gy ?_
        refine X.ix elt28 (idxL_spec hv25).1 (idxL_map l_int hv25) ?_
        refine X.gy ?_
        refine X.lc shp25 ?_
        refine X.gy ?_
        refine X.ld shp58 ?_
        refine X.gy ?_
        obtain ⟨v28, hv28, h⟩ := bindE h
        refine X.callF (s_ModeIndexes_pc _ _ hv28) (by rfl) (by rfl) (by rfl) (by trivial) (by rfl) (by rfl) (by rfl) (by rfl) ?_
        refine X.gy ?_
        obtain ⟨v29, hv29, h⟩ := bindE h
        refine X.cp (s_SetSubset_pc _ _ _ hv29) ?_
        refine X.gy ?_
        refine X.un (by rfl) (by rfl) (by rfl) ?_
        refine X.pF ?_
        cases h
        exact X.eG
       ·replace h := condT hb27 h
        refine X.gn ?_
        refine X.gn ?_
        refine X.gn ?_
        refine X.gn ?_
        refine X.gn ?_
        refine X.gn ?_
        refine X.gn ?_
        refine X.gn ?_
        refine X.pT ?_
        cases h
        exact X.eG
      ·replace h := condT hb24 h
       refine X.gn ?_
       refine X.gn ?_
       refine X.gn ?_
       refine X.gn ?_
       refine X.gn ?_
       refine X.gn ?_
       refine X.pT ?_
       refine X.mv ?_
       refine X.gn ?_
       refine X.gn ?_
       refine X.gn ?_
       refine X.gn ?_
       refine X.gn ?_
       refine X.gn ?_
       refine X.gn ?_
       refine X.gn ?_
       refine X.gn ?_
       refine X.pT ?_
       cases h
       exact X.eG
     ·replace h := condT hb21 h
      refine X.gn ?_
      refine X.gn ?_
      refine X.gn ?_
      refine X.gn ?_
      refine X.gn ?_
      refine X.gn ?_
      refine X.pT ?_
      refine X.mv ?_
      refine X.gn ?_
      refine X.gn ?_
      refine X.gn ?_
      refine X.gn ?_
      refine X.gn ?_
      refine X.gn ?_
      refine X.gn ?_
      refine X.pT ?_
      refine X.mv ?_
      refine X.gn ?_
      refine X.gn ?_
      refine X.gn ?_
      refine X.gn ?_
      refine X.gn ?_
      refine X.gn ?_
      refine X.gn ?_
      refine X.gn ?_
      refine X.gn ?_
      refine X.pT ?_
      cases h
      exact X.eG
    replace h := h2; clear h2
    refine R.cd (fun hc30 => ?_) (fun hc30 => ?_)
    ·replace h := condT hc30 h
     refine Run.sr ?_
     refine X.an ?_
     cases h
     have h := hup8
     replace h := elimR h
     cases h
     refine R.f1 Tryz.results47 ?_
     rfl
    ·replace h := condF hc30 h
     refine Run.skip ?_
     refine Run.blk ?_
     refine Run.reg ?_
     refine X.ad ?_
     refine X.mn ?_
     exact R.ag hag13 (n13 - 1) (z14 + 1) (R.n3 (by first | (rw [hds13]; exact h) | (dsimp only; rw [hds13]; exact h)))
   ·rw [drop_endI hza13 hc17] at h
    rw [s_DomainForm_L1] at h
    refine Run.exit (by rfl) ?_
    exact R.mt hmeet9 () (Option.some.inj h)
  rintro p31 rfl
  replace h := elimL h
  refine Run.sr ?_
  refine X.an ?_
  cases h
  refine R.f1 Tryz.results47 ?_
  rfl
theorem s_DomainEmpty_pc (b0 : TDomain) (r : Bool) (h : s_DomainEmpty b0 = some r) : PC Tryz.prog 48 [eTDomain b0] (bool r) := by
 unfold s_DomainEmpty at h
 refine PC.start Tryz.func48 Tryz.ntmps48 rfl ok48 rfl ?_
 refine Run.sr ?_
 refine X.bx ?_
 refine X.an ?_
 refine Run.seq ?_
 refine Run.sr ?_
 refine X.fl fld40_0 ?_
 refine X.ld shp25 ?_
 refine X.ls elt25 ?_
 refine X.mn ?_
 obtain ⟨o1, ho1, h⟩ := bindE h
 refine R.join2 (β := Unit) [(1, .lptr 64 0)] [(64, .blk true [.slice (b0.MinStart.map int), .slice (b0.MaxStart.map int), .slice (b0.Modes.map l_int)])] (fun p16 S => S) (fun p16 M => M) (fun p16 => (Sum.inl p16) = o1) ?_ ?_
 ·intro JJ4 hmeet3
  have hup2 := h; clear h; have h := ho1; clear ho1
  refine Run.block ?_
  refine R.bndS (t := 8) (by rfl) (fun hbd7 => ?_)
  replace hbd7 : b0.MinStart.length ≤ 9223372036854775807 := by first | (rw [List.length_map] at hbd7; exact hbd7) | simp
  refine R.lp (β := Int) [(1, .lptr 64 0), (8, .slice (b0.MinStart.map int)), (9, int (b0.MinStart.length : Int))] [(64, .blk true [.slice (b0.MinStart.map int), .slice (b0.MaxStart.map int), .slice (b0.Modes.map l_int)])] (fun bb S => (10, int bb) :: S) (fun bb M => M) (fun n bb => 0 ≤ bb ∧ bb + n = (b0.MinStart.length : Int) ∧ s_DomainEmpty_L1 b0 (b0.MinStart.drop bb.toNat) bb = some o1) b0.MinStart.length (0 : Int) ⟨Int.le_refl _, by simp, h⟩ ?_
  clear h
  rintro JJ7 n7 z8 hag7 ⟨hza7, hzb7, h⟩
  refine Run.sr ?_
  refine X.bi ?_
  refine X.nil ?_
  refine Run.seq ?_
  refine R.cd (fun hc11 => ?_) (fun hc11 => ?_)
  ·obtain ⟨x9, xs10, hd7, hx7, hds7, hlt7⟩ := drop_atI hza7 hc11
   rw [hd7] at h
   rw [s_DomainEmpty_L1] at h
   refine Run.skip ?_
   refine Run.seq ?_
   refine Run.block ?_
   refine Run.sr ?_
   refine X.mv ?_
   refine X.ix elt25 (idxL_spec hx7).1 (idxL_map int hx7) ?_
   refine X.lc shp3 ?_
   refine X.as ?_
   refine X.an ?_
   refine Run.seq ?_
   obtain ⟨e12, he12, h2⟩ := bindE h
   refine R.regG [(1, .lptr 64 0), (8, .slice (b0.MinStart.map int)), (9, int (b0.MinStart.length : Int)), (10, int z8), (28, bool e12)] [(64, .blk true [.slice (b0.MinStart.map int), .slice (b0.MaxStart.map int), .slice (b0.Modes.map l_int)])] ?_ ?_
   ·clear h; have h := he12; clear he12 h2
    refine X.mv ?_
    refine X.fl fld40_1 ?_
    refine X.ld shp25 ?_
    refine X.ls elt25 ?_
    refine X.bi ?_
    refine X.mv ?_
    refine X.iG (fun hb13 => ?_) (fun hb13 => ?_)
    ·replace h := condT hb13 h
     refine X.mv ?_
     refine X.gy ?_
     refine X.fl fld40_1 ?_
     refine X.gy ?_
     refine X.ld shp25 ?_
     refine X.gy ?_
     refine X.mv ?_
     refine X.gy ?_
     obtain ⟨v14, hv14, h⟩ := bindE h
     refine X.ix elt25 (idxL_spec hv14).1 (idxL_map int hv14) ?_
     refine X.gy ?_
     refine X.lc shp3 ?_
     refine X.gy ?_
     refine X.bi ?_
     refine X.pT ?_
     cases h
     exact X.eG
    ·replace h := condF hb13 h
     refine X.gn ?_
     refine X.gn ?_
     refine X.gn ?_
     refine X.gn ?_
     refine X.gn ?_
     refine X.gn ?_
     refine X.pF ?_
     cases h
     exact X.eG
   replace h := h2; clear h2
   refine R.cd (fun hc15 => ?_) (fun hc15 => ?_)
   ·replace h := condT hc15 h
    refine Run.sr ?_
    refine X.an ?_
    cases h
    have h := hup2
    replace h := elimR h
    cases h
    refine R.f1 Tryz.results48 ?_
    rfl
   ·replace h := condF hc15 h
    refine Run.skip ?_
    refine Run.blk ?_
    refine Run.reg ?_
    refine X.ad ?_
    refine X.mn ?_
    exact R.ag hag7 (n7 - 1) (z8 + 1) (R.n3 (by first | (rw [hds7]; exact h) | (dsimp only; rw [hds7]; exact h)))
  ·rw [drop_endI hza7 hc11] at h
   rw [s_DomainEmpty_L1] at h
   refine Run.exit (by rfl) ?_
   exact R.mt hmeet3 () (Option.some.inj h)
 rintro p16 rfl
 replace h := elimL h
 refine Run.seq ?_
 refine Run.sr ?_
 refine X.fl fld40_2 ?_
 refine X.ld shp28 ?_
 refine X.ls elt28 ?_
 refine X.mn ?_
 obtain ⟨o18, ho18, h⟩ := bindE h
 refine R.join2 (β := Unit) [] [] (fun p30 S => S) (fun p30 M => M) (fun p30 => (Sum.inl p30) = o18) ?_ ?_
 ·intro JJ21 hmeet20
  have hup19 := h; clear h; have h := ho18; clear ho18
  refine Run.block ?_
  refine R.bndS (t := 31) (by rfl) (fun hbd24 => ?_)
  replace hbd24 : b0.Modes.length ≤ 9223372036854775807 := by first | (rw [List.length_map] at hbd24; exact hbd24) | simp
  refine R.lp (β := Int) [(31, .slice (b0.Modes.map l_int)), (32, int (b0.Modes.length : Int))] [] (fun bb S => (33, int bb) :: S) (fun bb M => M) (fun n bb => 0 ≤ bb ∧ bb + n = (b0.Modes.length : Int) ∧ s_DomainEmpty_L2 (b0.Modes.drop bb.toNat) bb = some o18) b0.Modes.length (0 : Int) ⟨Int.le_refl _, by simp, h⟩ ?_
  clear h
  rintro JJ24 n24 z25 hag24 ⟨hza24, hzb24, h⟩
  refine Run.sr ?_
  refine X.bi ?_
  refine X.nil ?_
  refine Run.seq ?_
  refine R.cd (fun hc28 => ?_) (fun hc28 => ?_)
  ·obtain ⟨x26, xs27, hd24, hx24, hds24, hlt24⟩ := drop_atI hza24 hc28
   rw [hd24] at h
   rw [s_DomainEmpty_L2] at h
   refine Run.skip ?_
   refine Run.seq ?_
   refine Run.block ?_
   refine Run.sr ?_
   refine X.ix elt28 (idxL_spec hx24).1 (idxL_map l_int hx24) ?_
   refine X.lc shp25 ?_
   refine X.an ?_
   refine Run.sr ?_
   refine X.mv ?_
   refine X.ls elt25 ?_
   refine X.bi ?_
   refine X.nil ?_
   refine R.cd (fun hc29 => ?_) (fun hc29 => ?_)
   ·replace h := condT hc29 h
    refine Run.sr ?_
    refine X.an ?_
    cases h
    have h := hup19
    replace h := elimR h
    cases h
    refine R.f1 Tryz.results48 ?_
    rfl
   ·replace h := condF hc29 h
    refine Run.skip ?_
    refine Run.blk ?_
    refine Run.reg ?_
    refine X.ad ?_
    refine X.mn ?_
    exact R.ag hag24 (n24 - 1) (z25 + 1) (R.n3 (by first | (rw [hds24]; exact h) | (dsimp only; rw [hds24]; exact h)))
  ·rw [drop_endI hza24 hc28] at h
   rw [s_DomainEmpty_L2] at h
   refine Run.exit (by rfl) ?_
   exact R.mt hmeet20 () (Option.some.inj h)
 rintro p30 rfl
 replace h := elimL h
 refine Run.sr ?_
 refine X.an ?_
 cases h
 refine R.f1 Tryz.results48 ?_
 rfl
theorem s_l14Ok_pc (b0 : TProject) (b1 : TDomain) (r : Bool) (h : s_l14Ok b0 b1 = some r) : PC Tryz.prog 22 [eTProject b0, eTDomain b1] (bool r) := by
 unfold s_l14Ok at h
 refine PC.start Tryz.func22 Tryz.ntmps22 rfl ok22 rfl ?_
 refine Run.sr ?_
 refine X.bx ?_
 refine X.bx ?_
 refine X.an ?_
 refine Run.seq ?_
 obtain ⟨v1, hv1, h⟩ := bindE h
 obtain ⟨e2, he2, h2⟩ := bindE h
 refine R.regG [(4, bool e2)] [] ?_ ?_
 ·clear h; have h := he2; clear he2 h2
  refine X.ld shp38 ?_
  refine X.ld shp40 ?_
  refine X.cp (s_DomainForm_pc _ _ _ hv1) ?_
  refine X.mv ?_
  refine X.iG (fun hb3 => ?_) (fun hb3 => ?_)
  ·replace h := condT hb3 h
   refine X.ld shp40 ?_
   refine X.gy ?_
   obtain ⟨v4, hv4, h⟩ := bindE h
   refine X.cp (s_DomainEmpty_pc _ _ hv4) ?_
   refine X.gy ?_
   refine X.un (by rfl) (by rfl) (by rfl) ?_
   refine X.pT ?_
   refine X.as ?_
   cases h
   exact X.eG
  ·replace h := condF hb3 h
   refine X.gn ?_
   refine X.gn ?_
   refine X.pF ?_
   refine X.as ?_
   cases h
   exact X.eG
 replace h := h2; clear h2
 cases h
 refine R.f1 Tryz.results22 ?_
 rfl
theorem s_MaxDuration_pc (b0 : TActivity) (b1 : List Int) (r : Int) (h : s_MaxDuration b0 b1 = some r) : PC Tryz.prog 24 [eTActivity b0, .slice (b1.map int)] (int r) := by
 unfold s_MaxDuration at h
 refine PC.start Tryz.func24 Tryz.ntmps24 rfl ok24 rfl ?_
 refine Run.sr ?_
 refine X.bx ?_
 refine X.an ?_
 refine Run.sr ?_
 refine X.an ?_
 refine Run.sr ?_
 refine X.an ?_
 refine Run.seq ?_
 refine Run.sr ?_
 refine X.fl fld58_2 ?_
 refine X.ld shp56 ?_
 refine X.ls elt56 ?_
 refine X.mn ?_
 obtain ⟨o1, ho1, h⟩ := bindE h
 refine R.join2 (β := Int) [] [] (fun p19 S => (5, int p19) :: S) (fun p19 M => M) (fun p19 => p19 = o1) ?_ ?_
 ·intro JJ4 hmeet3
  have hup2 := h; clear h; have h := ho1; clear ho1
  refine Run.block ?_
  refine R.bndS (t := 10) (by rfl) (fun hbd7 => ?_)
  replace hbd7 : b0.Modes.length ≤ 9223372036854775807 := by first | (rw [List.length_map] at hbd7; exact hbd7) | simp
  refine R.lp (β := Int × Int × Bool) [(1, .slice (b1.map int)), (10, .slice (b0.Modes.map eTMode)), (11, int (b0.Modes.length : Int))] [] (fun bb S => (5, int bb.2.1) :: (6, bool bb.2.2) :: (12, int bb.1) :: S) (fun bb M => M) (fun n bb => 0 ≤ bb.1 ∧ bb.1 + n = (b0.Modes.length : Int) ∧ s_MaxDuration_L1 b1 (b0.Modes.drop bb.1.toNat) bb.1 bb.2.1 bb.2.2 = some o1) b0.Modes.length (0, 0, false) ⟨Int.le_refl _, by simp, h⟩ ?_
  clear h
  rintro JJ7 n7 ⟨z8, a9, a10⟩ hag7 ⟨hza7, hzb7, h⟩
  dsimp only at hza7 hzb7 h
  refine Run.sr ?_
  refine X.bi ?_
  refine X.nil ?_
  refine Run.seq ?_
  refine R.cd (fun hc13 => ?_) (fun hc13 => ?_)
  ·obtain ⟨x11, xs12, hd7, hx7, hds7, hlt7⟩ := drop_atI hza7 hc13
   rw [hd7] at h
   rw [s_MaxDuration_L1] at h
   refine Run.skip ?_
   refine Run.seq ?_
   refine Run.block ?_
   refine Run.sr ?_
   refine X.mv ?_
   refine X.ix elt56 (idxL_spec hx7).1 (idxL_map eTMode hx7) ?_
   refine X.lc shp83 ?_
   refine X.alloc zer83 (by rfl) (by rfl) (by rfl) ?_
   refine X.as ?_
   refine X.sl shp83 ?_
   refine X.nil ?_
   refine Run.seq ?_
   obtain ⟨v14, hv14, h⟩ := bindE h
   obtain ⟨e15, he15, h2⟩ := bindE h
   refine R.regG [(1, .slice (b1.map int)), (5, int a9), (6, bool a10), (8, .lptr 512 0), (10, .slice (b0.Modes.map eTMode)), (11, int (b0.Modes.length : Int)), (12, int z8), (29, bool e15)] [(512, .blk true [int x11.Duration, .slice (x11.Usage.map int), .slice (x11.Consumption.map int)])] ?_ ?_
   ·clear h; have h := he15; clear he15 h2
    refine X.mv ?_
    refine X.mv ?_
    refine X.cp (s_SetHas_pc _ _ _ hv14) ?_
    refine X.mv ?_
    refine X.iG (fun hb16 => ?_) (fun hb16 => ?_)
    ·replace h := condT hb16 h
     refine X.mv ?_
     refine X.gy ?_
     refine X.un (by rfl) (by rfl) (by rfl) ?_
     refine X.gy ?_
     refine X.mv ?_
     refine X.iG (fun hb17 => ?_) (fun hb17 => ?_)
     ·replace h := condF hb17 h
      refine X.fl fld83_0 ?_
      refine X.gy ?_
      refine X.ld shp3 ?_
      refine X.gy ?_
      refine X.mv ?_
      refine X.gy ?_
      refine X.bi ?_
      refine X.gy ?_
      refine X.pF ?_
      refine X.pT ?_
      cases h
      exact X.eG
     ·replace h := condT hb17 h
      refine X.gn ?_
      refine X.gn ?_
      refine X.gn ?_
      refine X.gy ?_
      refine X.pT ?_
      refine X.pT ?_
      cases h
      exact X.eG
    ·replace h := condF hb16 h
     refine X.gn ?_
     refine X.gn ?_
     refine X.gU (by rfl) (by rfl) (by rfl) ?_
     refine X.gU (by rfl) (by rfl) (by rfl) ?_
     refine X.gU (by rfl) (by rfl) (by rfl) ?_
     refine X.gU (by rfl) (by rfl) (by rfl) ?_
     refine X.gn ?_
     refine X.pF ?_
     cases h
     exact X.eG
   replace h := h2; clear h2
   refine R.cd (fun hc18 => ?_) (fun hc18 => ?_)
   ·replace h := condT hc18 h
    refine Run.sr ?_
    refine X.fl fld83_0 ?_
    refine X.ld shp3 ?_
    refine X.an ?_
    refine Run.reg ?_
    refine X.an ?_
    refine Run.blk ?_
    refine Run.reg ?_
    refine X.ad ?_
    refine X.mn ?_
    exact R.ag hag7 (n7 - 1) (z8 + 1, x11.Duration, true) (R.n3 (by first | (rw [hds7]; exact h) | (dsimp only; rw [hds7]; exact h)))
   ·replace h := condF hc18 h
    refine Run.skip ?_
    refine Run.blk ?_
    refine Run.reg ?_
    refine X.ad ?_
    refine X.mn ?_
    exact R.ag hag7 (n7 - 1) (z8 + 1, a9, a10) (R.n3 (by first | (rw [hds7]; exact h) | (dsimp only; rw [hds7]; exact h)))
  ·rw [drop_endI hza7 hc13] at h
   rw [s_MaxDuration_L1] at h
   refine Run.exit (by rfl) ?_
   exact R.mt hmeet3 a9 (Option.some.inj h)
 rintro p19 rfl
 refine Run.sr ?_
 refine X.mv ?_
 refine X.an ?_
 cases h
 refine R.f1 Tryz.results24 ?_
 rfl
theorem s_l02Put_pc (b0 : List Int) (b1 : Int) (r : List Int) (h : s_l02Put b0 b1 = some r) : PC Tryz.prog 49 [.slice (b0.map int), int b1] (.slice (r.map int)) := by
 unfold s_l02Put at h
 refine PC.start Tryz.func49 Tryz.ntmps49 rfl ok49 rfl ?_
 refine Run.sr ?_
 refine X.an ?_
 refine Run.seq ?_
 refine Run.sr ?_
 refine X.mv ?_
 refine X.mv ?_
 obtain ⟨v1, hv1, h⟩ := bindE h
 refine X.cp (s_SetHas_pc _ _ _ hv1) ?_
 refine X.nil ?_
 refine R.cd (fun hc2 => ?_) (fun hc2 => ?_)
 ·replace h := condT hc2 h
  refine Run.sr ?_
  refine X.mv ?_
  refine X.an ?_
  cases h
  refine R.f1 Tryz.results49 ?_
  rfl
 ·replace h := condF hc2 h
  refine Run.skip ?_
  refine Run.sr ?_
  refine X.an ?_
  refine Run.seq ?_
  obtain ⟨o3, ho3, h⟩ := bindE h
  refine R.join2 (β := Int) [(0, .slice (b0.map int)), (1, int b1)] [] (fun p15 S => (5, int p15) :: S) (fun p15 M => M) (fun p15 => p15 = o3) ?_ ?_
  ·intro JJ6 hmeet5
   have hup4 := h; clear h; have h := ho3; clear ho3
   refine Run.block ?_
   refine R.lp (β := Int) [(0, .slice (b0.map int)), (1, int b1)] [] (fun bb S => (5, int bb) :: S) (fun bb M => M) (fun n bb => s_l02Put_L1 b0 b1 n bb = some o3) F0 0 h ?_
   clear h
   rintro JJ6 n6 a8 hag6 h
   obtain _ | n6 := n6
   ·exact absurd h (by simp [s_l02Put_L1])
   rw [s_l02Put_L1] at h
   refine Run.seq ?_
   refine Run.seq ?_
   obtain ⟨e11, he11, h2⟩ := bindE h
   refine R.regG [(0, .slice (b0.map int)), (1, int b1), (5, int a8), (22, bool e11)] [] ?_ ?_
   ·clear h; have h := he11; clear he11 h2
    refine X.mv ?_
    refine X.mv ?_
    refine X.ls elt25 ?_
    refine X.bi ?_
    refine X.mv ?_
    refine X.iG (fun hb12 => ?_) (fun hb12 => ?_)
    ·replace h := condT hb12 h
     refine X.mv ?_
     refine X.gy ?_
     refine X.mv ?_
     refine X.gy ?_
     obtain ⟨v13, hv13, h⟩ := bindE h
     refine X.ix elt25 (idxL_spec hv13).1 (idxL_map int hv13) ?_
     refine X.gy ?_
     refine X.lc shp3 ?_
     refine X.gy ?_
     refine X.mv ?_
     refine X.gy ?_
     refine X.bi ?_
     refine X.pT ?_
     cases h
     exact X.eG
    ·replace h := condF hb12 h
     refine X.gn ?_
     refine X.gn ?_
     refine X.gn ?_
     refine X.gn ?_
     refine X.gn ?_
     refine X.pF ?_
     cases h
     exact X.eG
   replace h := h2; clear h2
   refine R.cd (fun hc14 => ?_) (fun hc14 => ?_)
   ·replace h := condT hc14 h
    refine Run.skip ?_
    refine Run.block ?_
    refine Run.reg ?_
    refine X.mv ?_
    refine X.addW (by rfl) (by rfl) (by rfl) ?_
    refine X.an ?_
    refine Run.blk ?_
    exact hag6 n6 (W (a8 + 1)) _ _ (by omega) h (by trivial) (by trivial) (by rfl) (by rfl)
   ·replace h := condF hc14 h
    refine Run.exit (by rfl) ?_
    exact R.mt hmeet5 a8 (Option.some.inj h)
  rintro p15 rfl
  refine Run.sr ?_
  refine X.buildSlice false elt25 zer3 (by rfl) (by rfl) (by rfl) (by rfl) (by rfl) (by rfl) (by repeat (first | trivial | refine ⟨by first | rfl | simp [setL], ?_⟩)) (allSz_spec (by rfl)) (by rfl) (by rfl) (by rfl) ?_
  refine X.mv ?_
  refine X.mv ?_
  obtain ⟨v16, hv16, h⟩ := bindE h
  refine X.sliceS2 elt25 (by rfl) (by exact cells_map (f := int) (fun _ => rfl)) (by rfl) ⟨_, by rfl⟩ (subL_le _ hv16) (subL_map _ hv16) (by rfl) ?_
  obtain ⟨v17, hv17, h⟩ := bindE h
  refine X.append elt25 zer3 (by rfl) (by rfl) (by first | rfl | simp [setL] | omega) (by rfl) (.pure _) (by exact cells_map (f := int) (fun _ => rfl)) (appL_len int hv17) (appL_map int hv17) (by rfl) (by rfl) (by rfl) (by rfl) ?_
  refine X.an ?_
  refine Run.sr ?_
  refine X.mv ?_
  refine X.mv ?_
  refine X.buildSlice false elt25 zer3 (by rfl) (by rfl) (by rfl) (by rfl) (by rfl) (by rfl) (by repeat (first | trivial | refine ⟨by first | rfl | simp [setL], ?_⟩)) (allSz_spec (by rfl)) (by rfl) (by rfl) (by rfl) ?_
  obtain ⟨v18, hv18, h⟩ := bindE h
  refine X.append elt25 zer3 (by rfl) (by rfl) (by first | rfl | simp [setL] | omega) (by rfl) (.own _ _ _ _ _ _ (look_mem (by rfl)) (by first | rfl | simp [setL] | omega)) (allSz_spec (by rfl)) (appL_len int hv18) (appL_map int hv18) (by rfl) (by rfl) (by rfl) (by rfl) ?_
  refine X.an ?_
  refine Run.sr ?_
  refine X.mv ?_
  refine X.mv ?_
  refine X.mv ?_
  obtain ⟨v19, hv19, h⟩ := bindE h
  refine X.sliceS2 elt25 (by rfl) (by exact cells_map (f := int) (fun _ => rfl)) ⟨_, by rfl⟩ (by first | rfl | simp [Bound]) (subL_le _ hv19) (subL_map _ hv19) (by rfl) ?_
  obtain ⟨v20, hv20, h⟩ := bindE h
  refine X.append elt25 zer3 (by rfl) (by rfl) (by first | rfl | simp [setL] | omega) (by rfl) (.pure _) (by exact cells_map (f := int) (fun _ => rfl)) (appL_len int hv20) (appL_map int hv20) (by rfl) (by rfl) (by rfl) (by rfl) ?_
  refine X.an ?_
  cases h
  refine R.castS (t := 4) _ (by rfl) (.inr (.inr ⟨_, _, _, _, _, rfl, (by rfl), (by first | rfl | simp [setL] | omega), rfl⟩)) ?_
  refine R.f1 Tryz.results49 ?_
  rfl
theorem s_SetOf_pc (b0 : List Int) (r : List Int) (h : s_SetOf b0 = some r) : PC Tryz.prog 25 [.slice (b0.map int)] (.slice (r.map int)) := by
 unfold s_SetOf at h
 refine PC.start Tryz.func25 Tryz.ntmps25 rfl ok25 rfl ?_
 refine Run.sr ?_
 refine X.an ?_
 refine Run.sr ?_
 refine X.buildSlice false elt25 zer3 (by rfl) (by rfl) (by rfl) (by rfl) (by rfl) (by rfl) (by repeat (first | trivial | refine ⟨by first | rfl | simp [setL], ?_⟩)) (allSz_spec (by rfl)) (by rfl) (by rfl) (by rfl) ?_
 refine X.an ?_
 refine Run.seq ?_
 refine Run.sr ?_
 refine X.mv ?_
 refine X.ls elt25 ?_
 refine X.mn ?_
 obtain ⟨o1, ho1, h⟩ := bindE h
 refine R.join2 (β := (List Int)) [] [] (fun p14 S => (3, .slice (p14.map int)) :: S) (fun p14 M => M) (fun p14 => p14 = o1) ?_ ?_
 ·intro JJ4 hmeet3
  have hup2 := h; clear h; have h := ho1; clear ho1
  refine Run.block ?_
  refine R.castS (t := 3) _ (by rfl) (.inr (.inr ⟨_, _, _, _, _, rfl, (by rfl), (by first | rfl | simp [setL] | omega), rfl⟩)) ?_
  refine R.bndS (t := 0) (by rfl) (fun hbd7 => ?_)
  replace hbd7 : b0.length ≤ 9223372036854775807 := by first | (rw [List.length_map] at hbd7; exact hbd7) | simp
  refine R.lp (β := Int × (List Int)) [(7, .slice (b0.map int)), (8, int (b0.length : Int))] [] (fun bb S => (3, .slice (bb.2.map int)) :: (9, int bb.1) :: S) (fun bb M => M) (fun n bb => 0 ≤ bb.1 ∧ bb.1 + n = (b0.length : Int) ∧ s_SetOf_L1 (b0.drop bb.1.toNat) bb.1 bb.2 = some o1) b0.length (0, ([] : List Int)) ⟨Int.le_refl _, by simp, h⟩ ?_
  clear h
  rintro JJ7 n7 ⟨z8, a9⟩ hag7 ⟨hza7, hzb7, h⟩
  dsimp only at hza7 hzb7 h
  refine Run.sr ?_
  refine X.bi ?_
  refine X.nil ?_
  refine Run.seq ?_
  refine R.cd (fun hc12 => ?_) (fun hc12 => ?_)
  ·obtain ⟨x10, xs11, hd7, hx7, hds7, hlt7⟩ := drop_atI hza7 hc12
   rw [hd7] at h
   rw [s_SetOf_L1] at h
   refine Run.skip ?_
   refine Run.seq ?_
   refine Run.block ?_
   refine Run.sr ?_
   refine X.ix elt25 (idxL_spec hx7).1 (idxL_map int hx7) ?_
   refine X.lc shp3 ?_
   refine X.an ?_
   refine Run.reg ?_
   refine X.mv ?_
   refine X.mv ?_
   obtain ⟨v13, hv13, h⟩ := bindE h
   refine X.cp (s_l02Put_pc _ _ _ hv13) ?_
   refine X.an ?_
   refine Run.blk ?_
   refine Run.reg ?_
   refine X.ad ?_
   refine X.mn ?_
   exact R.ag hag7 (n7 - 1) (z8 + 1, v13) (R.n3 (by first | (rw [hds7]; exact h) | (dsimp only; rw [hds7]; exact h)))
  ·rw [drop_endI hza7 hc12] at h
   rw [s_SetOf_L1] at h
   refine Run.exit (by rfl) ?_
   exact R.mt hmeet3 a9 (Option.some.inj h)
 rintro p14 rfl
 refine Run.sr ?_
 refine X.mv ?_
 refine X.an ?_
 cases h
 refine R.f1 Tryz.results25 ?_
 rfl
theorem s_SetAdd_pc (b0 : List Int) (b1 : Int) (r : List Int) (h : s_SetAdd b0 b1 = some r) : PC Tryz.prog 23 [.slice (b0.map int), int b1] (.slice (r.map int)) := by
 unfold s_SetAdd at h
 refine PC.start Tryz.func23 Tryz.ntmps23 rfl ok23 rfl ?_
 refine Run.sr ?_
 refine X.an ?_
 refine Run.sr ?_
 refine X.mv ?_
 obtain ⟨v1, hv1, h⟩ := bindE h
 refine X.cp (s_SetOf_pc _ _ hv1) ?_
 refine X.mv ?_
 obtain ⟨v2, hv2, h⟩ := bindE h
 refine X.cp (s_l02Put_pc _ _ _ hv2) ?_
 refine X.an ?_
 cases h
 refine R.f1 Tryz.results23 ?_
 rfl
theorem s_Intervals_pc (b0 : TProject) (b1 : TDomain) (r : List (List Int)) (h : s_Intervals b0 b1 = some r) : PC Tryz.prog 6 [eTProject b0, eTDomain b1] (.fresh false 25 1 (r.map l_int)) := by
 unfold s_Intervals at h
 refine PC.start Tryz.func6 Tryz.ntmps6 rfl ok6 rfl ?_
 refine Run.sr ?_
 refine X.bx ?_
 refine X.bx ?_
 refine X.an ?_
 refine Run.sr ?_
 refine X.buildSlice false elt28 zer25 (by rfl) (by rfl) (by rfl) (by rfl) (by rfl) (by rfl) (by repeat (first | trivial | refine ⟨by first | rfl | simp [setL], ?_⟩)) (allSz_spec (by rfl)) (by rfl) (by rfl) (by rfl) ?_
 refine X.an ?_
 refine Run.seq ?_
 refine Run.sr ?_
 refine X.ld shp38 ?_
 refine X.ld shp40 ?_
 obtain ⟨v1, hv1, h⟩ := bindE h
 refine X.cp (s_l14Ok_pc _ _ _ hv1) ?_
 refine X.un (by rfl) (by rfl) (by rfl) ?_
 refine X.nil ?_
 refine R.cd (fun hc2 => ?_) (fun hc2 => ?_)
 ·replace h := condT hc2 h
  refine Run.sr ?_
  refine X.an ?_
  cases h
  refine R.fin1n (x := false) (e := 25) (sz := 1) Tryz.results6 (by rfl) (by decide) ?_
  rfl
 ·replace h := condF hc2 h
  refine Run.skip ?_
  refine Run.sr ?_
  refine X.buildSlice false elt25 zer3 (by rfl) (by rfl) (by rfl) (by rfl) (by rfl) (by rfl) (by repeat (first | trivial | refine ⟨by first | rfl | simp [setL], ?_⟩)) (allSz_spec (by rfl)) (by rfl) (by rfl) (by rfl) ?_
  refine X.an ?_
  refine Run.seq ?_
  refine Run.sr ?_
  refine X.fl fld38_1 ?_
  refine X.ld shp34 ?_
  refine X.ls elt34 ?_
  refine X.mn ?_
  obtain ⟨o3, ho3, h⟩ := bindE h
  refine R.join2 (β := (List Int)) [(3, .lptr 192 0)] [(192, .blk true [.slice (b1.MinStart.map int), .slice (b1.MaxStart.map int), .slice (b1.Modes.map l_int)]), (768, .obj false 25 1 (([] : List (List Int)).map l_int))] (fun p19 S => (5, .own 768 (([] : List (List Int)).map l_int).length) :: (6, .slice (p19.map int)) :: S) (fun p19 M => M) (fun p19 => p19 = o3) ?_ ?_
  ·intro JJ6 hmeet5
   have hup4 := h; clear h; have h := ho3; clear ho3
   refine Run.block ?_
   refine R.castS (t := 6) _ (by rfl) (.inr (.inr ⟨_, _, _, _, _, rfl, (by rfl), (by first | rfl | simp [setL] | omega), rfl⟩)) ?_
   refine R.bndS (t := 19) (by rfl) (fun hbd9 => ?_)
   replace hbd9 : b0.Activities.length ≤ 9223372036854775807 := by first | (rw [List.length_map] at hbd9; exact hbd9) | simp
   refine R.lp (β := Int × (List Int)) [(2, .lptr 128 0), (3, .lptr 192 0), (20, int (b0.Activities.length : Int))] [(128, .blk true [int b0.Deadline, .slice (b0.Activities.map eTActivity), .slice (b0.Links.map eTLink), .slice (b0.Resources.map eTResource), .slice (b0.Stocks.map int)]), (192, .blk true [.slice (b1.MinStart.map int), .slice (b1.MaxStart.map int), .slice (b1.Modes.map l_int)]), (768, .obj false 25 1 (([] : List (List Int)).map l_int))] (fun bb S => (5, .own 768 (([] : List (List Int)).map l_int).length) :: (6, .slice (bb.2.map int)) :: (21, int bb.1) :: S) (fun bb M => M) (fun n bb => 0 ≤ bb.1 ∧ bb.1 + n = (b0.Activities.length : Int) ∧ s_Intervals_L1 b1 (b0.Activities.drop bb.1.toNat) bb.1 bb.2 = some o3) b0.Activities.length (0, ([] : List Int)) ⟨Int.le_refl _, by simp, h⟩ ?_
   clear h
   rintro JJ9 n9 ⟨z10, a11⟩ hag9 ⟨hza9, hzb9, h⟩
   dsimp only at hza9 hzb9 h
   refine Run.sr ?_
   refine X.bi ?_
   refine X.nil ?_
   refine Run.seq ?_
   refine R.cd (fun hc14 => ?_) (fun hc14 => ?_)
   ·obtain ⟨x12, xs13, hd9, hx9, hds9, hlt9⟩ := drop_atI hza9 hc14
    rw [hd9] at h
    rw [s_Intervals_L1] at h
    refine Run.skip ?_
    refine Run.seq ?_
    refine Run.block ?_
    refine Run.sr ?_
    refine X.mv ?_
    refine X.an ?_
    refine Run.draw (footOf [(2, ([192], [], [], [])), (7, ([128], [], [], [])), (12, ([192], [], [], []))]) mixed (by kernel_rfl) (by kernel_rfl) ?_
    refine X.mv ?_
    refine X.fl fld40_1 ?_
    refine X.ld shp25 ?_
    refine X.mv ?_
    obtain ⟨v15, hv15, h⟩ := bindE h
    refine X.ix elt25 (idxL_spec hv15).1 (idxL_map int hv15) ?_
    refine X.lc shp3 ?_
    refine X.fl fld38_1 ?_
    refine X.ld shp34 ?_
    refine X.mv ?_
    refine X.ix elt34 (idxL_spec hx9).1 (idxL_map eTActivity hx9) ?_
    refine X.lc shp58 ?_
    refine X.fl fld40_2 ?_
    refine X.ld shp28 ?_
    refine X.mv ?_
    obtain ⟨v16, hv16, h⟩ := bindE h
    refine X.ix elt28 (idxL_spec hv16).1 (idxL_map l_int hv16) ?_
    refine X.lc shp25 ?_
    obtain ⟨v17, hv17, h⟩ := bindE h
    refine X.cp (s_MaxDuration_pc _ _ _ hv17) ?_
    refine X.addW (by rfl) (by rfl) (by rfl) ?_
    obtain ⟨v18, hv18, h⟩ := bindE h
    refine X.cp (s_SetAdd_pc _ _ _ hv18) ?_
    refine X.an ?_
    refine Run.blk ?_
    refine Run.reg ?_
    refine X.ad ?_
    refine X.mn ?_
    exact R.ag hag9 (n9 - 1) (z10 + 1, v18) (R.n3 (by first | (rw [hds9]; exact h) | (dsimp only; rw [hds9]; exact h)))
   ·rw [drop_endI hza9 hc14] at h
    rw [s_Intervals_L1] at h
    refine Run.exit (by rfl) ?_
    exact R.mt hmeet5 a11 (Option.some.inj h)
  rintro p19 rfl
  refine Run.seq ?_
  refine Run.sr ?_
  refine X.fl fld40_0 ?_
  refine X.ld shp25 ?_
  obtain ⟨v20, hv20, h⟩ := bindE h
  refine X.cp (s_SetOf_pc _ _ hv20) ?_
  refine X.ls elt25 ?_
  refine X.mn ?_
  obtain ⟨o21, ho21, h⟩ := bindE h
  refine R.join2 (β := (List (List Int))) [] [] (fun p53 S => (5, .own 768 (p53.map l_int).length) :: S) (fun p53 M => (768, .obj false 25 1 (p53.map l_int)) :: M) (fun p53 => p53 = o21) ?_ ?_
  ·intro JJ24 hmeet23
   have hup22 := h; clear h; have h := ho21; clear ho21
   refine Run.block ?_
   refine R.bndS (t := 46) (by rfl) (fun hbd27 => ?_)
   replace hbd27 : v20.length ≤ 9223372036854775807 := by first | (rw [List.length_map] at hbd27; exact hbd27) | simp
   refine R.lp (β := Int × (List (List Int))) [(6, .slice (p19.map int)), (46, .slice (v20.map int)), (47, int (v20.length : Int))] [] (fun bb S => (5, .own 768 (bb.2.map l_int).length) :: (48, int bb.1) :: S) (fun bb M => (768, .obj false 25 1 (bb.2.map l_int)) :: M) (fun n bb => 0 ≤ bb.1 ∧ bb.1 + n = (v20.length : Int) ∧ s_Intervals_L2 p19 (v20.drop bb.1.toNat) bb.1 bb.2 = some o21) v20.length (0, ([] : List (List Int))) ⟨Int.le_refl _, by simp, h⟩ ?_
   clear h
   rintro JJ27 n27 ⟨z28, a29⟩ hag27 ⟨hza27, hzb27, h⟩
   dsimp only at hza27 hzb27 h
   refine Run.sr ?_
   refine X.bi ?_
   refine X.nil ?_
   refine Run.seq ?_
   refine R.cd (fun hc32 => ?_) (fun hc32 => ?_)
   ·obtain ⟨x30, xs31, hd27, hx27, hds27, hlt27⟩ := drop_atI hza27 hc32
    rw [hd27] at h
    rw [s_Intervals_L2] at h
    refine Run.skip ?_
    refine Run.seq ?_
    refine Run.block ?_
    refine Run.sr ?_
    refine X.ix elt25 (idxL_spec hx27).1 (idxL_map int hx27) ?_
    refine X.lc shp3 ?_
    refine X.an ?_
    refine Run.sr ?_
    refine X.mv ?_
    refine X.ls elt25 ?_
    refine X.mn ?_
    obtain ⟨o33, ho33, h⟩ := bindE h
    refine R.join2 (β := (List (List Int))) [(6, .slice (p19.map int)), (46, .slice (v20.map int)), (47, int (v20.length : Int)), (48, int z28)] [] (fun p52 S => (5, .own 768 (p52.map l_int).length) :: S) (fun p52 M => (768, .obj false 25 1 (p52.map l_int)) :: M) (fun p52 => p52 = o33) ?_ ?_
    ·intro JJ36 hmeet35
     have hup34 := h; clear h; have h := ho33; clear ho33
     refine Run.block ?_
     refine R.bndS (t := 6) (by rfl) (fun hbd39 => ?_)
     replace hbd39 : p19.length ≤ 9223372036854775807 := by first | (rw [List.length_map] at hbd39; exact hbd39) | simp
     refine R.lp (β := Int × (List (List Int))) [(6, .slice (p19.map int)), (9, int x30), (46, .slice (v20.map int)), (47, int (v20.length : Int)), (48, int z28), (52, .slice (p19.map int)), (53, int (p19.length : Int))] [] (fun bb S => (5, .own 768 (bb.2.map l_int).length) :: (54, int bb.1) :: S) (fun bb M => (768, .obj false 25 1 (bb.2.map l_int)) :: M) (fun n bb => 0 ≤ bb.1 ∧ bb.1 + n = (p19.length : Int) ∧ s_Intervals_L3 x30 (p19.drop bb.1.toNat) bb.1 bb.2 = some o33) p19.length (0, a29) ⟨Int.le_refl _, by simp, h⟩ ?_
     clear h
     rintro JJ39 n39 ⟨z40, a41⟩ hag39 ⟨hza39, hzb39, h⟩
     dsimp only at hza39 hzb39 h
     refine Run.sr ?_
     refine X.bi ?_
     refine X.nil ?_
     refine Run.seq ?_
     refine R.cd (fun hc44 => ?_) (fun hc44 => ?_)
     ·obtain ⟨x42, xs43, hd39, hx39, hds39, hlt39⟩ := drop_atI hza39 hc44
      rw [hd39] at h
      rw [s_Intervals_L3] at h
      refine Run.skip ?_
      refine Run.seq ?_
      refine Run.block ?_
      refine Run.sr ?_
      refine X.ix elt25 (idxL_spec hx39).1 (idxL_map int hx39) ?_
      refine X.lc shp3 ?_
      refine X.an ?_
      refine Run.seq ?_
      obtain ⟨e45, he45, h2⟩ := bindE h
      refine R.regG [(5, .own 768 (a41.map l_int).length), (6, .slice (p19.map int)), (9, int x30), (11, int x42), (46, .slice (v20.map int)), (47, int (v20.length : Int)), (48, int z28), (52, .slice (p19.map int)), (53, int (p19.length : Int)), (54, int z40), (68, bool e45)] [(768, .obj false 25 1 (a41.map l_int))] ?_ ?_
      ·clear h; have h := he45; clear he45 h2
       refine X.mv ?_
       refine X.mv ?_
       refine X.bi ?_
       refine X.mv ?_
       refine X.iG (fun hb46 => ?_) (fun hb46 => ?_)
       ·replace h := condT hb46 h
        refine X.mv ?_
        refine X.gy ?_
        obtain ⟨v47, hv47, h⟩ := bindE h
        refine X.cp (s_l01In_pc _ _ _ _ hv47) ?_
        refine X.pT ?_
        refine X.mv ?_
        refine X.iG (fun hb48 => ?_) (fun hb48 => ?_)
        ·replace h := condT hb48 h
         refine X.mv ?_
         refine X.gy ?_
         obtain ⟨v49, hv49, h⟩ := bindE h
         refine X.cp (s_l01In_pc _ _ _ _ hv49) ?_
         refine X.pT ?_
         cases h
         exact X.eG
        ·replace h := condF hb48 h
         refine X.gn ?_
         refine X.pF ?_
         cases h
         exact X.eG
       ·replace h := condF hb46 h
        refine X.gn ?_
        refine X.pF ?_
        refine X.mv ?_
        refine X.gn ?_
        refine X.gn ?_
        refine X.pF ?_
        cases h
        exact X.eG
      replace h := h2; clear h2
      refine R.cd (fun hc50 => ?_) (fun hc50 => ?_)
      ·replace h := condT hc50 h
       refine Run.reg ?_
       refine X.mv ?_
       refine X.mv ?_
       refine X.mv ?_
       refine X.buildSlice false elt25 zer3 (by rfl) (by rfl) (by rfl) (by rfl) (by rfl) (by rfl) (by repeat (first | trivial | refine ⟨by first | rfl | simp [setL], ?_⟩)) (allSz_spec (by rfl)) (by rfl) (by rfl) (by rfl) ?_
       refine X.buildSlice false elt28 zer25 (by rfl) (by rfl) (by rfl) (by rfl) (by rfl) (by rfl) (by repeat (first | trivial | refine ⟨by first | rfl | simp [setL], ?_⟩)) (allSz_spec (by rfl)) (by rfl) (by rfl) (by rfl) ?_
       obtain ⟨v51, hv51, h⟩ := bindE h
       refine X.append elt28 zer25 (by rfl) (by rfl) (by first | rfl | simp [setL] | omega) (by rfl) (.own _ _ _ _ _ _ (look_mem (by rfl)) (by first | rfl | simp [setL] | omega)) (allSz_spec (by rfl)) (appL_len l_int hv51) (appL_map l_int hv51) (by rfl) (by rfl) (by rfl) (by rfl) ?_
       refine X.an ?_
       refine Run.blk ?_
       refine Run.reg ?_
       refine X.ad ?_
       refine X.mn ?_
       exact R.ag hag39 (n39 - 1) (z40 + 1, v51) (R.n3 (by first | (rw [hds39]; exact h) | (dsimp only; rw [hds39]; exact h)))
      ·replace h := condF hc50 h
       refine Run.skip ?_
       refine Run.blk ?_
       refine Run.reg ?_
       refine X.ad ?_
       refine X.mn ?_
       exact R.ag hag39 (n39 - 1) (z40 + 1, a41) (R.n3 (by first | (rw [hds39]; exact h) | (dsimp only; rw [hds39]; exact h)))
     ·rw [drop_endI hza39 hc44] at h
      rw [s_Intervals_L3] at h
      refine Run.exit (by rfl) ?_
      exact R.mt hmeet35 a41 (Option.some.inj h)
    rintro p52 rfl
    refine Run.blk ?_
    refine Run.reg ?_
    refine X.ad ?_
    refine X.mn ?_
    exact R.ag hag27 (n27 - 1) (z28 + 1, p52) (R.n3 (by first | (rw [hds27]; exact h) | (dsimp only; rw [hds27]; exact h)))
   ·rw [drop_endI hza27 hc32] at h
    rw [s_Intervals_L2] at h
    refine Run.exit (by rfl) ?_
    exact R.mt hmeet23 a29 (Option.some.inj h)
  rintro p53 rfl
  refine Run.sr ?_
  refine X.mv ?_
  refine X.an ?_
  cases h
  refine R.fin1o Tryz.results6 (by rfl) (by rfl) (by first | rfl | simp [setL] | omega) ?_
  rfl
theorem i_within_pc (b0 : Int) (b1 : Int) (b2 : Int) (r : Bool) (h : i_within b0 b1 b2 = some r) : PC Tryz.prog 60 [int b0, int b1, int b2] (bool r) := by
 unfold i_within at h
 refine PC.start Tryz.func60 Tryz.ntmps60 rfl ok60 rfl ?_
 refine Run.sr ?_
 refine X.an ?_
 refine Run.seq ?_
 obtain ⟨e1, he1, h2⟩ := bindE h
 refine R.regG [(6, bool e1)] [] ?_ ?_
 ·clear h; have h := he1; clear he1 h2
  refine X.mv ?_
  refine X.mv ?_
  refine X.bi ?_
  refine X.mv ?_
  refine X.iG (fun hb2 => ?_) (fun hb2 => ?_)
  ·replace h := condT hb2 h
   refine X.mv ?_
   refine X.gy ?_
   refine X.mv ?_
   refine X.gy ?_
   refine X.bi ?_
   refine X.pT ?_
   refine X.as ?_
   cases h
   exact X.eG
  ·replace h := condF hb2 h
   refine X.gn ?_
   refine X.gn ?_
   refine X.pF ?_
   refine X.as ?_
   cases h
   exact X.eG
 replace h := h2; clear h2
 cases h
 refine R.f1 Tryz.results60 ?_
 rfl
theorem i_isAmount_pc (b0 : Int) (r : Bool) (h : i_isAmount b0 = some r) : PC Tryz.prog 135 [int b0] (bool r) := by
 unfold i_isAmount at h
 refine PC.start Tryz.func135 Tryz.ntmps135 rfl ok135 rfl ?_
 refine Run.sr ?_
 refine X.an ?_
 refine Run.sr ?_
 refine X.mv ?_
 obtain ⟨v1, hv1, h⟩ := bindE h
 refine X.cp (i_within_pc _ _ _ _ hv1) ?_
 refine X.an ?_
 cases h
 refine R.f1 Tryz.results135 ?_
 rfl
theorem i_areAmounts_pc (b0 : List Int) (b1 : Int) (r : Bool) (h : i_areAmounts b0 b1 = some r) : PC Tryz.prog 134 [.slice (b0.map int), int b1] (bool r) := by
 unfold i_areAmounts at h
 refine PC.start Tryz.func134 Tryz.ntmps134 rfl ok134 rfl ?_
 refine Run.sr ?_
 refine X.an ?_
 refine Run.seq ?_
 refine Run.sr ?_
 refine X.mv ?_
 refine X.ls elt25 ?_
 refine X.mn ?_
 obtain ⟨o1, ho1, h⟩ := bindE h
 refine R.join2 (β := Unit) [(0, .slice (b0.map int)), (1, int b1)] [] (fun p14 S => S) (fun p14 M => M) (fun p14 => (Sum.inl p14) = o1) ?_ ?_
 ·intro JJ4 hmeet3
  have hup2 := h; clear h; have h := ho1; clear ho1
  refine Run.block ?_
  refine R.bndS (t := 0) (by rfl) (fun hbd7 => ?_)
  replace hbd7 : b0.length ≤ 9223372036854775807 := by first | (rw [List.length_map] at hbd7; exact hbd7) | simp
  refine R.lp (β := Int) [(0, .slice (b0.map int)), (1, int b1), (7, .slice (b0.map int)), (8, int (b0.length : Int))] [] (fun bb S => (9, int bb) :: S) (fun bb M => M) (fun n bb => 0 ≤ bb ∧ bb + n = (b0.length : Int) ∧ i_areAmounts_L1 (b0.drop bb.toNat) bb = some o1) b0.length (0 : Int) ⟨Int.le_refl _, by simp, h⟩ ?_
  clear h
  rintro JJ7 n7 z8 hag7 ⟨hza7, hzb7, h⟩
  refine Run.sr ?_
  refine X.bi ?_
  refine X.nil ?_
  refine Run.seq ?_
  refine R.cd (fun hc11 => ?_) (fun hc11 => ?_)
  ·obtain ⟨x9, xs10, hd7, hx7, hds7, hlt7⟩ := drop_atI hza7 hc11
   rw [hd7] at h
   rw [i_areAmounts_L1] at h
   refine Run.skip ?_
   refine Run.seq ?_
   refine Run.block ?_
   refine Run.sr ?_
   refine X.ix elt25 (idxL_spec hx7).1 (idxL_map int hx7) ?_
   refine X.lc shp3 ?_
   refine X.an ?_
   refine Run.sr ?_
   refine X.mv ?_
   obtain ⟨v12, hv12, h⟩ := bindE h
   refine X.cp (i_isAmount_pc _ _ hv12) ?_
   refine X.un (by rfl) (by rfl) (by rfl) ?_
   refine X.nil ?_
   refine R.cd (fun hc13 => ?_) (fun hc13 => ?_)
   ·replace h := condT hc13 h
    refine Run.sr ?_
    refine X.an ?_
    cases h
    have h := hup2
    replace h := elimR h
    cases h
    refine R.f1 Tryz.results134 ?_
    rfl
   ·replace h := condF hc13 h
    refine Run.skip ?_
    refine Run.blk ?_
    refine Run.reg ?_
    refine X.ad ?_
    refine X.mn ?_
    exact R.ag hag7 (n7 - 1) (z8 + 1) (R.n3 (by first | (rw [hds7]; exact h) | (dsimp only; rw [hds7]; exact h)))
  ·rw [drop_endI hza7 hc11] at h
   rw [i_areAmounts_L1] at h
   refine Run.exit (by rfl) ?_
   exact R.mt hmeet3 () (Option.some.inj h)
 rintro p14 rfl
 replace h := elimL h
 refine Run.sr ?_
 refine X.mv ?_
 refine X.ls elt25 ?_
 refine X.mv ?_
 refine X.bi ?_
 refine X.an ?_
 cases h
 refine R.f1 Tryz.results134 ?_
 rfl
theorem i_ModeOk_pc (b0 : TMode) (b1 : Int) (b2 : Int) (r : Bool) (h : i_ModeOk b0 b1 b2 = some r) : PC Tryz.prog 119 [eTMode b0, int b1, int b2] (bool r) := by
 unfold i_ModeOk at h
 refine PC.start Tryz.func119 Tryz.ntmps119 rfl ok119 rfl ?_
 refine Run.sr ?_
 refine X.bx ?_
 refine X.an ?_
 refine Run.seq ?_
 obtain ⟨v1, hv1, h⟩ := bindE h
 obtain ⟨e2, he2, h2⟩ := bindE h
 refine R.regG [(6, bool e2)] [] ?_ ?_
 ·clear h; have h := he2; clear he2 h2
  refine X.fl fld83_0 ?_
  refine X.ld shp3 ?_
  refine X.cp (i_within_pc _ _ _ _ hv1) ?_
  refine X.mv ?_
  refine X.iG (fun hb3 => ?_) (fun hb3 => ?_)
  ·replace h := condT hb3 h
   refine X.fl fld83_1 ?_
   refine X.gy ?_
   refine X.ld shp25 ?_
   refine X.gy ?_
   refine X.mv ?_
   refine X.gy ?_
   obtain ⟨v4, hv4, h⟩ := bindE h
   refine X.cp (i_areAmounts_pc _ _ _ hv4) ?_
   refine X.pT ?_
   refine X.mv ?_
   refine X.iG (fun hb5 => ?_) (fun hb5 => ?_)
   ·replace h := condT hb5 h
    refine X.fl fld83_2 ?_
    refine X.gy ?_
    refine X.ld shp25 ?_
    refine X.gy ?_
    refine X.mv ?_
    refine X.gy ?_
    obtain ⟨v6, hv6, h⟩ := bindE h
    refine X.cp (i_areAmounts_pc _ _ _ hv6) ?_
    refine X.pT ?_
    refine X.as ?_
    cases h
    exact X.eG
   ·replace h := condF hb5 h
    refine X.gn ?_
    refine X.gn ?_
    refine X.gn ?_
    refine X.pF ?_
    refine X.as ?_
    cases h
    exact X.eG
  ·replace h := condF hb3 h
   refine X.gn ?_
   refine X.gn ?_
   refine X.gn ?_
   refine X.pF ?_
   refine X.mv ?_
   refine X.gn ?_
   refine X.gn ?_
   refine X.gn ?_
   refine X.gn ?_
   refine X.pF ?_
   refine X.as ?_
   cases h
   exact X.eG
 replace h := h2; clear h2
 cases h
 refine R.f1 Tryz.results119 ?_
 rfl
theorem i_IsName_pc (b0 : ByteArray) (r : Bool) (h : i_IsName b0 = some r) : PC Tryz.prog 120 [str b0] (bool r) := by
 unfold i_IsName at h
 refine PC.start Tryz.func120 Tryz.ntmps120 rfl ok120 rfl ?_
 refine Run.sr ?_
 refine X.an ?_
 refine Run.seq ?_
 refine Run.sr ?_
 refine X.mv ?_
 refine X.lenStr Tryz.underlying9 (by rfl) (by rfl) ?_
 refine X.mn ?_
 obtain ⟨o1, ho1, h⟩ := bindE h
 refine R.join2 (β := Unit) [(0, str b0)] [] (fun p19 S => S) (fun p19 M => M) (fun p19 => (Sum.inl p19) = o1) ?_ ?_
 ·intro JJ4 hmeet3
  have hup2 := h; clear h; have h := ho1; clear ho1
  refine Run.block ?_
  refine R.lp (β := Int) [(0, str b0), (6, int (b0.size : Int))] [] (fun bb S => (7, int bb) :: S) (fun bb M => M) (fun n bb => i_IsName_L1 b0 n bb = some o1) F0 0 h ?_
  clear h
  rintro JJ5 n5 a7 hag5 h
  obtain _ | n5 := n5
  ·exact absurd h (by simp [i_IsName_L1])
  rw [i_IsName_L1] at h
  refine Run.sr ?_
  refine X.bi ?_
  refine X.nil ?_
  refine Run.seq ?_
  refine R.cd (fun hc10 => ?_) (fun hc10 => ?_)
  ·replace h := condT hc10 h
   refine Run.skip ?_
   refine Run.seq ?_
   refine Run.block ?_
   refine Run.sr ?_
   refine X.mv ?_
   refine X.an ?_
   refine Run.seq ?_
   obtain ⟨v11, hv11, h⟩ := bindE h
   obtain ⟨e12, he12, h2⟩ := bindE h
   refine R.regG [(0, str b0), (3, int a7), (4, bool e12), (6, int (b0.size : Int)), (7, int a7)] [] ?_ ?_
   ·clear h; have h := he12; clear he12 h2
    refine X.mv ?_
    refine X.mv ?_
    refine X.indexStr2 hv11 Tryz.underlying9 (by rfl) (by rfl) (by rfl) ?_
    refine X.bi ?_
    refine X.mv ?_
    refine X.iG (fun hb13 => ?_) (fun hb13 => ?_)
    ·replace h := condT hb13 h
     refine X.mv ?_
     refine X.gy ?_
     refine X.mv ?_
     refine X.gy ?_
     refine X.indexStr2 hv11 Tryz.underlying9 (by rfl) (by rfl) (by rfl) ?_
     refine X.gy ?_
     refine X.bi ?_
     refine X.pT ?_
     refine X.as ?_
     cases h
     exact X.eG
    ·replace h := condF hb13 h
     refine X.gn ?_
     refine X.gn ?_
     refine X.gn ?_
     refine X.pF ?_
     refine X.as ?_
     cases h
     exact X.eG
   replace h := h2; clear h2
   refine Run.seq ?_
   obtain ⟨e14, he14, h2⟩ := bindE h
   refine R.regG [(0, str b0), (6, int (b0.size : Int)), (7, int a7), (37, bool e14)] [] ?_ ?_
   ·clear h; have h := he14; clear he14 h2
    refine X.mv ?_
    refine X.un (by rfl) (by rfl) (by rfl) ?_
    refine X.mv ?_
    refine X.iG (fun hb15 => ?_) (fun hb15 => ?_)
    ·replace h := condT hb15 h
     refine X.mv ?_
     refine X.gy ?_
     refine X.bi ?_
     refine X.gy ?_
     refine X.mv ?_
     refine X.iG (fun hb16 => ?_) (fun hb16 => ?_)
     ·replace h := condF hb16 h
      refine X.mv ?_
      refine X.gy ?_
      refine X.mv ?_
      refine X.gy ?_
      refine X.indexStr2 hv11 Tryz.underlying9 (by rfl) (by rfl) (by rfl) ?_
      refine X.gy ?_
      refine X.bi ?_
      refine X.gy ?_
      refine X.pF ?_
      refine X.gy ?_
      refine X.mv ?_
      refine X.iG (fun hb17 => ?_) (fun hb17 => ?_)
      ·replace h := condF hb17 h
       refine X.mv ?_
       refine X.gy ?_
       refine X.mv ?_
       refine X.gy ?_
       refine X.indexStr2 hv11 Tryz.underlying9 (by rfl) (by rfl) (by rfl) ?_
       refine X.gy ?_
       refine X.bi ?_
       refine X.gy ?_
       refine X.pF ?_
       refine X.pT ?_
       cases h
       exact X.eG
      ·replace h := condT hb17 h
       refine X.gn ?_
       refine X.gn ?_
       refine X.gn ?_
       refine X.gy ?_
       refine X.pT ?_
       refine X.pT ?_
       cases h
       exact X.eG
     ·replace h := condT hb16 h
      refine X.gn ?_
      refine X.gn ?_
      refine X.gn ?_
      refine X.gy ?_
      refine X.pT ?_
      refine X.gy ?_
      refine X.mv ?_
      refine X.gn ?_
      refine X.gn ?_
      refine X.gn ?_
      refine X.gn ?_
      refine X.gy ?_
      refine X.pT ?_
      refine X.pT ?_
      cases h
      exact X.eG
    ·replace h := condF hb15 h
     refine X.gn ?_
     refine X.gn ?_
     refine X.gU (by rfl) (by rfl) (by rfl) ?_
     refine X.gU (by rfl) (by rfl) (by rfl) ?_
     refine X.gU (by rfl) (by rfl) (by rfl) ?_
     refine X.gU (by rfl) (by rfl) (by rfl) ?_
     refine X.gn ?_
     refine X.gn ?_
     refine X.gU (by rfl) (by rfl) (by rfl) ?_
     refine X.gU (by rfl) (by rfl) (by rfl) ?_
     refine X.gU (by rfl) (by rfl) (by rfl) ?_
     refine X.gU (by rfl) (by rfl) (by rfl) ?_
     refine X.gn ?_
     refine X.pF ?_
     cases h
     exact X.eG
   replace h := h2; clear h2
   refine R.cd (fun hc18 => ?_) (fun hc18 => ?_)
   ·replace h := condT hc18 h
    refine Run.sr ?_
    refine X.an ?_
    cases h
    have h := hup2
    replace h := elimR h
    cases h
    refine R.f1 Tryz.results120 ?_
    rfl
   ·replace h := condF hc18 h
    refine Run.skip ?_
    refine Run.blk ?_
    refine Run.reg ?_
    refine X.addW (by rfl) (by rfl) (by rfl) ?_
    refine X.mn ?_
    exact hag5 n5 (W (a7 + 1)) _ _ (by omega) h (by trivial) (by trivial) (by rfl) (by rfl)
  ·replace h := condF hc10 h
   refine Run.exit (by rfl) ?_
   exact R.mt hmeet3 () (Option.some.inj h)
 rintro p19 rfl
 replace h := elimL h
 refine Run.sr ?_
 refine X.mv ?_
 refine X.lenStr Tryz.underlying9 (by rfl) (by rfl) ?_
 obtain ⟨v21, hv21, h⟩ := bindE h
 refine X.cp (i_within_pc _ _ _ _ hv21) ?_
 refine X.an ?_
 cases h
 refine R.f1 Tryz.results120 ?_
 rfl
theorem i_ActivityOk_pc (b0 : TActivity) (b1 : Int) (b2 : Int) (r : Bool) (h : i_ActivityOk b0 b1 b2 = some r) : PC Tryz.prog 94 [eTActivity b0, int b1, int b2] (bool r) := by
 unfold i_ActivityOk at h
 refine PC.start Tryz.func94 Tryz.ntmps94 rfl ok94 rfl ?_
 refine Run.sr ?_
 refine X.bx ?_
 refine X.an ?_
 refine Run.seq ?_
 refine Run.sr ?_
 refine X.fl fld58_2 ?_
 refine X.ld shp56 ?_
 refine X.ls elt56 ?_
 refine X.mn ?_
 obtain ⟨o1, ho1, h⟩ := bindE h
 refine R.join2 (β := Unit) [(3, .lptr 192 0)] [(192, .blk true [str b0.Name, int b0.Family, .slice (b0.Modes.map eTMode)])] (fun p14 S => S) (fun p14 M => M) (fun p14 => (Sum.inl p14) = o1) ?_ ?_
 ·intro JJ4 hmeet3
  have hup2 := h; clear h; have h := ho1; clear ho1
  refine Run.block ?_
  refine R.bndS (t := 10) (by rfl) (fun hbd7 => ?_)
  replace hbd7 : b0.Modes.length ≤ 9223372036854775807 := by first | (rw [List.length_map] at hbd7; exact hbd7) | simp
  refine R.lp (β := Int) [(1, int b1), (2, int b2), (3, .lptr 192 0), (10, .slice (b0.Modes.map eTMode)), (11, int (b0.Modes.length : Int))] [(192, .blk true [str b0.Name, int b0.Family, .slice (b0.Modes.map eTMode)])] (fun bb S => (12, int bb) :: S) (fun bb M => M) (fun n bb => 0 ≤ bb ∧ bb + n = (b0.Modes.length : Int) ∧ i_ActivityOk_L1 b1 b2 (b0.Modes.drop bb.toNat) bb = some o1) b0.Modes.length (0 : Int) ⟨Int.le_refl _, by simp, h⟩ ?_
  clear h
  rintro JJ7 n7 z8 hag7 ⟨hza7, hzb7, h⟩
  refine Run.sr ?_
  refine X.bi ?_
  refine X.nil ?_
  refine Run.seq ?_
  refine R.cd (fun hc11 => ?_) (fun hc11 => ?_)
  ·obtain ⟨x9, xs10, hd7, hx7, hds7, hlt7⟩ := drop_atI hza7 hc11
   rw [hd7] at h
   rw [i_ActivityOk_L1] at h
   refine Run.skip ?_
   refine Run.seq ?_
   refine Run.block ?_
   refine Run.sr ?_
   refine X.ix elt56 (idxL_spec hx7).1 (idxL_map eTMode hx7) ?_
   refine X.lc shp83 ?_
   refine X.alloc zer83 (by rfl) (by rfl) (by rfl) ?_
   refine X.sl shp83 ?_
   refine X.nil ?_
   refine Run.sr ?_
   refine X.ld shp83 ?_
   refine X.mv ?_
   refine X.mv ?_
   obtain ⟨v12, hv12, h⟩ := bindE h
   refine X.cp (i_ModeOk_pc _ _ _ _ hv12) ?_
   refine X.un (by rfl) (by rfl) (by rfl) ?_
   refine X.nil ?_
   refine R.cd (fun hc13 => ?_) (fun hc13 => ?_)
   ·replace h := condT hc13 h
    refine Run.sr ?_
    refine X.an ?_
    cases h
    have h := hup2
    replace h := elimR h
    cases h
    refine R.f1 Tryz.results94 ?_
    rfl
   ·replace h := condF hc13 h
    refine Run.skip ?_
    refine Run.blk ?_
    refine Run.reg ?_
    refine X.ad ?_
    refine X.mn ?_
    exact R.ag hag7 (n7 - 1) (z8 + 1) (R.n3 (by first | (rw [hds7]; exact h) | (dsimp only; rw [hds7]; exact h)))
  ·rw [drop_endI hza7 hc11] at h
   rw [i_ActivityOk_L1] at h
   refine Run.exit (by rfl) ?_
   exact R.mt hmeet3 () (Option.some.inj h)
 rintro p14 rfl
 replace h := elimL h
 refine Run.seq ?_
 obtain ⟨v16, hv16, h⟩ := bindE h
 obtain ⟨e17, he17, h2⟩ := bindE h
 refine R.regG [(6, bool e17)] [] ?_ ?_
 ·clear h; have h := he17; clear he17 h2
  refine X.fl fld58_0 ?_
  refine X.ld shp9 ?_
  refine X.cp (i_IsName_pc _ _ hv16) ?_
  refine X.mv ?_
  refine X.iG (fun hb18 => ?_) (fun hb18 => ?_)
  ·replace h := condT hb18 h
   refine X.fl fld58_1 ?_
   refine X.gy ?_
   refine X.ld shp3 ?_
   refine X.gy ?_
   obtain ⟨v19, hv19, h⟩ := bindE h
   refine X.cp (i_within_pc _ _ _ _ hv19) ?_
   refine X.pT ?_
   refine X.mv ?_
   refine X.iG (fun hb20 => ?_) (fun hb20 => ?_)
   ·replace h := condT hb20 h
    refine X.fl fld58_2 ?_
    refine X.gy ?_
    refine X.ld shp56 ?_
    refine X.gy ?_
    refine X.ls elt56 ?_
    refine X.gy ?_
    obtain ⟨v21, hv21, h⟩ := bindE h
    refine X.cp (i_within_pc _ _ _ _ hv21) ?_
    refine X.pT ?_
    refine X.as ?_
    cases h
    exact X.eG
   ·replace h := condF hb20 h
    refine X.gn ?_
    refine X.gn ?_
    refine X.gn ?_
    refine X.pF ?_
    refine X.as ?_
    cases h
    exact X.eG
  ·replace h := condF hb18 h
   refine X.gn ?_
   refine X.gn ?_
   refine X.pF ?_
   refine X.mv ?_
   refine X.gn ?_
   refine X.gn ?_
   refine X.gn ?_
   refine X.gn ?_
   refine X.pF ?_
   refine X.as ?_
   cases h
   exact X.eG
 replace h := h2; clear h2
 cases h
 refine R.f1 Tryz.results94 ?_
 rfl
theorem i_ActivityIndex_c1_pc (b0 : TActivity) (c1 : ByteArray) (r : Bool) (h : i_ActivityIndex_c1 b0 c1 = some r) : PC Tryz.prog 122 [eTActivity b0, .cptr (str c1 : PV).cells 0] (bool r) := by
 unfold i_ActivityIndex_c1 at h
 refine PC.start Tryz.func122 Tryz.ntmps122 rfl ok122 rfl ?_
 refine Run.sr ?_
 refine X.bx ?_
 refine X.an ?_
 refine Run.sr ?_
 refine X.fl fld58_0 ?_
 refine X.ld shp9 ?_
 refine X.lc shp9 ?_
 refine X.bi ?_
 refine X.an ?_
 cases h
 refine R.f1 Tryz.results122 ?_
 rfl
theorem slices_IndexFunc_Activity_pc (b0 : List TActivity) (g1 : TActivity → Option Bool) (g1id : Nat) (g1c : List PV) (hg1 : ∀ (x0 : TActivity) v, g1 x0 = some v → PC Tryz.prog g1id ([eTActivity x0] ++ g1c) (bool v)) (r : Int) (h : slices_IndexFunc_Activity b0 g1 = some r) : PC Tryz.prog 121 [.slice (b0.map eTActivity), .fn g1id g1c] (int r) := by
 unfold slices_IndexFunc_Activity at h
 refine PC.start Tryz.func121 Tryz.ntmps121 rfl ok121 rfl ?_
 refine Run.sr ?_
 refine X.an ?_
 refine Run.seq ?_
 refine Run.sr ?_
 refine X.mv ?_
 refine X.ls elt34 ?_
 refine X.mn ?_
 obtain ⟨o1, ho1, h⟩ := bindE h
 refine R.join2 (β := Unit) [] [] (fun p14 S => S) (fun p14 M => M) (fun p14 => (Sum.inl p14) = o1) ?_ ?_
 ·intro JJ4 hmeet3
  have hup2 := h; clear h; have h := ho1; clear ho1
  refine Run.block ?_
  refine R.bndS (t := 0) (by rfl) (fun hbd7 => ?_)
  replace hbd7 : b0.length ≤ 9223372036854775807 := by first | (rw [List.length_map] at hbd7; exact hbd7) | simp
  refine R.lp (β := Int) [(0, .slice (b0.map eTActivity)), (1, .fn g1id g1c), (7, int (b0.length : Int))] [] (fun bb S => (8, int bb) :: S) (fun bb M => M) (fun n bb => 0 ≤ bb ∧ bb + n = (b0.length : Int) ∧ slices_IndexFunc_Activity_L1 g1 (b0.drop bb.toNat) bb = some o1) b0.length (0 : Int) ⟨Int.le_refl _, by simp, h⟩ ?_
  clear h
  rintro JJ7 n7 z8 hag7 ⟨hza7, hzb7, h⟩
  refine Run.sr ?_
  refine X.bi ?_
  refine X.nil ?_
  refine Run.seq ?_
  refine R.cd (fun hc11 => ?_) (fun hc11 => ?_)
  ·obtain ⟨x9, xs10, hd7, hx7, hds7, hlt7⟩ := drop_atI hza7 hc11
   rw [hd7] at h
   rw [slices_IndexFunc_Activity_L1] at h
   refine Run.skip ?_
   refine Run.seq ?_
   refine Run.block ?_
   refine Run.sr ?_
   refine X.mv ?_
   refine X.an ?_
   refine Run.sr ?_
   refine X.mv ?_
   refine X.mv ?_
   refine X.mv ?_
   refine X.ix elt34 (idxL_spec hx7).1 (idxL_map eTActivity hx7) ?_
   refine X.lc shp58 ?_
   obtain ⟨v12, hv12, h⟩ := bindE h
   refine X.cp (hg1 _ _ hv12) ?_
   refine X.nil ?_
   refine R.cd (fun hc13 => ?_) (fun hc13 => ?_)
   ·replace h := condT hc13 h
    refine Run.sr ?_
    refine X.mv ?_
    refine X.an ?_
    cases h
    have h := hup2
    replace h := elimR h
    cases h
    refine R.f1 Tryz.results121 ?_
    rfl
   ·replace h := condF hc13 h
    refine Run.skip ?_
    refine Run.blk ?_
    refine Run.reg ?_
    refine X.ad ?_
    refine X.mn ?_
    exact R.ag hag7 (n7 - 1) (z8 + 1) (R.n3 (by first | (rw [hds7]; exact h) | (dsimp only; rw [hds7]; exact h)))
  ·rw [drop_endI hza7 hc11] at h
   rw [slices_IndexFunc_Activity_L1] at h
   refine Run.exit (by rfl) ?_
   exact R.mt hmeet3 () (Option.some.inj h)
 rintro p14 rfl
 replace h := elimL h
 refine Run.sr ?_
 refine X.an ?_
 cases h
 refine R.f1 Tryz.results121 ?_
 rfl
theorem i_ActivityIndex_pc (b0 : TProject) (b1 : ByteArray) (r : Int) (h : i_ActivityIndex b0 b1 = some r) : PC Tryz.prog 95 [eTProject b0, str b1] (int r) := by
 unfold i_ActivityIndex at h
 refine PC.start Tryz.func95 Tryz.ntmps95 rfl ok95 rfl ?_
 refine Run.sr ?_
 refine X.bx ?_
 refine X.bx ?_
 refine X.an ?_
 refine Run.seq ?_
 refine R.pubBlk (n := 192) (by rfl) (by rfl) (by repeat (first | trivial | refine ⟨by first | rfl | simp [setL], ?_⟩)) ?_
 refine Run.reg ?_
 refine X.fl fld38_1 ?_
 refine X.ld shp34 ?_
 refine X.makeFunc (by rfl) (by rfl) (by repeat (first | trivial | refine ⟨by first | rfl | simp [setL], ?_⟩)) (by rfl) (by rfl) ?_
 obtain ⟨v1, hv1, h⟩ := bindE h
 refine X.cp (slices_IndexFunc_Activity_pc _ (fun x0 => i_ActivityIndex_c1 x0 b1) _ _ (fun x0 v hv => i_ActivityIndex_c1_pc _ _ _ hv) _ hv1) ?_
 refine X.an ?_
 cases h
 refine R.f1 Tryz.results95 ?_
 rfl
theorem i_isTime_pc (b0 : Int) (r : Bool) (h : i_isTime b0 = some r) : PC Tryz.prog 35 [int b0] (bool r) := by
 unfold i_isTime at h
 refine PC.start Tryz.func35 Tryz.ntmps35 rfl ok35 rfl ?_
 refine Run.sr ?_
 refine X.an ?_
 refine Run.sr ?_
 refine X.mv ?_
 obtain ⟨v1, hv1, h⟩ := bindE h
 refine X.cp (i_within_pc _ _ _ _ hv1) ?_
 refine X.an ?_
 cases h
 refine R.f1 Tryz.results35 ?_
 rfl
theorem i_StepsOk_pc (b0 : List TStep) (r : Bool) (h : i_StepsOk b0 = some r) : PC Tryz.prog 123 [.slice (b0.map eTStep)] (bool r) := by
 unfold i_StepsOk at h
 refine PC.start Tryz.func123 Tryz.ntmps123 rfl ok123 rfl ?_
 refine Run.sr ?_
 refine X.an ?_
 refine Run.seq ?_
 refine Run.sr ?_
 refine X.mv ?_
 refine X.ls elt90 ?_
 refine X.mn ?_
 obtain ⟨o1, ho1, h⟩ := bindE h
 refine R.join2 (β := Unit) [(0, .slice (b0.map eTStep))] [] (fun p24 S => S) (fun p24 M => M) (fun p24 => (Sum.inl p24) = o1) ?_ ?_
 ·intro JJ4 hmeet3
  have hup2 := h; clear h; have h := ho1; clear ho1
  refine Run.block ?_
  refine R.bndS (t := 0) (by rfl) (fun hbd7 => ?_)
  replace hbd7 : b0.length ≤ 9223372036854775807 := by first | (rw [List.length_map] at hbd7; exact hbd7) | simp
  refine R.lp (β := Int) [(0, .slice (b0.map eTStep)), (5, .slice (b0.map eTStep)), (6, int (b0.length : Int))] [] (fun bb S => (7, int bb) :: S) (fun bb M => M) (fun n bb => 0 ≤ bb ∧ bb + n = (b0.length : Int) ∧ i_StepsOk_L1 b0 (b0.drop bb.toNat) bb = some o1) b0.length (0 : Int) ⟨Int.le_refl _, by simp, h⟩ ?_
  clear h
  rintro JJ7 n7 z8 hag7 ⟨hza7, hzb7, h⟩
  refine Run.sr ?_
  refine X.bi ?_
  refine X.nil ?_
  refine Run.seq ?_
  refine R.cd (fun hc11 => ?_) (fun hc11 => ?_)
  ·obtain ⟨x9, xs10, hd7, hx7, hds7, hlt7⟩ := drop_atI hza7 hc11
   rw [hd7] at h
   rw [i_StepsOk_L1] at h
   refine Run.skip ?_
   refine Run.seq ?_
   refine Run.block ?_
   refine Run.sr ?_
   refine X.mv ?_
   refine X.ix elt90 (idxL_spec hx7).1 (idxL_map eTStep hx7) ?_
   refine X.lc shp117 ?_
   refine X.alloc zer117 (by rfl) (by rfl) (by rfl) ?_
   refine X.as ?_
   refine X.sl shp117 ?_
   refine X.nil ?_
   refine Run.seq ?_
   obtain ⟨v12, hv12, h⟩ := bindE h
   obtain ⟨e13, he13, h2⟩ := bindE h
   refine R.drawG [(0, .slice (b0.map eTStep)), (5, .slice (b0.map eTStep)), (6, int (b0.length : Int)), (7, int z8), (45, bool e13)] [] (footOf [(1, ([256], [], [], [])), (6, ([256], [], [], [])), (15, ([256], [], [], [])), (24, ([256], [], [], []))]) mixed (by kernel_rfl) (by kernel_rfl) ?_ ?_
   ·clear h; have h := he13; clear he13 h2
    refine X.fl fld117_0 ?_
    refine X.ld shp3 ?_
    refine X.cp (i_isTime_pc _ _ hv12) ?_
    refine X.un (by rfl) (by rfl) (by rfl) ?_
    refine X.mv ?_
    refine X.iG (fun hb14 => ?_) (fun hb14 => ?_)
    ·replace h := condF hb14 h
     refine X.fl fld117_1 ?_
     refine X.gy ?_
     refine X.ld shp3 ?_
     refine X.gy ?_
     obtain ⟨v15, hv15, h⟩ := bindE h
     refine X.cp (i_isAmount_pc _ _ hv15) ?_
     refine X.gy ?_
     refine X.un (by rfl) (by rfl) (by rfl) ?_
     refine X.pF ?_
     refine X.mv ?_
     refine X.iG (fun hb16 => ?_) (fun hb16 => ?_)
     ·replace h := condF hb16 h
      refine X.mv ?_
      refine X.gy ?_
      refine X.bi ?_
      refine X.gy ?_
      refine X.mv ?_
      refine X.iG (fun hb17 => ?_) (fun hb17 => ?_)
      ·replace h := condT hb17 h
       refine X.fl fld117_0 ?_
       refine X.gy ?_
       refine X.ld shp3 ?_
       refine X.gy ?_
       refine X.bi ?_
       refine X.gy ?_
       refine X.pT ?_
       refine X.pF ?_
       refine X.mv ?_
       refine X.iG (fun hb18 => ?_) (fun hb18 => ?_)
       ·replace h := condF hb18 h
        refine X.mv ?_
        refine X.gy ?_
        refine X.bi ?_
        refine X.gy ?_
        refine X.mv ?_
        refine X.iG (fun hb19 => ?_) (fun hb19 => ?_)
        ·replace h := condT hb19 h
         refine X.fl fld117_0 ?_
         refine X.gy ?_
         refine X.ld shp3 ?_
         refine X.gy ?_
         refine X.mv ?_
         refine X.gy ?_
         refine X.mv ?_
         refine X.gy ?_
         refine X.sub (by rfl) (by rfl) (by omega) (by rfl) ?_
         refine X.gy ?_
         obtain ⟨v20, hv20, h⟩ := bindE h
         refine X.ix elt90 (idxL_spec hv20).1 (idxL_map eTStep hv20) ?_
         refine X.gy ?_
         refine X.fieldAddr_c fld117_0 (by rfl) (by rfl) ?_
         refine X.gy ?_
         refine X.lc shp3 ?_
         refine X.gy ?_
         refine X.bi ?_
         refine X.gy ?_
         refine X.pT ?_
         refine X.pF ?_
         cases h
         exact X.eG
        ·replace h := condF hb19 h
         refine X.gn ?_
         refine X.gn ?_
         refine X.gn ?_
         refine X.gn ?_
         refine X.gn ?_
         refine X.gn ?_
         refine X.gn ?_
         refine X.gn ?_
         refine X.gy ?_
         refine X.pF ?_
         refine X.pF ?_
         cases h
         exact X.eG
       ·replace h := condT hb18 h
        refine X.gn ?_
        refine X.gn ?_
        refine X.gU (by rfl) (by rfl) (by rfl) ?_
        refine X.gU (by rfl) (by rfl) (by rfl) ?_
        refine X.gU (by rfl) (by rfl) (by rfl) ?_
        refine X.gU (by rfl) (by rfl) (by rfl) ?_
        refine X.gU (by rfl) (by rfl) (by rfl) ?_
        refine X.gU (by rfl) (by rfl) (by rfl) ?_
        refine X.gU (by rfl) (by rfl) (by rfl) ?_
        refine X.gU (by rfl) (by rfl) (by rfl) ?_
        refine X.gU (by rfl) (by rfl) (by rfl) ?_
        refine X.gn ?_
        refine X.pT ?_
        cases h
        exact X.eG
      ·replace h := condF hb17 h
       refine X.gn ?_
       refine X.gn ?_
       refine X.gy ?_
       refine X.pF ?_
       refine X.pF ?_
       refine X.mv ?_
       refine X.gy ?_
       refine X.mv ?_
       refine X.gy ?_
       refine X.bi ?_
       refine X.gy ?_
       refine X.mv ?_
       refine X.iG (fun hb21 => ?_) (fun hb21 => ?_)
       ·replace h := condT hb21 h
        refine X.fl fld117_0 ?_
        refine X.gy ?_
        refine X.ld shp3 ?_
        refine X.gy ?_
        refine X.mv ?_
        refine X.gy ?_
        refine X.mv ?_
        refine X.gy ?_
        refine X.sub (by rfl) (by rfl) (by omega) (by rfl) ?_
        refine X.gy ?_
        obtain ⟨v22, hv22, h⟩ := bindE h
        refine X.ix elt90 (idxL_spec hv22).1 (idxL_map eTStep hv22) ?_
        refine X.gy ?_
        refine X.fieldAddr_c fld117_0 (by rfl) (by rfl) ?_
        refine X.gy ?_
        refine X.lc shp3 ?_
        refine X.gy ?_
        refine X.bi ?_
        refine X.gy ?_
        refine X.pT ?_
        refine X.pF ?_
        cases h
        exact X.eG
       ·replace h := condF hb21 h
        refine X.gn ?_
        refine X.gn ?_
        refine X.gn ?_
        refine X.gn ?_
        refine X.gn ?_
        refine X.gn ?_
        refine X.gn ?_
        refine X.gn ?_
        refine X.gy ?_
        refine X.pF ?_
        refine X.pF ?_
        cases h
        exact X.eG
     ·replace h := condT hb16 h
      refine X.gn ?_
      refine X.gn ?_
      refine X.gU (by rfl) (by rfl) (by rfl) ?_
      refine X.gU (by rfl) (by rfl) (by rfl) ?_
      refine X.gU (by rfl) (by rfl) (by rfl) ?_
      refine X.gn ?_
      refine X.pT ?_
      refine X.mv ?_
      refine X.gn ?_
      refine X.gn ?_
      refine X.gn ?_
      refine X.gU (by rfl) (by rfl) (by rfl) ?_
      refine X.gU (by rfl) (by rfl) (by rfl) ?_
      refine X.gU (by rfl) (by rfl) (by rfl) ?_
      refine X.gU (by rfl) (by rfl) (by rfl) ?_
      refine X.gU (by rfl) (by rfl) (by rfl) ?_
      refine X.gU (by rfl) (by rfl) (by rfl) ?_
      refine X.gU (by rfl) (by rfl) (by rfl) ?_
      refine X.gU (by rfl) (by rfl) (by rfl) ?_
      refine X.gU (by rfl) (by rfl) (by rfl) ?_
      refine X.gn ?_
      refine X.pT ?_
      cases h
      exact X.eG
    ·replace h := condT hb14 h
     refine X.gn ?_
     refine X.gn ?_
     refine X.gn ?_
     refine X.pT ?_
     refine X.mv ?_
     refine X.gn ?_
     refine X.gn ?_
     refine X.gn ?_
     refine X.gU (by rfl) (by rfl) (by rfl) ?_
     refine X.gU (by rfl) (by rfl) (by rfl) ?_
     refine X.gU (by rfl) (by rfl) (by rfl) ?_
     refine X.gn ?_
     refine X.pT ?_
     refine X.mv ?_
     refine X.gn ?_
     refine X.gn ?_
     refine X.gn ?_
     refine X.gU (by rfl) (by rfl) (by rfl) ?_
     refine X.gU (by rfl) (by rfl) (by rfl) ?_
     refine X.gU (by rfl) (by rfl) (by rfl) ?_
     refine X.gU (by rfl) (by rfl) (by rfl) ?_
     refine X.gU (by rfl) (by rfl) (by rfl) ?_
     refine X.gU (by rfl) (by rfl) (by rfl) ?_
     refine X.gU (by rfl) (by rfl) (by rfl) ?_
     refine X.gU (by rfl) (by rfl) (by rfl) ?_
     refine X.gU (by rfl) (by rfl) (by rfl) ?_
     refine X.gn ?_
     refine X.pT ?_
     cases h
     exact X.eG
   replace h := h2; clear h2
   refine R.cd (fun hc23 => ?_) (fun hc23 => ?_)
   ·replace h := condT hc23 h
    refine Run.sr ?_
    refine X.an ?_
    cases h
    have h := hup2
    replace h := elimR h
    cases h
    refine R.f1 Tryz.results123 ?_
    rfl
   ·replace h := condF hc23 h
    refine Run.skip ?_
    refine Run.blk ?_
    refine Run.reg ?_
    refine X.ad ?_
    refine X.mn ?_
    exact R.ag hag7 (n7 - 1) (z8 + 1) (R.n3 (by first | (rw [hds7]; exact h) | (dsimp only; rw [hds7]; exact h)))
  ·rw [drop_endI hza7 hc11] at h
   rw [i_StepsOk_L1] at h
   refine Run.exit (by rfl) ?_
   exact R.mt hmeet3 () (Option.some.inj h)
 rintro p24 rfl
 replace h := elimL h
 refine Run.sr ?_
 refine X.mv ?_
 refine X.ls elt90 ?_
 obtain ⟨v26, hv26, h⟩ := bindE h
 refine X.cp (i_within_pc _ _ _ _ hv26) ?_
 refine X.an ?_
 cases h
 refine R.f1 Tryz.results123 ?_
 rfl
theorem i_ResourceOk_pc (b0 : TResource) (r : Bool) (h : i_ResourceOk b0 = some r) : PC Tryz.prog 96 [eTResource b0] (bool r) := by
 unfold i_ResourceOk at h
 refine PC.start Tryz.func96 Tryz.ntmps96 rfl ok96 rfl ?_
 refine Run.sr ?_
 refine X.bx ?_
 refine X.an ?_
 refine Run.seq ?_
 refine Run.sr ?_
 refine X.fl fld92_1 ?_
 refine X.ld shp28 ?_
 refine X.ls elt28 ?_
 refine X.mn ?_
 obtain ⟨o1, ho1, h⟩ := bindE h
 refine R.join2 (β := Unit) [(1, .lptr 64 0)] [(64, .blk true [.slice (b0.Steps.map eTStep), .slice (b0.Setup.map l_int)])] (fun p28 S => S) (fun p28 M => M) (fun p28 => (Sum.inl p28) = o1) ?_ ?_
 ·intro JJ4 hmeet3
  have hup2 := h; clear h; have h := ho1; clear ho1
  refine Run.block ?_
  refine R.bndS (t := 8) (by rfl) (fun hbd7 => ?_)
  replace hbd7 : b0.Setup.length ≤ 9223372036854775807 := by first | (rw [List.length_map] at hbd7; exact hbd7) | simp
  refine R.lp (β := Int) [(1, .lptr 64 0), (8, .slice (b0.Setup.map l_int)), (9, int (b0.Setup.length : Int))] [(64, .blk true [.slice (b0.Steps.map eTStep), .slice (b0.Setup.map l_int)])] (fun bb S => (10, int bb) :: S) (fun bb M => M) (fun n bb => 0 ≤ bb ∧ bb + n = (b0.Setup.length : Int) ∧ i_ResourceOk_L1 (b0.Setup.drop bb.toNat) bb = some o1) b0.Setup.length (0 : Int) ⟨Int.le_refl _, by simp, h⟩ ?_
  clear h
  rintro JJ7 n7 z8 hag7 ⟨hza7, hzb7, h⟩
  refine Run.sr ?_
  refine X.bi ?_
  refine X.nil ?_
  refine Run.seq ?_
  refine R.cd (fun hc11 => ?_) (fun hc11 => ?_)
  ·obtain ⟨x9, xs10, hd7, hx7, hds7, hlt7⟩ := drop_atI hza7 hc11
   rw [hd7] at h
   rw [i_ResourceOk_L1] at h
   refine Run.skip ?_
   refine Run.seq ?_
   refine Run.block ?_
   refine Run.sr ?_
   refine X.ix elt28 (idxL_spec hx7).1 (idxL_map l_int hx7) ?_
   refine X.lc shp25 ?_
   refine X.an ?_
   refine Run.seq ?_
   refine Run.sr ?_
   refine X.mv ?_
   refine X.ls elt25 ?_
   refine X.bi ?_
   refine X.nil ?_
   refine R.cd (fun hc12 => ?_) (fun hc12 => ?_)
   ·replace h := condT hc12 h
    refine Run.sr ?_
    refine X.an ?_
    cases h
    have h := hup2
    replace h := elimR h
    cases h
    refine R.f1 Tryz.results96 ?_
    rfl
   ·replace h := condF hc12 h
    refine Run.skip ?_
    refine Run.sr ?_
    refine X.mv ?_
    refine X.ls elt25 ?_
    refine X.mn ?_
    obtain ⟨o13, ho13, h⟩ := bindE h
    refine R.join2 (β := Unit) [(1, .lptr 64 0), (8, .slice (b0.Setup.map l_int)), (9, int (b0.Setup.length : Int)), (10, int z8)] [(64, .blk true [.slice (b0.Steps.map eTStep), .slice (b0.Setup.map l_int)])] (fun p26 S => S) (fun p26 M => M) (fun p26 => (Sum.inl p26) = o13) ?_ ?_
    ·intro JJ16 hmeet15
     have hup14 := h; clear h; have h := ho13; clear ho13
     refine Run.block ?_
     refine R.bndS (t := 4) (by rfl) (fun hbd19 => ?_)
     replace hbd19 : x9.length ≤ 9223372036854775807 := by first | (rw [List.length_map] at hbd19; exact hbd19) | simp
     refine R.lp (β := Int) [(1, .lptr 64 0), (8, .slice (b0.Setup.map l_int)), (9, int (b0.Setup.length : Int)), (10, int z8), (17, .slice (x9.map int)), (18, int (x9.length : Int))] [(64, .blk true [.slice (b0.Steps.map eTStep), .slice (b0.Setup.map l_int)])] (fun bb S => (19, int bb) :: S) (fun bb M => M) (fun n bb => 0 ≤ bb ∧ bb + n = (x9.length : Int) ∧ i_ResourceOk_L2 (x9.drop bb.toNat) bb = some o13) x9.length (0 : Int) ⟨Int.le_refl _, by simp, h⟩ ?_
     clear h
     rintro JJ19 n19 z20 hag19 ⟨hza19, hzb19, h⟩
     refine Run.sr ?_
     refine X.bi ?_
     refine X.nil ?_
     refine Run.seq ?_
     refine R.cd (fun hc23 => ?_) (fun hc23 => ?_)
     ·obtain ⟨x21, xs22, hd19, hx19, hds19, hlt19⟩ := drop_atI hza19 hc23
      rw [hd19] at h
      rw [i_ResourceOk_L2] at h
      refine Run.skip ?_
      refine Run.seq ?_
      refine Run.block ?_
      refine Run.sr ?_
      refine X.ix elt25 (idxL_spec hx19).1 (idxL_map int hx19) ?_
      refine X.lc shp3 ?_
      refine X.an ?_
      refine Run.sr ?_
      refine X.mv ?_
      obtain ⟨v24, hv24, h⟩ := bindE h
      refine X.cp (i_within_pc _ _ _ _ hv24) ?_
      refine X.un (by rfl) (by rfl) (by rfl) ?_
      refine X.nil ?_
      refine R.cd (fun hc25 => ?_) (fun hc25 => ?_)
      ·replace h := condT hc25 h
       refine Run.sr ?_
       refine X.an ?_
       cases h
       have h := hup14
       replace h := elimR h
       cases h
       have h := hup2
       replace h := elimR h
       cases h
       refine R.f1 Tryz.results96 ?_
       rfl
      ·replace h := condF hc25 h
       refine Run.skip ?_
       refine Run.blk ?_
       refine Run.reg ?_
       refine X.ad ?_
       refine X.mn ?_
       exact R.ag hag19 (n19 - 1) (z20 + 1) (R.n3 (by first | (rw [hds19]; exact h) | (dsimp only; rw [hds19]; exact h)))
     ·rw [drop_endI hza19 hc23] at h
      rw [i_ResourceOk_L2] at h
      refine Run.exit (by rfl) ?_
      exact R.mt hmeet15 () (Option.some.inj h)
    rintro p26 rfl
    replace h := elimL h
    refine Run.blk ?_
    refine Run.reg ?_
    refine X.ad ?_
    refine X.mn ?_
    exact R.ag hag7 (n7 - 1) (z8 + 1) (R.n3 (by first | (rw [hds7]; exact h) | (dsimp only; rw [hds7]; exact h)))
  ·rw [drop_endI hza7 hc11] at h
   rw [i_ResourceOk_L1] at h
   refine Run.exit (by rfl) ?_
   exact R.mt hmeet3 () (Option.some.inj h)
 rintro p28 rfl
 replace h := elimL h
 refine Run.seq ?_
 obtain ⟨v30, hv30, h⟩ := bindE h
 obtain ⟨e31, he31, h2⟩ := bindE h
 refine R.regG [(2, bool e31)] [] ?_ ?_
 ·clear h; have h := he31; clear he31 h2
  refine X.fl fld92_0 ?_
  refine X.ld shp90 ?_
  refine X.cp (i_StepsOk_pc _ _ hv30) ?_
  refine X.mv ?_
  refine X.iG (fun hb32 => ?_) (fun hb32 => ?_)
  ·replace h := condT hb32 h
   refine X.fl fld92_1 ?_
   refine X.gy ?_
   refine X.ld shp28 ?_
   refine X.gy ?_
   refine X.ls elt28 ?_
   refine X.gy ?_
   refine X.bi ?_
   refine X.gy ?_
   refine X.mv ?_
   refine X.iG (fun hb33 => ?_) (fun hb33 => ?_)
   ·replace h := condF hb33 h
    refine X.fl fld92_1 ?_
    refine X.gy ?_
    refine X.ld shp28 ?_
    refine X.gy ?_
    refine X.ls elt28 ?_
    refine X.gy ?_
    refine X.bi ?_
    refine X.gy ?_
    refine X.pF ?_
    refine X.pT ?_
    refine X.as ?_
    cases h
    exact X.eG
   ·replace h := condT hb33 h
    refine X.gn ?_
    refine X.gn ?_
    refine X.gn ?_
    refine X.gy ?_
    refine X.pT ?_
    refine X.pT ?_
    refine X.as ?_
    cases h
    exact X.eG
  ·replace h := condF hb32 h
   refine X.gn ?_
   refine X.gn ?_
   refine X.gn ?_
   refine X.gn ?_
   refine X.gU (by rfl) (by rfl) (by rfl) ?_
   refine X.gU (by rfl) (by rfl) (by rfl) ?_
   refine X.gU (by rfl) (by rfl) (by rfl) ?_
   refine X.gU (by rfl) (by rfl) (by rfl) ?_
   refine X.gn ?_
   refine X.pF ?_
   refine X.as ?_
   cases h
   exact X.eG
 replace h := h2; clear h2
 cases h
 refine R.f1 Tryz.results96 ?_
 rfl
theorem i_Project_hasActivity_pc (b0 : TProject) (b1 : Int) (r : Bool) (h : i_Project_hasActivity b0 b1 = some r) : PC Tryz.prog 125 [eTProject b0, int b1] (bool r) := by
 unfold i_Project_hasActivity at h
 refine PC.start Tryz.func125 Tryz.ntmps125 rfl ok125 rfl ?_
 refine Run.sr ?_
 refine X.bx ?_
 refine X.an ?_
 refine Run.sr ?_
 refine X.mv ?_
 refine X.fl fld38_1 ?_
 refine X.ld shp34 ?_
 refine X.ls elt34 ?_
 refine X.subW (by rfl) (by rfl) (by rfl) ?_
 obtain ⟨v1, hv1, h⟩ := bindE h
 refine X.cp (i_within_pc _ _ _ _ hv1) ?_
 refine X.an ?_
 cases h
 refine R.f1 Tryz.results125 ?_
 rfl
theorem i_Project_linkOk_pc (b0 : TProject) (b1 : TLink) (r : Bool) (h : i_Project_linkOk b0 b1 = some r) : PC Tryz.prog 99 [eTProject b0, eTLink b1] (bool r) := by
 unfold i_Project_linkOk at h
 refine PC.start Tryz.func99 Tryz.ntmps99 rfl ok99 rfl ?_
 refine Run.sr ?_
 refine X.bx ?_
 refine X.bx ?_
 refine X.an ?_
 refine Run.seq ?_
 obtain ⟨v1, hv1, h⟩ := bindE h
 obtain ⟨e2, he2, h2⟩ := bindE h
 refine R.regG [(4, bool e2)] [] ?_ ?_
 ·clear h; have h := he2; clear he2 h2
  refine X.ld shp38 ?_
  refine X.fl fld87_0 ?_
  refine X.ld shp3 ?_
  refine X.cp (i_Project_hasActivity_pc _ _ _ hv1) ?_
  refine X.mv ?_
  refine X.iG (fun hb3 => ?_) (fun hb3 => ?_)
  ·replace h := condT hb3 h
   refine X.ld shp38 ?_
   refine X.gy ?_
   refine X.fl fld87_1 ?_
   refine X.gy ?_
   refine X.ld shp3 ?_
   refine X.gy ?_
   obtain ⟨v4, hv4, h⟩ := bindE h
   refine X.cp (i_Project_hasActivity_pc _ _ _ hv4) ?_
   refine X.pT ?_
   refine X.mv ?_
   refine X.iG (fun hb5 => ?_) (fun hb5 => ?_)
   ·replace h := condT hb5 h
    refine X.fl fld87_0 ?_
    refine X.gy ?_
    refine X.ld shp3 ?_
    refine X.gy ?_
    refine X.fl fld87_1 ?_
    refine X.gy ?_
    refine X.ld shp3 ?_
    refine X.gy ?_
    refine X.bi ?_
    refine X.pT ?_
    refine X.mv ?_
    refine X.iG (fun hb6 => ?_) (fun hb6 => ?_)
    ·replace h := condT hb6 h
     refine X.fl fld87_3 ?_
     refine X.gy ?_
     refine X.ld shp3 ?_
     refine X.gy ?_
     obtain ⟨v7, hv7, h⟩ := bindE h
     refine X.cp (i_within_pc _ _ _ _ hv7) ?_
     refine X.pT ?_
     refine X.as ?_
     cases h
     exact X.eG
    ·replace h := condF hb6 h
     refine X.gn ?_
     refine X.gn ?_
     refine X.pF ?_
     refine X.as ?_
     cases h
     exact X.eG
   ·replace h := condF hb5 h
    refine X.gn ?_
    refine X.gn ?_
    refine X.gn ?_
    refine X.gn ?_
    refine X.pF ?_
    refine X.mv ?_
    refine X.gn ?_
    refine X.gn ?_
    refine X.gn ?_
    refine X.pF ?_
    refine X.as ?_
    cases h
    exact X.eG
  ·replace h := condF hb3 h
   refine X.gn ?_
   refine X.gn ?_
   refine X.gn ?_
   refine X.pF ?_
   refine X.mv ?_
   refine X.gn ?_
   refine X.gn ?_
   refine X.gn ?_
   refine X.gn ?_
   refine X.gn ?_
   refine X.pF ?_
   refine X.mv ?_
   refine X.gn ?_
   refine X.gn ?_
   refine X.gn ?_
   refine X.pF ?_
   refine X.as ?_
   cases h
   exact X.eG
 replace h := h2; clear h2
 cases h
 refine R.f1 Tryz.results99 ?_
 rfl
theorem i_ProjectOk_c1_pc (b0 : TLink) (c1 : TProject) (r : Bool) (h : i_ProjectOk_c1 b0 c1 = some r) : PC Tryz.prog 98 [eTLink b0, .cptr (eTProject c1 : PV).cells 0] (bool r) := by
 unfold i_ProjectOk_c1 at h
 refine PC.start Tryz.func98 Tryz.ntmps98 rfl ok98 rfl ?_
 refine Run.sr ?_
 refine X.bx ?_
 refine X.an ?_
 refine Run.sr ?_
 refine X.lc shp38 ?_
 refine X.ld shp87 ?_
 obtain ⟨v1, hv1, h⟩ := bindE h
 refine X.cp (i_Project_linkOk_pc _ _ _ hv1) ?_
 refine X.un (by rfl) (by rfl) (by rfl) ?_
 refine X.an ?_
 cases h
 refine R.f1 Tryz.results98 ?_
 rfl
theorem slices_IndexFunc_Link_pc (b0 : List TLink) (g1 : TLink → Option Bool) (g1id : Nat) (g1c : List PV) (hg1 : ∀ (x0 : TLink) v, g1 x0 = some v → PC Tryz.prog g1id ([eTLink x0] ++ g1c) (bool v)) (r : Int) (h : slices_IndexFunc_Link b0 g1 = some r) : PC Tryz.prog 124 [.slice (b0.map eTLink), .fn g1id g1c] (int r) := by
 unfold slices_IndexFunc_Link at h
 refine PC.start Tryz.func124 Tryz.ntmps124 rfl ok124 rfl ?_
 refine Run.sr ?_
 refine X.an ?_
 refine Run.seq ?_
 refine Run.sr ?_
 refine X.mv ?_
 refine X.ls elt35 ?_
 refine X.mn ?_
 obtain ⟨o1, ho1, h⟩ := bindE h
 refine R.join2 (β := Unit) [] [] (fun p14 S => S) (fun p14 M => M) (fun p14 => (Sum.inl p14) = o1) ?_ ?_
 ·intro JJ4 hmeet3
  have hup2 := h; clear h; have h := ho1; clear ho1
  refine Run.block ?_
  refine R.bndS (t := 0) (by rfl) (fun hbd7 => ?_)
  replace hbd7 : b0.length ≤ 9223372036854775807 := by first | (rw [List.length_map] at hbd7; exact hbd7) | simp
  refine R.lp (β := Int) [(0, .slice (b0.map eTLink)), (1, .fn g1id g1c), (7, int (b0.length : Int))] [] (fun bb S => (8, int bb) :: S) (fun bb M => M) (fun n bb => 0 ≤ bb ∧ bb + n = (b0.length : Int) ∧ slices_IndexFunc_Link_L1 g1 (b0.drop bb.toNat) bb = some o1) b0.length (0 : Int) ⟨Int.le_refl _, by simp, h⟩ ?_
  clear h
  rintro JJ7 n7 z8 hag7 ⟨hza7, hzb7, h⟩
  refine Run.sr ?_
  refine X.bi ?_
  refine X.nil ?_
  refine Run.seq ?_
  refine R.cd (fun hc11 => ?_) (fun hc11 => ?_)
  ·obtain ⟨x9, xs10, hd7, hx7, hds7, hlt7⟩ := drop_atI hza7 hc11
   rw [hd7] at h
   rw [slices_IndexFunc_Link_L1] at h
   refine Run.skip ?_
   refine Run.seq ?_
   refine Run.block ?_
   refine Run.sr ?_
   refine X.mv ?_
   refine X.an ?_
   refine Run.sr ?_
   refine X.mv ?_
   refine X.mv ?_
   refine X.mv ?_
   refine X.ix elt35 (idxL_spec hx7).1 (idxL_map eTLink hx7) ?_
   refine X.lc shp87 ?_
   obtain ⟨v12, hv12, h⟩ := bindE h
   refine X.cp (hg1 _ _ hv12) ?_
   refine X.nil ?_
   refine R.cd (fun hc13 => ?_) (fun hc13 => ?_)
   ·replace h := condT hc13 h
    refine Run.sr ?_
    refine X.mv ?_
    refine X.an ?_
    cases h
    have h := hup2
    replace h := elimR h
    cases h
    refine R.f1 Tryz.results124 ?_
    rfl
   ·replace h := condF hc13 h
    refine Run.skip ?_
    refine Run.blk ?_
    refine Run.reg ?_
    refine X.ad ?_
    refine X.mn ?_
    exact R.ag hag7 (n7 - 1) (z8 + 1) (R.n3 (by first | (rw [hds7]; exact h) | (dsimp only; rw [hds7]; exact h)))
  ·rw [drop_endI hza7 hc11] at h
   rw [slices_IndexFunc_Link_L1] at h
   refine Run.exit (by rfl) ?_
   exact R.mt hmeet3 () (Option.some.inj h)
 rintro p14 rfl
 replace h := elimL h
 refine Run.sr ?_
 refine X.an ?_
 cases h
 refine R.f1 Tryz.results124 ?_
 rfl
theorem slices_ContainsFunc_Link_pc (b0 : List TLink) (g1 : TLink → Option Bool) (g1id : Nat) (g1c : List PV) (hg1 : ∀ (x0 : TLink) v, g1 x0 = some v → PC Tryz.prog g1id ([eTLink x0] ++ g1c) (bool v)) (r : Bool) (h : slices_ContainsFunc_Link b0 g1 = some r) : PC Tryz.prog 97 [.slice (b0.map eTLink), .fn g1id g1c] (bool r) := by
 unfold slices_ContainsFunc_Link at h
 refine PC.start Tryz.func97 Tryz.ntmps97 rfl ok97 rfl ?_
 refine Run.sr ?_
 refine X.an ?_
 refine Run.sr ?_
 refine X.mv ?_
 refine X.mv ?_
 obtain ⟨v1, hv1, h⟩ := bindE h
 refine X.cp (slices_IndexFunc_Link_pc _ g1 _ _ hg1 _ hv1) ?_
 refine X.bi ?_
 refine X.an ?_
 cases h
 refine R.f1 Tryz.results97 ?_
 rfl
theorem i_ProjectOk_pc (b0 : TProject) (r : Bool) (h : i_ProjectOk b0 = some r) : PC Tryz.prog 75 [eTProject b0] (bool r) := by
 unfold i_ProjectOk at h
 refine PC.start Tryz.func75 Tryz.ntmps75 rfl ok75 rfl ?_
 refine Run.sr ?_
 refine X.bx ?_
 refine X.an ?_
 refine Run.seq ?_
 refine Run.seq ?_
 obtain ⟨v1, hv1, h⟩ := bindE h
 obtain ⟨e2, he2, h2⟩ := bindE h
 refine R.regG [(1, .lptr 64 0), (37, bool e2)] [(64, .blk true [int b0.Deadline, .slice (b0.Activities.map eTActivity), .slice (b0.Links.map eTLink), .slice (b0.Resources.map eTResource), .slice (b0.Stocks.map int)])] ?_ ?_
 ·clear h; have h := he2; clear he2 h2
  refine X.fl fld38_0 ?_
  refine X.ld shp3 ?_
  refine X.cp (i_within_pc _ _ _ _ hv1) ?_
  refine X.un (by rfl) (by rfl) (by rfl) ?_
  refine X.mv ?_
  refine X.iG (fun hb3 => ?_) (fun hb3 => ?_)
  ·replace h := condF hb3 h
   refine X.fl fld38_1 ?_
   refine X.gy ?_
   refine X.ld shp34 ?_
   refine X.gy ?_
   refine X.ls elt34 ?_
   refine X.gy ?_
   obtain ⟨v4, hv4, h⟩ := bindE h
   refine X.cp (i_within_pc _ _ _ _ hv4) ?_
   refine X.gy ?_
   refine X.un (by rfl) (by rfl) (by rfl) ?_
   refine X.pF ?_
   refine X.mv ?_
   refine X.iG (fun hb5 => ?_) (fun hb5 => ?_)
   ·replace h := condF hb5 h
    refine X.fl fld38_3 ?_
    refine X.gy ?_
    refine X.ld shp36 ?_
    refine X.gy ?_
    refine X.ls elt36 ?_
    refine X.gy ?_
    refine X.bi ?_
    refine X.pF ?_
    refine X.mv ?_
    refine X.iG (fun hb6 => ?_) (fun hb6 => ?_)
    ·replace h := condF hb6 h
     refine X.fl fld38_4 ?_
     refine X.gy ?_
     refine X.ld shp25 ?_
     refine X.gy ?_
     refine X.ls elt25 ?_
     refine X.gy ?_
     refine X.bi ?_
     refine X.pF ?_
     refine X.mv ?_
     refine X.iG (fun hb7 => ?_) (fun hb7 => ?_)
     ·replace h := condF hb7 h
      refine X.fl fld38_2 ?_
      refine X.gy ?_
      refine X.ld shp35 ?_
      refine X.gy ?_
      refine X.ls elt35 ?_
      refine X.gy ?_
      refine X.bi ?_
      refine X.pF ?_
      cases h
      exact X.eG
     ·replace h := condT hb7 h
      refine X.gn ?_
      refine X.gn ?_
      refine X.gn ?_
      refine X.pT ?_
      cases h
      exact X.eG
    ·replace h := condT hb6 h
     refine X.gn ?_
     refine X.gn ?_
     refine X.gn ?_
     refine X.pT ?_
     refine X.mv ?_
     refine X.gn ?_
     refine X.gn ?_
     refine X.gn ?_
     refine X.gn ?_
     refine X.pT ?_
     cases h
     exact X.eG
   ·replace h := condT hb5 h
    refine X.gn ?_
    refine X.gn ?_
    refine X.gn ?_
    refine X.pT ?_
    refine X.mv ?_
    refine X.gn ?_
    refine X.gn ?_
    refine X.gn ?_
    refine X.gn ?_
    refine X.pT ?_
    refine X.mv ?_
    refine X.gn ?_
    refine X.gn ?_
    refine X.gn ?_
    refine X.gn ?_
    refine X.pT ?_
    cases h
    exact X.eG
  ·replace h := condT hb3 h
   refine X.gn ?_
   refine X.gn ?_
   refine X.gn ?_
   refine X.gn ?_
   refine X.pT ?_
   refine X.mv ?_
   refine X.gn ?_
   refine X.gn ?_
   refine X.gn ?_
   refine X.gn ?_
   refine X.pT ?_
   refine X.mv ?_
   refine X.gn ?_
   refine X.gn ?_
   refine X.gn ?_
   refine X.gn ?_
   refine X.pT ?_
   refine X.mv ?_
   refine X.gn ?_
   refine X.gn ?_
   refine X.gn ?_
   refine X.gn ?_
   refine X.pT ?_
   cases h
   exact X.eG
 replace h := h2; clear h2
 refine R.cd (fun hc8 => ?_) (fun hc8 => ?_)
 ·replace h := condT hc8 h
  refine Run.sr ?_
  refine X.an ?_
  cases h
  refine R.f1 Tryz.results75 ?_
  rfl
 ·replace h := condF hc8 h
  refine Run.skip ?_
  refine Run.seq ?_
  refine Run.sr ?_
  refine X.fl fld38_1 ?_
  refine X.ld shp34 ?_
  refine X.ls elt34 ?_
  refine X.mn ?_
  obtain ⟨o9, ho9, h⟩ := bindE h
  refine R.join2 (β := Unit) [(1, .lptr 64 0)] [(64, .blk true [int b0.Deadline, .slice (b0.Activities.map eTActivity), .slice (b0.Links.map eTLink), .slice (b0.Resources.map eTResource), .slice (b0.Stocks.map int)])] (fun p25 S => S) (fun p25 M => M) (fun p25 => (Sum.inl p25) = o9) ?_ ?_
  ·intro JJ12 hmeet11
   have hup10 := h; clear h; have h := ho9; clear ho9
   refine Run.block ?_
   refine R.bndS (t := 39) (by rfl) (fun hbd15 => ?_)
   replace hbd15 : b0.Activities.length ≤ 9223372036854775807 := by first | (rw [List.length_map] at hbd15; exact hbd15) | simp
   refine R.lp (β := Int) [(1, .lptr 64 0), (39, .slice (b0.Activities.map eTActivity)), (40, int (b0.Activities.length : Int))] [(64, .blk true [int b0.Deadline, .slice (b0.Activities.map eTActivity), .slice (b0.Links.map eTLink), .slice (b0.Resources.map eTResource), .slice (b0.Stocks.map int)])] (fun bb S => (41, int bb) :: S) (fun bb M => M) (fun n bb => 0 ≤ bb ∧ bb + n = (b0.Activities.length : Int) ∧ i_ProjectOk_L1 b0 (b0.Activities.drop bb.toNat) bb = some o9) b0.Activities.length (0 : Int) ⟨Int.le_refl _, by simp, h⟩ ?_
   clear h
   rintro JJ15 n15 z16 hag15 ⟨hza15, hzb15, h⟩
   refine Run.sr ?_
   refine X.bi ?_
   refine X.nil ?_
   refine Run.seq ?_
   refine R.cd (fun hc19 => ?_) (fun hc19 => ?_)
   ·obtain ⟨x17, xs18, hd15, hx15, hds15, hlt15⟩ := drop_atI hza15 hc19
    rw [hd15] at h
    rw [i_ProjectOk_L1] at h
    refine Run.skip ?_
    refine Run.seq ?_
    refine Run.block ?_
    refine Run.sr ?_
    refine X.mv ?_
    refine X.ix elt34 (idxL_spec hx15).1 (idxL_map eTActivity hx15) ?_
    refine X.lc shp58 ?_
    refine X.alloc zer58 (by rfl) (by rfl) (by rfl) ?_
    refine X.as ?_
    refine X.sl shp58 ?_
    refine X.nil ?_
    refine Run.seq ?_
    obtain ⟨v20, hv20, h⟩ := bindE h
    obtain ⟨e21, he21, h2⟩ := bindE h
    refine R.regG [(1, .lptr 64 0), (39, .slice (b0.Activities.map eTActivity)), (40, int (b0.Activities.length : Int)), (41, int z16), (62, bool e21)] [(64, .blk true [int b0.Deadline, .slice (b0.Activities.map eTActivity), .slice (b0.Links.map eTLink), .slice (b0.Resources.map eTResource), .slice (b0.Stocks.map int)])] ?_ ?_
    ·clear h; have h := he21; clear he21 h2
     refine X.ld shp58 ?_
     refine X.fl fld38_3 ?_
     refine X.ld shp36 ?_
     refine X.ls elt36 ?_
     refine X.fl fld38_4 ?_
     refine X.ld shp25 ?_
     refine X.ls elt25 ?_
     refine X.cp (i_ActivityOk_pc _ _ _ _ hv20) ?_
     refine X.un (by rfl) (by rfl) (by rfl) ?_
     refine X.mv ?_
     refine X.iG (fun hb22 => ?_) (fun hb22 => ?_)
     ·replace h := condF hb22 h
      refine X.ld shp38 ?_
      refine X.gy ?_
      refine X.fl fld58_0 ?_
      refine X.gy ?_
      refine X.ld shp9 ?_
      refine X.gy ?_
      obtain ⟨v23, hv23, h⟩ := bindE h
      refine X.cp (i_ActivityIndex_pc _ _ _ hv23) ?_
      refine X.gy ?_
      refine X.mv ?_
      refine X.gy ?_
      refine X.bi ?_
      refine X.pF ?_
      cases h
      exact X.eG
     ·replace h := condT hb22 h
      refine X.gn ?_
      refine X.gn ?_
      refine X.gn ?_
      refine X.gn ?_
      refine X.gn ?_
      refine X.pT ?_
      cases h
      exact X.eG
    replace h := h2; clear h2
    refine R.cd (fun hc24 => ?_) (fun hc24 => ?_)
    ·replace h := condT hc24 h
     refine Run.sr ?_
     refine X.an ?_
     cases h
     have h := hup10
     replace h := elimR h
     cases h
     refine R.f1 Tryz.results75 ?_
     rfl
    ·replace h := condF hc24 h
     refine Run.skip ?_
     refine Run.blk ?_
     refine Run.reg ?_
     refine X.ad ?_
     refine X.mn ?_
     exact R.ag hag15 (n15 - 1) (z16 + 1) (R.n3 (by first | (rw [hds15]; exact h) | (dsimp only; rw [hds15]; exact h)))
   ·rw [drop_endI hza15 hc19] at h
    rw [i_ProjectOk_L1] at h
    refine Run.exit (by rfl) ?_
    exact R.mt hmeet11 () (Option.some.inj h)
  rintro p25 rfl
  replace h := elimL h
  refine Run.seq ?_
  refine Run.sr ?_
  refine X.fl fld38_3 ?_
  refine X.ld shp36 ?_
  refine X.ls elt36 ?_
  refine X.mn ?_
  obtain ⟨o27, ho27, h⟩ := bindE h
  refine R.join2 (β := Unit) [(1, .lptr 64 0)] [(64, .blk true [int b0.Deadline, .slice (b0.Activities.map eTActivity), .slice (b0.Links.map eTLink), .slice (b0.Resources.map eTResource), .slice (b0.Stocks.map int)])] (fun p40 S => S) (fun p40 M => M) (fun p40 => (Sum.inl p40) = o27) ?_ ?_
  ·intro JJ30 hmeet29
   have hup28 := h; clear h; have h := ho27; clear ho27
   refine Run.block ?_
   refine R.bndS (t := 65) (by rfl) (fun hbd33 => ?_)
   replace hbd33 : b0.Resources.length ≤ 9223372036854775807 := by first | (rw [List.length_map] at hbd33; exact hbd33) | simp
   refine R.lp (β := Int) [(1, .lptr 64 0), (65, .slice (b0.Resources.map eTResource)), (66, int (b0.Resources.length : Int))] [(64, .blk true [int b0.Deadline, .slice (b0.Activities.map eTActivity), .slice (b0.Links.map eTLink), .slice (b0.Resources.map eTResource), .slice (b0.Stocks.map int)])] (fun bb S => (67, int bb) :: S) (fun bb M => M) (fun n bb => 0 ≤ bb ∧ bb + n = (b0.Resources.length : Int) ∧ i_ProjectOk_L2 (b0.Resources.drop bb.toNat) bb = some o27) b0.Resources.length (0 : Int) ⟨Int.le_refl _, by simp, h⟩ ?_
   clear h
   rintro JJ33 n33 z34 hag33 ⟨hza33, hzb33, h⟩
   refine Run.sr ?_
   refine X.bi ?_
   refine X.nil ?_
   refine Run.seq ?_
   refine R.cd (fun hc37 => ?_) (fun hc37 => ?_)
   ·obtain ⟨x35, xs36, hd33, hx33, hds33, hlt33⟩ := drop_atI hza33 hc37
    rw [hd33] at h
    rw [i_ProjectOk_L2] at h
    refine Run.skip ?_
    refine Run.seq ?_
    refine Run.block ?_
    refine Run.sr ?_
    refine X.ix elt36 (idxL_spec hx33).1 (idxL_map eTResource hx33) ?_
    refine X.lc shp92 ?_
    refine X.alloc zer92 (by rfl) (by rfl) (by rfl) ?_
    refine X.sl shp92 ?_
    refine X.nil ?_
    refine Run.sr ?_
    refine X.ld shp92 ?_
    obtain ⟨v38, hv38, h⟩ := bindE h
    refine X.cp (i_ResourceOk_pc _ _ hv38) ?_
    refine X.un (by rfl) (by rfl) (by rfl) ?_
    refine X.nil ?_
    refine R.cd (fun hc39 => ?_) (fun hc39 => ?_)
    ·replace h := condT hc39 h
     refine Run.sr ?_
     refine X.an ?_
     cases h
     have h := hup28
     replace h := elimR h
     cases h
     refine R.f1 Tryz.results75 ?_
     rfl
    ·replace h := condF hc39 h
     refine Run.skip ?_
     refine Run.blk ?_
     refine Run.reg ?_
     refine X.ad ?_
     refine X.mn ?_
     exact R.ag hag33 (n33 - 1) (z34 + 1) (R.n3 (by first | (rw [hds33]; exact h) | (dsimp only; rw [hds33]; exact h)))
   ·rw [drop_endI hza33 hc37] at h
    rw [i_ProjectOk_L2] at h
    refine Run.exit (by rfl) ?_
    exact R.mt hmeet29 () (Option.some.inj h)
  rintro p40 rfl
  replace h := elimL h
  refine Run.seq ?_
  refine Run.sr ?_
  refine X.fl fld38_4 ?_
  refine X.ld shp25 ?_
  refine X.ls elt25 ?_
  refine X.mn ?_
  obtain ⟨o42, ho42, h⟩ := bindE h
  refine R.join2 (β := Unit) [(1, .lptr 64 0)] [(64, .blk true [int b0.Deadline, .slice (b0.Activities.map eTActivity), .slice (b0.Links.map eTLink), .slice (b0.Resources.map eTResource), .slice (b0.Stocks.map int)])] (fun p55 S => S) (fun p55 M => M) (fun p55 => (Sum.inl p55) = o42) ?_ ?_
  ·intro JJ45 hmeet44
   have hup43 := h; clear h; have h := ho42; clear ho42
   refine Run.block ?_
   refine R.bndS (t := 76) (by rfl) (fun hbd48 => ?_)
   replace hbd48 : b0.Stocks.length ≤ 9223372036854775807 := by first | (rw [List.length_map] at hbd48; exact hbd48) | simp
   refine R.lp (β := Int) [(1, .lptr 64 0), (76, .slice (b0.Stocks.map int)), (77, int (b0.Stocks.length : Int))] [(64, .blk true [int b0.Deadline, .slice (b0.Activities.map eTActivity), .slice (b0.Links.map eTLink), .slice (b0.Resources.map eTResource), .slice (b0.Stocks.map int)])] (fun bb S => (78, int bb) :: S) (fun bb M => M) (fun n bb => 0 ≤ bb ∧ bb + n = (b0.Stocks.length : Int) ∧ i_ProjectOk_L3 (b0.Stocks.drop bb.toNat) bb = some o42) b0.Stocks.length (0 : Int) ⟨Int.le_refl _, by simp, h⟩ ?_
   clear h
   rintro JJ48 n48 z49 hag48 ⟨hza48, hzb48, h⟩
   refine Run.sr ?_
   refine X.bi ?_
   refine X.nil ?_
   refine Run.seq ?_
   refine R.cd (fun hc52 => ?_) (fun hc52 => ?_)
   ·obtain ⟨x50, xs51, hd48, hx48, hds48, hlt48⟩ := drop_atI hza48 hc52
    rw [hd48] at h
    rw [i_ProjectOk_L3] at h
    refine Run.skip ?_
    refine Run.seq ?_
    refine Run.block ?_
    refine Run.sr ?_
    refine X.ix elt25 (idxL_spec hx48).1 (idxL_map int hx48) ?_
    refine X.lc shp3 ?_
    refine X.an ?_
    refine Run.sr ?_
    refine X.mv ?_
    obtain ⟨v53, hv53, h⟩ := bindE h
    refine X.cp (i_within_pc _ _ _ _ hv53) ?_
    refine X.un (by rfl) (by rfl) (by rfl) ?_
    refine X.nil ?_
    refine R.cd (fun hc54 => ?_) (fun hc54 => ?_)
    ·replace h := condT hc54 h
     refine Run.sr ?_
     refine X.an ?_
     cases h
     have h := hup43
     replace h := elimR h
     cases h
     refine R.f1 Tryz.results75 ?_
     rfl
    ·replace h := condF hc54 h
     refine Run.skip ?_
     refine Run.blk ?_
     refine Run.reg ?_
     refine X.ad ?_
     refine X.mn ?_
     exact R.ag hag48 (n48 - 1) (z49 + 1) (R.n3 (by first | (rw [hds48]; exact h) | (dsimp only; rw [hds48]; exact h)))
   ·rw [drop_endI hza48 hc52] at h
    rw [i_ProjectOk_L3] at h
    refine Run.exit (by rfl) ?_
    exact R.mt hmeet44 () (Option.some.inj h)
  rintro p55 rfl
  replace h := elimL h
  refine Run.seq ?_
  refine R.pubBlk (n := 64) (by rfl) (by rfl) (by repeat (first | trivial | refine ⟨by first | rfl | simp [setL], ?_⟩)) ?_
  refine Run.reg ?_
  refine X.fl fld38_2 ?_
  refine X.ld shp35 ?_
  refine X.makeFunc (by rfl) (by rfl) (by repeat (first | trivial | refine ⟨by first | rfl | simp [setL], ?_⟩)) (by rfl) (by rfl) ?_
  obtain ⟨v57, hv57, h⟩ := bindE h
  refine X.cp (slices_ContainsFunc_Link_pc _ (fun x0 => i_ProjectOk_c1 x0 b0) _ _ (fun x0 v hv => i_ProjectOk_c1_pc _ _ _ hv) _ hv57) ?_
  refine X.un (by rfl) (by rfl) (by rfl) ?_
  refine X.an ?_
  cases h
  refine R.f1 Tryz.results75 ?_
  rfl
theorem i_isStart_pc (b0 : Int) (r : Bool) (h : i_isStart b0 = some r) : PC Tryz.prog 76 [int b0] (bool r) := by
 unfold i_isStart at h
 refine PC.start Tryz.func76 Tryz.ntmps76 rfl ok76 rfl ?_
 refine Run.sr ?_
 refine X.an ?_
 refine Run.sr ?_
 refine X.mv ?_
 obtain ⟨v1, hv1, h⟩ := bindE h
 refine X.cp (i_within_pc _ _ _ _ hv1) ?_
 refine X.an ?_
 cases h
 refine R.f1 Tryz.results76 ?_
 rfl
theorem i_SetOk_pc (b0 : List Int) (r : Bool) (h : i_SetOk b0 = some r) : PC Tryz.prog 77 [.slice (b0.map int)] (bool r) := by
 unfold i_SetOk at h
 refine PC.start Tryz.func77 Tryz.ntmps77 rfl ok77 rfl ?_
 refine Run.sr ?_
 refine X.an ?_
 refine Run.seq ?_
 refine Run.sr ?_
 refine X.an ?_
 obtain ⟨o1, ho1, h⟩ := bindE h
 refine R.join2 (β := Unit) [] [] (fun p13 S => S) (fun p13 M => M) (fun p13 => (Sum.inl p13) = o1) ?_ ?_
 ·intro JJ4 hmeet3
  have hup2 := h; clear h; have h := ho1; clear ho1
  refine Run.block ?_
  refine R.lp (β := Int) [(0, .slice (b0.map int))] [] (fun bb S => (3, int bb) :: S) (fun bb M => M) (fun n bb => i_SetOk_L1 b0 n bb = some o1) F0 1 h ?_
  clear h
  rintro JJ4 n4 a6 hag4 h
  obtain _ | n4 := n4
  ·exact absurd h (by simp [i_SetOk_L1])
  rw [i_SetOk_L1] at h
  refine Run.seq ?_
  refine Run.sr ?_
  refine X.mv ?_
  refine X.mv ?_
  refine X.ls elt25 ?_
  refine X.bi ?_
  refine X.nil ?_
  refine R.cd (fun hc9 => ?_) (fun hc9 => ?_)
  ·replace h := condT hc9 h
   refine Run.skip ?_
   refine Run.seq ?_
   refine Run.block ?_
   refine Run.seq ?_
   refine Run.draw (footOf []) mixed (by kernel_rfl) (by kernel_rfl) ?_
   refine X.mv ?_
   refine X.mv ?_
   obtain ⟨v10, hv10, h⟩ := bindE h
   refine X.ix elt25 (idxL_spec hv10).1 (idxL_map int hv10) ?_
   refine X.lc shp3 ?_
   refine X.mv ?_
   refine X.mv ?_
   refine X.subW (by rfl) (by rfl) (by rfl) ?_
   obtain ⟨v11, hv11, h⟩ := bindE h
   refine X.ix elt25 (idxL_spec hv11).1 (idxL_map int hv11) ?_
   refine X.lc shp3 ?_
   refine X.bi ?_
   refine X.nil ?_
   refine R.cd (fun hc12 => ?_) (fun hc12 => ?_)
   ·replace h := condT hc12 h
    refine Run.sr ?_
    refine X.an ?_
    cases h
    have h := hup2
    replace h := elimR h
    cases h
    refine R.f1 Tryz.results77 ?_
    rfl
   ·replace h := condF hc12 h
    refine Run.skip ?_
    refine Run.blk ?_
    refine Run.reg ?_
    refine X.mv ?_
    refine X.addW (by rfl) (by rfl) (by rfl) ?_
    refine X.an ?_
    exact hag4 n4 (W (a6 + 1)) _ _ (by omega) h (by trivial) (by trivial) (by rfl) (by rfl)
  ·replace h := condF hc9 h
   refine Run.exit (by rfl) ?_
   exact R.mt hmeet3 () (Option.some.inj h)
 rintro p13 rfl
 replace h := elimL h
 refine Run.sr ?_
 refine X.an ?_
 cases h
 refine R.f1 Tryz.results77 ?_
 rfl
theorem i_IntRange_pc (b0 : Int) (r : List Int) (h : i_IntRange b0 = some r) : PC Tryz.prog 100 [int b0] (.fresh false 3 1 (r.map int)) := by
 unfold i_IntRange at h
 refine PC.start Tryz.func100 Tryz.ntmps100 rfl ok100 rfl ?_
 refine Run.sr ?_
 refine X.an ?_
 refine Run.seq ?_
 refine Run.sr ?_
 refine X.mv ?_
 obtain ⟨v1, hv1, h⟩ := bindE h
 refine X.cp (i_within_pc _ _ _ _ hv1) ?_
 refine X.un (by rfl) (by rfl) (by rfl) ?_
 refine X.nil ?_
 refine R.cd (fun hc2 => ?_) (fun hc2 => ?_)
 ·replace h := condT hc2 h
  refine Run.sr ?_
  refine X.an ?_
  cases h
  refine R.fin1n (x := false) (e := 3) (sz := 1) Tryz.results100 (by rfl) (by decide) ?_
  rfl
 ·replace h := condF hc2 h
  refine Run.skip ?_
  refine Run.sr ?_
  refine X.buildSlice false elt25 zer3 (by rfl) (by rfl) (by rfl) (by rfl) (by rfl) (by rfl) (by repeat (first | trivial | refine ⟨by first | rfl | simp [setL], ?_⟩)) (allSz_spec (by rfl)) (by rfl) (by rfl) (by rfl) ?_
  refine X.an ?_
  refine Run.seq ?_
  refine Run.sr ?_
  refine X.mv ?_
  refine X.mn ?_
  obtain ⟨o3, ho3, h⟩ := bindE h
  refine R.join2 (β := (List Int)) [] [] (fun p15 S => (3, .own 512 (p15.map int).length) :: S) (fun p15 M => (512, .obj false 3 1 (p15.map int)) :: M) (fun p15 => p15 = o3) ?_ ?_
  ·intro JJ6 hmeet5
   have hup4 := h; clear h; have h := ho3; clear ho3
   refine Run.block ?_
   refine R.lp (β := Int × (List Int)) [(9, int b0)] [] (fun bb S => (3, .own 512 (bb.2.map int).length) :: (10, int bb.1) :: S) (fun bb M => (512, .obj false 3 1 (bb.2.map int)) :: M) (fun n bb => i_IntRange_L1 b0 n bb.1 bb.2 = some o3) F0 (0, ([] : List Int)) h ?_
   clear h
   rintro JJ7 n7 ⟨a9, a10⟩ hag7 h
   dsimp only at h
   obtain _ | n7 := n7
   ·exact absurd h (by simp [i_IntRange_L1])
   rw [i_IntRange_L1] at h
   refine Run.sr ?_
   refine X.bi ?_
   refine X.nil ?_
   refine Run.seq ?_
   refine R.cd (fun hc13 => ?_) (fun hc13 => ?_)
   ·replace h := condT hc13 h
    refine Run.skip ?_
    refine Run.seq ?_
    refine Run.block ?_
    refine Run.sr ?_
    refine X.mv ?_
    refine X.an ?_
    refine Run.reg ?_
    refine X.mv ?_
    refine X.mv ?_
    refine X.buildSlice false elt25 zer3 (by rfl) (by rfl) (by rfl) (by rfl) (by rfl) (by rfl) (by repeat (first | trivial | refine ⟨by first | rfl | simp [setL], ?_⟩)) (allSz_spec (by rfl)) (by rfl) (by rfl) (by rfl) ?_
    obtain ⟨v14, hv14, h⟩ := bindE h
    refine X.append elt25 zer3 (by rfl) (by rfl) (by first | rfl | simp [setL] | omega) (by rfl) (.own _ _ _ _ _ _ (look_mem (by rfl)) (by first | rfl | simp [setL] | omega)) (allSz_spec (by rfl)) (appL_len int hv14) (appL_map int hv14) (by rfl) (by rfl) (by rfl) (by rfl) ?_
    refine X.an ?_
    refine Run.blk ?_
    refine Run.reg ?_
    refine X.addW (by rfl) (by rfl) (by rfl) ?_
    refine X.mn ?_
    exact hag7 n7 ((W (a9 + 1)), v14) _ _ (by omega) h (by repeat (first | trivial | refine ⟨by first | rfl | simp [setL], ?_⟩)) (by repeat (first | trivial | refine ⟨by first | rfl | simp [setL], ?_⟩)) (by rfl) (by rfl)
   ·replace h := condF hc13 h
    refine Run.exit (by rfl) ?_
    exact R.mt hmeet5 a10 (Option.some.inj h)
  rintro p15 rfl
  refine Run.sr ?_
  refine X.mv ?_
  refine X.an ?_
  cases h
  refine R.fin1o Tryz.results100 (by rfl) (by rfl) (by first | rfl | simp [setL] | omega) ?_
  rfl
theorem i_ModeIndexes_pc (b0 : TActivity) (r : List Int) (h : i_ModeIndexes b0 = some r) : PC Tryz.prog 79 [eTActivity b0] (.fresh false 3 1 (r.map int)) := by
 unfold i_ModeIndexes at h
 refine PC.start Tryz.func79 Tryz.ntmps79 rfl ok79 rfl ?_
 refine Run.sr ?_
 refine X.bx ?_
 refine X.an ?_
 refine Run.sr ?_
 refine X.fl fld58_2 ?_
 refine X.ld shp56 ?_
 refine X.ls elt56 ?_
 obtain ⟨v1, hv1, h⟩ := bindE h
 refine X.callF (i_IntRange_pc _ _ hv1) (by rfl) (by rfl) (by rfl) (by trivial) (by rfl) (by rfl) (by rfl) (by rfl) ?_
 refine X.an ?_
 cases h
 refine R.fin1o Tryz.results79 (by rfl) (by rfl) (by first | rfl | simp [setL] | omega) ?_
 rfl
theorem slices_Index_int_pc (b0 : List Int) (b1 : Int) (r : Int) (h : slices_Index_int b0 b1 = some r) : PC Tryz.prog 126 [.slice (b0.map int), int b1] (int r) := by
 unfold slices_Index_int at h
 refine PC.start Tryz.func126 Tryz.ntmps126 rfl ok126 rfl ?_
 refine Run.sr ?_
 refine X.an ?_
 refine Run.seq ?_
 refine Run.sr ?_
 refine X.mv ?_
 refine X.ls elt25 ?_
 refine X.mn ?_
 obtain ⟨o1, ho1, h⟩ := bindE h
 refine R.join2 (β := Unit) [] [] (fun p13 S => S) (fun p13 M => M) (fun p13 => (Sum.inl p13) = o1) ?_ ?_
 ·intro JJ4 hmeet3
  have hup2 := h; clear h; have h := ho1; clear ho1
  refine Run.block ?_
  refine R.bndS (t := 0) (by rfl) (fun hbd7 => ?_)
  replace hbd7 : b0.length ≤ 9223372036854775807 := by first | (rw [List.length_map] at hbd7; exact hbd7) | simp
  refine R.lp (β := Int) [(0, .slice (b0.map int)), (1, int b1), (7, int (b0.length : Int))] [] (fun bb S => (8, int bb) :: S) (fun bb M => M) (fun n bb => 0 ≤ bb ∧ bb + n = (b0.length : Int) ∧ slices_Index_int_L1 b1 (b0.drop bb.toNat) bb = some o1) b0.length (0 : Int) ⟨Int.le_refl _, by simp, h⟩ ?_
  clear h
  rintro JJ7 n7 z8 hag7 ⟨hza7, hzb7, h⟩
  refine Run.sr ?_
  refine X.bi ?_
  refine X.nil ?_
  refine Run.seq ?_
  refine R.cd (fun hc11 => ?_) (fun hc11 => ?_)
  ·obtain ⟨x9, xs10, hd7, hx7, hds7, hlt7⟩ := drop_atI hza7 hc11
   rw [hd7] at h
   rw [slices_Index_int_L1] at h
   refine Run.skip ?_
   refine Run.seq ?_
   refine Run.block ?_
   refine Run.sr ?_
   refine X.mv ?_
   refine X.an ?_
   refine Run.sr ?_
   refine X.mv ?_
   refine X.mv ?_
   refine X.mv ?_
   refine X.ix elt25 (idxL_spec hx7).1 (idxL_map int hx7) ?_
   refine X.lc shp3 ?_
   refine X.bi ?_
   refine X.nil ?_
   refine R.cd (fun hc12 => ?_) (fun hc12 => ?_)
   ·replace h := condT hc12 h
    refine Run.sr ?_
    refine X.mv ?_
    refine X.an ?_
    cases h
    have h := hup2
    replace h := elimR h
    cases h
    refine R.f1 Tryz.results126 ?_
    rfl
   ·replace h := condF hc12 h
    refine Run.skip ?_
    refine Run.blk ?_
    refine Run.reg ?_
    refine X.ad ?_
    refine X.mn ?_
    exact R.ag hag7 (n7 - 1) (z8 + 1) (R.n3 (by first | (rw [hds7]; exact h) | (dsimp only; rw [hds7]; exact h)))
  ·rw [drop_endI hza7 hc11] at h
   rw [slices_Index_int_L1] at h
   refine Run.exit (by rfl) ?_
   exact R.mt hmeet3 () (Option.some.inj h)
 rintro p13 rfl
 replace h := elimL h
 refine Run.sr ?_
 refine X.an ?_
 cases h
 refine R.f1 Tryz.results126 ?_
 rfl
theorem slices_Contains_int_pc (b0 : List Int) (b1 : Int) (r : Bool) (h : slices_Contains_int b0 b1 = some r) : PC Tryz.prog 102 [.slice (b0.map int), int b1] (bool r) := by
 unfold slices_Contains_int at h
 refine PC.start Tryz.func102 Tryz.ntmps102 rfl ok102 rfl ?_
 refine Run.sr ?_
 refine X.an ?_
 refine Run.sr ?_
 refine X.mv ?_
 refine X.mv ?_
 obtain ⟨v1, hv1, h⟩ := bindE h
 refine X.cp (slices_Index_int_pc _ _ _ hv1) ?_
 refine X.bi ?_
 refine X.an ?_
 cases h
 refine R.f1 Tryz.results102 ?_
 rfl
theorem i_SetHas_pc (b0 : List Int) (b1 : Int) (r : Bool) (h : i_SetHas b0 b1 = some r) : PC Tryz.prog 82 [.slice (b0.map int), int b1] (bool r) := by
 unfold i_SetHas at h
 refine PC.start Tryz.func82 Tryz.ntmps82 rfl ok82 rfl ?_
 refine Run.sr ?_
 refine X.an ?_
 refine Run.sr ?_
 refine X.mv ?_
 refine X.mv ?_
 obtain ⟨v1, hv1, h⟩ := bindE h
 refine X.cp (slices_Contains_int_pc _ _ _ hv1) ?_
 refine X.an ?_
 cases h
 refine R.f1 Tryz.results82 ?_
 rfl
theorem i_SetSubset_pc (b0 : List Int) (b1 : List Int) (r : Bool) (h : i_SetSubset b0 b1 = some r) : PC Tryz.prog 78 [.slice (b0.map int), .slice (b1.map int)] (bool r) := by
 unfold i_SetSubset at h
 refine PC.start Tryz.func78 Tryz.ntmps78 rfl ok78 rfl ?_
 refine Run.sr ?_
 refine X.an ?_
 refine Run.seq ?_
 refine Run.sr ?_
 refine X.mv ?_
 refine X.ls elt25 ?_
 refine X.mn ?_
 obtain ⟨o1, ho1, h⟩ := bindE h
 refine R.join2 (β := Unit) [] [] (fun p14 S => S) (fun p14 M => M) (fun p14 => (Sum.inl p14) = o1) ?_ ?_
 ·intro JJ4 hmeet3
  have hup2 := h; clear h; have h := ho1; clear ho1
  refine Run.block ?_
  refine R.bndS (t := 0) (by rfl) (fun hbd7 => ?_)
  replace hbd7 : b0.length ≤ 9223372036854775807 := by first | (rw [List.length_map] at hbd7; exact hbd7) | simp
  refine R.lp (β := Int) [(1, .slice (b1.map int)), (7, .slice (b0.map int)), (8, int (b0.length : Int))] [] (fun bb S => (9, int bb) :: S) (fun bb M => M) (fun n bb => 0 ≤ bb ∧ bb + n = (b0.length : Int) ∧ i_SetSubset_L1 b1 (b0.drop bb.toNat) bb = some o1) b0.length (0 : Int) ⟨Int.le_refl _, by simp, h⟩ ?_
  clear h
  rintro JJ7 n7 z8 hag7 ⟨hza7, hzb7, h⟩
  refine Run.sr ?_
  refine X.bi ?_
  refine X.nil ?_
  refine Run.seq ?_
  refine R.cd (fun hc11 => ?_) (fun hc11 => ?_)
  ·obtain ⟨x9, xs10, hd7, hx7, hds7, hlt7⟩ := drop_atI hza7 hc11
   rw [hd7] at h
   rw [i_SetSubset_L1] at h
   refine Run.skip ?_
   refine Run.seq ?_
   refine Run.block ?_
   refine Run.sr ?_
   refine X.ix elt25 (idxL_spec hx7).1 (idxL_map int hx7) ?_
   refine X.lc shp3 ?_
   refine X.an ?_
   refine Run.sr ?_
   refine X.mv ?_
   refine X.mv ?_
   obtain ⟨v12, hv12, h⟩ := bindE h
   refine X.cp (i_SetHas_pc _ _ _ hv12) ?_
   refine X.un (by rfl) (by rfl) (by rfl) ?_
   refine X.nil ?_
   refine R.cd (fun hc13 => ?_) (fun hc13 => ?_)
   ·replace h := condT hc13 h
    refine Run.sr ?_
    refine X.an ?_
    cases h
    have h := hup2
    replace h := elimR h
    cases h
    refine R.f1 Tryz.results78 ?_
    rfl
   ·replace h := condF hc13 h
    refine Run.skip ?_
    refine Run.blk ?_
    refine Run.reg ?_
    refine X.ad ?_
    refine X.mn ?_
    exact R.ag hag7 (n7 - 1) (z8 + 1) (R.n3 (by first | (rw [hds7]; exact h) | (dsimp only; rw [hds7]; exact h)))
  ·rw [drop_endI hza7 hc11] at h
   rw [i_SetSubset_L1] at h
   refine Run.exit (by rfl) ?_
   exact R.mt hmeet3 () (Option.some.inj h)
 rintro p14 rfl
 replace h := elimL h
 refine Run.sr ?_
 refine X.an ?_
 cases h
 refine R.f1 Tryz.results78 ?_
 rfl
theorem i_DomainForm_pc (b0 : TProject) (b1 : TDomain) (r : Bool) (h : i_DomainForm b0 b1 = some r) : PC Tryz.prog 54 [eTProject b0, eTDomain b1] (bool r) := by
 unfold i_DomainForm at h
 refine PC.start Tryz.func54 Tryz.ntmps54 rfl ok54 rfl ?_
 refine Run.sr ?_
 refine X.bx ?_
 refine X.bx ?_
 refine X.an ?_
 refine Run.sr ?_
 refine X.fl fld38_1 ?_
 refine X.ld shp34 ?_
 refine X.ls elt34 ?_
 refine X.an ?_
 refine Run.seq ?_
 refine Run.seq ?_
 obtain ⟨v1, hv1, h⟩ := bindE h
 obtain ⟨e2, he2, h2⟩ := bindE h
 refine R.regG [(2, .lptr 128 0), (3, .lptr 192 0), (34, bool e2)] [(128, .blk true [int b0.Deadline, .slice (b0.Activities.map eTActivity), .slice (b0.Links.map eTLink), .slice (b0.Resources.map eTResource), .slice (b0.Stocks.map int)]), (192, .blk true [.slice (b1.MinStart.map int), .slice (b1.MaxStart.map int), .slice (b1.Modes.map l_int)])] ?_ ?_
 ·clear h; have h := he2; clear he2 h2
  refine X.ld shp38 ?_
  refine X.cp (i_ProjectOk_pc _ _ hv1) ?_
  refine X.un (by rfl) (by rfl) (by rfl) ?_
  refine X.mv ?_
  refine X.iG (fun hb3 => ?_) (fun hb3 => ?_)
  ·replace h := condF hb3 h
   refine X.fl fld40_0 ?_
   refine X.gy ?_
   refine X.ld shp25 ?_
   refine X.gy ?_
   refine X.ls elt25 ?_
   refine X.gy ?_
   refine X.mv ?_
   refine X.gy ?_
   refine X.bi ?_
   refine X.pF ?_
   refine X.mv ?_
   refine X.iG (fun hb4 => ?_) (fun hb4 => ?_)
   ·replace h := condF hb4 h
    refine X.fl fld40_1 ?_
    refine X.gy ?_
    refine X.ld shp25 ?_
    refine X.gy ?_
    refine X.ls elt25 ?_
    refine X.gy ?_
    refine X.mv ?_
    refine X.gy ?_
    refine X.bi ?_
    refine X.pF ?_
    refine X.mv ?_
    refine X.iG (fun hb5 => ?_) (fun hb5 => ?_)
    ·replace h := condF hb5 h
     refine X.fl fld40_2 ?_
     refine X.gy ?_
     refine X.ld shp28 ?_
     refine X.gy ?_
     refine X.ls elt28 ?_
     refine X.gy ?_
     refine X.mv ?_
     refine X.gy ?_
     refine X.bi ?_
     refine X.pF ?_
     cases h
     exact X.eG
    ·replace h := condT hb5 h
     refine X.gn ?_
     refine X.gn ?_
     refine X.gn ?_
     refine X.gn ?_
     refine X.pT ?_
     cases h
     exact X.eG
   ·replace h := condT hb4 h
    refine X.gn ?_
    refine X.gn ?_
    refine X.gn ?_
    refine X.gn ?_
    refine X.pT ?_
    refine X.mv ?_
    refine X.gn ?_
    refine X.gn ?_
    refine X.gn ?_
    refine X.gn ?_
    refine X.gn ?_
    refine X.pT ?_
    cases h
    exact X.eG
  ·replace h := condT hb3 h
   refine X.gn ?_
   refine X.gn ?_
   refine X.gn ?_
   refine X.gn ?_
   refine X.pT ?_
   refine X.mv ?_
   refine X.gn ?_
   refine X.gn ?_
   refine X.gn ?_
   refine X.gn ?_
   refine X.gn ?_
   refine X.pT ?_
   refine X.mv ?_
   refine X.gn ?_
   refine X.gn ?_
   refine X.gn ?_
   refine X.gn ?_
   refine X.gn ?_
   refine X.pT ?_
   cases h
   exact X.eG
 replace h := h2; clear h2
 refine R.cd (fun hc6 => ?_) (fun hc6 => ?_)
 ·replace h := condT hc6 h
  refine Run.sr ?_
  refine X.an ?_
  cases h
  refine R.f1 Tryz.results54 ?_
  rfl
 ·replace h := condF hc6 h
  refine Run.skip ?_
  refine Run.seq ?_
  refine Run.sr ?_
  refine X.fl fld40_2 ?_
  refine X.ld shp28 ?_
  refine X.ls elt28 ?_
  refine X.mn ?_
  obtain ⟨o7, ho7, h⟩ := bindE h
  refine R.join2 (β := Unit) [] [] (fun p31 S => S) (fun p31 M => M) (fun p31 => (Sum.inl p31) = o7) ?_ ?_
  ·intro JJ10 hmeet9
   have hup8 := h; clear h; have h := ho7; clear ho7
   refine Run.block ?_
   refine R.bndS (t := 36) (by rfl) (fun hbd13 => ?_)
   replace hbd13 : b1.Modes.length ≤ 9223372036854775807 := by first | (rw [List.length_map] at hbd13; exact hbd13) | simp
   refine R.lp (β := Int) [(2, .lptr 128 0), (3, .lptr 192 0), (36, .slice (b1.Modes.map l_int)), (37, int (b1.Modes.length : Int))] [(128, .blk true [int b0.Deadline, .slice (b0.Activities.map eTActivity), .slice (b0.Links.map eTLink), .slice (b0.Resources.map eTResource), .slice (b0.Stocks.map int)]), (192, .blk true [.slice (b1.MinStart.map int), .slice (b1.MaxStart.map int), .slice (b1.Modes.map l_int)])] (fun bb S => (38, int bb) :: S) (fun bb M => M) (fun n bb => 0 ≤ bb ∧ bb + n = (b1.Modes.length : Int) ∧ i_DomainForm_L1 b0 b1 (b1.Modes.drop bb.toNat) bb = some o7) b1.Modes.length (0 : Int) ⟨Int.le_refl _, by simp, h⟩ ?_
   clear h
   rintro JJ13 n13 z14 hag13 ⟨hza13, hzb13, h⟩
   refine Run.sr ?_
   refine X.bi ?_
   refine X.nil ?_
   refine Run.seq ?_
   refine R.cd (fun hc17 => ?_) (fun hc17 => ?_)
   ·obtain ⟨x15, xs16, hd13, hx13, hds13, hlt13⟩ := drop_atI hza13 hc17
    rw [hd13] at h
    rw [i_DomainForm_L1] at h
    refine Run.skip ?_
    refine Run.seq ?_
    refine Run.block ?_
    refine Run.sr ?_
    refine X.mv ?_
    refine X.ix elt28 (idxL_spec hx13).1 (idxL_map l_int hx13) ?_
    refine X.lc shp25 ?_
    refine X.as ?_
    refine X.an ?_
    refine Run.seq ?_
    obtain ⟨v18, hv18, h⟩ := bindE h
    obtain ⟨v19, hv19, h⟩ := bindE h
    obtain ⟨e20, he20, h2⟩ := bindE h
    refine R.regG [(2, .lptr 128 0), (3, .lptr 192 0), (36, .slice (b1.Modes.map l_int)), (37, int (b1.Modes.length : Int)), (38, int z14), (74, bool e20)] [(128, .blk true [int b0.Deadline, .slice (b0.Activities.map eTActivity), .slice (b0.Links.map eTLink), .slice (b0.Resources.map eTResource), .slice (b0.Stocks.map int)]), (192, .blk true [.slice (b1.MinStart.map int), .slice (b1.MaxStart.map int), .slice (b1.Modes.map l_int)])] ?_ ?_
    ·clear h; have h := he20; clear he20 h2
     refine X.fl fld40_0 ?_
     refine X.ld shp25 ?_
     refine X.mv ?_
     refine X.ix elt25 (idxL_spec hv18).1 (idxL_map int hv18) ?_
     refine X.lc shp3 ?_
     refine X.cp (i_isStart_pc _ _ hv19) ?_
     refine X.un (by rfl) (by rfl) (by rfl) ?_
     refine X.mv ?_
     refine X.iG (fun hb21 => ?_) (fun hb21 => ?_)
     ·replace h := condF hb21 h
      refine X.fl fld40_1 ?_
      refine X.gy ?_
      refine X.ld shp25 ?_
      refine X.gy ?_
      refine X.mv ?_
      refine X.gy ?_
      obtain ⟨v22, hv22, h⟩ := bindE h
      refine X.ix elt25 (idxL_spec hv22).1 (idxL_map int hv22) ?_
      refine X.gy ?_
      refine X.lc shp3 ?_
      refine X.gy ?_
      obtain ⟨v23, hv23, h⟩ := bindE h
      refine X.cp (i_isStart_pc _ _ hv23) ?_
      refine X.gy ?_
      refine X.un (by rfl) (by rfl) (by rfl) ?_
      refine X.pF ?_
      refine X.mv ?_
      refine X.iG (fun hb24 => ?_) (fun hb24 => ?_)
      ·replace h := condF hb24 h
       refine X.mv ?_
       refine X.gy ?_
       obtain ⟨v25, hv25, h⟩ := bindE h
       refine X.cp (i_SetOk_pc _ _ hv25) ?_
       refine X.gy ?_
       refine X.un (by rfl) (by rfl) (by rfl) ?_
       refine X.pF ?_
       refine X.mv ?_
       refine X.iG (fun hb26 => ?_) (fun hb26 => ?_)
       ·replace h := condF hb26 h
        refine X.mv ?_
        refine X.gy ?_
        refine X.fl fld38_1 ?_
        refine X.gy ?_
        refine X.ld shp34 ?_
        refine X.gy ?_
        refine X.mv ?_
        refine X.gy ?_
        obtain ⟨v27, hv27, h⟩ := bindE h
        refine X.ix elt34 (idxL_spec hv27).1 (idxL_map eTActivity hv27) ?_
        refine X.gy ?_
        refine X.lc shp58 ?_
        refine X.gy ?_
        obtain ⟨v28, hv28, h⟩ := bindE h
        refine X.callF (i_ModeIndexes_pc _ _ hv28) (by rfl) (by rfl) (by rfl) (by trivial) (by rfl) (by rfl) (by rfl) (by rfl) ?_
        refine X.gy ?_
        obtain ⟨v29, hv29, h⟩ := bindE h
        refine X.cp (i_SetSubset_pc _ _ _ hv29) ?_
        refine X.gy ?_
        refine X.un (by rfl) (by rfl) (by rfl) ?_
        refine X.pF ?_
        cases h
        exact X.eG
       ·replace h := condT hb26 h
        refine X.gn ?_
        refine X.gn ?_
        refine X.gn ?_
        refine X.gn ?_
        refine X.gn ?_
        refine X.gn ?_
        refine X.gn ?_
        refine X.gn ?_
        refine X.pT ?_
        cases h
        exact X.eG
      ·replace h := condT hb24 h
       refine X.gn ?_
       refine X.gn ?_
       refine X.pT ?_
       refine X.mv ?_
       refine X.gn ?_
       refine X.gn ?_
       refine X.gn ?_
       refine X.gn ?_
       refine X.gn ?_
       refine X.gn ?_
       refine X.gn ?_
       refine X.gn ?_
       refine X.gn ?_
       refine X.pT ?_
       cases h
       exact X.eG
     ·replace h := condT hb21 h
      refine X.gn ?_
      refine X.gn ?_
      refine X.gn ?_
      refine X.gn ?_
      refine X.gn ?_
      refine X.gn ?_
      refine X.pT ?_
      refine X.mv ?_
      refine X.gn ?_
      refine X.gn ?_
      refine X.gn ?_
      refine X.pT ?_
      refine X.mv ?_
      refine X.gn ?_
      refine X.gn ?_
      refine X.gn ?_
      refine X.gn ?_
      refine X.gn ?_
      refine X.gn ?_
      refine X.gn ?_
      refine X.gn ?_
      refine X.gn ?_
      refine X.pT ?_
      cases h
      exact X.eG
    replace h := h2; clear h2
    refine R.cd (fun hc30 => ?_) (fun hc30 => ?_)
    ·replace h := condT hc30 h
     refine Run.sr ?_
     refine X.an ?_
     cases h
     have h := hup8
     replace h := elimR h
     cases h
     refine R.f1 Tryz.results54 ?_
     rfl
    ·replace h := condF hc30 h
     refine Run.skip ?_
     refine Run.blk ?_
     refine Run.reg ?_
     refine X.ad ?_
     refine X.mn ?_
     exact R.ag hag13 (n13 - 1) (z14 + 1) (R.n3 (by first | (rw [hds13]; exact h) | (dsimp only; rw [hds13]; exact h)))
   ·rw [drop_endI hza13 hc17] at h
    rw [i_DomainForm_L1] at h
    refine Run.exit (by rfl) ?_
    exact R.mt hmeet9 () (Option.some.inj h)
  rintro p31 rfl
  replace h := elimL h
  refine Run.sr ?_
  refine X.an ?_
  cases h
  refine R.f1 Tryz.results54 ?_
  rfl
theorem slices_IndexFunc__int_pc (b0 : List (List Int)) (g1 : (List Int) → Option Bool) (g1id : Nat) (g1c : List PV) (hg1 : ∀ (x0 : List Int) v, g1 x0 = some v → PC Tryz.prog g1id ([.slice (x0.map int)] ++ g1c) (bool v)) (r : Int) (h : slices_IndexFunc__int b0 g1 = some r) : PC Tryz.prog 101 [.slice (b0.map l_int), .fn g1id g1c] (int r) := by
 unfold slices_IndexFunc__int at h
 refine PC.start Tryz.func101 Tryz.ntmps101 rfl ok101 rfl ?_
 refine Run.sr ?_
 refine X.an ?_
 refine Run.seq ?_
 refine Run.sr ?_
 refine X.mv ?_
 refine X.ls elt28 ?_
 refine X.mn ?_
 obtain ⟨o1, ho1, h⟩ := bindE h
 refine R.join2 (β := Unit) [] [] (fun p14 S => S) (fun p14 M => M) (fun p14 => (Sum.inl p14) = o1) ?_ ?_
 ·intro JJ4 hmeet3
  have hup2 := h; clear h; have h := ho1; clear ho1
  refine Run.block ?_
  refine R.bndS (t := 0) (by rfl) (fun hbd7 => ?_)
  replace hbd7 : b0.length ≤ 9223372036854775807 := by first | (rw [List.length_map] at hbd7; exact hbd7) | simp
  refine R.lp (β := Int) [(0, .slice (b0.map l_int)), (1, .fn g1id g1c), (7, int (b0.length : Int))] [] (fun bb S => (8, int bb) :: S) (fun bb M => M) (fun n bb => 0 ≤ bb ∧ bb + n = (b0.length : Int) ∧ slices_IndexFunc__int_L1 g1 (b0.drop bb.toNat) bb = some o1) b0.length (0 : Int) ⟨Int.le_refl _, by simp, h⟩ ?_
  clear h
  rintro JJ7 n7 z8 hag7 ⟨hza7, hzb7, h⟩
  refine Run.sr ?_
  refine X.bi ?_
  refine X.nil ?_
  refine Run.seq ?_
  refine R.cd (fun hc11 => ?_) (fun hc11 => ?_)
  ·obtain ⟨x9, xs10, hd7, hx7, hds7, hlt7⟩ := drop_atI hza7 hc11
   rw [hd7] at h
   rw [slices_IndexFunc__int_L1] at h
   refine Run.skip ?_
   refine Run.seq ?_
   refine Run.block ?_
   refine Run.sr ?_
   refine X.mv ?_
   refine X.an ?_
   refine Run.sr ?_
   refine X.mv ?_
   refine X.mv ?_
   refine X.mv ?_
   refine X.ix elt28 (idxL_spec hx7).1 (idxL_map l_int hx7) ?_
   refine X.lc shp25 ?_
   obtain ⟨v12, hv12, h⟩ := bindE h
   refine X.cp (hg1 _ _ hv12) ?_
   refine X.nil ?_
   refine R.cd (fun hc13 => ?_) (fun hc13 => ?_)
   ·replace h := condT hc13 h
    refine Run.sr ?_
    refine X.mv ?_
    refine X.an ?_
    cases h
    have h := hup2
    replace h := elimR h
    cases h
    refine R.f1 Tryz.results101 ?_
    rfl
   ·replace h := condF hc13 h
    refine Run.skip ?_
    refine Run.blk ?_
    refine Run.reg ?_
    refine X.ad ?_
    refine X.mn ?_
    exact R.ag hag7 (n7 - 1) (z8 + 1) (R.n3 (by first | (rw [hds7]; exact h) | (dsimp only; rw [hds7]; exact h)))
  ·rw [drop_endI hza7 hc11] at h
   rw [slices_IndexFunc__int_L1] at h
   refine Run.exit (by rfl) ?_
   exact R.mt hmeet3 () (Option.some.inj h)
 rintro p14 rfl
 replace h := elimL h
 refine Run.sr ?_
 refine X.an ?_
 cases h
 refine R.f1 Tryz.results101 ?_
 rfl
theorem slices_ContainsFunc__int_pc (b0 : List (List Int)) (g1 : (List Int) → Option Bool) (g1id : Nat) (g1c : List PV) (hg1 : ∀ (x0 : List Int) v, g1 x0 = some v → PC Tryz.prog g1id ([.slice (x0.map int)] ++ g1c) (bool v)) (r : Bool) (h : slices_ContainsFunc__int b0 g1 = some r) : PC Tryz.prog 80 [.slice (b0.map l_int), .fn g1id g1c] (bool r) := by
 unfold slices_ContainsFunc__int at h
 refine PC.start Tryz.func80 Tryz.ntmps80 rfl ok80 rfl ?_
 refine Run.sr ?_
 refine X.an ?_
 refine Run.sr ?_
 refine X.mv ?_
 refine X.mv ?_
 obtain ⟨v1, hv1, h⟩ := bindE h
 refine X.cp (slices_IndexFunc__int_pc _ g1 _ _ hg1 _ hv1) ?_
 refine X.bi ?_
 refine X.an ?_
 cases h
 refine R.f1 Tryz.results80 ?_
 rfl
theorem i_DomainEmpty_c1_pc (b0 : List Int) (r : Bool) (h : i_DomainEmpty_c1 b0 = some r) : PC Tryz.prog 81 [.slice (b0.map int)] (bool r) := by
 unfold i_DomainEmpty_c1 at h
 refine PC.start Tryz.func81 Tryz.ntmps81 rfl ok81 rfl ?_
 refine Run.sr ?_
 refine X.an ?_
 refine Run.sr ?_
 refine X.mv ?_
 refine X.ls elt25 ?_
 refine X.bi ?_
 refine X.an ?_
 cases h
 refine R.f1 Tryz.results81 ?_
 rfl
theorem i_DomainEmpty_pc (b0 : TDomain) (r : Bool) (h : i_DomainEmpty b0 = some r) : PC Tryz.prog 55 [eTDomain b0] (bool r) := by
 unfold i_DomainEmpty at h
 refine PC.start Tryz.func55 Tryz.ntmps55 rfl ok55 rfl ?_
 refine Run.sr ?_
 refine X.bx ?_
 refine X.an ?_
 refine Run.seq ?_
 refine Run.sr ?_
 refine X.fl fld40_0 ?_
 refine X.ld shp25 ?_
 refine X.ls elt25 ?_
 refine X.mn ?_
 obtain ⟨o1, ho1, h⟩ := bindE h
 refine R.join2 (β := Unit) [(1, .lptr 64 0)] [(64, .blk true [.slice (b0.MinStart.map int), .slice (b0.MaxStart.map int), .slice (b0.Modes.map l_int)])] (fun p16 S => S) (fun p16 M => M) (fun p16 => (Sum.inl p16) = o1) ?_ ?_
 ·intro JJ4 hmeet3
  have hup2 := h; clear h; have h := ho1; clear ho1
  refine Run.block ?_
  refine R.bndS (t := 6) (by rfl) (fun hbd7 => ?_)
  replace hbd7 : b0.MinStart.length ≤ 9223372036854775807 := by first | (rw [List.length_map] at hbd7; exact hbd7) | simp
  refine R.lp (β := Int) [(1, .lptr 64 0), (6, .slice (b0.MinStart.map int)), (7, int (b0.MinStart.length : Int))] [(64, .blk true [.slice (b0.MinStart.map int), .slice (b0.MaxStart.map int), .slice (b0.Modes.map l_int)])] (fun bb S => (8, int bb) :: S) (fun bb M => M) (fun n bb => 0 ≤ bb ∧ bb + n = (b0.MinStart.length : Int) ∧ i_DomainEmpty_L1 b0 (b0.MinStart.drop bb.toNat) bb = some o1) b0.MinStart.length (0 : Int) ⟨Int.le_refl _, by simp, h⟩ ?_
  clear h
  rintro JJ7 n7 z8 hag7 ⟨hza7, hzb7, h⟩
  refine Run.sr ?_
  refine X.bi ?_
  refine X.nil ?_
  refine Run.seq ?_
  refine R.cd (fun hc11 => ?_) (fun hc11 => ?_)
  ·obtain ⟨x9, xs10, hd7, hx7, hds7, hlt7⟩ := drop_atI hza7 hc11
   rw [hd7] at h
   rw [i_DomainEmpty_L1] at h
   refine Run.skip ?_
   refine Run.seq ?_
   refine Run.block ?_
   refine Run.sr ?_
   refine X.mv ?_
   refine X.ix elt25 (idxL_spec hx7).1 (idxL_map int hx7) ?_
   refine X.lc shp3 ?_
   refine X.as ?_
   refine X.an ?_
   refine Run.seq ?_
   obtain ⟨e12, he12, h2⟩ := bindE h
   refine R.regG [(1, .lptr 64 0), (6, .slice (b0.MinStart.map int)), (7, int (b0.MinStart.length : Int)), (8, int z8), (26, bool e12)] [(64, .blk true [.slice (b0.MinStart.map int), .slice (b0.MaxStart.map int), .slice (b0.Modes.map l_int)])] ?_ ?_
   ·clear h; have h := he12; clear he12 h2
    refine X.mv ?_
    refine X.fl fld40_1 ?_
    refine X.ld shp25 ?_
    refine X.ls elt25 ?_
    refine X.bi ?_
    refine X.mv ?_
    refine X.iG (fun hb13 => ?_) (fun hb13 => ?_)
    ·replace h := condT hb13 h
     refine X.mv ?_
     refine X.gy ?_
     refine X.fl fld40_1 ?_
     refine X.gy ?_
     refine X.ld shp25 ?_
     refine X.gy ?_
     refine X.mv ?_
     refine X.gy ?_
     obtain ⟨v14, hv14, h⟩ := bindE h
     refine X.ix elt25 (idxL_spec hv14).1 (idxL_map int hv14) ?_
     refine X.gy ?_
     refine X.lc shp3 ?_
     refine X.gy ?_
     refine X.bi ?_
     refine X.pT ?_
     cases h
     exact X.eG
    ·replace h := condF hb13 h
     refine X.gn ?_
     refine X.gn ?_
     refine X.gn ?_
     refine X.gn ?_
     refine X.gn ?_
     refine X.gn ?_
     refine X.pF ?_
     cases h
     exact X.eG
   replace h := h2; clear h2
   refine R.cd (fun hc15 => ?_) (fun hc15 => ?_)
   ·replace h := condT hc15 h
    refine Run.sr ?_
    refine X.an ?_
    cases h
    have h := hup2
    replace h := elimR h
    cases h
    refine R.f1 Tryz.results55 ?_
    rfl
   ·replace h := condF hc15 h
    refine Run.skip ?_
    refine Run.blk ?_
    refine Run.reg ?_
    refine X.ad ?_
    refine X.mn ?_
    exact R.ag hag7 (n7 - 1) (z8 + 1) (R.n3 (by first | (rw [hds7]; exact h) | (dsimp only; rw [hds7]; exact h)))
  ·rw [drop_endI hza7 hc11] at h
   rw [i_DomainEmpty_L1] at h
   refine Run.exit (by rfl) ?_
   exact R.mt hmeet3 () (Option.some.inj h)
 rintro p16 rfl
 replace h := elimL h
 refine Run.sr ?_
 refine X.fl fld40_2 ?_
 refine X.ld shp28 ?_
 obtain ⟨v18, hv18, h⟩ := bindE h
 refine X.cp (slices_ContainsFunc__int_pc _ (fun x0 => i_DomainEmpty_c1 x0) _ _ (fun x0 v hv => i_DomainEmpty_c1_pc _ _ hv) _ hv18) ?_
 refine X.an ?_
 cases h
 refine R.f1 Tryz.results55 ?_
 rfl
end Go.Px.YtchaabloaaaonaaGreat
