/-
  PROVED: contracts of functions of the program over pure values. No condition beyond those that each theorem names.
-/
import Derived.Test.YtbppcgnbkeegbaaGreatDoorProg
import Derived.Test.YtbppcgnbkeegbaaGreatDoorD1
import Derived.Test.YtbppcgnbkeegbaaGreatDoorS
namespace Go.Px.YtbppcgnbkeegbaaGreatDoor
set_option linter.unusedSimpArgs false
set_option linter.unusedVariables false
open Go.Px Go.Proofs
theorem shp27 : shp Tryz.prog 27 = some (true, 5) := by kernel_rfl
theorem fld27_1 : fldOff Tryz.prog 27 1 = some 1 := by kernel_rfl
theorem shp22 : shp Tryz.prog 22 = some (false, 1) := by kernel_rfl
theorem elt22 : eltOf Tryz.prog 22 = some (85, 3, 48) := by kernel_rfl
theorem shp85 : shp Tryz.prog 85 = some (true, 3) := by kernel_rfl
theorem fld85_0 : fldOff Tryz.prog 85 0 = some 0 := by kernel_rfl
theorem shp9 : shp Tryz.prog 9 = some (false, 1) := by kernel_rfl
theorem fld85_2 : fldOff Tryz.prog 85 2 = some 2 := by kernel_rfl
theorem shp83 : shp Tryz.prog 83 = some (false, 1) := by kernel_rfl
theorem elt83 : eltOf Tryz.prog 83 = some (158, 3, 56) := by kernel_rfl
theorem shp158 : shp Tryz.prog 158 = some (true, 3) := by kernel_rfl
theorem fld158_1 : fldOff Tryz.prog 158 1 = some 1 := by kernel_rfl
theorem shp25 : shp Tryz.prog 25 = some (false, 1) := by kernel_rfl
theorem elt25 : eltOf Tryz.prog 25 = some (3, 1, 8) := by kernel_rfl
theorem ok21 : okFn Tryz.prog 21 = true := by kernel_rfl
theorem fld158_2 : fldOff Tryz.prog 158 2 = some 2 := by kernel_rfl
theorem ok116 : okFn Tryz.prog 116 = true := by kernel_rfl
theorem ok84 : okFn Tryz.prog 84 = true := by kernel_rfl
theorem ok47 : okFn Tryz.prog 47 = true := by kernel_rfl
theorem ok18 : okFn Tryz.prog 18 = true := by kernel_rfl
theorem fld27_2 : fldOff Tryz.prog 27 2 = some 2 := by kernel_rfl
theorem shp23 : shp Tryz.prog 23 = some (false, 1) := by kernel_rfl
theorem elt23 : eltOf Tryz.prog 23 = some (112, 4, 32) := by kernel_rfl
theorem ok19 : okFn Tryz.prog 19 = true := by kernel_rfl
theorem fld27_3 : fldOff Tryz.prog 27 3 = some 3 := by kernel_rfl
theorem shp24 : shp Tryz.prog 24 = some (false, 1) := by kernel_rfl
theorem elt24 : eltOf Tryz.prog 24 = some (90, 2, 48) := by kernel_rfl
theorem shp90 : shp Tryz.prog 90 = some (true, 2) := by kernel_rfl
theorem fld90_0 : fldOff Tryz.prog 90 0 = some 0 := by kernel_rfl
theorem shp87 : shp Tryz.prog 87 = some (false, 1) := by kernel_rfl
theorem elt87 : eltOf Tryz.prog 87 = some (165, 2, 16) := by kernel_rfl
theorem ok85 : okFn Tryz.prog 85 = true := by kernel_rfl
theorem fld90_1 : fldOff Tryz.prog 90 1 = some 1 := by kernel_rfl
theorem shp88 : shp Tryz.prog 88 = some (false, 1) := by kernel_rfl
theorem elt88 : eltOf Tryz.prog 88 = some (25, 1, 24) := by kernel_rfl
theorem ok86 : okFn Tryz.prog 86 = true := by kernel_rfl
theorem ok48 : okFn Tryz.prog 48 = true := by kernel_rfl
theorem ok20 : okFn Tryz.prog 20 = true := by kernel_rfl
theorem fld27_4 : fldOff Tryz.prog 27 4 = some 4 := by kernel_rfl
theorem ok5 : okFn Tryz.prog 5 = true := by kernel_rfl
theorem shp32 : shp Tryz.prog 32 = some (true, 6) := by kernel_rfl
theorem fld32_2 : fldOff Tryz.prog 32 2 = some 5 := by kernel_rfl
theorem shp30 : shp Tryz.prog 30 = some (false, 1) := by kernel_rfl
theorem elt30 : eltOf Tryz.prog 30 = some (115, 3, 24) := by kernel_rfl
theorem ok22 : okFn Tryz.prog 22 = true := by kernel_rfl
theorem ok6 : okFn Tryz.prog 6 = true := by kernel_rfl
theorem zer40 : zeroPV Tryz.prog 40 = some [.lit (.int .i64 0), .nils, .nils, .nils, .nils] := by kernel_rfl
theorem fld27_0 : fldOff Tryz.prog 27 0 = some 0 := by kernel_rfl
theorem shp3 : shp Tryz.prog 3 = some (false, 1) := by kernel_rfl
theorem fld40_0 : fldOff Tryz.prog 40 0 = some 0 := by kernel_rfl
theorem elt36 : eltOf Tryz.prog 36 = some (95, 3, 48) := by kernel_rfl
theorem zer95 : zeroPV Tryz.prog 95 = some [.lit (.string ByteArray.empty), .lit (.int .i64 0), .nils] := by kernel_rfl
theorem fld95_0 : fldOff Tryz.prog 95 0 = some 0 := by kernel_rfl
theorem fld85_1 : fldOff Tryz.prog 85 1 = some 1 := by kernel_rfl
theorem fld95_1 : fldOff Tryz.prog 95 1 = some 1 := by kernel_rfl
theorem elt93 : eltOf Tryz.prog 93 = some (131, 3, 56) := by kernel_rfl
theorem zer131 : zeroPV Tryz.prog 131 = some [.lit (.int .i64 0), .nils, .nils] := by kernel_rfl
theorem fld158_0 : fldOff Tryz.prog 158 0 = some 0 := by kernel_rfl
theorem fld131_0 : fldOff Tryz.prog 131 0 = some 0 := by kernel_rfl
theorem zer3 : zeroPV Tryz.prog 3 = some [.lit (.int .i64 0)] := by kernel_rfl
theorem ok32 : okFn Tryz.prog 32 = true := by kernel_rfl
theorem fld131_1 : fldOff Tryz.prog 131 1 = some 1 := by kernel_rfl
theorem fld131_2 : fldOff Tryz.prog 131 2 = some 2 := by kernel_rfl
theorem shp131 : shp Tryz.prog 131 = some (true, 3) := by kernel_rfl
theorem ok119 : okFn Tryz.prog 119 = true := by kernel_rfl
theorem ok94 : okFn Tryz.prog 94 = true := by kernel_rfl
theorem fld95_2 : fldOff Tryz.prog 95 2 = some 2 := by kernel_rfl
theorem shp93 : shp Tryz.prog 93 = some (false, 1) := by kernel_rfl
theorem shp95 : shp Tryz.prog 95 = some (true, 3) := by kernel_rfl
theorem ok58 : okFn Tryz.prog 58 = true := by kernel_rfl
theorem ok29 : okFn Tryz.prog 29 = true := by kernel_rfl
theorem fld40_1 : fldOff Tryz.prog 40 1 = some 1 := by kernel_rfl
theorem shp36 : shp Tryz.prog 36 = some (false, 1) := by kernel_rfl
theorem elt37 : eltOf Tryz.prog 37 = some (103, 4, 32) := by kernel_rfl
theorem zer103 : zeroPV Tryz.prog 103 = some [.lit (.int .i64 0), .lit (.int .i64 0), .lit (.bool false), .lit (.int .i64 0)] := by kernel_rfl
theorem shp112 : shp Tryz.prog 112 = some (true, 4) := by kernel_rfl
theorem fld112_0 : fldOff Tryz.prog 112 0 = some 0 := by kernel_rfl
theorem fld103_0 : fldOff Tryz.prog 103 0 = some 0 := by kernel_rfl
theorem fld112_1 : fldOff Tryz.prog 112 1 = some 1 := by kernel_rfl
theorem fld103_1 : fldOff Tryz.prog 103 1 = some 1 := by kernel_rfl
theorem fld112_2 : fldOff Tryz.prog 112 2 = some 2 := by kernel_rfl
theorem shp4 : shp Tryz.prog 4 = some (false, 1) := by kernel_rfl
theorem fld103_2 : fldOff Tryz.prog 103 2 = some 2 := by kernel_rfl
theorem fld112_3 : fldOff Tryz.prog 112 3 = some 3 := by kernel_rfl
theorem fld103_3 : fldOff Tryz.prog 103 3 = some 3 := by kernel_rfl
theorem shp103 : shp Tryz.prog 103 = some (true, 4) := by kernel_rfl
theorem ok59 : okFn Tryz.prog 59 = true := by kernel_rfl
theorem ok30 : okFn Tryz.prog 30 = true := by kernel_rfl
theorem fld40_2 : fldOff Tryz.prog 40 2 = some 2 := by kernel_rfl
theorem shp37 : shp Tryz.prog 37 = some (false, 1) := by kernel_rfl
theorem elt38 : eltOf Tryz.prog 38 = some (100, 2, 48) := by kernel_rfl
theorem zer100 : zeroPV Tryz.prog 100 = some [.nils, .nils] := by kernel_rfl
theorem elt98 : eltOf Tryz.prog 98 = some (162, 2, 16) := by kernel_rfl
theorem zer162 : zeroPV Tryz.prog 162 = some [.lit (.int .i64 0), .lit (.int .i64 0)] := by kernel_rfl
theorem shp165 : shp Tryz.prog 165 = some (true, 2) := by kernel_rfl
theorem fld165_0 : fldOff Tryz.prog 165 0 = some 0 := by kernel_rfl
theorem fld162_0 : fldOff Tryz.prog 162 0 = some 0 := by kernel_rfl
theorem fld165_1 : fldOff Tryz.prog 165 1 = some 1 := by kernel_rfl
theorem fld162_1 : fldOff Tryz.prog 162 1 = some 1 := by kernel_rfl
theorem shp162 : shp Tryz.prog 162 = some (true, 2) := by kernel_rfl
theorem ok120 : okFn Tryz.prog 120 = true := by kernel_rfl
theorem ok95 : okFn Tryz.prog 95 = true := by kernel_rfl
theorem fld100_0 : fldOff Tryz.prog 100 0 = some 0 := by kernel_rfl
theorem shp98 : shp Tryz.prog 98 = some (false, 1) := by kernel_rfl
theorem zer25 : zeroPV Tryz.prog 25 = some [.nils] := by kernel_rfl
theorem ok96 : okFn Tryz.prog 96 = true := by kernel_rfl
theorem fld100_1 : fldOff Tryz.prog 100 1 = some 1 := by kernel_rfl
theorem shp100 : shp Tryz.prog 100 = some (true, 2) := by kernel_rfl
theorem ok60 : okFn Tryz.prog 60 = true := by kernel_rfl
theorem ok31 : okFn Tryz.prog 31 = true := by kernel_rfl
theorem fld40_3 : fldOff Tryz.prog 40 3 = some 3 := by kernel_rfl
theorem shp38 : shp Tryz.prog 38 = some (false, 1) := by kernel_rfl
theorem fld40_4 : fldOff Tryz.prog 40 4 = some 4 := by kernel_rfl
theorem shp40 : shp Tryz.prog 40 = some (true, 5) := by kernel_rfl
theorem ok8 : okFn Tryz.prog 8 = true := by kernel_rfl
theorem zer45 : zeroPV Tryz.prog 45 = some [.lit (.int .i64 0), .lit (.int .i64 0), .lit (.int .i64 0), .lit (.int .i64 0), .lit (.int .i64 0), .nils] := by kernel_rfl
theorem fld32_0 : fldOff Tryz.prog 32 0 = some 0 := by kernel_rfl
theorem fld45_0 : fldOff Tryz.prog 45 0 = some 0 := by kernel_rfl
theorem fld32_1 : fldOff Tryz.prog 32 1 = some 1 := by kernel_rfl
theorem shp29 : shp Tryz.prog 29 = some (true, 4) := by kernel_rfl
theorem zer42 : zeroPV Tryz.prog 42 = some [.lit (.int .i64 0), .lit (.int .i64 0), .lit (.int .i64 0), .lit (.int .i64 0)] := by kernel_rfl
theorem fld29_0 : fldOff Tryz.prog 29 0 = some 0 := by kernel_rfl
theorem fld42_0 : fldOff Tryz.prog 42 0 = some 0 := by kernel_rfl
theorem fld29_1 : fldOff Tryz.prog 29 1 = some 1 := by kernel_rfl
theorem fld42_1 : fldOff Tryz.prog 42 1 = some 1 := by kernel_rfl
theorem fld29_2 : fldOff Tryz.prog 29 2 = some 2 := by kernel_rfl
theorem fld42_2 : fldOff Tryz.prog 42 2 = some 2 := by kernel_rfl
theorem fld29_3 : fldOff Tryz.prog 29 3 = some 3 := by kernel_rfl
theorem fld42_3 : fldOff Tryz.prog 42 3 = some 3 := by kernel_rfl
theorem shp42 : shp Tryz.prog 42 = some (true, 4) := by kernel_rfl
theorem ok33 : okFn Tryz.prog 33 = true := by kernel_rfl
theorem fld45_1 : fldOff Tryz.prog 45 1 = some 1 := by kernel_rfl
theorem elt43 : eltOf Tryz.prog 43 = some (106, 3, 24) := by kernel_rfl
theorem zer106 : zeroPV Tryz.prog 106 = some [.lit (.int .i64 0), .lit (.int .i64 0), .lit (.int .i64 0)] := by kernel_rfl
theorem shp115 : shp Tryz.prog 115 = some (true, 3) := by kernel_rfl
theorem fld115_0 : fldOff Tryz.prog 115 0 = some 0 := by kernel_rfl
theorem fld106_0 : fldOff Tryz.prog 106 0 = some 0 := by kernel_rfl
theorem fld115_1 : fldOff Tryz.prog 115 1 = some 1 := by kernel_rfl
theorem fld106_1 : fldOff Tryz.prog 106 1 = some 1 := by kernel_rfl
theorem fld115_2 : fldOff Tryz.prog 115 2 = some 2 := by kernel_rfl
theorem fld106_2 : fldOff Tryz.prog 106 2 = some 2 := by kernel_rfl
theorem shp106 : shp Tryz.prog 106 = some (true, 3) := by kernel_rfl
theorem ok61 : okFn Tryz.prog 61 = true := by kernel_rfl
theorem ok34 : okFn Tryz.prog 34 = true := by kernel_rfl
theorem fld45_2 : fldOff Tryz.prog 45 2 = some 5 := by kernel_rfl
theorem shp43 : shp Tryz.prog 43 = some (false, 1) := by kernel_rfl
theorem shp45 : shp Tryz.prog 45 = some (true, 6) := by kernel_rfl
theorem ok9 : okFn Tryz.prog 9 = true := by kernel_rfl
theorem ok50 : okFn Tryz.prog 50 = true := by kernel_rfl
theorem ok118 : okFn Tryz.prog 118 = true := by kernel_rfl
theorem ok89 : okFn Tryz.prog 89 = true := by kernel_rfl
theorem ok90 : okFn Tryz.prog 90 = true := by kernel_rfl
theorem ok51 : okFn Tryz.prog 51 = true := by kernel_rfl
theorem ok52 : okFn Tryz.prog 52 = true := by kernel_rfl
theorem mixed : Tryz.prog.follows .mixedOrders = true := by kernel_rfl
theorem ok91 : okFn Tryz.prog 91 = true := by kernel_rfl
theorem ok53 : okFn Tryz.prog 53 = true := by kernel_rfl
theorem ok24 : okFn Tryz.prog 24 = true := by kernel_rfl
theorem ok87 : okFn Tryz.prog 87 = true := by kernel_rfl
theorem ok117 : okFn Tryz.prog 117 = true := by kernel_rfl
theorem ok88 : okFn Tryz.prog 88 = true := by kernel_rfl
theorem ok49 : okFn Tryz.prog 49 = true := by kernel_rfl
theorem pl42 : fldPlaces Tryz.prog 42 = some [(0, 1), (1, 1), (2, 1), (3, 1)] := by kernel_rfl
theorem flat42 : flatOf Tryz.prog 42 = some [0, 0, 0, 0] := by kernel_rfl
theorem ok23 : okFn Tryz.prog 23 = true := by kernel_rfl
theorem elt104 : eltOf Tryz.prog 104 = some (9, 1, 16) := by kernel_rfl
theorem zer9 : zeroPV Tryz.prog 9 = some [.lit (.string ByteArray.empty)] := by kernel_rfl
theorem ok92 : okFn Tryz.prog 92 = true := by kernel_rfl
theorem elt109 : eltOf Tryz.prog 109 = some (5, 1, 1) := by kernel_rfl
theorem zer5 : zeroPV Tryz.prog 5 = some [.lit (.int .u8 0)] := by kernel_rfl
theorem ok57 : okFn Tryz.prog 57 = true := by kernel_rfl
theorem ok54 : okFn Tryz.prog 54 = true := by kernel_rfl
theorem ok55 : okFn Tryz.prog 55 = true := by kernel_rfl
theorem ok25 : okFn Tryz.prog 25 = true := by kernel_rfl
theorem ok93 : okFn Tryz.prog 93 = true := by kernel_rfl
theorem ok56 : okFn Tryz.prog 56 = true := by kernel_rfl
theorem ok27 : okFn Tryz.prog 27 = true := by kernel_rfl
theorem ok26 : okFn Tryz.prog 26 = true := by kernel_rfl
theorem shp5 : shp Tryz.prog 5 = some (false, 1) := by kernel_rfl
theorem ok28 : okFn Tryz.prog 28 = true := by kernel_rfl
theorem ok7 : okFn Tryz.prog 7 = true := by kernel_rfl
theorem ok62 : okFn Tryz.prog 62 = true := by kernel_rfl
theorem ok122 : okFn Tryz.prog 122 = true := by kernel_rfl
theorem ok121 : okFn Tryz.prog 121 = true := by kernel_rfl
theorem ok97 : okFn Tryz.prog 97 = true := by kernel_rfl
theorem ok98 : okFn Tryz.prog 98 = true := by kernel_rfl
theorem ok63 : okFn Tryz.prog 63 = true := by kernel_rfl
theorem ok100 : okFn Tryz.prog 100 = true := by kernel_rfl
theorem ok99 : okFn Tryz.prog 99 = true := by kernel_rfl
theorem ok64 : okFn Tryz.prog 64 = true := by kernel_rfl
theorem ok74 : okFn Tryz.prog 74 = true := by kernel_rfl
theorem ok101 : okFn Tryz.prog 101 = true := by kernel_rfl
theorem ok65 : okFn Tryz.prog 65 = true := by kernel_rfl
theorem ok72 : okFn Tryz.prog 72 = true := by kernel_rfl
theorem ok68 : okFn Tryz.prog 68 = true := by kernel_rfl
theorem ok67 : okFn Tryz.prog 67 = true := by kernel_rfl
theorem ok102 : okFn Tryz.prog 102 = true := by kernel_rfl
theorem ok66 : okFn Tryz.prog 66 = true := by kernel_rfl
theorem ok35 : okFn Tryz.prog 35 = true := by kernel_rfl
theorem ok103 : okFn Tryz.prog 103 = true := by kernel_rfl
theorem ok134 : okFn Tryz.prog 134 = true := by kernel_rfl
theorem ok124 : okFn Tryz.prog 124 = true := by kernel_rfl
theorem ok123 : okFn Tryz.prog 123 = true := by kernel_rfl
theorem ok104 : okFn Tryz.prog 104 = true := by kernel_rfl
theorem ok69 : okFn Tryz.prog 69 = true := by kernel_rfl
theorem ok36 : okFn Tryz.prog 36 = true := by kernel_rfl
theorem ok105 : okFn Tryz.prog 105 = true := by kernel_rfl
theorem ok112 : okFn Tryz.prog 112 = true := by kernel_rfl
theorem ok79 : okFn Tryz.prog 79 = true := by kernel_rfl
theorem ok70 : okFn Tryz.prog 70 = true := by kernel_rfl
theorem ok71 : okFn Tryz.prog 71 = true := by kernel_rfl
theorem ok37 : okFn Tryz.prog 37 = true := by kernel_rfl
theorem ok73 : okFn Tryz.prog 73 = true := by kernel_rfl
theorem ok75 : okFn Tryz.prog 75 = true := by kernel_rfl
theorem ok76 : okFn Tryz.prog 76 = true := by kernel_rfl
theorem ok38 : okFn Tryz.prog 38 = true := by kernel_rfl
theorem zer153 : zeroPV Tryz.prog 153 = some [.lit (.string ByteArray.empty), .lit (.string ByteArray.empty), .lit (.string ByteArray.empty), .lit (.string ByteArray.empty), .lit (.string ByteArray.empty), .lit (.string ByteArray.empty), .lit (.string ByteArray.empty)] := by kernel_rfl
theorem arr153 : arrOf Tryz.prog 153 = some (7, 1) := by kernel_rfl
theorem shp153 : shp Tryz.prog 153 = some (true, 7) := by kernel_rfl
theorem ok78 : okFn Tryz.prog 78 = true := by kernel_rfl
theorem ok40 : okFn Tryz.prog 40 = true := by kernel_rfl
theorem ok39 : okFn Tryz.prog 39 = true := by kernel_rfl
theorem ok10 : okFn Tryz.prog 10 = true := by kernel_rfl
theorem ok44 : okFn Tryz.prog 44 = true := by kernel_rfl
theorem ok132 : okFn Tryz.prog 132 = true := by kernel_rfl
theorem ok113 : okFn Tryz.prog 113 = true := by kernel_rfl
theorem ok80 : okFn Tryz.prog 80 = true := by kernel_rfl
theorem ok41 : okFn Tryz.prog 41 = true := by kernel_rfl
theorem ok81 : okFn Tryz.prog 81 = true := by kernel_rfl
theorem ok42 : okFn Tryz.prog 42 = true := by kernel_rfl
theorem ok133 : okFn Tryz.prog 133 = true := by kernel_rfl
theorem ok114 : okFn Tryz.prog 114 = true := by kernel_rfl
theorem ok115 : okFn Tryz.prog 115 = true := by kernel_rfl
theorem ok82 : okFn Tryz.prog 82 = true := by kernel_rfl
theorem ok43 : okFn Tryz.prog 43 = true := by kernel_rfl
theorem ok11 : okFn Tryz.prog 11 = true := by kernel_rfl
theorem ok45 : okFn Tryz.prog 45 = true := by kernel_rfl
theorem ok83 : okFn Tryz.prog 83 = true := by kernel_rfl
theorem ok46 : okFn Tryz.prog 46 = true := by kernel_rfl
theorem ok12 : okFn Tryz.prog 12 = true := by kernel_rfl
theorem w_szIntS_pc (b0 : List Int) (b1 : Int) (r : Int) (h : w_szIntS b0 b1 = some r) : PC Tryz.prog 21 [.slice (b0.map int), int b1] (int r) := by
 unfold w_szIntS at h
 refine PC.start Tryz.func21 Tryz.ntmps21 rfl ok21 rfl ?_
 refine Run.sr ?_
 refine X.an ?_
 refine Run.sr ?_
 refine X.mv ?_
 refine X.mv ?_
 refine X.ls elt25 ?_
 refine X.subW (by rfl) (by rfl) (by rfl) ?_
 refine X.an ?_
 refine Run.seq ?_
 refine Run.sr ?_
 refine X.mv ?_
 refine X.bi ?_
 refine X.nil ?_
 refine R.cd (fun hc1 => ?_) (fun hc1 => ?_)
 ·replace h := condT hc1 h
  refine Run.sr ?_
  refine X.an ?_
  cases h
  refine R.f1 Tryz.results21 ?_
  rfl
 ·replace h := condF hc1 h
  refine Run.skip ?_
  refine Run.sr ?_
  refine X.mv ?_
  refine X.an ?_
  cases h
  refine R.f1 Tryz.results21 ?_
  rfl
theorem w_szMode_pc (b0 : TMode) (b1 : Int) (r : Int) (h : w_szMode b0 b1 = some r) : PC Tryz.prog 116 [eTMode b0, int b1] (int r) := by
 unfold w_szMode at h
 refine PC.start Tryz.func116 Tryz.ntmps116 rfl ok116 rfl ?_
 refine Run.sr ?_
 refine X.bx ?_
 refine X.an ?_
 refine Run.sr ?_
 refine X.fl fld158_1 ?_
 refine X.ld shp25 ?_
 refine X.mv ?_
 obtain ⟨v1, hv1, h⟩ := bindE h
 refine X.cp (w_szIntS_pc _ _ _ hv1) ?_
 refine X.an ?_
 refine Run.seq ?_
 refine Run.sr ?_
 refine X.mv ?_
 refine X.bi ?_
 refine X.nil ?_
 refine R.cd (fun hc2 => ?_) (fun hc2 => ?_)
 ·replace h := condT hc2 h
  refine Run.sr ?_
  refine X.an ?_
  cases h
  refine R.f1 Tryz.results116 ?_
  rfl
 ·replace h := condF hc2 h
  refine Run.skip ?_
  refine Run.sr ?_
  refine X.fl fld158_2 ?_
  refine X.ld shp25 ?_
  refine X.mv ?_
  obtain ⟨v3, hv3, h⟩ := bindE h
  refine X.cp (w_szIntS_pc _ _ _ hv3) ?_
  refine X.an ?_
  refine Run.seq ?_
  refine Run.sr ?_
  refine X.mv ?_
  refine X.bi ?_
  refine X.nil ?_
  refine R.cd (fun hc4 => ?_) (fun hc4 => ?_)
  ·replace h := condT hc4 h
   refine Run.sr ?_
   refine X.an ?_
   cases h
   refine R.f1 Tryz.results116 ?_
   rfl
  ·replace h := condF hc4 h
   refine Run.skip ?_
   refine Run.sr ?_
   refine X.mv ?_
   refine X.an ?_
   cases h
   refine R.f1 Tryz.results116 ?_
   rfl
theorem w_szModeS_pc (b0 : List TMode) (b1 : Int) (r : Int) (h : w_szModeS b0 b1 = some r) : PC Tryz.prog 84 [.slice (b0.map eTMode), int b1] (int r) := by
 unfold w_szModeS at h
 refine PC.start Tryz.func84 Tryz.ntmps84 rfl ok84 rfl ?_
 refine Run.sr ?_
 refine X.an ?_
 refine Run.sr ?_
 refine X.mv ?_
 refine X.mv ?_
 refine X.ls elt83 ?_
 refine X.subW (by rfl) (by rfl) (by rfl) ?_
 refine X.an ?_
 refine Run.seq ?_
 refine Run.sr ?_
 refine X.mv ?_
 refine X.bi ?_
 refine X.nil ?_
 refine R.cd (fun hc1 => ?_) (fun hc1 => ?_)
 ·replace h := condT hc1 h
  refine Run.sr ?_
  refine X.an ?_
  cases h
  refine R.f1 Tryz.results84 ?_
  rfl
 ·replace h := condF hc1 h
  refine Run.skip ?_
  refine Run.seq ?_
  refine Run.sr ?_
  refine X.an ?_
  obtain ⟨o2, ho2, h⟩ := bindE h
  refine R.join2 (β := Int) [] [] (fun p16 S => (1, int p16) :: S) (fun p16 M => M) (fun p16 => (Sum.inl p16) = o2) ?_ ?_
  ·intro JJ5 hmeet4
   have hup3 := h; clear h; have h := ho2; clear ho2
   refine Run.block ?_
   refine R.bndS (t := 0) (by rfl) (fun hbd8 => ?_)
   replace hbd8 : b0.length ≤ 9223372036854775807 := by first | (rw [List.length_map] at hbd8; exact hbd8) | simp
   refine R.lp (β := Int × Int) [(0, .slice (b0.map eTMode))] [] (fun bb S => (1, int bb.2) :: (5, int bb.1) :: S) (fun bb M => M) (fun n bb => 0 ≤ bb.1 ∧ bb.1 + n = (b0.length : Int) ∧ w_szModeS_L1 (b0.drop bb.1.toNat) bb.1 bb.2 = some o2) b0.length (0, (W (b1 - (b0.length : Int)))) ⟨Int.le_refl _, by simp, h⟩ ?_
   clear h
   rintro JJ8 n8 ⟨z9, a10⟩ hag8 ⟨hza8, hzb8, h⟩
   dsimp only at hza8 hzb8 h
   refine Run.seq ?_
   refine Run.sr ?_
   refine X.mv ?_
   refine X.mv ?_
   refine X.ls elt83 ?_
   refine X.bi ?_
   refine X.nil ?_
   refine R.cd (fun hc13 => ?_) (fun hc13 => ?_)
   ·obtain ⟨x11, xs12, hd8, hx8, hds8, hlt8⟩ := drop_atI hza8 hc13
    rw [hd8] at h
    rw [w_szModeS_L1] at h
    refine Run.skip ?_
    refine Run.seq ?_
    refine Run.block ?_
    refine Run.sr ?_
    refine X.mv ?_
    refine X.mv ?_
    refine X.ix elt83 (idxL_spec hx8).1 (idxL_map eTMode hx8) ?_
    refine X.lc shp158 ?_
    refine X.mv ?_
    obtain ⟨v14, hv14, h⟩ := bindE h
    refine X.cp (w_szMode_pc _ _ _ hv14) ?_
    refine X.an ?_
    refine Run.sr ?_
    refine X.mv ?_
    refine X.bi ?_
    refine X.nil ?_
    refine R.cd (fun hc15 => ?_) (fun hc15 => ?_)
    ·replace h := condT hc15 h
     refine Run.sr ?_
     refine X.an ?_
     cases h
     have h := hup3
     replace h := elimR h
     cases h
     refine R.f1 Tryz.results84 ?_
     rfl
    ·replace h := condF hc15 h
     refine Run.skip ?_
     refine Run.blk ?_
     refine Run.reg ?_
     refine X.mv ?_
     refine X.ad ?_
     refine X.an ?_
     exact R.ag hag8 (n8 - 1) (z9 + 1, v14) (R.n3 (by first | (rw [hds8]; exact h) | (dsimp only; rw [hds8]; exact h)))
   ·rw [drop_endI hza8 hc13] at h
    rw [w_szModeS_L1] at h
    refine Run.exit (by rfl) ?_
    exact R.mt hmeet4 a10 (Option.some.inj h)
  rintro p16 rfl
  replace h := elimL h
  refine Run.sr ?_
  refine X.mv ?_
  refine X.an ?_
  cases h
  refine R.f1 Tryz.results84 ?_
  rfl
theorem w_szActivity_pc (b0 : TActivity) (b1 : Int) (r : Int) (h : w_szActivity b0 b1 = some r) : PC Tryz.prog 47 [eTActivity b0, int b1] (int r) := by
 unfold w_szActivity at h
 refine PC.start Tryz.func47 Tryz.ntmps47 rfl ok47 rfl ?_
 refine Run.sr ?_
 refine X.bx ?_
 refine X.an ?_
 refine Run.sr ?_
 refine X.mv ?_
 refine X.fl fld85_0 ?_
 refine X.ld shp9 ?_
 refine X.lenStr Tryz.underlying9 (by rfl) (by rfl) ?_
 refine X.subW (by rfl) (by rfl) (by rfl) ?_
 refine X.an ?_
 refine Run.seq ?_
 refine Run.sr ?_
 refine X.mv ?_
 refine X.bi ?_
 refine X.nil ?_
 refine R.cd (fun hc1 => ?_) (fun hc1 => ?_)
 ·replace h := condT hc1 h
  refine Run.sr ?_
  refine X.an ?_
  cases h
  refine R.f1 Tryz.results47 ?_
  rfl
 ·replace h := condF hc1 h
  refine Run.skip ?_
  refine Run.sr ?_
  refine X.fl fld85_2 ?_
  refine X.ld shp83 ?_
  refine X.mv ?_
  obtain ⟨v2, hv2, h⟩ := bindE h
  refine X.cp (w_szModeS_pc _ _ _ hv2) ?_
  refine X.an ?_
  refine Run.seq ?_
  refine Run.sr ?_
  refine X.mv ?_
  refine X.bi ?_
  refine X.nil ?_
  refine R.cd (fun hc3 => ?_) (fun hc3 => ?_)
  ·replace h := condT hc3 h
   refine Run.sr ?_
   refine X.an ?_
   cases h
   refine R.f1 Tryz.results47 ?_
   rfl
  ·replace h := condF hc3 h
   refine Run.skip ?_
   refine Run.sr ?_
   refine X.mv ?_
   refine X.an ?_
   cases h
   refine R.f1 Tryz.results47 ?_
   rfl
theorem w_szActivityS_pc (b0 : List TActivity) (b1 : Int) (r : Int) (h : w_szActivityS b0 b1 = some r) : PC Tryz.prog 18 [.slice (b0.map eTActivity), int b1] (int r) := by
 unfold w_szActivityS at h
 refine PC.start Tryz.func18 Tryz.ntmps18 rfl ok18 rfl ?_
 refine Run.sr ?_
 refine X.an ?_
 refine Run.sr ?_
 refine X.mv ?_
 refine X.mv ?_
 refine X.ls elt22 ?_
 refine X.subW (by rfl) (by rfl) (by rfl) ?_
 refine X.an ?_
 refine Run.seq ?_
 refine Run.sr ?_
 refine X.mv ?_
 refine X.bi ?_
 refine X.nil ?_
 refine R.cd (fun hc1 => ?_) (fun hc1 => ?_)
 ·replace h := condT hc1 h
  refine Run.sr ?_
  refine X.an ?_
  cases h
  refine R.f1 Tryz.results18 ?_
  rfl
 ·replace h := condF hc1 h
  refine Run.skip ?_
  refine Run.seq ?_
  refine Run.sr ?_
  refine X.an ?_
  obtain ⟨o2, ho2, h⟩ := bindE h
  refine R.join2 (β := Int) [] [] (fun p16 S => (1, int p16) :: S) (fun p16 M => M) (fun p16 => (Sum.inl p16) = o2) ?_ ?_
  ·intro JJ5 hmeet4
   have hup3 := h; clear h; have h := ho2; clear ho2
   refine Run.block ?_
   refine R.bndS (t := 0) (by rfl) (fun hbd8 => ?_)
   replace hbd8 : b0.length ≤ 9223372036854775807 := by first | (rw [List.length_map] at hbd8; exact hbd8) | simp
   refine R.lp (β := Int × Int) [(0, .slice (b0.map eTActivity))] [] (fun bb S => (1, int bb.2) :: (5, int bb.1) :: S) (fun bb M => M) (fun n bb => 0 ≤ bb.1 ∧ bb.1 + n = (b0.length : Int) ∧ w_szActivityS_L1 (b0.drop bb.1.toNat) bb.1 bb.2 = some o2) b0.length (0, (W (b1 - (b0.length : Int)))) ⟨Int.le_refl _, by simp, h⟩ ?_
   clear h
   rintro JJ8 n8 ⟨z9, a10⟩ hag8 ⟨hza8, hzb8, h⟩
   dsimp only at hza8 hzb8 h
   refine Run.seq ?_
   refine Run.sr ?_
   refine X.mv ?_
   refine X.mv ?_
   refine X.ls elt22 ?_
   refine X.bi ?_
   refine X.nil ?_
   refine R.cd (fun hc13 => ?_) (fun hc13 => ?_)
   ·obtain ⟨x11, xs12, hd8, hx8, hds8, hlt8⟩ := drop_atI hza8 hc13
    rw [hd8] at h
    rw [w_szActivityS_L1] at h
    refine Run.skip ?_
    refine Run.seq ?_
    refine Run.block ?_
    refine Run.sr ?_
    refine X.mv ?_
    refine X.mv ?_
    refine X.ix elt22 (idxL_spec hx8).1 (idxL_map eTActivity hx8) ?_
    refine X.lc shp85 ?_
    refine X.mv ?_
    obtain ⟨v14, hv14, h⟩ := bindE h
    refine X.cp (w_szActivity_pc _ _ _ hv14) ?_
    refine X.an ?_
    refine Run.sr ?_
    refine X.mv ?_
    refine X.bi ?_
    refine X.nil ?_
    refine R.cd (fun hc15 => ?_) (fun hc15 => ?_)
    ·replace h := condT hc15 h
     refine Run.sr ?_
     refine X.an ?_
     cases h
     have h := hup3
     replace h := elimR h
     cases h
     refine R.f1 Tryz.results18 ?_
     rfl
    ·replace h := condF hc15 h
     refine Run.skip ?_
     refine Run.blk ?_
     refine Run.reg ?_
     refine X.mv ?_
     refine X.ad ?_
     refine X.an ?_
     exact R.ag hag8 (n8 - 1) (z9 + 1, v14) (R.n3 (by first | (rw [hds8]; exact h) | (dsimp only; rw [hds8]; exact h)))
   ·rw [drop_endI hza8 hc13] at h
    rw [w_szActivityS_L1] at h
    refine Run.exit (by rfl) ?_
    exact R.mt hmeet4 a10 (Option.some.inj h)
  rintro p16 rfl
  replace h := elimL h
  refine Run.sr ?_
  refine X.mv ?_
  refine X.an ?_
  cases h
  refine R.f1 Tryz.results18 ?_
  rfl
theorem w_szLinkS_pc (b0 : List TLink) (b1 : Int) (r : Int) (h : w_szLinkS b0 b1 = some r) : PC Tryz.prog 19 [.slice (b0.map eTLink), int b1] (int r) := by
 unfold w_szLinkS at h
 refine PC.start Tryz.func19 Tryz.ntmps19 rfl ok19 rfl ?_
 refine Run.sr ?_
 refine X.an ?_
 refine Run.sr ?_
 refine X.mv ?_
 refine X.mv ?_
 refine X.ls elt23 ?_
 refine X.subW (by rfl) (by rfl) (by rfl) ?_
 refine X.an ?_
 refine Run.seq ?_
 refine Run.sr ?_
 refine X.mv ?_
 refine X.bi ?_
 refine X.nil ?_
 refine R.cd (fun hc1 => ?_) (fun hc1 => ?_)
 ·replace h := condT hc1 h
  refine Run.sr ?_
  refine X.an ?_
  cases h
  refine R.f1 Tryz.results19 ?_
  rfl
 ·replace h := condF hc1 h
  refine Run.skip ?_
  refine Run.sr ?_
  refine X.mv ?_
  refine X.an ?_
  cases h
  refine R.f1 Tryz.results19 ?_
  rfl
theorem w_szStepS_pc (b0 : List TStep) (b1 : Int) (r : Int) (h : w_szStepS b0 b1 = some r) : PC Tryz.prog 85 [.slice (b0.map eTStep), int b1] (int r) := by
 unfold w_szStepS at h
 refine PC.start Tryz.func85 Tryz.ntmps85 rfl ok85 rfl ?_
 refine Run.sr ?_
 refine X.an ?_
 refine Run.sr ?_
 refine X.mv ?_
 refine X.mv ?_
 refine X.ls elt87 ?_
 refine X.subW (by rfl) (by rfl) (by rfl) ?_
 refine X.an ?_
 refine Run.seq ?_
 refine Run.sr ?_
 refine X.mv ?_
 refine X.bi ?_
 refine X.nil ?_
 refine R.cd (fun hc1 => ?_) (fun hc1 => ?_)
 ·replace h := condT hc1 h
  refine Run.sr ?_
  refine X.an ?_
  cases h
  refine R.f1 Tryz.results85 ?_
  rfl
 ·replace h := condF hc1 h
  refine Run.skip ?_
  refine Run.sr ?_
  refine X.mv ?_
  refine X.an ?_
  cases h
  refine R.f1 Tryz.results85 ?_
  rfl
theorem w_szIntSS_pc (b0 : List (List Int)) (b1 : Int) (r : Int) (h : w_szIntSS b0 b1 = some r) : PC Tryz.prog 86 [.slice (b0.map l_int), int b1] (int r) := by
 unfold w_szIntSS at h
 refine PC.start Tryz.func86 Tryz.ntmps86 rfl ok86 rfl ?_
 refine Run.sr ?_
 refine X.an ?_
 refine Run.sr ?_
 refine X.mv ?_
 refine X.mv ?_
 refine X.ls elt88 ?_
 refine X.subW (by rfl) (by rfl) (by rfl) ?_
 refine X.an ?_
 refine Run.seq ?_
 refine Run.sr ?_
 refine X.mv ?_
 refine X.bi ?_
 refine X.nil ?_
 refine R.cd (fun hc1 => ?_) (fun hc1 => ?_)
 ·replace h := condT hc1 h
  refine Run.sr ?_
  refine X.an ?_
  cases h
  refine R.f1 Tryz.results86 ?_
  rfl
 ·replace h := condF hc1 h
  refine Run.skip ?_
  refine Run.seq ?_
  refine Run.sr ?_
  refine X.an ?_
  obtain ⟨o2, ho2, h⟩ := bindE h
  refine R.join2 (β := Int) [] [] (fun p16 S => (1, int p16) :: S) (fun p16 M => M) (fun p16 => (Sum.inl p16) = o2) ?_ ?_
  ·intro JJ5 hmeet4
   have hup3 := h; clear h; have h := ho2; clear ho2
   refine Run.block ?_
   refine R.bndS (t := 0) (by rfl) (fun hbd8 => ?_)
   replace hbd8 : b0.length ≤ 9223372036854775807 := by first | (rw [List.length_map] at hbd8; exact hbd8) | simp
   refine R.lp (β := Int × Int) [(0, .slice (b0.map l_int))] [] (fun bb S => (1, int bb.2) :: (5, int bb.1) :: S) (fun bb M => M) (fun n bb => 0 ≤ bb.1 ∧ bb.1 + n = (b0.length : Int) ∧ w_szIntSS_L1 (b0.drop bb.1.toNat) bb.1 bb.2 = some o2) b0.length (0, (W (b1 - (b0.length : Int)))) ⟨Int.le_refl _, by simp, h⟩ ?_
   clear h
   rintro JJ8 n8 ⟨z9, a10⟩ hag8 ⟨hza8, hzb8, h⟩
   dsimp only at hza8 hzb8 h
   refine Run.seq ?_
   refine Run.sr ?_
   refine X.mv ?_
   refine X.mv ?_
   refine X.ls elt88 ?_
   refine X.bi ?_
   refine X.nil ?_
   refine R.cd (fun hc13 => ?_) (fun hc13 => ?_)
   ·obtain ⟨x11, xs12, hd8, hx8, hds8, hlt8⟩ := drop_atI hza8 hc13
    rw [hd8] at h
    rw [w_szIntSS_L1] at h
    refine Run.skip ?_
    refine Run.seq ?_
    refine Run.block ?_
    refine Run.sr ?_
    refine X.mv ?_
    refine X.mv ?_
    refine X.ix elt88 (idxL_spec hx8).1 (idxL_map l_int hx8) ?_
    refine X.lc shp25 ?_
    refine X.mv ?_
    obtain ⟨v14, hv14, h⟩ := bindE h
    refine X.cp (w_szIntS_pc _ _ _ hv14) ?_
    refine X.an ?_
    refine Run.sr ?_
    refine X.mv ?_
    refine X.bi ?_
    refine X.nil ?_
    refine R.cd (fun hc15 => ?_) (fun hc15 => ?_)
    ·replace h := condT hc15 h
     refine Run.sr ?_
     refine X.an ?_
     cases h
     have h := hup3
     replace h := elimR h
     cases h
     refine R.f1 Tryz.results86 ?_
     rfl
    ·replace h := condF hc15 h
     refine Run.skip ?_
     refine Run.blk ?_
     refine Run.reg ?_
     refine X.mv ?_
     refine X.ad ?_
     refine X.an ?_
     exact R.ag hag8 (n8 - 1) (z9 + 1, v14) (R.n3 (by first | (rw [hds8]; exact h) | (dsimp only; rw [hds8]; exact h)))
   ·rw [drop_endI hza8 hc13] at h
    rw [w_szIntSS_L1] at h
    refine Run.exit (by rfl) ?_
    exact R.mt hmeet4 a10 (Option.some.inj h)
  rintro p16 rfl
  replace h := elimL h
  refine Run.sr ?_
  refine X.mv ?_
  refine X.an ?_
  cases h
  refine R.f1 Tryz.results86 ?_
  rfl
theorem w_szResource_pc (b0 : TResource) (b1 : Int) (r : Int) (h : w_szResource b0 b1 = some r) : PC Tryz.prog 48 [eTResource b0, int b1] (int r) := by
 unfold w_szResource at h
 refine PC.start Tryz.func48 Tryz.ntmps48 rfl ok48 rfl ?_
 refine Run.sr ?_
 refine X.bx ?_
 refine X.an ?_
 refine Run.sr ?_
 refine X.fl fld90_0 ?_
 refine X.ld shp87 ?_
 refine X.mv ?_
 obtain ⟨v1, hv1, h⟩ := bindE h
 refine X.cp (w_szStepS_pc _ _ _ hv1) ?_
 refine X.an ?_
 refine Run.seq ?_
 refine Run.sr ?_
 refine X.mv ?_
 refine X.bi ?_
 refine X.nil ?_
 refine R.cd (fun hc2 => ?_) (fun hc2 => ?_)
 ·replace h := condT hc2 h
  refine Run.sr ?_
  refine X.an ?_
  cases h
  refine R.f1 Tryz.results48 ?_
  rfl
 ·replace h := condF hc2 h
  refine Run.skip ?_
  refine Run.sr ?_
  refine X.fl fld90_1 ?_
  refine X.ld shp88 ?_
  refine X.mv ?_
  obtain ⟨v3, hv3, h⟩ := bindE h
  refine X.cp (w_szIntSS_pc _ _ _ hv3) ?_
  refine X.an ?_
  refine Run.seq ?_
  refine Run.sr ?_
  refine X.mv ?_
  refine X.bi ?_
  refine X.nil ?_
  refine R.cd (fun hc4 => ?_) (fun hc4 => ?_)
  ·replace h := condT hc4 h
   refine Run.sr ?_
   refine X.an ?_
   cases h
   refine R.f1 Tryz.results48 ?_
   rfl
  ·replace h := condF hc4 h
   refine Run.skip ?_
   refine Run.sr ?_
   refine X.mv ?_
   refine X.an ?_
   cases h
   refine R.f1 Tryz.results48 ?_
   rfl
theorem w_szResourceS_pc (b0 : List TResource) (b1 : Int) (r : Int) (h : w_szResourceS b0 b1 = some r) : PC Tryz.prog 20 [.slice (b0.map eTResource), int b1] (int r) := by
 unfold w_szResourceS at h
 refine PC.start Tryz.func20 Tryz.ntmps20 rfl ok20 rfl ?_
 refine Run.sr ?_
 refine X.an ?_
 refine Run.sr ?_
 refine X.mv ?_
 refine X.mv ?_
 refine X.ls elt24 ?_
 refine X.subW (by rfl) (by rfl) (by rfl) ?_
 refine X.an ?_
 refine Run.seq ?_
 refine Run.sr ?_
 refine X.mv ?_
 refine X.bi ?_
 refine X.nil ?_
 refine R.cd (fun hc1 => ?_) (fun hc1 => ?_)
 ·replace h := condT hc1 h
  refine Run.sr ?_
  refine X.an ?_
  cases h
  refine R.f1 Tryz.results20 ?_
  rfl
 ·replace h := condF hc1 h
  refine Run.skip ?_
  refine Run.seq ?_
  refine Run.sr ?_
  refine X.an ?_
  obtain ⟨o2, ho2, h⟩ := bindE h
  refine R.join2 (β := Int) [] [] (fun p16 S => (1, int p16) :: S) (fun p16 M => M) (fun p16 => (Sum.inl p16) = o2) ?_ ?_
  ·intro JJ5 hmeet4
   have hup3 := h; clear h; have h := ho2; clear ho2
   refine Run.block ?_
   refine R.bndS (t := 0) (by rfl) (fun hbd8 => ?_)
   replace hbd8 : b0.length ≤ 9223372036854775807 := by first | (rw [List.length_map] at hbd8; exact hbd8) | simp
   refine R.lp (β := Int × Int) [(0, .slice (b0.map eTResource))] [] (fun bb S => (1, int bb.2) :: (5, int bb.1) :: S) (fun bb M => M) (fun n bb => 0 ≤ bb.1 ∧ bb.1 + n = (b0.length : Int) ∧ w_szResourceS_L1 (b0.drop bb.1.toNat) bb.1 bb.2 = some o2) b0.length (0, (W (b1 - (b0.length : Int)))) ⟨Int.le_refl _, by simp, h⟩ ?_
   clear h
   rintro JJ8 n8 ⟨z9, a10⟩ hag8 ⟨hza8, hzb8, h⟩
   dsimp only at hza8 hzb8 h
   refine Run.seq ?_
   refine Run.sr ?_
   refine X.mv ?_
   refine X.mv ?_
   refine X.ls elt24 ?_
   refine X.bi ?_
   refine X.nil ?_
   refine R.cd (fun hc13 => ?_) (fun hc13 => ?_)
   ·obtain ⟨x11, xs12, hd8, hx8, hds8, hlt8⟩ := drop_atI hza8 hc13
    rw [hd8] at h
    rw [w_szResourceS_L1] at h
    refine Run.skip ?_
    refine Run.seq ?_
    refine Run.block ?_
    refine Run.sr ?_
    refine X.mv ?_
    refine X.mv ?_
    refine X.ix elt24 (idxL_spec hx8).1 (idxL_map eTResource hx8) ?_
    refine X.lc shp90 ?_
    refine X.mv ?_
    obtain ⟨v14, hv14, h⟩ := bindE h
    refine X.cp (w_szResource_pc _ _ _ hv14) ?_
    refine X.an ?_
    refine Run.sr ?_
    refine X.mv ?_
    refine X.bi ?_
    refine X.nil ?_
    refine R.cd (fun hc15 => ?_) (fun hc15 => ?_)
    ·replace h := condT hc15 h
     refine Run.sr ?_
     refine X.an ?_
     cases h
     have h := hup3
     replace h := elimR h
     cases h
     refine R.f1 Tryz.results20 ?_
     rfl
    ·replace h := condF hc15 h
     refine Run.skip ?_
     refine Run.blk ?_
     refine Run.reg ?_
     refine X.mv ?_
     refine X.ad ?_
     refine X.an ?_
     exact R.ag hag8 (n8 - 1) (z9 + 1, v14) (R.n3 (by first | (rw [hds8]; exact h) | (dsimp only; rw [hds8]; exact h)))
   ·rw [drop_endI hza8 hc13] at h
    rw [w_szResourceS_L1] at h
    refine Run.exit (by rfl) ?_
    exact R.mt hmeet4 a10 (Option.some.inj h)
  rintro p16 rfl
  replace h := elimL h
  refine Run.sr ?_
  refine X.mv ?_
  refine X.an ?_
  cases h
  refine R.f1 Tryz.results20 ?_
  rfl
theorem w_szProject_pc (b0 : TProject) (b1 : Int) (r : Int) (h : w_szProject b0 b1 = some r) : PC Tryz.prog 5 [eTProject b0, int b1] (int r) := by
 unfold w_szProject at h
 refine PC.start Tryz.func5 Tryz.ntmps5 rfl ok5 rfl ?_
 refine Run.sr ?_
 refine X.bx ?_
 refine X.an ?_
 refine Run.sr ?_
 refine X.fl fld27_1 ?_
 refine X.ld shp22 ?_
 refine X.mv ?_
 obtain ⟨v1, hv1, h⟩ := bindE h
 refine X.cp (w_szActivityS_pc _ _ _ hv1) ?_
 refine X.an ?_
 refine Run.seq ?_
 refine Run.sr ?_
 refine X.mv ?_
 refine X.bi ?_
 refine X.nil ?_
 refine R.cd (fun hc2 => ?_) (fun hc2 => ?_)
 ·replace h := condT hc2 h
  refine Run.sr ?_
  refine X.an ?_
  cases h
  refine R.f1 Tryz.results5 ?_
  rfl
 ·replace h := condF hc2 h
  refine Run.skip ?_
  refine Run.sr ?_
  refine X.fl fld27_2 ?_
  refine X.ld shp23 ?_
  refine X.mv ?_
  obtain ⟨v3, hv3, h⟩ := bindE h
  refine X.cp (w_szLinkS_pc _ _ _ hv3) ?_
  refine X.an ?_
  refine Run.seq ?_
  refine Run.sr ?_
  refine X.mv ?_
  refine X.bi ?_
  refine X.nil ?_
  refine R.cd (fun hc4 => ?_) (fun hc4 => ?_)
  ·replace h := condT hc4 h
   refine Run.sr ?_
   refine X.an ?_
   cases h
   refine R.f1 Tryz.results5 ?_
   rfl
  ·replace h := condF hc4 h
   refine Run.skip ?_
   refine Run.sr ?_
   refine X.fl fld27_3 ?_
   refine X.ld shp24 ?_
   refine X.mv ?_
   obtain ⟨v5, hv5, h⟩ := bindE h
   refine X.cp (w_szResourceS_pc _ _ _ hv5) ?_
   refine X.an ?_
   refine Run.seq ?_
   refine Run.sr ?_
   refine X.mv ?_
   refine X.bi ?_
   refine X.nil ?_
   refine R.cd (fun hc6 => ?_) (fun hc6 => ?_)
   ·replace h := condT hc6 h
    refine Run.sr ?_
    refine X.an ?_
    cases h
    refine R.f1 Tryz.results5 ?_
    rfl
   ·replace h := condF hc6 h
    refine Run.skip ?_
    refine Run.sr ?_
    refine X.fl fld27_4 ?_
    refine X.ld shp25 ?_
    refine X.mv ?_
    obtain ⟨v7, hv7, h⟩ := bindE h
    refine X.cp (w_szIntS_pc _ _ _ hv7) ?_
    refine X.an ?_
    refine Run.seq ?_
    refine Run.sr ?_
    refine X.mv ?_
    refine X.bi ?_
    refine X.nil ?_
    refine R.cd (fun hc8 => ?_) (fun hc8 => ?_)
    ·replace h := condT hc8 h
     refine Run.sr ?_
     refine X.an ?_
     cases h
     refine R.f1 Tryz.results5 ?_
     rfl
    ·replace h := condF hc8 h
     refine Run.skip ?_
     refine Run.sr ?_
     refine X.mv ?_
     refine X.an ?_
     cases h
     refine R.f1 Tryz.results5 ?_
     rfl
theorem w_szLiteralS_pc (b0 : List TLiteral) (b1 : Int) (r : Int) (h : w_szLiteralS b0 b1 = some r) : PC Tryz.prog 22 [.slice (b0.map eTLiteral), int b1] (int r) := by
 unfold w_szLiteralS at h
 refine PC.start Tryz.func22 Tryz.ntmps22 rfl ok22 rfl ?_
 refine Run.sr ?_
 refine X.an ?_
 refine Run.sr ?_
 refine X.mv ?_
 refine X.mv ?_
 refine X.ls elt30 ?_
 refine X.subW (by rfl) (by rfl) (by rfl) ?_
 refine X.an ?_
 refine Run.seq ?_
 refine Run.sr ?_
 refine X.mv ?_
 refine X.bi ?_
 refine X.nil ?_
 refine R.cd (fun hc1 => ?_) (fun hc1 => ?_)
 ·replace h := condT hc1 h
  refine Run.sr ?_
  refine X.an ?_
  cases h
  refine R.f1 Tryz.results22 ?_
  rfl
 ·replace h := condF hc1 h
  refine Run.skip ?_
  refine Run.sr ?_
  refine X.mv ?_
  refine X.an ?_
  cases h
  refine R.f1 Tryz.results22 ?_
  rfl
theorem w_szLine_pc (b0 : TLine) (b1 : Int) (r : Int) (h : w_szLine b0 b1 = some r) : PC Tryz.prog 6 [eTLine b0, int b1] (int r) := by
 unfold w_szLine at h
 refine PC.start Tryz.func6 Tryz.ntmps6 rfl ok6 rfl ?_
 refine Run.sr ?_
 refine X.bx ?_
 refine X.an ?_
 refine Run.sr ?_
 refine X.fl fld32_2 ?_
 refine X.ld shp30 ?_
 refine X.mv ?_
 obtain ⟨v1, hv1, h⟩ := bindE h
 refine X.cp (w_szLiteralS_pc _ _ _ hv1) ?_
 refine X.an ?_
 refine Run.seq ?_
 refine Run.sr ?_
 refine X.mv ?_
 refine X.bi ?_
 refine X.nil ?_
 refine R.cd (fun hc2 => ?_) (fun hc2 => ?_)
 ·replace h := condT hc2 h
  refine Run.sr ?_
  refine X.an ?_
  cases h
  refine R.f1 Tryz.results6 ?_
  rfl
 ·replace h := condF hc2 h
  refine Run.skip ?_
  refine Run.sr ?_
  refine X.mv ?_
  refine X.an ?_
  cases h
  refine R.f1 Tryz.results6 ?_
  rfl
theorem w_toIntS_pc (b0 : List Int) (r : List Int) (h : w_toIntS b0 = some r) : PCM Tryz.prog 32 [.yng 63 (.slice (b0.map int))] [(63, .yreg false false)] (.fresh false 3 1 (r.map int)) [(63, .yreg false false)] := by
 unfold w_toIntS at h
 refine PCM.start Tryz.func32 Tryz.ntmps32 rfl ok32 rfl (by rfl) (by rfl) (by rfl) (by rfl) (by rfl) ?_
 refine Run.sr ?_
 refine X.an ?_
 refine Run.sr ?_
 refine X.mv ?_
 refine X.lenY false 63 elt25 (by rfl) (by exact List.length_map ..) (by rfl) ?_
 obtain ⟨v1, hv1, h⟩ := bindE h
 refine X.makeSlice2 int hv1 elt25 zer3 (by rfl) (by rfl) (by rfl) (by simp [PV.plain]) (by rfl) (by rfl) (by rfl) (by rfl) (by rfl) (by rfl) ?_
 refine X.an ?_
 refine Run.seq ?_
 refine Run.sr ?_
 refine X.an ?_
 obtain ⟨o2, ho2, h⟩ := bindE h
 refine R.join2 (β := (List Int)) [] [(63, .yreg false false)] (fun p15 S => (3, .own 448 (p15.map int).length) :: S) (fun p15 M => (448, .obj true 3 1 (p15.map int)) :: M) (fun p15 => p15 = o2) ?_ ?_
 ·intro JJ5 hmeet4
  have hup3 := h; clear h; have h := ho2; clear ho2
  refine Run.block ?_
  refine R.bndY false 63 (t := 0) (by rfl) (fun hbd8 => ?_)
  replace hbd8 : b0.length ≤ 9223372036854775807 := by first | (rw [List.length_map] at hbd8; exact hbd8) | simp
  refine R.lp (β := Int × (List Int)) [(0, .yng 63 (.slice (b0.map int)))] [(63, .yreg false false)] (fun bb S => (3, .own 448 (bb.2.map int).length) :: (4, int bb.1) :: S) (fun bb M => (448, .obj true 3 1 (bb.2.map int)) :: M) (fun n bb => 0 ≤ bb.1 ∧ bb.1 + n = (b0.length : Int) ∧ w_toIntS_L1 (b0.drop bb.1.toNat) bb.1 bb.2 = some o2) b0.length (0, v1) ⟨Int.le_refl _, by simp, h⟩ ?_
  clear h
  rintro JJ8 n8 ⟨z9, a10⟩ hag8 ⟨hza8, hzb8, h⟩
  dsimp only at hza8 hzb8 h
  refine Run.seq ?_
  refine Run.sr ?_
  refine X.mv ?_
  refine X.mv ?_
  refine X.lenY false 63 elt25 (by rfl) (by exact List.length_map ..) (by rfl) ?_
  refine X.bi ?_
  refine X.nil ?_
  refine R.cd (fun hc13 => ?_) (fun hc13 => ?_)
  ·obtain ⟨x11, xs12, hd8, hx8, hds8, hlt8⟩ := drop_atI hza8 hc13
   rw [hd8] at h
   rw [w_toIntS_L1] at h
   refine Run.skip ?_
   refine Run.seq ?_
   refine Run.block ?_
   refine Run.reg ?_
   refine X.mv ?_
   refine X.mv ?_
   refine X.mv ?_
   refine X.mv ?_
   refine X.indexY false 63 elt25 (by rfl) (by rfl) (idxL_spec hx8).1 (idxL_map int hx8) (by rfl) (by rfl) ?_
   refine X.loadY false 63 shp3 (by rfl) (by rfl) (by rfl) (by rfl) ?_
   obtain ⟨v14, hv14, h⟩ := bindE h
   refine X.index_xs elt25 (by rfl) (by rfl) (by first | rfl | simp [setL] | omega) (by rfl) (by exact (Int.toNat_of_nonneg (idxL_spec hv14).1).symm) (by have := idxL_lt hv14; first | exact this | (rw [List.length_map]; exact this)) (by rfl) (by rfl) ?_
   refine X.store_es shp3 (by rfl) (by rfl) (by first | rfl | simp [setL] | omega) (idxL_map _ hv14) (by rfl) (by rfl) (by repeat (first | trivial | refine ⟨by first | rfl | simp [setL], ?_⟩)) (by rfl) (by rfl) (by rfl) (by rfl) (by exact setL_map _ _ _ x11) ?_
   refine X.nil ?_
   refine Run.blk ?_
   refine Run.reg ?_
   refine X.mv ?_
   refine X.ad ?_
   refine X.an ?_
   refine R.castS (t := 3) (.own 448 ((setL a10 z9 x11).map int).length) (by rfl) (.inl (by first | rfl | simp [setL])) ?_
   exact R.ag hag8 (n8 - 1) (z9 + 1, (setL a10 z9 x11)) (R.n3 (by first | (rw [hds8]; exact h) | (dsimp only; rw [hds8]; exact h)))
  ·rw [drop_endI hza8 hc13] at h
   rw [w_toIntS_L1] at h
   refine Run.exit (by rfl) ?_
   exact R.mt hmeet4 a10 (Option.some.inj h)
 rintro p15 rfl
 refine Run.sr ?_
 refine X.mv ?_
 refine X.an ?_
 cases h
 refine R.pubObj (n := 448) (by rfl) ?_
 exact R.finM1o Tryz.results32 (by rfl) (by rfl) (by first | rfl | simp [setL] | omega) (by rfl) (by repeat (first | exact trivial | refine ⟨by rfl, ?_⟩)) rfl
theorem w_toMode_pc (b0 : TMode) (r : TMode) (h : w_toMode b0 = some r) : PCM Tryz.prog 119 [.agg [int b0.Duration, .yng 63 (.slice (b0.Usage.map int)), .yng 63 (.slice (b0.Consumption.map int))]] [(63, .yreg false false)] (.agg [int r.Duration, .fresh false 3 1 (r.Usage.map int), .fresh false 3 1 (r.Consumption.map int)]) [(63, .yreg false false)] := by
 unfold w_toMode at h
 refine PCM.start Tryz.func119 Tryz.ntmps119 rfl ok119 rfl (by rfl) (by rfl) (by rfl) (by rfl) (by rfl) ?_
 refine Run.sr ?_
 refine X.bx ?_
 refine X.alloc zer131 (by rfl) (by rfl) (by rfl) ?_
 refine X.nil ?_
 refine Run.sr ?_
 refine X.alloc zer131 (by rfl) (by rfl) (by rfl) ?_
 refine X.nil ?_
 refine Run.sr ?_
 refine X.fl fld158_0 ?_
 refine X.ld shp3 ?_
 refine X.fl fld131_0 ?_
 refine X.sl shp3 ?_
 refine X.nil ?_
 refine Run.sr ?_
 refine X.fl fld158_1 ?_
 refine X.ld shp25 ?_
 obtain ⟨v1, hv1, h⟩ := bindE h
 refine X.callM [(63, 63)] (w_toIntS_pc _ _ hv1) (by rfl) (by rfl) (.yngB 63 (by rfl) (by rfl) .nil) (by rfl) ⟨rfl, rfl, ⟨_, by rfl, by constructor⟩, by constructor, trivial⟩ (by rfl) (by rfl) (by rfl) (by rfl) (by rfl) (by rfl) (by rfl) (by rfl) (by rfl) ?_
 refine X.fl fld131_1 ?_
 refine X.sl shp25 ?_
 refine X.nil ?_
 refine Run.sr ?_
 refine X.fl fld158_2 ?_
 refine X.ld shp25 ?_
 obtain ⟨v2, hv2, h⟩ := bindE h
 refine X.callM [(63, 63)] (w_toIntS_pc _ _ hv2) (by rfl) (by rfl) (.yngB 63 (by rfl) (by rfl) .nil) (by rfl) ⟨rfl, rfl, ⟨_, by rfl, by constructor⟩, by constructor, trivial⟩ (by rfl) (by rfl) (by rfl) (by rfl) (by rfl) (by rfl) (by rfl) (by rfl) (by rfl) ?_
 refine X.fl fld131_2 ?_
 refine X.sl shp25 ?_
 refine X.nil ?_
 refine Run.sr ?_
 refine X.ld shp131 ?_
 refine X.sl shp131 ?_
 refine X.nil ?_
 cases h
 exact R.finMC Tryz.results119 shp131 (by rfl) (by rfl) (by rfl) (by rfl) (by repeat (first | trivial | refine ⟨by first | rfl | simp [setL], ?_⟩)) (by rfl) (by repeat (first | exact trivial | refine ⟨by rfl, ?_⟩)) rfl
theorem w_toModeS_pc (b0 : List TMode) (r : List TMode) (h : w_toModeS b0 = some r) : PCM Tryz.prog 94 [.yng 63 (.slice (b0.map eTMode))] [(63, .yreg false false)] (.fresh false 131 3 (r.map eTMode)) [(63, .yreg false false)] := by
 unfold w_toModeS at h
 refine PCM.start Tryz.func94 Tryz.ntmps94 rfl ok94 rfl (by rfl) (by rfl) (by rfl) (by rfl) (by rfl) ?_
 refine Run.sr ?_
 refine X.an ?_
 refine Run.sr ?_
 refine X.mv ?_
 refine X.lenY false 63 elt83 (by rfl) (by exact List.length_map ..) (by rfl) ?_
 obtain ⟨v1, hv1, h⟩ := bindE h
 refine X.makeSlice2 eTMode hv1 elt93 zer131 (by rfl) (by rfl) (by rfl) (by simp [PV.plain]) (by rfl) (by rfl) (by rfl) (by rfl) (by rfl) (by rfl) ?_
 refine X.an ?_
 refine Run.seq ?_
 refine Run.sr ?_
 refine X.an ?_
 obtain ⟨o2, ho2, h⟩ := bindE h
 refine R.join2 (β := (List TMode)) [] [(63, .yreg false false)] (fun p16 S => (3, .own 448 (p16.map eTMode).length) :: S) (fun p16 M => (448, .obj true 131 3 (p16.map eTMode)) :: M) (fun p16 => p16 = o2) ?_ ?_
 ·intro JJ5 hmeet4
  have hup3 := h; clear h; have h := ho2; clear ho2
  refine Run.block ?_
  refine R.bndY false 63 (t := 0) (by rfl) (fun hbd8 => ?_)
  replace hbd8 : b0.length ≤ 9223372036854775807 := by first | (rw [List.length_map] at hbd8; exact hbd8) | simp
  refine R.lp (β := Int × (List TMode)) [(0, .yng 63 (.slice (b0.map eTMode)))] [(63, .yreg false false)] (fun bb S => (3, .own 448 (bb.2.map eTMode).length) :: (4, int bb.1) :: S) (fun bb M => (448, .obj true 131 3 (bb.2.map eTMode)) :: M) (fun n bb => 0 ≤ bb.1 ∧ bb.1 + n = (b0.length : Int) ∧ w_toModeS_L1 (b0.drop bb.1.toNat) bb.1 bb.2 = some o2) b0.length (0, v1) ⟨Int.le_refl _, by simp, h⟩ ?_
  clear h
  rintro JJ8 n8 ⟨z9, a10⟩ hag8 ⟨hza8, hzb8, h⟩
  dsimp only at hza8 hzb8 h
  refine Run.seq ?_
  refine Run.sr ?_
  refine X.mv ?_
  refine X.mv ?_
  refine X.lenY false 63 elt83 (by rfl) (by exact List.length_map ..) (by rfl) ?_
  refine X.bi ?_
  refine X.nil ?_
  refine R.cd (fun hc13 => ?_) (fun hc13 => ?_)
  ·obtain ⟨x11, xs12, hd8, hx8, hds8, hlt8⟩ := drop_atI hza8 hc13
   rw [hd8] at h
   rw [w_toModeS_L1] at h
   refine Run.skip ?_
   refine Run.seq ?_
   refine Run.block ?_
   refine Run.reg ?_
   refine X.mv ?_
   refine X.mv ?_
   refine X.mv ?_
   refine X.mv ?_
   refine X.indexY false 63 elt83 (by rfl) (by rfl) (idxL_spec hx8).1 (idxL_map eTMode hx8) (by rfl) (by rfl) ?_
   refine X.loadY false 63 shp158 (by rfl) (by rfl) (by rfl) (by rfl) ?_
   obtain ⟨v14, hv14, h⟩ := bindE h
   refine X.callM [(63, 63)] (w_toMode_pc _ _ hv14) (by rfl) (by rfl) (.agg _ _ _ _ _ _ (.pureB (by rfl) (by repeat (first | trivial | refine ⟨by first | rfl | simp [setL], ?_⟩)) (.yngB 63 (by rfl) (by rfl) (.yngB 63 (by rfl) (by rfl) .nil))) .nil) (by rfl) ⟨rfl, rfl, ⟨_, by rfl, by constructor⟩, by constructor, trivial⟩ (by rfl) (by rfl) (by rfl) (by rfl) (by rfl) (by rfl) (by rfl) (by rfl) (by rfl) ?_
   obtain ⟨v15, hv15, h⟩ := bindE h
   refine X.index_xs elt93 (by rfl) (by rfl) (by first | rfl | simp [setL] | omega) (by rfl) (by exact (Int.toNat_of_nonneg (idxL_spec hv15).1).symm) (by have := idxL_lt hv15; first | exact this | (rw [List.length_map]; exact this)) (by rfl) (by rfl) ?_
   refine X.store_es shp131 (by rfl) (by rfl) (by first | rfl | simp [setL] | omega) (idxL_map _ hv15) (by rfl) (by rfl) (by repeat (first | trivial | refine ⟨by first | rfl | simp [setL], ?_⟩)) (by rfl) (by rfl) (by rfl) (by rfl) (by exact setL_map _ _ _ v14) ?_
   refine X.nil ?_
   refine Run.blk ?_
   refine Run.reg ?_
   refine X.mv ?_
   refine X.ad ?_
   refine X.an ?_
   refine R.castS (t := 3) (.own 448 ((setL a10 z9 v14).map eTMode).length) (by rfl) (.inl (by first | rfl | simp [setL])) ?_
   exact R.ag hag8 (n8 - 1) (z9 + 1, (setL a10 z9 v14)) (R.n3 (by first | (rw [hds8]; exact h) | (dsimp only; rw [hds8]; exact h)))
  ·rw [drop_endI hza8 hc13] at h
   rw [w_toModeS_L1] at h
   refine Run.exit (by rfl) ?_
   exact R.mt hmeet4 a10 (Option.some.inj h)
 rintro p16 rfl
 refine Run.sr ?_
 refine X.mv ?_
 refine X.an ?_
 cases h
 refine R.pubObj (n := 448) (by rfl) ?_
 exact R.finM1o Tryz.results94 (by rfl) (by rfl) (by first | rfl | simp [setL] | omega) (by rfl) (by repeat (first | exact trivial | refine ⟨by rfl, ?_⟩)) rfl
theorem w_toActivity_pc (b0 : TActivity) (r : TActivity) (h : w_toActivity b0 = some r) : PCM Tryz.prog 58 [.agg [str b0.Name, int b0.Family, .yng 63 (.slice (b0.Modes.map eTMode))]] [(63, .yreg false false)] (.agg [str r.Name, int r.Family, .fresh false 131 3 (r.Modes.map eTMode)]) [(63, .yreg false false)] := by
 unfold w_toActivity at h
 refine PCM.start Tryz.func58 Tryz.ntmps58 rfl ok58 rfl (by rfl) (by rfl) (by rfl) (by rfl) (by rfl) ?_
 refine Run.sr ?_
 refine X.bx ?_
 refine X.alloc zer95 (by rfl) (by rfl) (by rfl) ?_
 refine X.nil ?_
 refine Run.sr ?_
 refine X.alloc zer95 (by rfl) (by rfl) (by rfl) ?_
 refine X.nil ?_
 refine Run.sr ?_
 refine X.fl fld85_0 ?_
 refine X.ld shp9 ?_
 refine X.fl fld95_0 ?_
 refine X.sl shp9 ?_
 refine X.nil ?_
 refine Run.sr ?_
 refine X.fl fld85_1 ?_
 refine X.ld shp3 ?_
 refine X.fl fld95_1 ?_
 refine X.sl shp3 ?_
 refine X.nil ?_
 refine Run.sr ?_
 refine X.fl fld85_2 ?_
 refine X.ld shp83 ?_
 obtain ⟨v1, hv1, h⟩ := bindE h
 refine X.callM [(63, 63)] (w_toModeS_pc _ _ hv1) (by rfl) (by rfl) (.yngB 63 (by rfl) (by rfl) .nil) (by rfl) ⟨rfl, rfl, ⟨_, by rfl, by constructor⟩, by constructor, trivial⟩ (by rfl) (by rfl) (by rfl) (by rfl) (by rfl) (by rfl) (by rfl) (by rfl) (by rfl) ?_
 refine X.fl fld95_2 ?_
 refine X.sl shp93 ?_
 refine X.nil ?_
 refine Run.sr ?_
 refine X.ld shp95 ?_
 refine X.sl shp95 ?_
 refine X.nil ?_
 cases h
 exact R.finMC Tryz.results58 shp95 (by rfl) (by rfl) (by rfl) (by rfl) (by repeat (first | trivial | refine ⟨by first | rfl | simp [setL], ?_⟩)) (by rfl) (by repeat (first | exact trivial | refine ⟨by rfl, ?_⟩)) rfl
theorem w_toActivityS_pc (b0 : List TActivity) (r : List TActivity) (h : w_toActivityS b0 = some r) : PCM Tryz.prog 29 [.yng 63 (.slice (b0.map eTActivity))] [(63, .yreg false false)] (.fresh false 95 3 (r.map eTActivity)) [(63, .yreg false false)] := by
 unfold w_toActivityS at h
 refine PCM.start Tryz.func29 Tryz.ntmps29 rfl ok29 rfl (by rfl) (by rfl) (by rfl) (by rfl) (by rfl) ?_
 refine Run.sr ?_
 refine X.an ?_
 refine Run.sr ?_
 refine X.mv ?_
 refine X.lenY false 63 elt22 (by rfl) (by exact List.length_map ..) (by rfl) ?_
 obtain ⟨v1, hv1, h⟩ := bindE h
 refine X.makeSlice2 eTActivity hv1 elt36 zer95 (by rfl) (by rfl) (by rfl) (by simp [PV.plain]) (by rfl) (by rfl) (by rfl) (by rfl) (by rfl) (by rfl) ?_
 refine X.an ?_
 refine Run.seq ?_
 refine Run.sr ?_
 refine X.an ?_
 obtain ⟨o2, ho2, h⟩ := bindE h
 refine R.join2 (β := (List TActivity)) [] [(63, .yreg false false)] (fun p16 S => (3, .own 448 (p16.map eTActivity).length) :: S) (fun p16 M => (448, .obj true 95 3 (p16.map eTActivity)) :: M) (fun p16 => p16 = o2) ?_ ?_
 ·intro JJ5 hmeet4
  have hup3 := h; clear h; have h := ho2; clear ho2
  refine Run.block ?_
  refine R.bndY false 63 (t := 0) (by rfl) (fun hbd8 => ?_)
  replace hbd8 : b0.length ≤ 9223372036854775807 := by first | (rw [List.length_map] at hbd8; exact hbd8) | simp
  refine R.lp (β := Int × (List TActivity)) [(0, .yng 63 (.slice (b0.map eTActivity)))] [(63, .yreg false false)] (fun bb S => (3, .own 448 (bb.2.map eTActivity).length) :: (4, int bb.1) :: S) (fun bb M => (448, .obj true 95 3 (bb.2.map eTActivity)) :: M) (fun n bb => 0 ≤ bb.1 ∧ bb.1 + n = (b0.length : Int) ∧ w_toActivityS_L1 (b0.drop bb.1.toNat) bb.1 bb.2 = some o2) b0.length (0, v1) ⟨Int.le_refl _, by simp, h⟩ ?_
  clear h
  rintro JJ8 n8 ⟨z9, a10⟩ hag8 ⟨hza8, hzb8, h⟩
  dsimp only at hza8 hzb8 h
  refine Run.seq ?_
  refine Run.sr ?_
  refine X.mv ?_
  refine X.mv ?_
  refine X.lenY false 63 elt22 (by rfl) (by exact List.length_map ..) (by rfl) ?_
  refine X.bi ?_
  refine X.nil ?_
  refine R.cd (fun hc13 => ?_) (fun hc13 => ?_)
  ·obtain ⟨x11, xs12, hd8, hx8, hds8, hlt8⟩ := drop_atI hza8 hc13
   rw [hd8] at h
   rw [w_toActivityS_L1] at h
   refine Run.skip ?_
   refine Run.seq ?_
   refine Run.block ?_
   refine Run.reg ?_
   refine X.mv ?_
   refine X.mv ?_
   refine X.mv ?_
   refine X.mv ?_
   refine X.indexY false 63 elt22 (by rfl) (by rfl) (idxL_spec hx8).1 (idxL_map eTActivity hx8) (by rfl) (by rfl) ?_
   refine X.loadY false 63 shp85 (by rfl) (by rfl) (by rfl) (by rfl) ?_
   obtain ⟨v14, hv14, h⟩ := bindE h
   refine X.callM [(63, 63)] (w_toActivity_pc _ _ hv14) (by rfl) (by rfl) (.agg _ _ _ _ _ _ (.pureB (by rfl) (by repeat (first | trivial | refine ⟨by first | rfl | simp [setL], ?_⟩)) (.pureB (by rfl) (by repeat (first | trivial | refine ⟨by first | rfl | simp [setL], ?_⟩)) (.yngB 63 (by rfl) (by rfl) .nil))) .nil) (by rfl) ⟨rfl, rfl, ⟨_, by rfl, by constructor⟩, by constructor, trivial⟩ (by rfl) (by rfl) (by rfl) (by rfl) (by rfl) (by rfl) (by rfl) (by rfl) (by rfl) ?_
   obtain ⟨v15, hv15, h⟩ := bindE h
   refine X.index_xs elt36 (by rfl) (by rfl) (by first | rfl | simp [setL] | omega) (by rfl) (by exact (Int.toNat_of_nonneg (idxL_spec hv15).1).symm) (by have := idxL_lt hv15; first | exact this | (rw [List.length_map]; exact this)) (by rfl) (by rfl) ?_
   refine X.store_es shp95 (by rfl) (by rfl) (by first | rfl | simp [setL] | omega) (idxL_map _ hv15) (by rfl) (by rfl) (by repeat (first | trivial | refine ⟨by first | rfl | simp [setL], ?_⟩)) (by rfl) (by rfl) (by rfl) (by rfl) (by exact setL_map _ _ _ v14) ?_
   refine X.nil ?_
   refine Run.blk ?_
   refine Run.reg ?_
   refine X.mv ?_
   refine X.ad ?_
   refine X.an ?_
   refine R.castS (t := 3) (.own 448 ((setL a10 z9 v14).map eTActivity).length) (by rfl) (.inl (by first | rfl | simp [setL])) ?_
   exact R.ag hag8 (n8 - 1) (z9 + 1, (setL a10 z9 v14)) (R.n3 (by first | (rw [hds8]; exact h) | (dsimp only; rw [hds8]; exact h)))
  ·rw [drop_endI hza8 hc13] at h
   rw [w_toActivityS_L1] at h
   refine Run.exit (by rfl) ?_
   exact R.mt hmeet4 a10 (Option.some.inj h)
 rintro p16 rfl
 refine Run.sr ?_
 refine X.mv ?_
 refine X.an ?_
 cases h
 refine R.pubObj (n := 448) (by rfl) ?_
 exact R.finM1o Tryz.results29 (by rfl) (by rfl) (by first | rfl | simp [setL] | omega) (by rfl) (by repeat (first | exact trivial | refine ⟨by rfl, ?_⟩)) rfl
theorem w_toLink_pc (b0 : TLink) (r : TLink) (h : w_toLink b0 = some r) : PC Tryz.prog 59 [eTLink b0] (eTLink r) := by
 unfold w_toLink at h
 refine PC.start Tryz.func59 Tryz.ntmps59 rfl ok59 rfl ?_
 refine Run.sr ?_
 refine X.bx ?_
 refine X.alloc zer103 (by rfl) (by rfl) (by rfl) ?_
 refine X.nil ?_
 refine Run.sr ?_
 refine X.alloc zer103 (by rfl) (by rfl) (by rfl) ?_
 refine X.nil ?_
 refine Run.sr ?_
 refine X.fl fld112_0 ?_
 refine X.ld shp3 ?_
 refine X.fl fld103_0 ?_
 refine X.sl shp3 ?_
 refine X.nil ?_
 refine Run.sr ?_
 refine X.fl fld112_1 ?_
 refine X.ld shp3 ?_
 refine X.fl fld103_1 ?_
 refine X.sl shp3 ?_
 refine X.nil ?_
 refine Run.sr ?_
 refine X.fl fld112_2 ?_
 refine X.ld shp4 ?_
 refine X.fl fld103_2 ?_
 refine X.sl shp4 ?_
 refine X.nil ?_
 refine Run.sr ?_
 refine X.fl fld112_3 ?_
 refine X.ld shp3 ?_
 refine X.fl fld103_3 ?_
 refine X.sl shp3 ?_
 refine X.nil ?_
 refine Run.sr ?_
 refine X.ld shp103 ?_
 refine X.sl shp103 ?_
 refine X.nil ?_
 cases h
 refine R.finC Tryz.results59 shp103 (by rfl) (by rfl) (by rfl) (by rfl) (by repeat (first | trivial | refine ⟨by first | rfl | simp [setL], ?_⟩)) ?_
 rfl
theorem w_toLinkS_pc (b0 : List TLink) (r : List TLink) (h : w_toLinkS b0 = some r) : PCM Tryz.prog 30 [.yng 63 (.slice (b0.map eTLink))] [(63, .yreg false false)] (.fresh false 103 4 (r.map eTLink)) [(63, .yreg false false)] := by
 unfold w_toLinkS at h
 refine PCM.start Tryz.func30 Tryz.ntmps30 rfl ok30 rfl (by rfl) (by rfl) (by rfl) (by rfl) (by rfl) ?_
 refine Run.sr ?_
 refine X.an ?_
 refine Run.sr ?_
 refine X.mv ?_
 refine X.lenY false 63 elt23 (by rfl) (by exact List.length_map ..) (by rfl) ?_
 obtain ⟨v1, hv1, h⟩ := bindE h
 refine X.makeSlice2 eTLink hv1 elt37 zer103 (by rfl) (by rfl) (by rfl) (by simp [PV.plain]) (by rfl) (by rfl) (by rfl) (by rfl) (by rfl) (by rfl) ?_
 refine X.an ?_
 refine Run.seq ?_
 refine Run.sr ?_
 refine X.an ?_
 obtain ⟨o2, ho2, h⟩ := bindE h
 refine R.join2 (β := (List TLink)) [] [(63, .yreg false false)] (fun p16 S => (3, .own 448 (p16.map eTLink).length) :: S) (fun p16 M => (448, .obj true 103 4 (p16.map eTLink)) :: M) (fun p16 => p16 = o2) ?_ ?_
 ·intro JJ5 hmeet4
  have hup3 := h; clear h; have h := ho2; clear ho2
  refine Run.block ?_
  refine R.bndY false 63 (t := 0) (by rfl) (fun hbd8 => ?_)
  replace hbd8 : b0.length ≤ 9223372036854775807 := by first | (rw [List.length_map] at hbd8; exact hbd8) | simp
  refine R.lp (β := Int × (List TLink)) [(0, .yng 63 (.slice (b0.map eTLink)))] [(63, .yreg false false)] (fun bb S => (3, .own 448 (bb.2.map eTLink).length) :: (4, int bb.1) :: S) (fun bb M => (448, .obj true 103 4 (bb.2.map eTLink)) :: M) (fun n bb => 0 ≤ bb.1 ∧ bb.1 + n = (b0.length : Int) ∧ w_toLinkS_L1 (b0.drop bb.1.toNat) bb.1 bb.2 = some o2) b0.length (0, v1) ⟨Int.le_refl _, by simp, h⟩ ?_
  clear h
  rintro JJ8 n8 ⟨z9, a10⟩ hag8 ⟨hza8, hzb8, h⟩
  dsimp only at hza8 hzb8 h
  refine Run.seq ?_
  refine Run.sr ?_
  refine X.mv ?_
  refine X.mv ?_
  refine X.lenY false 63 elt23 (by rfl) (by exact List.length_map ..) (by rfl) ?_
  refine X.bi ?_
  refine X.nil ?_
  refine R.cd (fun hc13 => ?_) (fun hc13 => ?_)
  ·obtain ⟨x11, xs12, hd8, hx8, hds8, hlt8⟩ := drop_atI hza8 hc13
   rw [hd8] at h
   rw [w_toLinkS_L1] at h
   refine Run.skip ?_
   refine Run.seq ?_
   refine Run.block ?_
   refine Run.reg ?_
   refine X.mv ?_
   refine X.mv ?_
   refine X.mv ?_
   refine X.mv ?_
   refine X.indexY false 63 elt23 (by rfl) (by rfl) (idxL_spec hx8).1 (idxL_map eTLink hx8) (by rfl) (by rfl) ?_
   refine X.loadY false 63 shp112 (by rfl) (by rfl) (by rfl) (by rfl) ?_
   obtain ⟨v14, hv14, h⟩ := bindE h
   refine X.callA (w_toLink_pc _ _ hv14) (by rfl) (by rfl) (by rfl) (by trivial) (by rfl) (by rfl) (by rfl) (by rfl) (by rfl) (by rfl) ?_
   obtain ⟨v15, hv15, h⟩ := bindE h
   refine X.index_xs elt37 (by rfl) (by rfl) (by first | rfl | simp [setL] | omega) (by rfl) (by exact (Int.toNat_of_nonneg (idxL_spec hv15).1).symm) (by have := idxL_lt hv15; first | exact this | (rw [List.length_map]; exact this)) (by rfl) (by rfl) ?_
   refine X.store_es shp103 (by rfl) (by rfl) (by first | rfl | simp [setL] | omega) (idxL_map _ hv15) (by rfl) (by rfl) (by repeat (first | trivial | refine ⟨by first | rfl | simp [setL], ?_⟩)) (by rfl) (by rfl) (by rfl) (by rfl) (by exact setL_map _ _ _ v14) ?_
   refine X.nil ?_
   refine Run.blk ?_
   refine Run.reg ?_
   refine X.mv ?_
   refine X.ad ?_
   refine X.an ?_
   refine R.castS (t := 3) (.own 448 ((setL a10 z9 v14).map eTLink).length) (by rfl) (.inl (by first | rfl | simp [setL])) ?_
   exact R.ag hag8 (n8 - 1) (z9 + 1, (setL a10 z9 v14)) (R.n3 (by first | (rw [hds8]; exact h) | (dsimp only; rw [hds8]; exact h)))
  ·rw [drop_endI hza8 hc13] at h
   rw [w_toLinkS_L1] at h
   refine Run.exit (by rfl) ?_
   exact R.mt hmeet4 a10 (Option.some.inj h)
 rintro p16 rfl
 refine Run.sr ?_
 refine X.mv ?_
 refine X.an ?_
 cases h
 refine R.pubObj (n := 448) (by rfl) ?_
 exact R.finM1o Tryz.results30 (by rfl) (by rfl) (by first | rfl | simp [setL] | omega) (by rfl) (by repeat (first | exact trivial | refine ⟨by rfl, ?_⟩)) rfl
theorem w_toStep_pc (b0 : TStep) (r : TStep) (h : w_toStep b0 = some r) : PC Tryz.prog 120 [eTStep b0] (eTStep r) := by
 unfold w_toStep at h
 refine PC.start Tryz.func120 Tryz.ntmps120 rfl ok120 rfl ?_
 refine Run.sr ?_
 refine X.bx ?_
 refine X.alloc zer162 (by rfl) (by rfl) (by rfl) ?_
 refine X.nil ?_
 refine Run.sr ?_
 refine X.alloc zer162 (by rfl) (by rfl) (by rfl) ?_
 refine X.nil ?_
 refine Run.sr ?_
 refine X.fl fld165_0 ?_
 refine X.ld shp3 ?_
 refine X.fl fld162_0 ?_
 refine X.sl shp3 ?_
 refine X.nil ?_
 refine Run.sr ?_
 refine X.fl fld165_1 ?_
 refine X.ld shp3 ?_
 refine X.fl fld162_1 ?_
 refine X.sl shp3 ?_
 refine X.nil ?_
 refine Run.sr ?_
 refine X.ld shp162 ?_
 refine X.sl shp162 ?_
 refine X.nil ?_
 cases h
 refine R.finC Tryz.results120 shp162 (by rfl) (by rfl) (by rfl) (by rfl) (by repeat (first | trivial | refine ⟨by first | rfl | simp [setL], ?_⟩)) ?_
 rfl
theorem w_toStepS_pc (b0 : List TStep) (r : List TStep) (h : w_toStepS b0 = some r) : PCM Tryz.prog 95 [.yng 63 (.slice (b0.map eTStep))] [(63, .yreg false false)] (.fresh false 162 2 (r.map eTStep)) [(63, .yreg false false)] := by
 unfold w_toStepS at h
 refine PCM.start Tryz.func95 Tryz.ntmps95 rfl ok95 rfl (by rfl) (by rfl) (by rfl) (by rfl) (by rfl) ?_
 refine Run.sr ?_
 refine X.an ?_
 refine Run.sr ?_
 refine X.mv ?_
 refine X.lenY false 63 elt87 (by rfl) (by exact List.length_map ..) (by rfl) ?_
 obtain ⟨v1, hv1, h⟩ := bindE h
 refine X.makeSlice2 eTStep hv1 elt98 zer162 (by rfl) (by rfl) (by rfl) (by simp [PV.plain]) (by rfl) (by rfl) (by rfl) (by rfl) (by rfl) (by rfl) ?_
 refine X.an ?_
 refine Run.seq ?_
 refine Run.sr ?_
 refine X.an ?_
 obtain ⟨o2, ho2, h⟩ := bindE h
 refine R.join2 (β := (List TStep)) [] [(63, .yreg false false)] (fun p16 S => (3, .own 448 (p16.map eTStep).length) :: S) (fun p16 M => (448, .obj true 162 2 (p16.map eTStep)) :: M) (fun p16 => p16 = o2) ?_ ?_
 ·intro JJ5 hmeet4
  have hup3 := h; clear h; have h := ho2; clear ho2
  refine Run.block ?_
  refine R.bndY false 63 (t := 0) (by rfl) (fun hbd8 => ?_)
  replace hbd8 : b0.length ≤ 9223372036854775807 := by first | (rw [List.length_map] at hbd8; exact hbd8) | simp
  refine R.lp (β := Int × (List TStep)) [(0, .yng 63 (.slice (b0.map eTStep)))] [(63, .yreg false false)] (fun bb S => (3, .own 448 (bb.2.map eTStep).length) :: (4, int bb.1) :: S) (fun bb M => (448, .obj true 162 2 (bb.2.map eTStep)) :: M) (fun n bb => 0 ≤ bb.1 ∧ bb.1 + n = (b0.length : Int) ∧ w_toStepS_L1 (b0.drop bb.1.toNat) bb.1 bb.2 = some o2) b0.length (0, v1) ⟨Int.le_refl _, by simp, h⟩ ?_
  clear h
  rintro JJ8 n8 ⟨z9, a10⟩ hag8 ⟨hza8, hzb8, h⟩
  dsimp only at hza8 hzb8 h
  refine Run.seq ?_
  refine Run.sr ?_
  refine X.mv ?_
  refine X.mv ?_
  refine X.lenY false 63 elt87 (by rfl) (by exact List.length_map ..) (by rfl) ?_
  refine X.bi ?_
  refine X.nil ?_
  refine R.cd (fun hc13 => ?_) (fun hc13 => ?_)
  ·obtain ⟨x11, xs12, hd8, hx8, hds8, hlt8⟩ := drop_atI hza8 hc13
   rw [hd8] at h
   rw [w_toStepS_L1] at h
   refine Run.skip ?_
   refine Run.seq ?_
   refine Run.block ?_
   refine Run.reg ?_
   refine X.mv ?_
   refine X.mv ?_
   refine X.mv ?_
   refine X.mv ?_
   refine X.indexY false 63 elt87 (by rfl) (by rfl) (idxL_spec hx8).1 (idxL_map eTStep hx8) (by rfl) (by rfl) ?_
   refine X.loadY false 63 shp165 (by rfl) (by rfl) (by rfl) (by rfl) ?_
   obtain ⟨v14, hv14, h⟩ := bindE h
   refine X.callA (w_toStep_pc _ _ hv14) (by rfl) (by rfl) (by rfl) (by trivial) (by rfl) (by rfl) (by rfl) (by rfl) (by rfl) (by rfl) ?_
   obtain ⟨v15, hv15, h⟩ := bindE h
   refine X.index_xs elt98 (by rfl) (by rfl) (by first | rfl | simp [setL] | omega) (by rfl) (by exact (Int.toNat_of_nonneg (idxL_spec hv15).1).symm) (by have := idxL_lt hv15; first | exact this | (rw [List.length_map]; exact this)) (by rfl) (by rfl) ?_
   refine X.store_es shp162 (by rfl) (by rfl) (by first | rfl | simp [setL] | omega) (idxL_map _ hv15) (by rfl) (by rfl) (by repeat (first | trivial | refine ⟨by first | rfl | simp [setL], ?_⟩)) (by rfl) (by rfl) (by rfl) (by rfl) (by exact setL_map _ _ _ v14) ?_
   refine X.nil ?_
   refine Run.blk ?_
   refine Run.reg ?_
   refine X.mv ?_
   refine X.ad ?_
   refine X.an ?_
   refine R.castS (t := 3) (.own 448 ((setL a10 z9 v14).map eTStep).length) (by rfl) (.inl (by first | rfl | simp [setL])) ?_
   exact R.ag hag8 (n8 - 1) (z9 + 1, (setL a10 z9 v14)) (R.n3 (by first | (rw [hds8]; exact h) | (dsimp only; rw [hds8]; exact h)))
  ·rw [drop_endI hza8 hc13] at h
   rw [w_toStepS_L1] at h
   refine Run.exit (by rfl) ?_
   exact R.mt hmeet4 a10 (Option.some.inj h)
 rintro p16 rfl
 refine Run.sr ?_
 refine X.mv ?_
 refine X.an ?_
 cases h
 refine R.pubObj (n := 448) (by rfl) ?_
 exact R.finM1o Tryz.results95 (by rfl) (by rfl) (by first | rfl | simp [setL] | omega) (by rfl) (by repeat (first | exact trivial | refine ⟨by rfl, ?_⟩)) rfl
theorem w_toIntSS_pc (b0 : List (List Int)) (r : List (List Int)) (h : w_toIntSS b0 = some r) : PCM Tryz.prog 96 [.yng 63 (.slice (b0.map l_int))] [(63, .yreg false false)] (.fresh false 25 1 (r.map l_int)) [(63, .yreg false false)] := by
 unfold w_toIntSS at h
 refine PCM.start Tryz.func96 Tryz.ntmps96 rfl ok96 rfl (by rfl) (by rfl) (by rfl) (by rfl) (by rfl) ?_
 refine Run.sr ?_
 refine X.an ?_
 refine Run.sr ?_
 refine X.mv ?_
 refine X.lenY false 63 elt88 (by rfl) (by exact List.length_map ..) (by rfl) ?_
 obtain ⟨v1, hv1, h⟩ := bindE h
 refine X.makeSlice2 l_int hv1 elt88 zer25 (by rfl) (by rfl) (by rfl) (by simp [PV.plain]) (by rfl) (by rfl) (by rfl) (by rfl) (by rfl) (by rfl) ?_
 refine X.an ?_
 refine Run.seq ?_
 refine Run.sr ?_
 refine X.an ?_
 obtain ⟨o2, ho2, h⟩ := bindE h
 refine R.join2 (β := (List (List Int))) [] [(63, .yreg false false)] (fun p16 S => (3, .own 448 (p16.map l_int).length) :: S) (fun p16 M => (448, .obj true 25 1 (p16.map l_int)) :: M) (fun p16 => p16 = o2) ?_ ?_
 ·intro JJ5 hmeet4
  have hup3 := h; clear h; have h := ho2; clear ho2
  refine Run.block ?_
  refine R.bndY false 63 (t := 0) (by rfl) (fun hbd8 => ?_)
  replace hbd8 : b0.length ≤ 9223372036854775807 := by first | (rw [List.length_map] at hbd8; exact hbd8) | simp
  refine R.lp (β := Int × (List (List Int))) [(0, .yng 63 (.slice (b0.map l_int)))] [(63, .yreg false false)] (fun bb S => (3, .own 448 (bb.2.map l_int).length) :: (4, int bb.1) :: S) (fun bb M => (448, .obj true 25 1 (bb.2.map l_int)) :: M) (fun n bb => 0 ≤ bb.1 ∧ bb.1 + n = (b0.length : Int) ∧ w_toIntSS_L1 (b0.drop bb.1.toNat) bb.1 bb.2 = some o2) b0.length (0, v1) ⟨Int.le_refl _, by simp, h⟩ ?_
  clear h
  rintro JJ8 n8 ⟨z9, a10⟩ hag8 ⟨hza8, hzb8, h⟩
  dsimp only at hza8 hzb8 h
  refine Run.seq ?_
  refine Run.sr ?_
  refine X.mv ?_
  refine X.mv ?_
  refine X.lenY false 63 elt88 (by rfl) (by exact List.length_map ..) (by rfl) ?_
  refine X.bi ?_
  refine X.nil ?_
  refine R.cd (fun hc13 => ?_) (fun hc13 => ?_)
  ·obtain ⟨x11, xs12, hd8, hx8, hds8, hlt8⟩ := drop_atI hza8 hc13
   rw [hd8] at h
   rw [w_toIntSS_L1] at h
   refine Run.skip ?_
   refine Run.seq ?_
   refine Run.block ?_
   refine Run.reg ?_
   refine X.mv ?_
   refine X.mv ?_
   refine X.mv ?_
   refine X.mv ?_
   refine X.indexY false 63 elt88 (by rfl) (by rfl) (idxL_spec hx8).1 (idxL_map l_int hx8) (by rfl) (by rfl) ?_
   refine X.loadY false 63 shp25 (by rfl) (by rfl) (by rfl) (by rfl) ?_
   obtain ⟨v14, hv14, h⟩ := bindE h
   refine X.callM [(63, 63)] (w_toIntS_pc _ _ hv14) (by rfl) (by rfl) (.yngB 63 (by rfl) (by rfl) .nil) (by rfl) ⟨rfl, rfl, ⟨_, by rfl, by constructor⟩, by constructor, trivial⟩ (by rfl) (by rfl) (by rfl) (by rfl) (by rfl) (by rfl) (by rfl) (by rfl) (by rfl) ?_
   obtain ⟨v15, hv15, h⟩ := bindE h
   refine X.index_xs elt88 (by rfl) (by rfl) (by first | rfl | simp [setL] | omega) (by rfl) (by exact (Int.toNat_of_nonneg (idxL_spec hv15).1).symm) (by have := idxL_lt hv15; first | exact this | (rw [List.length_map]; exact this)) (by rfl) (by rfl) ?_
   refine X.store_es shp25 (by rfl) (by rfl) (by first | rfl | simp [setL] | omega) (idxL_map _ hv15) (by rfl) (by rfl) (by repeat (first | trivial | refine ⟨by first | rfl | simp [setL], ?_⟩)) (by rfl) (by rfl) (by rfl) (by rfl) (by exact setL_map _ _ _ v14) ?_
   refine X.nil ?_
   refine Run.blk ?_
   refine Run.reg ?_
   refine X.mv ?_
   refine X.ad ?_
   refine X.an ?_
   refine R.castS (t := 3) (.own 448 ((setL a10 z9 v14).map l_int).length) (by rfl) (.inl (by first | rfl | simp [setL])) ?_
   exact R.ag hag8 (n8 - 1) (z9 + 1, (setL a10 z9 v14)) (R.n3 (by first | (rw [hds8]; exact h) | (dsimp only; rw [hds8]; exact h)))
  ·rw [drop_endI hza8 hc13] at h
   rw [w_toIntSS_L1] at h
   refine Run.exit (by rfl) ?_
   exact R.mt hmeet4 a10 (Option.some.inj h)
 rintro p16 rfl
 refine Run.sr ?_
 refine X.mv ?_
 refine X.an ?_
 cases h
 refine R.pubObj (n := 448) (by rfl) ?_
 exact R.finM1o Tryz.results96 (by rfl) (by rfl) (by first | rfl | simp [setL] | omega) (by rfl) (by repeat (first | exact trivial | refine ⟨by rfl, ?_⟩)) rfl
theorem w_toResource_pc (b0 : TResource) (r : TResource) (h : w_toResource b0 = some r) : PCM Tryz.prog 60 [.agg [.yng 63 (.slice (b0.Steps.map eTStep)), .yng 63 (.slice (b0.Setup.map l_int))]] [(63, .yreg false false)] (.agg [.fresh false 162 2 (r.Steps.map eTStep), .fresh false 25 1 (r.Setup.map l_int)]) [(63, .yreg false false)] := by
 unfold w_toResource at h
 refine PCM.start Tryz.func60 Tryz.ntmps60 rfl ok60 rfl (by rfl) (by rfl) (by rfl) (by rfl) (by rfl) ?_
 refine Run.sr ?_
 refine X.bx ?_
 refine X.alloc zer100 (by rfl) (by rfl) (by rfl) ?_
 refine X.nil ?_
 refine Run.sr ?_
 refine X.alloc zer100 (by rfl) (by rfl) (by rfl) ?_
 refine X.nil ?_
 refine Run.sr ?_
 refine X.fl fld90_0 ?_
 refine X.ld shp87 ?_
 obtain ⟨v1, hv1, h⟩ := bindE h
 refine X.callM [(63, 63)] (w_toStepS_pc _ _ hv1) (by rfl) (by rfl) (.yngB 63 (by rfl) (by rfl) .nil) (by rfl) ⟨rfl, rfl, ⟨_, by rfl, by constructor⟩, by constructor, trivial⟩ (by rfl) (by rfl) (by rfl) (by rfl) (by rfl) (by rfl) (by rfl) (by rfl) (by rfl) ?_
 refine X.fl fld100_0 ?_
 refine X.sl shp98 ?_
 refine X.nil ?_
 refine Run.sr ?_
 refine X.fl fld90_1 ?_
 refine X.ld shp88 ?_
 obtain ⟨v2, hv2, h⟩ := bindE h
 refine X.callM [(63, 63)] (w_toIntSS_pc _ _ hv2) (by rfl) (by rfl) (.yngB 63 (by rfl) (by rfl) .nil) (by rfl) ⟨rfl, rfl, ⟨_, by rfl, by constructor⟩, by constructor, trivial⟩ (by rfl) (by rfl) (by rfl) (by rfl) (by rfl) (by rfl) (by rfl) (by rfl) (by rfl) ?_
 refine X.fl fld100_1 ?_
 refine X.sl shp88 ?_
 refine X.nil ?_
 refine Run.sr ?_
 refine X.ld shp100 ?_
 refine X.sl shp100 ?_
 refine X.nil ?_
 cases h
 exact R.finMC Tryz.results60 shp100 (by rfl) (by rfl) (by rfl) (by rfl) (by repeat (first | trivial | refine ⟨by first | rfl | simp [setL], ?_⟩)) (by rfl) (by repeat (first | exact trivial | refine ⟨by rfl, ?_⟩)) rfl
theorem w_toResourceS_pc (b0 : List TResource) (r : List TResource) (h : w_toResourceS b0 = some r) : PCM Tryz.prog 31 [.yng 63 (.slice (b0.map eTResource))] [(63, .yreg false false)] (.fresh false 100 2 (r.map eTResource)) [(63, .yreg false false)] := by
 unfold w_toResourceS at h
 refine PCM.start Tryz.func31 Tryz.ntmps31 rfl ok31 rfl (by rfl) (by rfl) (by rfl) (by rfl) (by rfl) ?_
 refine Run.sr ?_
 refine X.an ?_
 refine Run.sr ?_
 refine X.mv ?_
 refine X.lenY false 63 elt24 (by rfl) (by exact List.length_map ..) (by rfl) ?_
 obtain ⟨v1, hv1, h⟩ := bindE h
 refine X.makeSlice2 eTResource hv1 elt38 zer100 (by rfl) (by rfl) (by rfl) (by simp [PV.plain]) (by rfl) (by rfl) (by rfl) (by rfl) (by rfl) (by rfl) ?_
 refine X.an ?_
 refine Run.seq ?_
 refine Run.sr ?_
 refine X.an ?_
 obtain ⟨o2, ho2, h⟩ := bindE h
 refine R.join2 (β := (List TResource)) [] [(63, .yreg false false)] (fun p16 S => (3, .own 448 (p16.map eTResource).length) :: S) (fun p16 M => (448, .obj true 100 2 (p16.map eTResource)) :: M) (fun p16 => p16 = o2) ?_ ?_
 ·intro JJ5 hmeet4
  have hup3 := h; clear h; have h := ho2; clear ho2
  refine Run.block ?_
  refine R.bndY false 63 (t := 0) (by rfl) (fun hbd8 => ?_)
  replace hbd8 : b0.length ≤ 9223372036854775807 := by first | (rw [List.length_map] at hbd8; exact hbd8) | simp
  refine R.lp (β := Int × (List TResource)) [(0, .yng 63 (.slice (b0.map eTResource)))] [(63, .yreg false false)] (fun bb S => (3, .own 448 (bb.2.map eTResource).length) :: (4, int bb.1) :: S) (fun bb M => (448, .obj true 100 2 (bb.2.map eTResource)) :: M) (fun n bb => 0 ≤ bb.1 ∧ bb.1 + n = (b0.length : Int) ∧ w_toResourceS_L1 (b0.drop bb.1.toNat) bb.1 bb.2 = some o2) b0.length (0, v1) ⟨Int.le_refl _, by simp, h⟩ ?_
  clear h
  rintro JJ8 n8 ⟨z9, a10⟩ hag8 ⟨hza8, hzb8, h⟩
  dsimp only at hza8 hzb8 h
  refine Run.seq ?_
  refine Run.sr ?_
  refine X.mv ?_
  refine X.mv ?_
  refine X.lenY false 63 elt24 (by rfl) (by exact List.length_map ..) (by rfl) ?_
  refine X.bi ?_
  refine X.nil ?_
  refine R.cd (fun hc13 => ?_) (fun hc13 => ?_)
  ·obtain ⟨x11, xs12, hd8, hx8, hds8, hlt8⟩ := drop_atI hza8 hc13
   rw [hd8] at h
   rw [w_toResourceS_L1] at h
   refine Run.skip ?_
   refine Run.seq ?_
   refine Run.block ?_
   refine Run.reg ?_
   refine X.mv ?_
   refine X.mv ?_
   refine X.mv ?_
   refine X.mv ?_
   refine X.indexY false 63 elt24 (by rfl) (by rfl) (idxL_spec hx8).1 (idxL_map eTResource hx8) (by rfl) (by rfl) ?_
   refine X.loadY false 63 shp90 (by rfl) (by rfl) (by rfl) (by rfl) ?_
   obtain ⟨v14, hv14, h⟩ := bindE h
   refine X.callM [(63, 63)] (w_toResource_pc _ _ hv14) (by rfl) (by rfl) (.agg _ _ _ _ _ _ (.yngB 63 (by rfl) (by rfl) (.yngB 63 (by rfl) (by rfl) .nil)) .nil) (by rfl) ⟨rfl, rfl, ⟨_, by rfl, by constructor⟩, by constructor, trivial⟩ (by rfl) (by rfl) (by rfl) (by rfl) (by rfl) (by rfl) (by rfl) (by rfl) (by rfl) ?_
   obtain ⟨v15, hv15, h⟩ := bindE h
   refine X.index_xs elt38 (by rfl) (by rfl) (by first | rfl | simp [setL] | omega) (by rfl) (by exact (Int.toNat_of_nonneg (idxL_spec hv15).1).symm) (by have := idxL_lt hv15; first | exact this | (rw [List.length_map]; exact this)) (by rfl) (by rfl) ?_
   refine X.store_es shp100 (by rfl) (by rfl) (by first | rfl | simp [setL] | omega) (idxL_map _ hv15) (by rfl) (by rfl) (by repeat (first | trivial | refine ⟨by first | rfl | simp [setL], ?_⟩)) (by rfl) (by rfl) (by rfl) (by rfl) (by exact setL_map _ _ _ v14) ?_
   refine X.nil ?_
   refine Run.blk ?_
   refine Run.reg ?_
   refine X.mv ?_
   refine X.ad ?_
   refine X.an ?_
   refine R.castS (t := 3) (.own 448 ((setL a10 z9 v14).map eTResource).length) (by rfl) (.inl (by first | rfl | simp [setL])) ?_
   exact R.ag hag8 (n8 - 1) (z9 + 1, (setL a10 z9 v14)) (R.n3 (by first | (rw [hds8]; exact h) | (dsimp only; rw [hds8]; exact h)))
  ·rw [drop_endI hza8 hc13] at h
   rw [w_toResourceS_L1] at h
   refine Run.exit (by rfl) ?_
   exact R.mt hmeet4 a10 (Option.some.inj h)
 rintro p16 rfl
 refine Run.sr ?_
 refine X.mv ?_
 refine X.an ?_
 cases h
 refine R.pubObj (n := 448) (by rfl) ?_
 exact R.finM1o Tryz.results31 (by rfl) (by rfl) (by first | rfl | simp [setL] | omega) (by rfl) (by repeat (first | exact trivial | refine ⟨by rfl, ?_⟩)) rfl
theorem w_toProject_pc (b0 : TProject) (r : TProject) (h : w_toProject b0 = some r) : PCM Tryz.prog 8 [.agg [int b0.Deadline, .yng 63 (.slice (b0.Activities.map eTActivity)), .yng 63 (.slice (b0.Links.map eTLink)), .yng 63 (.slice (b0.Resources.map eTResource)), .yng 63 (.slice (b0.Stocks.map int))]] [(63, .yreg false false)] (.agg [int r.Deadline, .fresh false 95 3 (r.Activities.map eTActivity), .fresh false 103 4 (r.Links.map eTLink), .fresh false 100 2 (r.Resources.map eTResource), .fresh false 3 1 (r.Stocks.map int)]) [(63, .yreg false false)] := by
 unfold w_toProject at h
 refine PCM.start Tryz.func8 Tryz.ntmps8 rfl ok8 rfl (by rfl) (by rfl) (by rfl) (by rfl) (by rfl) ?_
 refine Run.sr ?_
 refine X.bx ?_
 refine X.alloc zer40 (by rfl) (by rfl) (by rfl) ?_
 refine X.nil ?_
 refine Run.sr ?_
 refine X.alloc zer40 (by rfl) (by rfl) (by rfl) ?_
 refine X.nil ?_
 refine Run.sr ?_
 refine X.fl fld27_0 ?_
 refine X.ld shp3 ?_
 refine X.fl fld40_0 ?_
 refine X.sl shp3 ?_
 refine X.nil ?_
 refine Run.sr ?_
 refine X.fl fld27_1 ?_
 refine X.ld shp22 ?_
 obtain ⟨v1, hv1, h⟩ := bindE h
 refine X.callM [(63, 63)] (w_toActivityS_pc _ _ hv1) (by rfl) (by rfl) (.yngB 63 (by rfl) (by rfl) .nil) (by rfl) ⟨rfl, rfl, ⟨_, by rfl, by constructor⟩, by constructor, trivial⟩ (by rfl) (by rfl) (by rfl) (by rfl) (by rfl) (by rfl) (by rfl) (by rfl) (by rfl) ?_
 refine X.fl fld40_1 ?_
 refine X.sl shp36 ?_
 refine X.nil ?_
 refine Run.sr ?_
 refine X.fl fld27_2 ?_
 refine X.ld shp23 ?_
 obtain ⟨v2, hv2, h⟩ := bindE h
 refine X.callM [(63, 63)] (w_toLinkS_pc _ _ hv2) (by rfl) (by rfl) (.yngB 63 (by rfl) (by rfl) .nil) (by rfl) ⟨rfl, rfl, ⟨_, by rfl, by constructor⟩, by constructor, trivial⟩ (by rfl) (by rfl) (by rfl) (by rfl) (by rfl) (by rfl) (by rfl) (by rfl) (by rfl) ?_
 refine X.fl fld40_2 ?_
 refine X.sl shp37 ?_
 refine X.nil ?_
 refine Run.sr ?_
 refine X.fl fld27_3 ?_
 refine X.ld shp24 ?_
 obtain ⟨v3, hv3, h⟩ := bindE h
 refine X.callM [(63, 63)] (w_toResourceS_pc _ _ hv3) (by rfl) (by rfl) (.yngB 63 (by rfl) (by rfl) .nil) (by rfl) ⟨rfl, rfl, ⟨_, by rfl, by constructor⟩, by constructor, trivial⟩ (by rfl) (by rfl) (by rfl) (by rfl) (by rfl) (by rfl) (by rfl) (by rfl) (by rfl) ?_
 refine X.fl fld40_3 ?_
 refine X.sl shp38 ?_
 refine X.nil ?_
 refine Run.sr ?_
 refine X.fl fld27_4 ?_
 refine X.ld shp25 ?_
 obtain ⟨v4, hv4, h⟩ := bindE h
 refine X.callM [(63, 63)] (w_toIntS_pc _ _ hv4) (by rfl) (by rfl) (.yngB 63 (by rfl) (by rfl) .nil) (by rfl) ⟨rfl, rfl, ⟨_, by rfl, by constructor⟩, by constructor, trivial⟩ (by rfl) (by rfl) (by rfl) (by rfl) (by rfl) (by rfl) (by rfl) (by rfl) (by rfl) ?_
 refine X.fl fld40_4 ?_
 refine X.sl shp25 ?_
 refine X.nil ?_
 refine Run.sr ?_
 refine X.ld shp40 ?_
 refine X.sl shp40 ?_
 refine X.nil ?_
 cases h
 exact R.finMC Tryz.results8 shp40 (by rfl) (by rfl) (by rfl) (by rfl) (by repeat (first | trivial | refine ⟨by first | rfl | simp [setL], ?_⟩)) (by rfl) (by repeat (first | exact trivial | refine ⟨by rfl, ?_⟩)) rfl
theorem w_toRule_pc (b0 : TRule) (r : TRule) (h : w_toRule b0 = some r) : PC Tryz.prog 33 [eTRule b0] (eTRule r) := by
 unfold w_toRule at h
 refine PC.start Tryz.func33 Tryz.ntmps33 rfl ok33 rfl ?_
 refine Run.sr ?_
 refine X.bx ?_
 refine X.alloc zer42 (by rfl) (by rfl) (by rfl) ?_
 refine X.nil ?_
 refine Run.sr ?_
 refine X.alloc zer42 (by rfl) (by rfl) (by rfl) ?_
 refine X.nil ?_
 refine Run.sr ?_
 refine X.fl fld29_0 ?_
 refine X.ld shp3 ?_
 refine X.fl fld42_0 ?_
 refine X.sl shp3 ?_
 refine X.nil ?_
 refine Run.sr ?_
 refine X.fl fld29_1 ?_
 refine X.ld shp3 ?_
 refine X.fl fld42_1 ?_
 refine X.sl shp3 ?_
 refine X.nil ?_
 refine Run.sr ?_
 refine X.fl fld29_2 ?_
 refine X.ld shp3 ?_
 refine X.fl fld42_2 ?_
 refine X.sl shp3 ?_
 refine X.nil ?_
 refine Run.sr ?_
 refine X.fl fld29_3 ?_
 refine X.ld shp3 ?_
 refine X.fl fld42_3 ?_
 refine X.sl shp3 ?_
 refine X.nil ?_
 refine Run.sr ?_
 refine X.ld shp42 ?_
 refine X.sl shp42 ?_
 refine X.nil ?_
 cases h
 refine R.finC Tryz.results33 shp42 (by rfl) (by rfl) (by rfl) (by rfl) (by repeat (first | trivial | refine ⟨by first | rfl | simp [setL], ?_⟩)) ?_
 rfl
theorem w_toLiteral_pc (b0 : TLiteral) (r : TLiteral) (h : w_toLiteral b0 = some r) : PC Tryz.prog 61 [eTLiteral b0] (eTLiteral r) := by
 unfold w_toLiteral at h
 refine PC.start Tryz.func61 Tryz.ntmps61 rfl ok61 rfl ?_
 refine Run.sr ?_
 refine X.bx ?_
 refine X.alloc zer106 (by rfl) (by rfl) (by rfl) ?_
 refine X.nil ?_
 refine Run.sr ?_
 refine X.alloc zer106 (by rfl) (by rfl) (by rfl) ?_
 refine X.nil ?_
 refine Run.sr ?_
 refine X.fl fld115_0 ?_
 refine X.ld shp3 ?_
 refine X.fl fld106_0 ?_
 refine X.sl shp3 ?_
 refine X.nil ?_
 refine Run.sr ?_
 refine X.fl fld115_1 ?_
 refine X.ld shp3 ?_
 refine X.fl fld106_1 ?_
 refine X.sl shp3 ?_
 refine X.nil ?_
 refine Run.sr ?_
 refine X.fl fld115_2 ?_
 refine X.ld shp3 ?_
 refine X.fl fld106_2 ?_
 refine X.sl shp3 ?_
 refine X.nil ?_
 refine Run.sr ?_
 refine X.ld shp106 ?_
 refine X.sl shp106 ?_
 refine X.nil ?_
 cases h
 refine R.finC Tryz.results61 shp106 (by rfl) (by rfl) (by rfl) (by rfl) (by repeat (first | trivial | refine ⟨by first | rfl | simp [setL], ?_⟩)) ?_
 rfl
theorem w_toLiteralS_pc (b0 : List TLiteral) (r : List TLiteral) (h : w_toLiteralS b0 = some r) : PCM Tryz.prog 34 [.yng 63 (.slice (b0.map eTLiteral))] [(63, .yreg false false)] (.fresh false 106 3 (r.map eTLiteral)) [(63, .yreg false false)] := by
 unfold w_toLiteralS at h
 refine PCM.start Tryz.func34 Tryz.ntmps34 rfl ok34 rfl (by rfl) (by rfl) (by rfl) (by rfl) (by rfl) ?_
 refine Run.sr ?_
 refine X.an ?_
 refine Run.sr ?_
 refine X.mv ?_
 refine X.lenY false 63 elt30 (by rfl) (by exact List.length_map ..) (by rfl) ?_
 obtain ⟨v1, hv1, h⟩ := bindE h
 refine X.makeSlice2 eTLiteral hv1 elt43 zer106 (by rfl) (by rfl) (by rfl) (by simp [PV.plain]) (by rfl) (by rfl) (by rfl) (by rfl) (by rfl) (by rfl) ?_
 refine X.an ?_
 refine Run.seq ?_
 refine Run.sr ?_
 refine X.an ?_
 obtain ⟨o2, ho2, h⟩ := bindE h
 refine R.join2 (β := (List TLiteral)) [] [(63, .yreg false false)] (fun p16 S => (3, .own 448 (p16.map eTLiteral).length) :: S) (fun p16 M => (448, .obj true 106 3 (p16.map eTLiteral)) :: M) (fun p16 => p16 = o2) ?_ ?_
 ·intro JJ5 hmeet4
  have hup3 := h; clear h; have h := ho2; clear ho2
  refine Run.block ?_
  refine R.bndY false 63 (t := 0) (by rfl) (fun hbd8 => ?_)
  replace hbd8 : b0.length ≤ 9223372036854775807 := by first | (rw [List.length_map] at hbd8; exact hbd8) | simp
  refine R.lp (β := Int × (List TLiteral)) [(0, .yng 63 (.slice (b0.map eTLiteral)))] [(63, .yreg false false)] (fun bb S => (3, .own 448 (bb.2.map eTLiteral).length) :: (4, int bb.1) :: S) (fun bb M => (448, .obj true 106 3 (bb.2.map eTLiteral)) :: M) (fun n bb => 0 ≤ bb.1 ∧ bb.1 + n = (b0.length : Int) ∧ w_toLiteralS_L1 (b0.drop bb.1.toNat) bb.1 bb.2 = some o2) b0.length (0, v1) ⟨Int.le_refl _, by simp, h⟩ ?_
  clear h
  rintro JJ8 n8 ⟨z9, a10⟩ hag8 ⟨hza8, hzb8, h⟩
  dsimp only at hza8 hzb8 h
  refine Run.seq ?_
  refine Run.sr ?_
  refine X.mv ?_
  refine X.mv ?_
  refine X.lenY false 63 elt30 (by rfl) (by exact List.length_map ..) (by rfl) ?_
  refine X.bi ?_
  refine X.nil ?_
  refine R.cd (fun hc13 => ?_) (fun hc13 => ?_)
  ·obtain ⟨x11, xs12, hd8, hx8, hds8, hlt8⟩ := drop_atI hza8 hc13
   rw [hd8] at h
   rw [w_toLiteralS_L1] at h
   refine Run.skip ?_
   refine Run.seq ?_
   refine Run.block ?_
   refine Run.reg ?_
   refine X.mv ?_
   refine X.mv ?_
   refine X.mv ?_
   refine X.mv ?_
   refine X.indexY false 63 elt30 (by rfl) (by rfl) (idxL_spec hx8).1 (idxL_map eTLiteral hx8) (by rfl) (by rfl) ?_
   refine X.loadY false 63 shp115 (by rfl) (by rfl) (by rfl) (by rfl) ?_
   obtain ⟨v14, hv14, h⟩ := bindE h
   refine X.callA (w_toLiteral_pc _ _ hv14) (by rfl) (by rfl) (by rfl) (by trivial) (by rfl) (by rfl) (by rfl) (by rfl) (by rfl) (by rfl) ?_
   obtain ⟨v15, hv15, h⟩ := bindE h
   refine X.index_xs elt43 (by rfl) (by rfl) (by first | rfl | simp [setL] | omega) (by rfl) (by exact (Int.toNat_of_nonneg (idxL_spec hv15).1).symm) (by have := idxL_lt hv15; first | exact this | (rw [List.length_map]; exact this)) (by rfl) (by rfl) ?_
   refine X.store_es shp106 (by rfl) (by rfl) (by first | rfl | simp [setL] | omega) (idxL_map _ hv15) (by rfl) (by rfl) (by repeat (first | trivial | refine ⟨by first | rfl | simp [setL], ?_⟩)) (by rfl) (by rfl) (by rfl) (by rfl) (by exact setL_map _ _ _ v14) ?_
   refine X.nil ?_
   refine Run.blk ?_
   refine Run.reg ?_
   refine X.mv ?_
   refine X.ad ?_
   refine X.an ?_
   refine R.castS (t := 3) (.own 448 ((setL a10 z9 v14).map eTLiteral).length) (by rfl) (.inl (by first | rfl | simp [setL])) ?_
   exact R.ag hag8 (n8 - 1) (z9 + 1, (setL a10 z9 v14)) (R.n3 (by first | (rw [hds8]; exact h) | (dsimp only; rw [hds8]; exact h)))
  ·rw [drop_endI hza8 hc13] at h
   rw [w_toLiteralS_L1] at h
   refine Run.exit (by rfl) ?_
   exact R.mt hmeet4 a10 (Option.some.inj h)
 rintro p16 rfl
 refine Run.sr ?_
 refine X.mv ?_
 refine X.an ?_
 cases h
 refine R.pubObj (n := 448) (by rfl) ?_
 exact R.finM1o Tryz.results34 (by rfl) (by rfl) (by first | rfl | simp [setL] | omega) (by rfl) (by repeat (first | exact trivial | refine ⟨by rfl, ?_⟩)) rfl
theorem w_toLine_pc (b0 : TLine) (r : TLine) (h : w_toLine b0 = some r) : PCM Tryz.prog 9 [.agg [int b0.Kind, int b0.Rule.Kind, int b0.Rule.A, int b0.Rule.B, int b0.Rule.C, .yng 63 (.slice (b0.Clause.map eTLiteral))]] [(63, .yreg false false)] (.agg [int r.Kind, int r.Rule.Kind, int r.Rule.A, int r.Rule.B, int r.Rule.C, .fresh false 106 3 (r.Clause.map eTLiteral)]) [(63, .yreg false false)] := by
 unfold w_toLine at h
 refine PCM.start Tryz.func9 Tryz.ntmps9 rfl ok9 rfl (by rfl) (by rfl) (by rfl) (by rfl) (by rfl) ?_
 refine Run.sr ?_
 refine X.bx ?_
 refine X.alloc zer45 (by rfl) (by rfl) (by rfl) ?_
 refine X.nil ?_
 refine Run.sr ?_
 refine X.alloc zer45 (by rfl) (by rfl) (by rfl) ?_
 refine X.nil ?_
 refine Run.sr ?_
 refine X.fl fld32_0 ?_
 refine X.ld shp3 ?_
 refine X.fl fld45_0 ?_
 refine X.sl shp3 ?_
 refine X.nil ?_
 refine Run.sr ?_
 refine X.fl fld32_1 ?_
 refine X.ld shp29 ?_
 obtain ⟨v1, hv1, h⟩ := bindE h
 refine X.callA (w_toRule_pc _ _ hv1) (by rfl) (by rfl) (by rfl) (by trivial) (by rfl) (by rfl) (by rfl) (by rfl) (by rfl) (by rfl) ?_
 refine X.fl fld45_1 ?_
 refine X.sl shp42 ?_
 refine X.nil ?_
 refine Run.sr ?_
 refine X.fl fld32_2 ?_
 refine X.ld shp30 ?_
 obtain ⟨v2, hv2, h⟩ := bindE h
 refine X.callM [(63, 63)] (w_toLiteralS_pc _ _ hv2) (by rfl) (by rfl) (.yngB 63 (by rfl) (by rfl) .nil) (by rfl) ⟨rfl, rfl, ⟨_, by rfl, by constructor⟩, by constructor, trivial⟩ (by rfl) (by rfl) (by rfl) (by rfl) (by rfl) (by rfl) (by rfl) (by rfl) (by rfl) ?_
 refine X.fl fld45_2 ?_
 refine X.sl shp43 ?_
 refine X.nil ?_
 refine Run.sr ?_
 refine X.ld shp45 ?_
 refine X.sl shp45 ?_
 refine X.nil ?_
 cases h
 exact R.finMC Tryz.results9 shp45 (by rfl) (by rfl) (by rfl) (by rfl) (by repeat (first | trivial | refine ⟨by first | rfl | simp [setL], ?_⟩)) (by rfl) (by repeat (first | exact trivial | refine ⟨by rfl, ?_⟩)) rfl
theorem s_l01In_pc (b0 : Int) (b1 : Int) (b2 : Int) (r : Bool) (h : s_l01In b0 b1 b2 = some r) : PC Tryz.prog 50 [int b0, int b1, int b2] (bool r) := by
 unfold s_l01In at h
 refine PC.start Tryz.func50 Tryz.ntmps50 rfl ok50 rfl ?_
 refine Run.sr ?_
 refine X.an ?_
 refine Run.seq ?_
 obtain ⟨e1, he1, h2⟩ := bindE h
 refine R.regG [(6, bool e1)] [] ?_ ?_
 ·clear h; have h := he1; clear he1 h2
  refine X.mv ?_
  refine X.mv ?_
  refine X.bi ?_
  refine X.mv ?_
  refine X.iG (fun hb2 => ?_) (fun hb2 => ?_)
  ·replace h := condT hb2 h
   refine X.mv ?_
   refine X.gy ?_
   refine X.mv ?_
   refine X.gy ?_
   refine X.bi ?_
   refine X.pT ?_
   refine X.as ?_
   cases h
   exact X.eG
  ·replace h := condF hb2 h
   refine X.gn ?_
   refine X.gn ?_
   refine X.pF ?_
   refine X.as ?_
   cases h
   exact X.eG
 replace h := h2; clear h2
 cases h
 refine R.f1 Tryz.results50 ?_
 rfl
theorem s_l04Nums_pc (b0 : List Int) (b1 : Int) (r : Bool) (h : s_l04Nums b0 b1 = some r) : PC Tryz.prog 118 [.slice (b0.map int), int b1] (bool r) := by
 unfold s_l04Nums at h
 refine PC.start Tryz.func118 Tryz.ntmps118 rfl ok118 rfl ?_
 refine Run.sr ?_
 refine X.an ?_
 refine Run.seq ?_
 refine Run.sr ?_
 refine X.mv ?_
 refine X.ls elt25 ?_
 refine X.mn ?_
 obtain ⟨o1, ho1, h⟩ := bindE h
 refine R.join2 (β := Unit) [(0, .slice (b0.map int)), (1, int b1)] [] (fun p14 S => S) (fun p14 M => M) (fun p14 => (Sum.inl p14) = o1) ?_ ?_
 ·intro JJ4 hmeet3
  have hup2 := h; clear h; have h := ho1; clear ho1
  refine Run.block ?_
  refine R.bndS (t := 0) (by rfl) (fun hbd7 => ?_)
  replace hbd7 : b0.length ≤ 9223372036854775807 := by first | (rw [List.length_map] at hbd7; exact hbd7) | simp
  refine R.lp (β := Int) [(0, .slice (b0.map int)), (1, int b1), (7, .slice (b0.map int)), (8, int (b0.length : Int))] [] (fun bb S => (9, int bb) :: S) (fun bb M => M) (fun n bb => 0 ≤ bb ∧ bb + n = (b0.length : Int) ∧ s_l04Nums_L1 (b0.drop bb.toNat) bb = some o1) b0.length (0 : Int) ⟨Int.le_refl _, by simp, h⟩ ?_
  clear h
  rintro JJ7 n7 z8 hag7 ⟨hza7, hzb7, h⟩
  refine Run.sr ?_
  refine X.bi ?_
  refine X.nil ?_
  refine Run.seq ?_
  refine R.cd (fun hc11 => ?_) (fun hc11 => ?_)
  ·obtain ⟨x9, xs10, hd7, hx7, hds7, hlt7⟩ := drop_atI hza7 hc11
   rw [hd7] at h
   rw [s_l04Nums_L1] at h
   refine Run.skip ?_
   refine Run.seq ?_
   refine Run.block ?_
   refine Run.sr ?_
   refine X.ix elt25 (idxL_spec hx7).1 (idxL_map int hx7) ?_
   refine X.lc shp3 ?_
   refine X.an ?_
   refine Run.sr ?_
   refine X.mv ?_
   obtain ⟨v12, hv12, h⟩ := bindE h
   refine X.cp (s_l01In_pc _ _ _ _ hv12) ?_
   refine X.un (by rfl) (by rfl) (by rfl) ?_
   refine X.nil ?_
   refine R.cd (fun hc13 => ?_) (fun hc13 => ?_)
   ·replace h := condT hc13 h
    refine Run.sr ?_
    refine X.an ?_
    cases h
    have h := hup2
    replace h := elimR h
    cases h
    refine R.f1 Tryz.results118 ?_
    rfl
   ·replace h := condF hc13 h
    refine Run.skip ?_
    refine Run.blk ?_
    refine Run.reg ?_
    refine X.ad ?_
    refine X.mn ?_
    exact R.ag hag7 (n7 - 1) (z8 + 1) (R.n3 (by first | (rw [hds7]; exact h) | (dsimp only; rw [hds7]; exact h)))
  ·rw [drop_endI hza7 hc11] at h
   rw [s_l04Nums_L1] at h
   refine Run.exit (by rfl) ?_
   exact R.mt hmeet3 () (Option.some.inj h)
 rintro p14 rfl
 replace h := elimL h
 refine Run.sr ?_
 refine X.mv ?_
 refine X.ls elt25 ?_
 refine X.mv ?_
 refine X.bi ?_
 refine X.an ?_
 cases h
 refine R.f1 Tryz.results118 ?_
 rfl
theorem s_ModeOk_pc (b0 : TMode) (b1 : Int) (b2 : Int) (r : Bool) (h : s_ModeOk b0 b1 b2 = some r) : PC Tryz.prog 89 [eTMode b0, int b1, int b2] (bool r) := by
 unfold s_ModeOk at h
 refine PC.start Tryz.func89 Tryz.ntmps89 rfl ok89 rfl ?_
 refine Run.sr ?_
 refine X.bx ?_
 refine X.an ?_
 refine Run.seq ?_
 obtain ⟨v1, hv1, h⟩ := bindE h
 obtain ⟨e2, he2, h2⟩ := bindE h
 refine R.regG [(6, bool e2)] [] ?_ ?_
 ·clear h; have h := he2; clear he2 h2
  refine X.fl fld131_0 ?_
  refine X.ld shp3 ?_
  refine X.cp (s_l01In_pc _ _ _ _ hv1) ?_
  refine X.mv ?_
  refine X.iG (fun hb3 => ?_) (fun hb3 => ?_)
  ·replace h := condT hb3 h
   refine X.fl fld131_1 ?_
   refine X.gy ?_
   refine X.ld shp25 ?_
   refine X.gy ?_
   refine X.mv ?_
   refine X.gy ?_
   obtain ⟨v4, hv4, h⟩ := bindE h
   refine X.cp (s_l04Nums_pc _ _ _ hv4) ?_
   refine X.pT ?_
   refine X.mv ?_
   refine X.iG (fun hb5 => ?_) (fun hb5 => ?_)
   ·replace h := condT hb5 h
    refine X.fl fld131_2 ?_
    refine X.gy ?_
    refine X.ld shp25 ?_
    refine X.gy ?_
    refine X.mv ?_
    refine X.gy ?_
    obtain ⟨v6, hv6, h⟩ := bindE h
    refine X.cp (s_l04Nums_pc _ _ _ hv6) ?_
    refine X.pT ?_
    refine X.as ?_
    cases h
    exact X.eG
   ·replace h := condF hb5 h
    refine X.gn ?_
    refine X.gn ?_
    refine X.gn ?_
    refine X.pF ?_
    refine X.as ?_
    cases h
    exact X.eG
  ·replace h := condF hb3 h
   refine X.gn ?_
   refine X.gn ?_
   refine X.gn ?_
   refine X.pF ?_
   refine X.mv ?_
   refine X.gn ?_
   refine X.gn ?_
   refine X.gn ?_
   refine X.gn ?_
   refine X.pF ?_
   refine X.as ?_
   cases h
   exact X.eG
 replace h := h2; clear h2
 cases h
 refine R.f1 Tryz.results89 ?_
 rfl
theorem s_IsName_pc (b0 : ByteArray) (r : Bool) (h : s_IsName b0 = some r) : PC Tryz.prog 90 [str b0] (bool r) := by
 unfold s_IsName at h
 refine PC.start Tryz.func90 Tryz.ntmps90 rfl ok90 rfl ?_
 refine Run.sr ?_
 refine X.an ?_
 refine Run.seq ?_
 refine Run.sr ?_
 refine X.an ?_
 obtain ⟨o1, ho1, h⟩ := bindE h
 refine R.join2 (β := Unit) [(0, str b0)] [] (fun p19 S => S) (fun p19 M => M) (fun p19 => (Sum.inl p19) = o1) ?_ ?_
 ·intro JJ4 hmeet3
  have hup2 := h; clear h; have h := ho1; clear ho1
  refine Run.block ?_
  refine R.lp (β := Int) [(0, str b0)] [] (fun bb S => (3, int bb) :: S) (fun bb M => M) (fun n bb => s_IsName_L1 b0 n bb = some o1) F0 0 h ?_
  clear h
  rintro JJ5 n5 a7 hag5 h
  obtain _ | n5 := n5
  ·exact absurd h (by simp [s_IsName_L1])
  rw [s_IsName_L1] at h
  refine Run.seq ?_
  refine Run.sr ?_
  refine X.mv ?_
  refine X.mv ?_
  refine X.lenStr Tryz.underlying9 (by rfl) (by rfl) ?_
  refine X.bi ?_
  refine X.nil ?_
  refine R.cd (fun hc10 => ?_) (fun hc10 => ?_)
  ·replace h := condT hc10 h
   refine Run.skip ?_
   refine Run.seq ?_
   refine Run.block ?_
   refine Run.seq ?_
   obtain ⟨v11, hv11, h⟩ := bindE h
   obtain ⟨e12, he12, h2⟩ := bindE h
   refine R.regG [(0, str b0), (3, int a7), (4, bool e12)] [] ?_ ?_
   ·clear h; have h := he12; clear he12 h2
    refine X.mv ?_
    refine X.mv ?_
    refine X.indexStr2 hv11 Tryz.underlying9 (by rfl) (by rfl) (by rfl) ?_
    refine X.bi ?_
    refine X.mv ?_
    refine X.iG (fun hb13 => ?_) (fun hb13 => ?_)
    ·replace h := condT hb13 h
     refine X.mv ?_
     refine X.gy ?_
     refine X.mv ?_
     refine X.gy ?_
     refine X.indexStr2 hv11 Tryz.underlying9 (by rfl) (by rfl) (by rfl) ?_
     refine X.gy ?_
     refine X.bi ?_
     refine X.pT ?_
     refine X.as ?_
     cases h
     exact X.eG
    ·replace h := condF hb13 h
     refine X.gn ?_
     refine X.gn ?_
     refine X.gn ?_
     refine X.pF ?_
     refine X.as ?_
     cases h
     exact X.eG
   replace h := h2; clear h2
   refine Run.seq ?_
   obtain ⟨e14, he14, h2⟩ := bindE h
   refine R.regG [(0, str b0), (3, int a7), (38, bool e14)] [] ?_ ?_
   ·clear h; have h := he14; clear he14 h2
    refine X.mv ?_
    refine X.un (by rfl) (by rfl) (by rfl) ?_
    refine X.mv ?_
    refine X.iG (fun hb15 => ?_) (fun hb15 => ?_)
    ·replace h := condT hb15 h
     refine X.mv ?_
     refine X.gy ?_
     refine X.bi ?_
     refine X.gy ?_
     refine X.mv ?_
     refine X.iG (fun hb16 => ?_) (fun hb16 => ?_)
     ·replace h := condF hb16 h
      refine X.mv ?_
      refine X.gy ?_
      refine X.mv ?_
      refine X.gy ?_
      refine X.indexStr2 hv11 Tryz.underlying9 (by rfl) (by rfl) (by rfl) ?_
      refine X.gy ?_
      refine X.bi ?_
      refine X.gy ?_
      refine X.pF ?_
      refine X.gy ?_
      refine X.mv ?_
      refine X.iG (fun hb17 => ?_) (fun hb17 => ?_)
      ·replace h := condF hb17 h
       refine X.mv ?_
       refine X.gy ?_
       refine X.mv ?_
       refine X.gy ?_
       refine X.indexStr2 hv11 Tryz.underlying9 (by rfl) (by rfl) (by rfl) ?_
       refine X.gy ?_
       refine X.bi ?_
       refine X.gy ?_
       refine X.pF ?_
       refine X.pT ?_
       cases h
       exact X.eG
      ·replace h := condT hb17 h
       refine X.gn ?_
       refine X.gn ?_
       refine X.gn ?_
       refine X.gy ?_
       refine X.pT ?_
       refine X.pT ?_
       cases h
       exact X.eG
     ·replace h := condT hb16 h
      refine X.gn ?_
      refine X.gn ?_
      refine X.gn ?_
      refine X.gy ?_
      refine X.pT ?_
      refine X.gy ?_
      refine X.mv ?_
      refine X.gn ?_
      refine X.gn ?_
      refine X.gn ?_
      refine X.gn ?_
      refine X.gy ?_
      refine X.pT ?_
      refine X.pT ?_
      cases h
      exact X.eG
    ·replace h := condF hb15 h
     refine X.gn ?_
     refine X.gn ?_
     refine X.gU (by rfl) (by rfl) (by rfl) ?_
     refine X.gU (by rfl) (by rfl) (by rfl) ?_
     refine X.gU (by rfl) (by rfl) (by rfl) ?_
     refine X.gU (by rfl) (by rfl) (by rfl) ?_
     refine X.gn ?_
     refine X.gn ?_
     refine X.gU (by rfl) (by rfl) (by rfl) ?_
     refine X.gU (by rfl) (by rfl) (by rfl) ?_
     refine X.gU (by rfl) (by rfl) (by rfl) ?_
     refine X.gU (by rfl) (by rfl) (by rfl) ?_
     refine X.gn ?_
     refine X.pF ?_
     cases h
     exact X.eG
   replace h := h2; clear h2
   refine R.cd (fun hc18 => ?_) (fun hc18 => ?_)
   ·replace h := condT hc18 h
    refine Run.sr ?_
    refine X.an ?_
    cases h
    have h := hup2
    replace h := elimR h
    cases h
    refine R.f1 Tryz.results90 ?_
    rfl
   ·replace h := condF hc18 h
    refine Run.skip ?_
    refine Run.blk ?_
    refine Run.reg ?_
    refine X.mv ?_
    refine X.addW (by rfl) (by rfl) (by rfl) ?_
    refine X.an ?_
    exact hag5 n5 (W (a7 + 1)) _ _ (by omega) h (by trivial) (by trivial) (by rfl) (by rfl)
  ·replace h := condF hc10 h
   refine Run.exit (by rfl) ?_
   exact R.mt hmeet3 () (Option.some.inj h)
 rintro p19 rfl
 replace h := elimL h
 refine Run.sr ?_
 refine X.mv ?_
 refine X.lenStr Tryz.underlying9 (by rfl) (by rfl) ?_
 obtain ⟨v21, hv21, h⟩ := bindE h
 refine X.cp (s_l01In_pc _ _ _ _ hv21) ?_
 refine X.an ?_
 cases h
 refine R.f1 Tryz.results90 ?_
 rfl
theorem s_ActivityOk_pc (b0 : TActivity) (b1 : Int) (b2 : Int) (r : Bool) (h : s_ActivityOk b0 b1 b2 = some r) : PC Tryz.prog 51 [eTActivity b0, int b1, int b2] (bool r) := by
 unfold s_ActivityOk at h
 refine PC.start Tryz.func51 Tryz.ntmps51 rfl ok51 rfl ?_
 refine Run.sr ?_
 refine X.bx ?_
 refine X.an ?_
 refine Run.seq ?_
 refine Run.sr ?_
 refine X.fl fld95_2 ?_
 refine X.ld shp93 ?_
 refine X.ls elt93 ?_
 refine X.mn ?_
 obtain ⟨o1, ho1, h⟩ := bindE h
 refine R.join2 (β := Unit) [(3, .lptr 192 0)] [(192, .blk true [str b0.Name, int b0.Family, .slice (b0.Modes.map eTMode)])] (fun p14 S => S) (fun p14 M => M) (fun p14 => (Sum.inl p14) = o1) ?_ ?_
 ·intro JJ4 hmeet3
  have hup2 := h; clear h; have h := ho1; clear ho1
  refine Run.block ?_
  refine R.bndS (t := 10) (by rfl) (fun hbd7 => ?_)
  replace hbd7 : b0.Modes.length ≤ 9223372036854775807 := by first | (rw [List.length_map] at hbd7; exact hbd7) | simp
  refine R.lp (β := Int) [(1, int b1), (2, int b2), (3, .lptr 192 0), (10, .slice (b0.Modes.map eTMode)), (11, int (b0.Modes.length : Int))] [(192, .blk true [str b0.Name, int b0.Family, .slice (b0.Modes.map eTMode)])] (fun bb S => (12, int bb) :: S) (fun bb M => M) (fun n bb => 0 ≤ bb ∧ bb + n = (b0.Modes.length : Int) ∧ s_ActivityOk_L1 b1 b2 (b0.Modes.drop bb.toNat) bb = some o1) b0.Modes.length (0 : Int) ⟨Int.le_refl _, by simp, h⟩ ?_
  clear h
  rintro JJ7 n7 z8 hag7 ⟨hza7, hzb7, h⟩
  refine Run.sr ?_
  refine X.bi ?_
  refine X.nil ?_
  refine Run.seq ?_
  refine R.cd (fun hc11 => ?_) (fun hc11 => ?_)
  ·obtain ⟨x9, xs10, hd7, hx7, hds7, hlt7⟩ := drop_atI hza7 hc11
   rw [hd7] at h
   rw [s_ActivityOk_L1] at h
   refine Run.skip ?_
   refine Run.seq ?_
   refine Run.block ?_
   refine Run.sr ?_
   refine X.ix elt93 (idxL_spec hx7).1 (idxL_map eTMode hx7) ?_
   refine X.lc shp131 ?_
   refine X.alloc zer131 (by rfl) (by rfl) (by rfl) ?_
   refine X.sl shp131 ?_
   refine X.nil ?_
   refine Run.sr ?_
   refine X.ld shp131 ?_
   refine X.mv ?_
   refine X.mv ?_
   obtain ⟨v12, hv12, h⟩ := bindE h
   refine X.cp (s_ModeOk_pc _ _ _ _ hv12) ?_
   refine X.un (by rfl) (by rfl) (by rfl) ?_
   refine X.nil ?_
   refine R.cd (fun hc13 => ?_) (fun hc13 => ?_)
   ·replace h := condT hc13 h
    refine Run.sr ?_
    refine X.an ?_
    cases h
    have h := hup2
    replace h := elimR h
    cases h
    refine R.f1 Tryz.results51 ?_
    rfl
   ·replace h := condF hc13 h
    refine Run.skip ?_
    refine Run.blk ?_
    refine Run.reg ?_
    refine X.ad ?_
    refine X.mn ?_
    exact R.ag hag7 (n7 - 1) (z8 + 1) (R.n3 (by first | (rw [hds7]; exact h) | (dsimp only; rw [hds7]; exact h)))
  ·rw [drop_endI hza7 hc11] at h
   rw [s_ActivityOk_L1] at h
   refine Run.exit (by rfl) ?_
   exact R.mt hmeet3 () (Option.some.inj h)
 rintro p14 rfl
 replace h := elimL h
 refine Run.seq ?_
 obtain ⟨v16, hv16, h⟩ := bindE h
 obtain ⟨e17, he17, h2⟩ := bindE h
 refine R.regG [(6, bool e17)] [] ?_ ?_
 ·clear h; have h := he17; clear he17 h2
  refine X.fl fld95_0 ?_
  refine X.ld shp9 ?_
  refine X.cp (s_IsName_pc _ _ hv16) ?_
  refine X.mv ?_
  refine X.iG (fun hb18 => ?_) (fun hb18 => ?_)
  ·replace h := condT hb18 h
   refine X.fl fld95_1 ?_
   refine X.gy ?_
   refine X.ld shp3 ?_
   refine X.gy ?_
   obtain ⟨v19, hv19, h⟩ := bindE h
   refine X.cp (s_l01In_pc _ _ _ _ hv19) ?_
   refine X.pT ?_
   refine X.mv ?_
   refine X.iG (fun hb20 => ?_) (fun hb20 => ?_)
   ·replace h := condT hb20 h
    refine X.fl fld95_2 ?_
    refine X.gy ?_
    refine X.ld shp93 ?_
    refine X.gy ?_
    refine X.ls elt93 ?_
    refine X.gy ?_
    obtain ⟨v21, hv21, h⟩ := bindE h
    refine X.cp (s_l01In_pc _ _ _ _ hv21) ?_
    refine X.pT ?_
    refine X.as ?_
    cases h
    exact X.eG
   ·replace h := condF hb20 h
    refine X.gn ?_
    refine X.gn ?_
    refine X.gn ?_
    refine X.pF ?_
    refine X.as ?_
    cases h
    exact X.eG
  ·replace h := condF hb18 h
   refine X.gn ?_
   refine X.gn ?_
   refine X.pF ?_
   refine X.mv ?_
   refine X.gn ?_
   refine X.gn ?_
   refine X.gn ?_
   refine X.gn ?_
   refine X.pF ?_
   refine X.as ?_
   cases h
   exact X.eG
 replace h := h2; clear h2
 cases h
 refine R.f1 Tryz.results51 ?_
 rfl
theorem s_ActivityIndex_pc (b0 : TProject) (b1 : ByteArray) (r : Int) (h : s_ActivityIndex b0 b1 = some r) : PC Tryz.prog 52 [eTProject b0, str b1] (int r) := by
 unfold s_ActivityIndex at h
 refine PC.start Tryz.func52 Tryz.ntmps52 rfl ok52 rfl ?_
 refine Run.sr ?_
 refine X.bx ?_
 refine X.an ?_
 refine Run.seq ?_
 refine Run.sr ?_
 refine X.fl fld40_1 ?_
 refine X.ld shp36 ?_
 refine X.ls elt36 ?_
 refine X.mn ?_
 obtain ⟨o1, ho1, h⟩ := bindE h
 refine R.join2 (β := Unit) [] [] (fun p13 S => S) (fun p13 M => M) (fun p13 => (Sum.inl p13) = o1) ?_ ?_
 ·intro JJ4 hmeet3
  have hup2 := h; clear h; have h := ho1; clear ho1
  refine Run.block ?_
  refine R.bndS (t := 8) (by rfl) (fun hbd7 => ?_)
  replace hbd7 : b0.Activities.length ≤ 9223372036854775807 := by first | (rw [List.length_map] at hbd7; exact hbd7) | simp
  refine R.lp (β := Int) [(1, str b1), (8, .slice (b0.Activities.map eTActivity)), (9, int (b0.Activities.length : Int))] [] (fun bb S => (10, int bb) :: S) (fun bb M => M) (fun n bb => 0 ≤ bb ∧ bb + n = (b0.Activities.length : Int) ∧ s_ActivityIndex_L1 b1 (b0.Activities.drop bb.toNat) bb = some o1) b0.Activities.length (0 : Int) ⟨Int.le_refl _, by simp, h⟩ ?_
  clear h
  rintro JJ7 n7 z8 hag7 ⟨hza7, hzb7, h⟩
  refine Run.sr ?_
  refine X.bi ?_
  refine X.nil ?_
  refine Run.seq ?_
  refine R.cd (fun hc11 => ?_) (fun hc11 => ?_)
  ·obtain ⟨x9, xs10, hd7, hx7, hds7, hlt7⟩ := drop_atI hza7 hc11
   rw [hd7] at h
   rw [s_ActivityIndex_L1] at h
   refine Run.skip ?_
   refine Run.seq ?_
   refine Run.block ?_
   refine Run.sr ?_
   refine X.mv ?_
   refine X.ix elt36 (idxL_spec hx7).1 (idxL_map eTActivity hx7) ?_
   refine X.lc shp95 ?_
   refine X.alloc zer95 (by rfl) (by rfl) (by rfl) ?_
   refine X.as ?_
   refine X.sl shp95 ?_
   refine X.nil ?_
   refine Run.sr ?_
   refine X.fl fld95_0 ?_
   refine X.ld shp9 ?_
   refine X.mv ?_
   refine X.bi ?_
   refine X.nil ?_
   refine R.cd (fun hc12 => ?_) (fun hc12 => ?_)
   ·replace h := condT hc12 h
    refine Run.sr ?_
    refine X.mv ?_
    refine X.an ?_
    cases h
    have h := hup2
    replace h := elimR h
    cases h
    refine R.f1 Tryz.results52 ?_
    rfl
   ·replace h := condF hc12 h
    refine Run.skip ?_
    refine Run.blk ?_
    refine Run.reg ?_
    refine X.ad ?_
    refine X.mn ?_
    exact R.ag hag7 (n7 - 1) (z8 + 1) (R.n3 (by first | (rw [hds7]; exact h) | (dsimp only; rw [hds7]; exact h)))
  ·rw [drop_endI hza7 hc11] at h
   rw [s_ActivityIndex_L1] at h
   refine Run.exit (by rfl) ?_
   exact R.mt hmeet3 () (Option.some.inj h)
 rintro p13 rfl
 replace h := elimL h
 refine Run.sr ?_
 refine X.an ?_
 cases h
 refine R.f1 Tryz.results52 ?_
 rfl
theorem s_StepsOk_pc (b0 : List TStep) (r : Bool) (h : s_StepsOk b0 = some r) : PC Tryz.prog 91 [.slice (b0.map eTStep)] (bool r) := by
 unfold s_StepsOk at h
 refine PC.start Tryz.func91 Tryz.ntmps91 rfl ok91 rfl ?_
 refine Run.sr ?_
 refine X.an ?_
 refine Run.seq ?_
 refine Run.sr ?_
 refine X.mv ?_
 refine X.ls elt98 ?_
 refine X.mn ?_
 obtain ⟨o1, ho1, h⟩ := bindE h
 refine R.join2 (β := Unit) [(0, .slice (b0.map eTStep))] [] (fun p20 S => S) (fun p20 M => M) (fun p20 => (Sum.inl p20) = o1) ?_ ?_
 ·intro JJ4 hmeet3
  have hup2 := h; clear h; have h := ho1; clear ho1
  refine Run.block ?_
  refine R.bndS (t := 0) (by rfl) (fun hbd7 => ?_)
  replace hbd7 : b0.length ≤ 9223372036854775807 := by first | (rw [List.length_map] at hbd7; exact hbd7) | simp
  refine R.lp (β := Int) [(0, .slice (b0.map eTStep)), (5, .slice (b0.map eTStep)), (6, int (b0.length : Int))] [] (fun bb S => (7, int bb) :: S) (fun bb M => M) (fun n bb => 0 ≤ bb ∧ bb + n = (b0.length : Int) ∧ s_StepsOk_L1 b0 (b0.drop bb.toNat) bb = some o1) b0.length (0 : Int) ⟨Int.le_refl _, by simp, h⟩ ?_
  clear h
  rintro JJ7 n7 z8 hag7 ⟨hza7, hzb7, h⟩
  refine Run.sr ?_
  refine X.bi ?_
  refine X.nil ?_
  refine Run.seq ?_
  refine R.cd (fun hc11 => ?_) (fun hc11 => ?_)
  ·obtain ⟨x9, xs10, hd7, hx7, hds7, hlt7⟩ := drop_atI hza7 hc11
   rw [hd7] at h
   rw [s_StepsOk_L1] at h
   refine Run.skip ?_
   refine Run.seq ?_
   refine Run.block ?_
   refine Run.sr ?_
   refine X.mv ?_
   refine X.ix elt98 (idxL_spec hx7).1 (idxL_map eTStep hx7) ?_
   refine X.lc shp162 ?_
   refine X.alloc zer162 (by rfl) (by rfl) (by rfl) ?_
   refine X.as ?_
   refine X.sl shp162 ?_
   refine X.nil ?_
   refine Run.seq ?_
   obtain ⟨v12, hv12, h⟩ := bindE h
   obtain ⟨e13, he13, h2⟩ := bindE h
   refine R.drawG [(0, .slice (b0.map eTStep)), (5, .slice (b0.map eTStep)), (6, int (b0.length : Int)), (7, int z8), (36, bool e13)] [] (footOf [(1, ([256], [], [], [])), (6, ([256], [], [], [])), (21, ([256], [], [], []))]) mixed (by kernel_rfl) (by kernel_rfl) ?_ ?_
   ·clear h; have h := he13; clear he13 h2
    refine X.fl fld162_0 ?_
    refine X.ld shp3 ?_
    refine X.cp (s_l01In_pc _ _ _ _ hv12) ?_
    refine X.un (by rfl) (by rfl) (by rfl) ?_
    refine X.mv ?_
    refine X.iG (fun hb14 => ?_) (fun hb14 => ?_)
    ·replace h := condF hb14 h
     refine X.fl fld162_1 ?_
     refine X.gy ?_
     refine X.ld shp3 ?_
     refine X.gy ?_
     obtain ⟨v15, hv15, h⟩ := bindE h
     refine X.cp (s_l01In_pc _ _ _ _ hv15) ?_
     refine X.gy ?_
     refine X.un (by rfl) (by rfl) (by rfl) ?_
     refine X.pF ?_
     refine X.mv ?_
     refine X.iG (fun hb16 => ?_) (fun hb16 => ?_)
     ·replace h := condF hb16 h
      refine X.mv ?_
      refine X.gy ?_
      refine X.bi ?_
      refine X.gy ?_
      refine X.mv ?_
      refine X.iG (fun hb17 => ?_) (fun hb17 => ?_)
      ·replace h := condT hb17 h
       refine X.mv ?_
       refine X.gy ?_
       refine X.mv ?_
       refine X.gy ?_
       refine X.sub (by rfl) (by rfl) (by omega) (by rfl) ?_
       refine X.gy ?_
       obtain ⟨v18, hv18, h⟩ := bindE h
       refine X.ix elt98 (idxL_spec hv18).1 (idxL_map eTStep hv18) ?_
       refine X.gy ?_
       refine X.fieldAddr_c fld162_0 (by rfl) (by rfl) ?_
       refine X.gy ?_
       refine X.lc shp3 ?_
       refine X.gy ?_
       refine X.fl fld162_0 ?_
       refine X.gy ?_
       refine X.ld shp3 ?_
       refine X.gy ?_
       refine X.bi ?_
       refine X.gy ?_
       refine X.pT ?_
       refine X.pF ?_
       cases h
       exact X.eG
      ·replace h := condF hb17 h
       refine X.gn ?_
       refine X.gn ?_
       refine X.gn ?_
       refine X.gn ?_
       refine X.gn ?_
       refine X.gn ?_
       refine X.gn ?_
       refine X.gn ?_
       refine X.gy ?_
       refine X.pF ?_
       refine X.pF ?_
       cases h
       exact X.eG
     ·replace h := condT hb16 h
      refine X.gn ?_
      refine X.gn ?_
      refine X.gU (by rfl) (by rfl) (by rfl) ?_
      refine X.gU (by rfl) (by rfl) (by rfl) ?_
      refine X.gU (by rfl) (by rfl) (by rfl) ?_
      refine X.gU (by rfl) (by rfl) (by rfl) ?_
      refine X.gU (by rfl) (by rfl) (by rfl) ?_
      refine X.gU (by rfl) (by rfl) (by rfl) ?_
      refine X.gU (by rfl) (by rfl) (by rfl) ?_
      refine X.gU (by rfl) (by rfl) (by rfl) ?_
      refine X.gU (by rfl) (by rfl) (by rfl) ?_
      refine X.gn ?_
      refine X.pT ?_
      cases h
      exact X.eG
    ·replace h := condT hb14 h
     refine X.gn ?_
     refine X.gn ?_
     refine X.gn ?_
     refine X.pT ?_
     refine X.mv ?_
     refine X.gn ?_
     refine X.gn ?_
     refine X.gn ?_
     refine X.gU (by rfl) (by rfl) (by rfl) ?_
     refine X.gU (by rfl) (by rfl) (by rfl) ?_
     refine X.gU (by rfl) (by rfl) (by rfl) ?_
     refine X.gU (by rfl) (by rfl) (by rfl) ?_
     refine X.gU (by rfl) (by rfl) (by rfl) ?_
     refine X.gU (by rfl) (by rfl) (by rfl) ?_
     refine X.gU (by rfl) (by rfl) (by rfl) ?_
     refine X.gU (by rfl) (by rfl) (by rfl) ?_
     refine X.gU (by rfl) (by rfl) (by rfl) ?_
     refine X.gn ?_
     refine X.pT ?_
     cases h
     exact X.eG
   replace h := h2; clear h2
   refine R.cd (fun hc19 => ?_) (fun hc19 => ?_)
   ·replace h := condT hc19 h
    refine Run.sr ?_
    refine X.an ?_
    cases h
    have h := hup2
    replace h := elimR h
    cases h
    refine R.f1 Tryz.results91 ?_
    rfl
   ·replace h := condF hc19 h
    refine Run.skip ?_
    refine Run.blk ?_
    refine Run.reg ?_
    refine X.ad ?_
    refine X.mn ?_
    exact R.ag hag7 (n7 - 1) (z8 + 1) (R.n3 (by first | (rw [hds7]; exact h) | (dsimp only; rw [hds7]; exact h)))
  ·rw [drop_endI hza7 hc11] at h
   rw [s_StepsOk_L1] at h
   refine Run.exit (by rfl) ?_
   exact R.mt hmeet3 () (Option.some.inj h)
 rintro p20 rfl
 replace h := elimL h
 refine Run.seq ?_
 obtain ⟨v22, hv22, h⟩ := bindE h
 obtain ⟨e23, he23, h2⟩ := bindE h
 refine R.regG [(2, bool e23)] [] ?_ ?_
 ·clear h; have h := he23; clear he23 h2
  refine X.mv ?_
  refine X.ls elt98 ?_
  refine X.cp (s_l01In_pc _ _ _ _ hv22) ?_
  refine X.mv ?_
  refine X.iG (fun hb24 => ?_) (fun hb24 => ?_)
  ·replace h := condT hb24 h
   refine X.mv ?_
   refine X.gy ?_
   obtain ⟨v25, hv25, h⟩ := bindE h
   refine X.ix elt98 (idxL_spec hv25).1 (idxL_map eTStep hv25) ?_
   refine X.gy ?_
   refine X.fieldAddr_c fld162_0 (by rfl) (by rfl) ?_
   refine X.gy ?_
   refine X.lc shp3 ?_
   refine X.gy ?_
   refine X.bi ?_
   refine X.pT ?_
   refine X.as ?_
   cases h
   exact X.eG
  ·replace h := condF hb24 h
   refine X.gn ?_
   refine X.gn ?_
   refine X.gn ?_
   refine X.gn ?_
   refine X.pF ?_
   refine X.as ?_
   cases h
   exact X.eG
 replace h := h2; clear h2
 cases h
 refine R.f1 Tryz.results91 ?_
 rfl
theorem s_ResourceOk_pc (b0 : TResource) (r : Bool) (h : s_ResourceOk b0 = some r) : PC Tryz.prog 53 [eTResource b0] (bool r) := by
 unfold s_ResourceOk at h
 refine PC.start Tryz.func53 Tryz.ntmps53 rfl ok53 rfl ?_
 refine Run.sr ?_
 refine X.bx ?_
 refine X.an ?_
 refine Run.seq ?_
 refine Run.sr ?_
 refine X.fl fld100_1 ?_
 refine X.ld shp88 ?_
 refine X.ls elt88 ?_
 refine X.mn ?_
 obtain ⟨o1, ho1, h⟩ := bindE h
 refine R.join2 (β := Unit) [(1, .lptr 64 0)] [(64, .blk true [.slice (b0.Steps.map eTStep), .slice (b0.Setup.map l_int)])] (fun p28 S => S) (fun p28 M => M) (fun p28 => (Sum.inl p28) = o1) ?_ ?_
 ·intro JJ4 hmeet3
  have hup2 := h; clear h; have h := ho1; clear ho1
  refine Run.block ?_
  refine R.bndS (t := 8) (by rfl) (fun hbd7 => ?_)
  replace hbd7 : b0.Setup.length ≤ 9223372036854775807 := by first | (rw [List.length_map] at hbd7; exact hbd7) | simp
  refine R.lp (β := Int) [(1, .lptr 64 0), (8, .slice (b0.Setup.map l_int)), (9, int (b0.Setup.length : Int))] [(64, .blk true [.slice (b0.Steps.map eTStep), .slice (b0.Setup.map l_int)])] (fun bb S => (10, int bb) :: S) (fun bb M => M) (fun n bb => 0 ≤ bb ∧ bb + n = (b0.Setup.length : Int) ∧ s_ResourceOk_L1 (b0.Setup.drop bb.toNat) bb = some o1) b0.Setup.length (0 : Int) ⟨Int.le_refl _, by simp, h⟩ ?_
  clear h
  rintro JJ7 n7 z8 hag7 ⟨hza7, hzb7, h⟩
  refine Run.sr ?_
  refine X.bi ?_
  refine X.nil ?_
  refine Run.seq ?_
  refine R.cd (fun hc11 => ?_) (fun hc11 => ?_)
  ·obtain ⟨x9, xs10, hd7, hx7, hds7, hlt7⟩ := drop_atI hza7 hc11
   rw [hd7] at h
   rw [s_ResourceOk_L1] at h
   refine Run.skip ?_
   refine Run.seq ?_
   refine Run.block ?_
   refine Run.sr ?_
   refine X.ix elt88 (idxL_spec hx7).1 (idxL_map l_int hx7) ?_
   refine X.lc shp25 ?_
   refine X.an ?_
   refine Run.seq ?_
   refine Run.sr ?_
   refine X.mv ?_
   refine X.ls elt25 ?_
   refine X.bi ?_
   refine X.nil ?_
   refine R.cd (fun hc12 => ?_) (fun hc12 => ?_)
   ·replace h := condT hc12 h
    refine Run.sr ?_
    refine X.an ?_
    cases h
    have h := hup2
    replace h := elimR h
    cases h
    refine R.f1 Tryz.results53 ?_
    rfl
   ·replace h := condF hc12 h
    refine Run.skip ?_
    refine Run.sr ?_
    refine X.mv ?_
    refine X.ls elt25 ?_
    refine X.mn ?_
    obtain ⟨o13, ho13, h⟩ := bindE h
    refine R.join2 (β := Unit) [(1, .lptr 64 0), (8, .slice (b0.Setup.map l_int)), (9, int (b0.Setup.length : Int)), (10, int z8)] [(64, .blk true [.slice (b0.Steps.map eTStep), .slice (b0.Setup.map l_int)])] (fun p26 S => S) (fun p26 M => M) (fun p26 => (Sum.inl p26) = o13) ?_ ?_
    ·intro JJ16 hmeet15
     have hup14 := h; clear h; have h := ho13; clear ho13
     refine Run.block ?_
     refine R.bndS (t := 4) (by rfl) (fun hbd19 => ?_)
     replace hbd19 : x9.length ≤ 9223372036854775807 := by first | (rw [List.length_map] at hbd19; exact hbd19) | simp
     refine R.lp (β := Int) [(1, .lptr 64 0), (8, .slice (b0.Setup.map l_int)), (9, int (b0.Setup.length : Int)), (10, int z8), (17, .slice (x9.map int)), (18, int (x9.length : Int))] [(64, .blk true [.slice (b0.Steps.map eTStep), .slice (b0.Setup.map l_int)])] (fun bb S => (19, int bb) :: S) (fun bb M => M) (fun n bb => 0 ≤ bb ∧ bb + n = (x9.length : Int) ∧ s_ResourceOk_L2 (x9.drop bb.toNat) bb = some o13) x9.length (0 : Int) ⟨Int.le_refl _, by simp, h⟩ ?_
     clear h
     rintro JJ19 n19 z20 hag19 ⟨hza19, hzb19, h⟩
     refine Run.sr ?_
     refine X.bi ?_
     refine X.nil ?_
     refine Run.seq ?_
     refine R.cd (fun hc23 => ?_) (fun hc23 => ?_)
     ·obtain ⟨x21, xs22, hd19, hx19, hds19, hlt19⟩ := drop_atI hza19 hc23
      rw [hd19] at h
      rw [s_ResourceOk_L2] at h
      refine Run.skip ?_
      refine Run.seq ?_
      refine Run.block ?_
      refine Run.sr ?_
      refine X.ix elt25 (idxL_spec hx19).1 (idxL_map int hx19) ?_
      refine X.lc shp3 ?_
      refine X.an ?_
      refine Run.sr ?_
      refine X.mv ?_
      obtain ⟨v24, hv24, h⟩ := bindE h
      refine X.cp (s_l01In_pc _ _ _ _ hv24) ?_
      refine X.un (by rfl) (by rfl) (by rfl) ?_
      refine X.nil ?_
      refine R.cd (fun hc25 => ?_) (fun hc25 => ?_)
      ·replace h := condT hc25 h
       refine Run.sr ?_
       refine X.an ?_
       cases h
       have h := hup14
       replace h := elimR h
       cases h
       have h := hup2
       replace h := elimR h
       cases h
       refine R.f1 Tryz.results53 ?_
       rfl
      ·replace h := condF hc25 h
       refine Run.skip ?_
       refine Run.blk ?_
       refine Run.reg ?_
       refine X.ad ?_
       refine X.mn ?_
       exact R.ag hag19 (n19 - 1) (z20 + 1) (R.n3 (by first | (rw [hds19]; exact h) | (dsimp only; rw [hds19]; exact h)))
     ·rw [drop_endI hza19 hc23] at h
      rw [s_ResourceOk_L2] at h
      refine Run.exit (by rfl) ?_
      exact R.mt hmeet15 () (Option.some.inj h)
    rintro p26 rfl
    replace h := elimL h
    refine Run.blk ?_
    refine Run.reg ?_
    refine X.ad ?_
    refine X.mn ?_
    exact R.ag hag7 (n7 - 1) (z8 + 1) (R.n3 (by first | (rw [hds7]; exact h) | (dsimp only; rw [hds7]; exact h)))
  ·rw [drop_endI hza7 hc11] at h
   rw [s_ResourceOk_L1] at h
   refine Run.exit (by rfl) ?_
   exact R.mt hmeet3 () (Option.some.inj h)
 rintro p28 rfl
 replace h := elimL h
 refine Run.seq ?_
 obtain ⟨v30, hv30, h⟩ := bindE h
 obtain ⟨e31, he31, h2⟩ := bindE h
 refine R.regG [(2, bool e31)] [] ?_ ?_
 ·clear h; have h := he31; clear he31 h2
  refine X.fl fld100_0 ?_
  refine X.ld shp98 ?_
  refine X.cp (s_StepsOk_pc _ _ hv30) ?_
  refine X.mv ?_
  refine X.iG (fun hb32 => ?_) (fun hb32 => ?_)
  ·replace h := condT hb32 h
   refine X.fl fld100_1 ?_
   refine X.gy ?_
   refine X.ld shp88 ?_
   refine X.gy ?_
   refine X.ls elt88 ?_
   refine X.gy ?_
   refine X.bi ?_
   refine X.gy ?_
   refine X.mv ?_
   refine X.iG (fun hb33 => ?_) (fun hb33 => ?_)
   ·replace h := condF hb33 h
    refine X.fl fld100_1 ?_
    refine X.gy ?_
    refine X.ld shp88 ?_
    refine X.gy ?_
    refine X.ls elt88 ?_
    refine X.gy ?_
    refine X.bi ?_
    refine X.gy ?_
    refine X.pF ?_
    refine X.pT ?_
    refine X.as ?_
    cases h
    exact X.eG
   ·replace h := condT hb33 h
    refine X.gn ?_
    refine X.gn ?_
    refine X.gn ?_
    refine X.gy ?_
    refine X.pT ?_
    refine X.pT ?_
    refine X.as ?_
    cases h
    exact X.eG
  ·replace h := condF hb32 h
   refine X.gn ?_
   refine X.gn ?_
   refine X.gn ?_
   refine X.gn ?_
   refine X.gU (by rfl) (by rfl) (by rfl) ?_
   refine X.gU (by rfl) (by rfl) (by rfl) ?_
   refine X.gU (by rfl) (by rfl) (by rfl) ?_
   refine X.gU (by rfl) (by rfl) (by rfl) ?_
   refine X.gn ?_
   refine X.pF ?_
   refine X.as ?_
   cases h
   exact X.eG
 replace h := h2; clear h2
 cases h
 refine R.f1 Tryz.results53 ?_
 rfl
theorem s_ProjectOk_pc (b0 : TProject) (r : Bool) (h : s_ProjectOk b0 = some r) : PC Tryz.prog 24 [eTProject b0] (bool r) := by
 unfold s_ProjectOk at h
 refine PC.start Tryz.func24 Tryz.ntmps24 rfl ok24 rfl ?_
 refine Run.sr ?_
 refine X.bx ?_
 refine X.an ?_
 refine Run.sr ?_
 refine X.fl fld40_1 ?_
 refine X.ld shp36 ?_
 refine X.ls elt36 ?_
 refine X.an ?_
 refine Run.seq ?_
 refine Run.seq ?_
 obtain ⟨v1, hv1, h⟩ := bindE h
 obtain ⟨e2, he2, h2⟩ := bindE h
 refine R.regG [(1, .lptr 64 0), (3, int (b0.Activities.length : Int)), (41, bool e2)] [(64, .blk true [int b0.Deadline, .slice (b0.Activities.map eTActivity), .slice (b0.Links.map eTLink), .slice (b0.Resources.map eTResource), .slice (b0.Stocks.map int)])] ?_ ?_
 ·clear h; have h := he2; clear he2 h2
  refine X.fl fld40_0 ?_
  refine X.ld shp3 ?_
  refine X.cp (s_l01In_pc _ _ _ _ hv1) ?_
  refine X.un (by rfl) (by rfl) (by rfl) ?_
  refine X.mv ?_
  refine X.iG (fun hb3 => ?_) (fun hb3 => ?_)
  ·replace h := condF hb3 h
   refine X.mv ?_
   refine X.gy ?_
   obtain ⟨v4, hv4, h⟩ := bindE h
   refine X.cp (s_l01In_pc _ _ _ _ hv4) ?_
   refine X.gy ?_
   refine X.un (by rfl) (by rfl) (by rfl) ?_
   refine X.pF ?_
   refine X.mv ?_
   refine X.iG (fun hb5 => ?_) (fun hb5 => ?_)
   ·replace h := condF hb5 h
    refine X.fl fld40_3 ?_
    refine X.gy ?_
    refine X.ld shp38 ?_
    refine X.gy ?_
    refine X.ls elt38 ?_
    refine X.gy ?_
    refine X.bi ?_
    refine X.pF ?_
    refine X.mv ?_
    refine X.iG (fun hb6 => ?_) (fun hb6 => ?_)
    ·replace h := condF hb6 h
     refine X.fl fld40_4 ?_
     refine X.gy ?_
     refine X.ld shp25 ?_
     refine X.gy ?_
     refine X.ls elt25 ?_
     refine X.gy ?_
     refine X.bi ?_
     refine X.pF ?_
     refine X.mv ?_
     refine X.iG (fun hb7 => ?_) (fun hb7 => ?_)
     ·replace h := condF hb7 h
      refine X.fl fld40_2 ?_
      refine X.gy ?_
      refine X.ld shp37 ?_
      refine X.gy ?_
      refine X.ls elt37 ?_
      refine X.gy ?_
      refine X.bi ?_
      refine X.pF ?_
      cases h
      exact X.eG
     ·replace h := condT hb7 h
      refine X.gn ?_
      refine X.gn ?_
      refine X.gn ?_
      refine X.pT ?_
      cases h
      exact X.eG
    ·replace h := condT hb6 h
     refine X.gn ?_
     refine X.gn ?_
     refine X.gn ?_
     refine X.pT ?_
     refine X.mv ?_
     refine X.gn ?_
     refine X.gn ?_
     refine X.gn ?_
     refine X.gn ?_
     refine X.pT ?_
     cases h
     exact X.eG
   ·replace h := condT hb5 h
    refine X.gn ?_
    refine X.gn ?_
    refine X.gn ?_
    refine X.pT ?_
    refine X.mv ?_
    refine X.gn ?_
    refine X.gn ?_
    refine X.gn ?_
    refine X.gn ?_
    refine X.pT ?_
    refine X.mv ?_
    refine X.gn ?_
    refine X.gn ?_
    refine X.gn ?_
    refine X.gn ?_
    refine X.pT ?_
    cases h
    exact X.eG
  ·replace h := condT hb3 h
   refine X.gn ?_
   refine X.gn ?_
   refine X.pT ?_
   refine X.mv ?_
   refine X.gn ?_
   refine X.gn ?_
   refine X.gn ?_
   refine X.gn ?_
   refine X.pT ?_
   refine X.mv ?_
   refine X.gn ?_
   refine X.gn ?_
   refine X.gn ?_
   refine X.gn ?_
   refine X.pT ?_
   refine X.mv ?_
   refine X.gn ?_
   refine X.gn ?_
   refine X.gn ?_
   refine X.gn ?_
   refine X.pT ?_
   cases h
   exact X.eG
 replace h := h2; clear h2
 refine R.cd (fun hc8 => ?_) (fun hc8 => ?_)
 ·replace h := condT hc8 h
  refine Run.sr ?_
  refine X.an ?_
  cases h
  refine R.f1 Tryz.results24 ?_
  rfl
 ·replace h := condF hc8 h
  refine Run.skip ?_
  refine Run.seq ?_
  refine Run.sr ?_
  refine X.fl fld40_1 ?_
  refine X.ld shp36 ?_
  refine X.ls elt36 ?_
  refine X.mn ?_
  obtain ⟨o9, ho9, h⟩ := bindE h
  refine R.join2 (β := Unit) [(1, .lptr 64 0), (3, int (b0.Activities.length : Int))] [(64, .blk true [int b0.Deadline, .slice (b0.Activities.map eTActivity), .slice (b0.Links.map eTLink), .slice (b0.Resources.map eTResource), .slice (b0.Stocks.map int)])] (fun p25 S => S) (fun p25 M => M) (fun p25 => (Sum.inl p25) = o9) ?_ ?_
  ·intro JJ12 hmeet11
   have hup10 := h; clear h; have h := ho9; clear ho9
   refine Run.block ?_
   refine R.bndS (t := 43) (by rfl) (fun hbd15 => ?_)
   replace hbd15 : b0.Activities.length ≤ 9223372036854775807 := by first | (rw [List.length_map] at hbd15; exact hbd15) | simp
   refine R.lp (β := Int) [(1, .lptr 64 0), (3, int (b0.Activities.length : Int)), (43, .slice (b0.Activities.map eTActivity)), (44, int (b0.Activities.length : Int))] [(64, .blk true [int b0.Deadline, .slice (b0.Activities.map eTActivity), .slice (b0.Links.map eTLink), .slice (b0.Resources.map eTResource), .slice (b0.Stocks.map int)])] (fun bb S => (45, int bb) :: S) (fun bb M => M) (fun n bb => 0 ≤ bb ∧ bb + n = (b0.Activities.length : Int) ∧ s_ProjectOk_L1 b0 (b0.Activities.drop bb.toNat) bb = some o9) b0.Activities.length (0 : Int) ⟨Int.le_refl _, by simp, h⟩ ?_
   clear h
   rintro JJ15 n15 z16 hag15 ⟨hza15, hzb15, h⟩
   refine Run.sr ?_
   refine X.bi ?_
   refine X.nil ?_
   refine Run.seq ?_
   refine R.cd (fun hc19 => ?_) (fun hc19 => ?_)
   ·obtain ⟨x17, xs18, hd15, hx15, hds15, hlt15⟩ := drop_atI hza15 hc19
    rw [hd15] at h
    rw [s_ProjectOk_L1] at h
    refine Run.skip ?_
    refine Run.seq ?_
    refine Run.block ?_
    refine Run.sr ?_
    refine X.mv ?_
    refine X.ix elt36 (idxL_spec hx15).1 (idxL_map eTActivity hx15) ?_
    refine X.lc shp95 ?_
    refine X.alloc zer95 (by rfl) (by rfl) (by rfl) ?_
    refine X.as ?_
    refine X.sl shp95 ?_
    refine X.nil ?_
    refine Run.seq ?_
    obtain ⟨v20, hv20, h⟩ := bindE h
    obtain ⟨e21, he21, h2⟩ := bindE h
    refine R.regG [(1, .lptr 64 0), (3, int (b0.Activities.length : Int)), (43, .slice (b0.Activities.map eTActivity)), (44, int (b0.Activities.length : Int)), (45, int z16), (66, bool e21)] [(64, .blk true [int b0.Deadline, .slice (b0.Activities.map eTActivity), .slice (b0.Links.map eTLink), .slice (b0.Resources.map eTResource), .slice (b0.Stocks.map int)])] ?_ ?_
    ·clear h; have h := he21; clear he21 h2
     refine X.ld shp95 ?_
     refine X.fl fld40_3 ?_
     refine X.ld shp38 ?_
     refine X.ls elt38 ?_
     refine X.fl fld40_4 ?_
     refine X.ld shp25 ?_
     refine X.ls elt25 ?_
     refine X.cp (s_ActivityOk_pc _ _ _ _ hv20) ?_
     refine X.un (by rfl) (by rfl) (by rfl) ?_
     refine X.mv ?_
     refine X.iG (fun hb22 => ?_) (fun hb22 => ?_)
     ·replace h := condF hb22 h
      refine X.ld shp40 ?_
      refine X.gy ?_
      refine X.fl fld95_0 ?_
      refine X.gy ?_
      refine X.ld shp9 ?_
      refine X.gy ?_
      obtain ⟨v23, hv23, h⟩ := bindE h
      refine X.cp (s_ActivityIndex_pc _ _ _ hv23) ?_
      refine X.gy ?_
      refine X.mv ?_
      refine X.gy ?_
      refine X.bi ?_
      refine X.pF ?_
      cases h
      exact X.eG
     ·replace h := condT hb22 h
      refine X.gn ?_
      refine X.gn ?_
      refine X.gn ?_
      refine X.gn ?_
      refine X.gn ?_
      refine X.pT ?_
      cases h
      exact X.eG
    replace h := h2; clear h2
    refine R.cd (fun hc24 => ?_) (fun hc24 => ?_)
    ·replace h := condT hc24 h
     refine Run.sr ?_
     refine X.an ?_
     cases h
     have h := hup10
     replace h := elimR h
     cases h
     refine R.f1 Tryz.results24 ?_
     rfl
    ·replace h := condF hc24 h
     refine Run.skip ?_
     refine Run.blk ?_
     refine Run.reg ?_
     refine X.ad ?_
     refine X.mn ?_
     exact R.ag hag15 (n15 - 1) (z16 + 1) (R.n3 (by first | (rw [hds15]; exact h) | (dsimp only; rw [hds15]; exact h)))
   ·rw [drop_endI hza15 hc19] at h
    rw [s_ProjectOk_L1] at h
    refine Run.exit (by rfl) ?_
    exact R.mt hmeet11 () (Option.some.inj h)
  rintro p25 rfl
  replace h := elimL h
  refine Run.seq ?_
  refine Run.sr ?_
  refine X.fl fld40_3 ?_
  refine X.ld shp38 ?_
  refine X.ls elt38 ?_
  refine X.mn ?_
  obtain ⟨o27, ho27, h⟩ := bindE h
  refine R.join2 (β := Unit) [(1, .lptr 64 0), (3, int (b0.Activities.length : Int))] [(64, .blk true [int b0.Deadline, .slice (b0.Activities.map eTActivity), .slice (b0.Links.map eTLink), .slice (b0.Resources.map eTResource), .slice (b0.Stocks.map int)])] (fun p40 S => S) (fun p40 M => M) (fun p40 => (Sum.inl p40) = o27) ?_ ?_
  ·intro JJ30 hmeet29
   have hup28 := h; clear h; have h := ho27; clear ho27
   refine Run.block ?_
   refine R.bndS (t := 69) (by rfl) (fun hbd33 => ?_)
   replace hbd33 : b0.Resources.length ≤ 9223372036854775807 := by first | (rw [List.length_map] at hbd33; exact hbd33) | simp
   refine R.lp (β := Int) [(1, .lptr 64 0), (3, int (b0.Activities.length : Int)), (69, .slice (b0.Resources.map eTResource)), (70, int (b0.Resources.length : Int))] [(64, .blk true [int b0.Deadline, .slice (b0.Activities.map eTActivity), .slice (b0.Links.map eTLink), .slice (b0.Resources.map eTResource), .slice (b0.Stocks.map int)])] (fun bb S => (71, int bb) :: S) (fun bb M => M) (fun n bb => 0 ≤ bb ∧ bb + n = (b0.Resources.length : Int) ∧ s_ProjectOk_L2 (b0.Resources.drop bb.toNat) bb = some o27) b0.Resources.length (0 : Int) ⟨Int.le_refl _, by simp, h⟩ ?_
   clear h
   rintro JJ33 n33 z34 hag33 ⟨hza33, hzb33, h⟩
   refine Run.sr ?_
   refine X.bi ?_
   refine X.nil ?_
   refine Run.seq ?_
   refine R.cd (fun hc37 => ?_) (fun hc37 => ?_)
   ·obtain ⟨x35, xs36, hd33, hx33, hds33, hlt33⟩ := drop_atI hza33 hc37
    rw [hd33] at h
    rw [s_ProjectOk_L2] at h
    refine Run.skip ?_
    refine Run.seq ?_
    refine Run.block ?_
    refine Run.sr ?_
    refine X.ix elt38 (idxL_spec hx33).1 (idxL_map eTResource hx33) ?_
    refine X.lc shp100 ?_
    refine X.alloc zer100 (by rfl) (by rfl) (by rfl) ?_
    refine X.sl shp100 ?_
    refine X.nil ?_
    refine Run.sr ?_
    refine X.ld shp100 ?_
    obtain ⟨v38, hv38, h⟩ := bindE h
    refine X.cp (s_ResourceOk_pc _ _ hv38) ?_
    refine X.un (by rfl) (by rfl) (by rfl) ?_
    refine X.nil ?_
    refine R.cd (fun hc39 => ?_) (fun hc39 => ?_)
    ·replace h := condT hc39 h
     refine Run.sr ?_
     refine X.an ?_
     cases h
     have h := hup28
     replace h := elimR h
     cases h
     refine R.f1 Tryz.results24 ?_
     rfl
    ·replace h := condF hc39 h
     refine Run.skip ?_
     refine Run.blk ?_
     refine Run.reg ?_
     refine X.ad ?_
     refine X.mn ?_
     exact R.ag hag33 (n33 - 1) (z34 + 1) (R.n3 (by first | (rw [hds33]; exact h) | (dsimp only; rw [hds33]; exact h)))
   ·rw [drop_endI hza33 hc37] at h
    rw [s_ProjectOk_L2] at h
    refine Run.exit (by rfl) ?_
    exact R.mt hmeet29 () (Option.some.inj h)
  rintro p40 rfl
  replace h := elimL h
  refine Run.seq ?_
  refine Run.sr ?_
  refine X.fl fld40_4 ?_
  refine X.ld shp25 ?_
  refine X.ls elt25 ?_
  refine X.mn ?_
  obtain ⟨o42, ho42, h⟩ := bindE h
  refine R.join2 (β := Unit) [(1, .lptr 64 0), (3, int (b0.Activities.length : Int))] [(64, .blk true [int b0.Deadline, .slice (b0.Activities.map eTActivity), .slice (b0.Links.map eTLink), .slice (b0.Resources.map eTResource), .slice (b0.Stocks.map int)])] (fun p55 S => S) (fun p55 M => M) (fun p55 => (Sum.inl p55) = o42) ?_ ?_
  ·intro JJ45 hmeet44
   have hup43 := h; clear h; have h := ho42; clear ho42
   refine Run.block ?_
   refine R.bndS (t := 80) (by rfl) (fun hbd48 => ?_)
   replace hbd48 : b0.Stocks.length ≤ 9223372036854775807 := by first | (rw [List.length_map] at hbd48; exact hbd48) | simp
   refine R.lp (β := Int) [(1, .lptr 64 0), (3, int (b0.Activities.length : Int)), (80, .slice (b0.Stocks.map int)), (81, int (b0.Stocks.length : Int))] [(64, .blk true [int b0.Deadline, .slice (b0.Activities.map eTActivity), .slice (b0.Links.map eTLink), .slice (b0.Resources.map eTResource), .slice (b0.Stocks.map int)])] (fun bb S => (82, int bb) :: S) (fun bb M => M) (fun n bb => 0 ≤ bb ∧ bb + n = (b0.Stocks.length : Int) ∧ s_ProjectOk_L3 (b0.Stocks.drop bb.toNat) bb = some o42) b0.Stocks.length (0 : Int) ⟨Int.le_refl _, by simp, h⟩ ?_
   clear h
   rintro JJ48 n48 z49 hag48 ⟨hza48, hzb48, h⟩
   refine Run.sr ?_
   refine X.bi ?_
   refine X.nil ?_
   refine Run.seq ?_
   refine R.cd (fun hc52 => ?_) (fun hc52 => ?_)
   ·obtain ⟨x50, xs51, hd48, hx48, hds48, hlt48⟩ := drop_atI hza48 hc52
    rw [hd48] at h
    rw [s_ProjectOk_L3] at h
    refine Run.skip ?_
    refine Run.seq ?_
    refine Run.block ?_
    refine Run.sr ?_
    refine X.ix elt25 (idxL_spec hx48).1 (idxL_map int hx48) ?_
    refine X.lc shp3 ?_
    refine X.an ?_
    refine Run.sr ?_
    refine X.mv ?_
    obtain ⟨v53, hv53, h⟩ := bindE h
    refine X.cp (s_l01In_pc _ _ _ _ hv53) ?_
    refine X.un (by rfl) (by rfl) (by rfl) ?_
    refine X.nil ?_
    refine R.cd (fun hc54 => ?_) (fun hc54 => ?_)
    ·replace h := condT hc54 h
     refine Run.sr ?_
     refine X.an ?_
     cases h
     have h := hup43
     replace h := elimR h
     cases h
     refine R.f1 Tryz.results24 ?_
     rfl
    ·replace h := condF hc54 h
     refine Run.skip ?_
     refine Run.blk ?_
     refine Run.reg ?_
     refine X.ad ?_
     refine X.mn ?_
     exact R.ag hag48 (n48 - 1) (z49 + 1) (R.n3 (by first | (rw [hds48]; exact h) | (dsimp only; rw [hds48]; exact h)))
   ·rw [drop_endI hza48 hc52] at h
    rw [s_ProjectOk_L3] at h
    refine Run.exit (by rfl) ?_
    exact R.mt hmeet44 () (Option.some.inj h)
  rintro p55 rfl
  replace h := elimL h
  refine Run.seq ?_
  refine Run.sr ?_
  refine X.fl fld40_2 ?_
  refine X.ld shp37 ?_
  refine X.ls elt37 ?_
  refine X.mn ?_
  obtain ⟨o57, ho57, h⟩ := bindE h
  refine R.join2 (β := Unit) [] [] (fun p76 S => S) (fun p76 M => M) (fun p76 => (Sum.inl p76) = o57) ?_ ?_
  ·intro JJ60 hmeet59
   have hup58 := h; clear h; have h := ho57; clear ho57
   refine Run.block ?_
   refine R.bndS (t := 91) (by rfl) (fun hbd63 => ?_)
   replace hbd63 : b0.Links.length ≤ 9223372036854775807 := by first | (rw [List.length_map] at hbd63; exact hbd63) | simp
   refine R.lp (β := Int) [(3, int (b0.Activities.length : Int)), (91, .slice (b0.Links.map eTLink)), (92, int (b0.Links.length : Int))] [] (fun bb S => (93, int bb) :: S) (fun bb M => M) (fun n bb => 0 ≤ bb ∧ bb + n = (b0.Links.length : Int) ∧ s_ProjectOk_L4 b0 (b0.Links.drop bb.toNat) bb = some o57) b0.Links.length (0 : Int) ⟨Int.le_refl _, by simp, h⟩ ?_
   clear h
   rintro JJ63 n63 z64 hag63 ⟨hza63, hzb63, h⟩
   refine Run.sr ?_
   refine X.bi ?_
   refine X.nil ?_
   refine Run.seq ?_
   refine R.cd (fun hc67 => ?_) (fun hc67 => ?_)
   ·obtain ⟨x65, xs66, hd63, hx63, hds63, hlt63⟩ := drop_atI hza63 hc67
    rw [hd63] at h
    rw [s_ProjectOk_L4] at h
    refine Run.skip ?_
    refine Run.seq ?_
    refine Run.block ?_
    refine Run.sr ?_
    refine X.ix elt37 (idxL_spec hx63).1 (idxL_map eTLink hx63) ?_
    refine X.lc shp103 ?_
    refine X.alloc zer103 (by rfl) (by rfl) (by rfl) ?_
    refine X.sl shp103 ?_
    refine X.nil ?_
    refine Run.seq ?_
    obtain ⟨v68, hv68, h⟩ := bindE h
    obtain ⟨e69, he69, h2⟩ := bindE h
    refine R.regG [(3, int (b0.Activities.length : Int)), (91, .slice (b0.Links.map eTLink)), (92, int (b0.Links.length : Int)), (93, int z64), (123, bool e69)] [] ?_ ?_
    ·clear h; have h := he69; clear he69 h2
     refine X.fl fld103_0 ?_
     refine X.ld shp3 ?_
     refine X.mv ?_
     refine X.subW (by rfl) (by rfl) (by rfl) ?_
     refine X.cp (s_l01In_pc _ _ _ _ hv68) ?_
     refine X.un (by rfl) (by rfl) (by rfl) ?_
     refine X.mv ?_
     refine X.iG (fun hb70 => ?_) (fun hb70 => ?_)
     ·replace h := condF hb70 h
      refine X.fl fld103_1 ?_
      refine X.gy ?_
      refine X.ld shp3 ?_
      refine X.gy ?_
      refine X.mv ?_
      refine X.gy ?_
      refine X.subW (by rfl) (by rfl) (by rfl) ?_
      refine X.gy ?_
      obtain ⟨v71, hv71, h⟩ := bindE h
      refine X.cp (s_l01In_pc _ _ _ _ hv71) ?_
      refine X.gy ?_
      refine X.un (by rfl) (by rfl) (by rfl) ?_
      refine X.pF ?_
      refine X.mv ?_
      refine X.iG (fun hb72 => ?_) (fun hb72 => ?_)
      ·replace h := condF hb72 h
       refine X.fl fld103_0 ?_
       refine X.gy ?_
       refine X.ld shp3 ?_
       refine X.gy ?_
       refine X.fl fld103_1 ?_
       refine X.gy ?_
       refine X.ld shp3 ?_
       refine X.gy ?_
       refine X.bi ?_
       refine X.pF ?_
       refine X.mv ?_
       refine X.iG (fun hb73 => ?_) (fun hb73 => ?_)
       ·replace h := condF hb73 h
        refine X.fl fld103_3 ?_
        refine X.gy ?_
        refine X.ld shp3 ?_
        refine X.gy ?_
        obtain ⟨v74, hv74, h⟩ := bindE h
        refine X.cp (s_l01In_pc _ _ _ _ hv74) ?_
        refine X.gy ?_
        refine X.un (by rfl) (by rfl) (by rfl) ?_
        refine X.pF ?_
        cases h
        exact X.eG
       ·replace h := condT hb73 h
        refine X.gn ?_
        refine X.gn ?_
        refine X.gn ?_
        refine X.pT ?_
        cases h
        exact X.eG
      ·replace h := condT hb72 h
       refine X.gn ?_
       refine X.gn ?_
       refine X.gn ?_
       refine X.gn ?_
       refine X.pT ?_
       refine X.mv ?_
       refine X.gn ?_
       refine X.gn ?_
       refine X.gn ?_
       refine X.gn ?_
       refine X.pT ?_
       cases h
       exact X.eG
     ·replace h := condT hb70 h
      refine X.gn ?_
      refine X.gn ?_
      refine X.gn ?_
      refine X.gn ?_
      refine X.gn ?_
      refine X.pT ?_
      refine X.mv ?_
      refine X.gn ?_
      refine X.gn ?_
      refine X.gn ?_
      refine X.gn ?_
      refine X.gn ?_
      refine X.pT ?_
      refine X.mv ?_
      refine X.gn ?_
      refine X.gn ?_
      refine X.gn ?_
      refine X.gn ?_
      refine X.pT ?_
      cases h
      exact X.eG
    replace h := h2; clear h2
    refine R.cd (fun hc75 => ?_) (fun hc75 => ?_)
    ·replace h := condT hc75 h
     refine Run.sr ?_
     refine X.an ?_
     cases h
     have h := hup58
     replace h := elimR h
     cases h
     refine R.f1 Tryz.results24 ?_
     rfl
    ·replace h := condF hc75 h
     refine Run.skip ?_
     refine Run.blk ?_
     refine Run.reg ?_
     refine X.ad ?_
     refine X.mn ?_
     exact R.ag hag63 (n63 - 1) (z64 + 1) (R.n3 (by first | (rw [hds63]; exact h) | (dsimp only; rw [hds63]; exact h)))
   ·rw [drop_endI hza63 hc67] at h
    rw [s_ProjectOk_L4] at h
    refine Run.exit (by rfl) ?_
    exact R.mt hmeet59 () (Option.some.inj h)
  rintro p76 rfl
  replace h := elimL h
  refine Run.sr ?_
  refine X.an ?_
  cases h
  refine R.f1 Tryz.results24 ?_
  rfl
theorem s_LiteralOk_pc (b0 : TProject) (b1 : TLiteral) (r : Bool) (h : s_LiteralOk b0 b1 = some r) : PC Tryz.prog 87 [eTProject b0, eTLiteral b1] (bool r) := by
 unfold s_LiteralOk at h
 refine PC.start Tryz.func87 Tryz.ntmps87 rfl ok87 rfl ?_
 refine Run.sr ?_
 refine X.bx ?_
 refine X.bx ?_
 refine X.an ?_
 refine Run.seq ?_
 refine Run.seq ?_
 obtain ⟨v1, hv1, h⟩ := bindE h
 obtain ⟨e2, he2, h2⟩ := bindE h
 refine R.regG [(2, .lptr 128 0), (3, .lptr 192 0), (17, bool e2)] [(128, .blk true [int b0.Deadline, .slice (b0.Activities.map eTActivity), .slice (b0.Links.map eTLink), .slice (b0.Resources.map eTResource), .slice (b0.Stocks.map int)]), (192, .blk true [int b1.Kind, int b1.Activity, int b1.Value])] ?_ ?_
 ·clear h; have h := he2; clear he2 h2
  refine X.ld shp40 ?_
  refine X.cp (s_ProjectOk_pc _ _ hv1) ?_
  refine X.un (by rfl) (by rfl) (by rfl) ?_
  refine X.mv ?_
  refine X.iG (fun hb3 => ?_) (fun hb3 => ?_)
  ·replace h := condF hb3 h
   refine X.fl fld106_1 ?_
   refine X.gy ?_
   refine X.ld shp3 ?_
   refine X.gy ?_
   refine X.fl fld40_1 ?_
   refine X.gy ?_
   refine X.ld shp36 ?_
   refine X.gy ?_
   refine X.ls elt36 ?_
   refine X.gy ?_
   refine X.subW (by rfl) (by rfl) (by rfl) ?_
   refine X.gy ?_
   obtain ⟨v4, hv4, h⟩ := bindE h
   refine X.cp (s_l01In_pc _ _ _ _ hv4) ?_
   refine X.gy ?_
   refine X.un (by rfl) (by rfl) (by rfl) ?_
   refine X.pF ?_
   cases h
   exact X.eG
  ·replace h := condT hb3 h
   refine X.gn ?_
   refine X.gn ?_
   refine X.gn ?_
   refine X.gn ?_
   refine X.gn ?_
   refine X.gn ?_
   refine X.gn ?_
   refine X.pT ?_
   cases h
   exact X.eG
 replace h := h2; clear h2
 refine R.cd (fun hc5 => ?_) (fun hc5 => ?_)
 ·replace h := condT hc5 h
  refine Run.sr ?_
  refine X.an ?_
  cases h
  refine R.f1 Tryz.results87 ?_
  rfl
 ·replace h := condF hc5 h
  refine Run.skip ?_
  refine Run.seq ?_
  refine Run.sr ?_
  refine X.fl fld106_0 ?_
  refine X.ld shp3 ?_
  refine X.nil ?_
  refine Run.block ?_
  refine Run.seq ?_
  refine Run.sr ?_
  refine X.bi ?_
  refine X.an ?_
  obtain ⟨o6, ho6, h⟩ := bindE h
  refine R.join2 (β := Bool) [(2, .lptr 128 0), (3, .lptr 192 0), (19, int b1.Kind)] [(128, .blk true [int b0.Deadline, .slice (b0.Activities.map eTActivity), .slice (b0.Links.map eTLink), .slice (b0.Resources.map eTResource), .slice (b0.Stocks.map int)]), (192, .blk true [int b1.Kind, int b1.Activity, int b1.Value])] (fun p11 S => (20, bool p11) :: S) (fun p11 M => M) (fun p11 => p11 = o6) ?_ ?_
  ·intro JJ9 hmeet8
   have hup7 := h; clear h; have h := ho6; clear ho6
   refine R.cd (fun hc10 => ?_) (fun hc10 => ?_)
   ·replace h := condT hc10 h
    refine Run.skip ?_
    exact R.mt hmeet8 (b1.Kind == 1) (Option.some.inj h)
   ·replace h := condF hc10 h
    refine Run.reg ?_
    refine X.bi ?_
    refine X.an ?_
    exact R.mt hmeet8 (b1.Kind == 2) (Option.some.inj h)
  rintro p11 rfl
  refine R.cd (fun hc12 => ?_) (fun hc12 => ?_)
  ·replace h := condT hc12 h
   refine Run.sr ?_
   refine X.fl fld106_2 ?_
   refine X.ld shp3 ?_
   obtain ⟨v13, hv13, h⟩ := bindE h
   refine X.cp (s_l01In_pc _ _ _ _ hv13) ?_
   refine X.an ?_
   cases h
   refine R.f1 Tryz.results87 ?_
   rfl
  ·replace h := condF hc12 h
   refine Run.seq ?_
   refine Run.sr ?_
   refine X.bi ?_
   refine X.an ?_
   obtain ⟨o14, ho14, h⟩ := bindE h
   refine R.join2 (β := Bool) [(2, .lptr 128 0), (3, .lptr 192 0)] [(128, .blk true [int b0.Deadline, .slice (b0.Activities.map eTActivity), .slice (b0.Links.map eTLink), .slice (b0.Resources.map eTResource), .slice (b0.Stocks.map int)]), (192, .blk true [int b1.Kind, int b1.Activity, int b1.Value])] (fun p19 S => (26, bool p19) :: S) (fun p19 M => M) (fun p19 => p19 = o14) ?_ ?_
   ·intro JJ17 hmeet16
    have hup15 := h; clear h; have h := ho14; clear ho14
    refine R.cd (fun hc18 => ?_) (fun hc18 => ?_)
    ·replace h := condT hc18 h
     refine Run.skip ?_
     exact R.mt hmeet16 (b1.Kind == 3) (Option.some.inj h)
    ·replace h := condF hc18 h
     refine Run.reg ?_
     refine X.bi ?_
     refine X.an ?_
     exact R.mt hmeet16 (b1.Kind == 4) (Option.some.inj h)
   rintro p19 rfl
   refine R.cd (fun hc20 => ?_) (fun hc20 => ?_)
   ·replace h := condT hc20 h
    refine Run.seq ?_
    refine Run.draw (footOf [(1, ([192], [], [], [])), (3, ([128], [], [], [])), (5, ([192], [], [], []))]) mixed (by kernel_rfl) (by kernel_rfl) ?_
    refine X.fl fld106_2 ?_
    refine X.ld shp3 ?_
    refine X.fl fld40_1 ?_
    refine X.ld shp36 ?_
    refine X.fl fld106_1 ?_
    refine X.ld shp3 ?_
    obtain ⟨v21, hv21, h⟩ := bindE h
    refine X.ix elt36 (idxL_spec hv21).1 (idxL_map eTActivity hv21) ?_
    refine X.fieldAddr_c fld95_2 (by rfl) (by rfl) ?_
    refine X.lc shp93 ?_
    refine X.ls elt93 ?_
    refine X.subW (by rfl) (by rfl) (by rfl) ?_
    obtain ⟨v22, hv22, h⟩ := bindE h
    refine X.cp (s_l01In_pc _ _ _ _ hv22) ?_
    refine X.an ?_
    cases h
    refine R.f1 Tryz.results87 ?_
    rfl
   ·replace h := condF hc20 h
    refine Run.skip ?_
    refine Run.blk ?_
    refine Run.sr ?_
    refine X.an ?_
    cases h
    refine R.f1 Tryz.results87 ?_
    rfl
theorem s_l11Sign_pc (b0 : Int) (b1 : Int) (r : Int) (h : s_l11Sign b0 b1 = some r) : PC Tryz.prog 117 [int b0, int b1] (int r) := by
 unfold s_l11Sign at h
 refine PC.start Tryz.func117 Tryz.ntmps117 rfl ok117 rfl ?_
 refine Run.sr ?_
 refine X.an ?_
 refine Run.seq ?_
 refine Run.sr ?_
 refine X.mv ?_
 refine X.mv ?_
 refine X.bi ?_
 refine X.nil ?_
 refine R.cd (fun hc1 => ?_) (fun hc1 => ?_)
 ·replace h := condT hc1 h
  refine Run.sr ?_
  refine X.an ?_
  cases h
  refine R.f1 Tryz.results117 ?_
  rfl
 ·replace h := condF hc1 h
  refine Run.skip ?_
  refine Run.seq ?_
  refine Run.sr ?_
  refine X.mv ?_
  refine X.mv ?_
  refine X.bi ?_
  refine X.nil ?_
  refine R.cd (fun hc2 => ?_) (fun hc2 => ?_)
  ·replace h := condT hc2 h
   refine Run.sr ?_
   refine X.an ?_
   cases h
   refine R.f1 Tryz.results117 ?_
   rfl
  ·replace h := condF hc2 h
   refine Run.skip ?_
   refine Run.sr ?_
   refine X.an ?_
   cases h
   refine R.f1 Tryz.results117 ?_
   rfl
theorem s_CompareLiterals_pc (b0 : TLiteral) (b1 : TLiteral) (r : Int) (h : s_CompareLiterals b0 b1 = some r) : PC Tryz.prog 88 [eTLiteral b0, eTLiteral b1] (int r) := by
 unfold s_CompareLiterals at h
 refine PC.start Tryz.func88 Tryz.ntmps88 rfl ok88 rfl ?_
 refine Run.sr ?_
 refine X.bx ?_
 refine X.bx ?_
 refine X.an ?_
 refine Run.seq ?_
 refine Run.sr ?_
 refine X.fl fld106_1 ?_
 refine X.ld shp3 ?_
 refine X.fl fld106_1 ?_
 refine X.ld shp3 ?_
 refine X.bi ?_
 refine X.nil ?_
 refine R.cd (fun hc1 => ?_) (fun hc1 => ?_)
 ·replace h := condT hc1 h
  refine Run.sr ?_
  refine X.fl fld106_1 ?_
  refine X.ld shp3 ?_
  refine X.fl fld106_1 ?_
  refine X.ld shp3 ?_
  obtain ⟨v2, hv2, h⟩ := bindE h
  refine X.cp (s_l11Sign_pc _ _ _ hv2) ?_
  refine X.an ?_
  cases h
  refine R.f1 Tryz.results88 ?_
  rfl
 ·replace h := condF hc1 h
  refine Run.skip ?_
  refine Run.seq ?_
  refine Run.sr ?_
  refine X.fl fld106_0 ?_
  refine X.ld shp3 ?_
  refine X.fl fld106_0 ?_
  refine X.ld shp3 ?_
  refine X.bi ?_
  refine X.nil ?_
  refine R.cd (fun hc3 => ?_) (fun hc3 => ?_)
  ·replace h := condT hc3 h
   refine Run.sr ?_
   refine X.fl fld106_0 ?_
   refine X.ld shp3 ?_
   refine X.fl fld106_0 ?_
   refine X.ld shp3 ?_
   obtain ⟨v4, hv4, h⟩ := bindE h
   refine X.cp (s_l11Sign_pc _ _ _ hv4) ?_
   refine X.an ?_
   cases h
   refine R.f1 Tryz.results88 ?_
   rfl
  ·replace h := condF hc3 h
   refine Run.skip ?_
   refine Run.sr ?_
   refine X.fl fld106_2 ?_
   refine X.ld shp3 ?_
   refine X.fl fld106_2 ?_
   refine X.ld shp3 ?_
   obtain ⟨v5, hv5, h⟩ := bindE h
   refine X.cp (s_l11Sign_pc _ _ _ hv5) ?_
   refine X.an ?_
   cases h
   refine R.f1 Tryz.results88 ?_
   rfl
theorem s_ClauseOk_pc (b0 : TProject) (b1 : List TLiteral) (r : Bool) (h : s_ClauseOk b0 b1 = some r) : PC Tryz.prog 49 [eTProject b0, .slice (b1.map eTLiteral)] (bool r) := by
 unfold s_ClauseOk at h
 refine PC.start Tryz.func49 Tryz.ntmps49 rfl ok49 rfl ?_
 refine Run.sr ?_
 refine X.bx ?_
 refine X.an ?_
 refine Run.seq ?_
 refine Run.sr ?_
 refine X.mv ?_
 refine X.ls elt43 ?_
 refine X.mn ?_
 obtain ⟨o1, ho1, h⟩ := bindE h
 refine R.join2 (β := Unit) [(1, .slice (b1.map eTLiteral))] [] (fun p19 S => S) (fun p19 M => M) (fun p19 => (Sum.inl p19) = o1) ?_ ?_
 ·intro JJ4 hmeet3
  have hup2 := h; clear h; have h := ho1; clear ho1
  refine Run.block ?_
  refine R.bndS (t := 1) (by rfl) (fun hbd7 => ?_)
  replace hbd7 : b1.length ≤ 9223372036854775807 := by first | (rw [List.length_map] at hbd7; exact hbd7) | simp
  refine R.lp (β := Int) [(1, .slice (b1.map eTLiteral)), (2, .lptr 128 0), (7, .slice (b1.map eTLiteral)), (8, int (b1.length : Int))] [(128, .blk true [int b0.Deadline, .slice (b0.Activities.map eTActivity), .slice (b0.Links.map eTLink), .slice (b0.Resources.map eTResource), .slice (b0.Stocks.map int)])] (fun bb S => (9, int bb) :: S) (fun bb M => M) (fun n bb => 0 ≤ bb ∧ bb + n = (b1.length : Int) ∧ s_ClauseOk_L1 b0 b1 (b1.drop bb.toNat) bb = some o1) b1.length (0 : Int) ⟨Int.le_refl _, by simp, h⟩ ?_
  clear h
  rintro JJ7 n7 z8 hag7 ⟨hza7, hzb7, h⟩
  refine Run.sr ?_
  refine X.bi ?_
  refine X.nil ?_
  refine Run.seq ?_
  refine R.cd (fun hc11 => ?_) (fun hc11 => ?_)
  ·obtain ⟨x9, xs10, hd7, hx7, hds7, hlt7⟩ := drop_atI hza7 hc11
   rw [hd7] at h
   rw [s_ClauseOk_L1] at h
   refine Run.skip ?_
   refine Run.seq ?_
   refine Run.block ?_
   refine Run.sr ?_
   refine X.mv ?_
   refine X.ix elt43 (idxL_spec hx7).1 (idxL_map eTLiteral hx7) ?_
   refine X.lc shp106 ?_
   refine X.alloc zer106 (by rfl) (by rfl) (by rfl) ?_
   refine X.as ?_
   refine X.sl shp106 ?_
   refine X.nil ?_
   refine Run.seq ?_
   obtain ⟨v12, hv12, h⟩ := bindE h
   obtain ⟨e13, he13, h2⟩ := bindE h
   refine R.drawG [(1, .slice (b1.map eTLiteral)), (2, .lptr 128 0), (7, .slice (b1.map eTLiteral)), (8, int (b1.length : Int)), (9, int z8), (31, bool e13)] [(128, .blk true [int b0.Deadline, .slice (b0.Activities.map eTActivity), .slice (b0.Links.map eTLink), .slice (b0.Resources.map eTResource), .slice (b0.Stocks.map int)])] (footOf [(0, ([128], [], [], [])), (1, ([384], [], [], [])), (13, ([384], [], [], []))]) mixed (by kernel_rfl) (by kernel_rfl) ?_ ?_
   ·clear h; have h := he13; clear he13 h2
    refine X.ld shp40 ?_
    refine X.ld shp106 ?_
    refine X.cp (s_LiteralOk_pc _ _ _ hv12) ?_
    refine X.un (by rfl) (by rfl) (by rfl) ?_
    refine X.mv ?_
    refine X.iG (fun hb14 => ?_) (fun hb14 => ?_)
    ·replace h := condF hb14 h
     refine X.mv ?_
     refine X.gy ?_
     refine X.bi ?_
     refine X.gy ?_
     refine X.mv ?_
     refine X.iG (fun hb15 => ?_) (fun hb15 => ?_)
     ·replace h := condT hb15 h
      refine X.mv ?_
      refine X.gy ?_
      refine X.mv ?_
      refine X.gy ?_
      refine X.sub (by rfl) (by rfl) (by omega) (by rfl) ?_
      refine X.gy ?_
      obtain ⟨v16, hv16, h⟩ := bindE h
      refine X.ix elt43 (idxL_spec hv16).1 (idxL_map eTLiteral hv16) ?_
      refine X.gy ?_
      refine X.lc shp106 ?_
      refine X.gy ?_
      refine X.ld shp106 ?_
      refine X.gy ?_
      obtain ⟨v17, hv17, h⟩ := bindE h
      refine X.cp (s_CompareLiterals_pc _ _ _ hv17) ?_
      refine X.gy ?_
      refine X.bi ?_
      refine X.gy ?_
      refine X.pT ?_
      refine X.pF ?_
      cases h
      exact X.eG
     ·replace h := condF hb15 h
      refine X.gn ?_
      refine X.gn ?_
      refine X.gn ?_
      refine X.gn ?_
      refine X.gn ?_
      refine X.gn ?_
      refine X.gn ?_
      refine X.gy ?_
      refine X.pF ?_
      refine X.pF ?_
      cases h
      exact X.eG
    ·replace h := condT hb14 h
     refine X.gn ?_
     refine X.gn ?_
     refine X.gU (by rfl) (by rfl) (by rfl) ?_
     refine X.gU (by rfl) (by rfl) (by rfl) ?_
     refine X.gU (by rfl) (by rfl) (by rfl) ?_
     refine X.gU (by rfl) (by rfl) (by rfl) ?_
     refine X.gU (by rfl) (by rfl) (by rfl) ?_
     refine X.gU (by rfl) (by rfl) (by rfl) ?_
     refine X.gU (by rfl) (by rfl) (by rfl) ?_
     refine X.gU (by rfl) (by rfl) (by rfl) ?_
     refine X.gn ?_
     refine X.pT ?_
     cases h
     exact X.eG
   replace h := h2; clear h2
   refine R.cd (fun hc18 => ?_) (fun hc18 => ?_)
   ·replace h := condT hc18 h
    refine Run.sr ?_
    refine X.an ?_
    cases h
    have h := hup2
    replace h := elimR h
    cases h
    refine R.f1 Tryz.results49 ?_
    rfl
   ·replace h := condF hc18 h
    refine Run.skip ?_
    refine Run.blk ?_
    refine Run.reg ?_
    refine X.ad ?_
    refine X.mn ?_
    exact R.ag hag7 (n7 - 1) (z8 + 1) (R.n3 (by first | (rw [hds7]; exact h) | (dsimp only; rw [hds7]; exact h)))
  ·rw [drop_endI hza7 hc11] at h
   rw [s_ClauseOk_L1] at h
   refine Run.exit (by rfl) ?_
   exact R.mt hmeet3 () (Option.some.inj h)
 rintro p19 rfl
 replace h := elimL h
 refine Run.sr ?_
 refine X.mv ?_
 refine X.ls elt43 ?_
 refine X.bi ?_
 refine X.an ?_
 cases h
 refine R.f1 Tryz.results49 ?_
 rfl
theorem s_LineOk_pc (b0 : TProject) (b1 : TLine) (r : Bool) (h : s_LineOk b0 b1 = some r) : PC Tryz.prog 23 [eTProject b0, eTLine b1] (bool r) := by
 unfold s_LineOk at h
 refine PC.start Tryz.func23 Tryz.ntmps23 rfl ok23 rfl ?_
 refine Run.sr ?_
 refine X.bx ?_
 refine X.bx ?_
 refine X.an ?_
 refine Run.seq ?_
 obtain ⟨v1, hv1, h⟩ := bindE h
 obtain ⟨e2, he2, h2⟩ := bindE h
 refine R.regG [(4, bool e2)] [] ?_ ?_
 ·clear h; have h := he2; clear he2 h2
  refine X.ld shp40 ?_
  refine X.fl fld45_2 ?_
  refine X.ld shp43 ?_
  refine X.cp (s_ClauseOk_pc _ _ _ hv1) ?_
  refine X.mv ?_
  refine X.iG (fun hb3 => ?_) (fun hb3 => ?_)
  ·replace h := condT hb3 h
   refine X.fl fld45_0 ?_
   refine X.gy ?_
   refine X.ld shp3 ?_
   refine X.gy ?_
   refine X.bi ?_
   refine X.gy ?_
   refine X.mv ?_
   refine X.iG (fun hb4 => ?_) (fun hb4 => ?_)
   ·replace h := condF hb4 h
    refine X.fl fld45_0 ?_
    refine X.gy ?_
    refine X.ld shp3 ?_
    refine X.gy ?_
    refine X.bi ?_
    refine X.gy ?_
    refine X.mv ?_
    refine X.iG (fun hb5 => ?_) (fun hb5 => ?_)
    ·replace h := condT hb5 h
     refine X.fl fld45_1 ?_
     refine X.gy ?_
     refine X.ld shp42 ?_
     refine X.gy ?_
     refine X.build zer42 pl42 (by rfl) (by rfl) (by repeat (first | trivial | refine ⟨by first | rfl | simp [setL], ?_⟩)) (by rfl) (by rfl) (by rfl) ?_
     refine X.gy ?_
     refine X.eqlAgg flat42 (by rfl) (by rfl) (by rfl) (by rfl) ?_
     refine X.gy ?_
     refine X.pT ?_
     refine X.gy ?_
     refine X.pF ?_
     refine X.pT ?_
     refine X.as ?_
     cases h
     exact X.eG
    ·replace h := condF hb5 h
     refine X.gn ?_
     refine X.gn ?_
     refine X.gn ?_
     refine X.gy ?_
     refine X.pF ?_
     refine X.gy ?_
     refine X.pF ?_
     refine X.pT ?_
     refine X.as ?_
     cases h
     exact X.eG
   ·replace h := condT hb4 h
    refine X.gn ?_
    refine X.gn ?_
    refine X.gn ?_
    refine X.gU (by rfl) (by rfl) (by rfl) ?_
    refine X.gU (by rfl) (by rfl) (by rfl) ?_
    refine X.gU (by rfl) (by rfl) (by rfl) ?_
    refine X.gU (by rfl) (by rfl) (by rfl) ?_
    refine X.gn ?_
    refine X.gy ?_
    refine X.pT ?_
    refine X.pT ?_
    refine X.as ?_
    cases h
    exact X.eG
  ·replace h := condF hb3 h
   refine X.gn ?_
   refine X.gn ?_
   refine X.gn ?_
   refine X.gU (by rfl) (by rfl) (by rfl) ?_
   refine X.gU (by rfl) (by rfl) (by rfl) ?_
   refine X.gU (by rfl) (by rfl) (by rfl) ?_
   refine X.gU (by rfl) (by rfl) (by rfl) ?_
   refine X.gU (by rfl) (by rfl) (by rfl) ?_
   refine X.gU (by rfl) (by rfl) (by rfl) ?_
   refine X.gU (by rfl) (by rfl) (by rfl) ?_
   refine X.gU (by rfl) (by rfl) (by rfl) ?_
   refine X.gU (by rfl) (by rfl) (by rfl) ?_
   refine X.gn ?_
   refine X.pF ?_
   refine X.as ?_
   cases h
   exact X.eG
 replace h := h2; clear h2
 cases h
 refine R.f1 Tryz.results23 ?_
 rfl
theorem s_LiteralSign_pc (b0 : Int) (r : ByteArray) (h : s_LiteralSign b0 = some r) : PC Tryz.prog 92 [int b0] (str r) := by
 unfold s_LiteralSign at h
 refine PC.start Tryz.func92 Tryz.ntmps92 rfl ok92 rfl ?_
 refine Run.sr ?_
 refine X.an ?_
 refine Run.seq ?_
 refine Run.sr ?_
 refine X.mv ?_
 obtain ⟨v1, hv1, h⟩ := bindE h
 refine X.cp (s_l01In_pc _ _ _ _ hv1) ?_
 refine X.un (by rfl) (by rfl) (by rfl) ?_
 refine X.nil ?_
 refine R.cd (fun hc2 => ?_) (fun hc2 => ?_)
 ·replace h := condT hc2 h
  refine Run.sr ?_
  refine X.an ?_
  cases h
  refine R.f1 Tryz.results92 ?_
  rfl
 ·replace h := condF hc2 h
  refine Run.skip ?_
  refine Run.sr ?_
  refine X.buildSlice false elt104 zer9 (by rfl) (by rfl) (by rfl) (by rfl) (by rfl) (by rfl) (by repeat (first | trivial | refine ⟨by first | rfl | simp [setL], ?_⟩)) (allSz_spec (by rfl)) (by rfl) (by rfl) (by rfl) ?_
  refine X.mv ?_
  obtain ⟨v3, hv3, h⟩ := bindE h
  refine X.index_o elt104 (by rfl) (by rfl) (by first | rfl | simp [setL] | omega) (by rfl) (idxL_spec hv3).1 (idxL_map str hv3) (by rfl) (by rfl) (by rfl) ?_
  refine X.lc shp9 ?_
  refine X.an ?_
  cases h
  refine R.f1 Tryz.results92 ?_
  rfl
theorem s_FormatInt_S_pc (rec : Int → Option ByteArray) (hrec : ∀ (b0 : Int) (r : ByteArray), rec b0 = some r → PC Tryz.prog 57 [int b0] (str r)) (b0 : Int) (r : ByteArray) (h : s_FormatInt_S rec b0 = some r) : PC Tryz.prog 57 [int b0] (str r) := by
 unfold s_FormatInt_S at h
 refine PC.start Tryz.func57 Tryz.ntmps57 rfl ok57 rfl ?_
 refine Run.sr ?_
 refine X.an ?_
 refine Run.seq ?_
 refine Run.sr ?_
 refine X.mv ?_
 obtain ⟨v1, hv1, h⟩ := bindE h
 refine X.cp (s_l01In_pc _ _ _ _ hv1) ?_
 refine X.un (by rfl) (by rfl) (by rfl) ?_
 refine X.nil ?_
 refine R.cd (fun hc2 => ?_) (fun hc2 => ?_)
 ·replace h := condT hc2 h
  refine Run.sr ?_
  refine X.an ?_
  cases h
  refine R.f1 Tryz.results57 ?_
  rfl
 ·replace h := condF hc2 h
  refine Run.skip ?_
  refine Run.seq ?_
  refine Run.sr ?_
  refine X.mv ?_
  refine X.bi ?_
  refine X.nil ?_
  refine R.cd (fun hc3 => ?_) (fun hc3 => ?_)
  ·replace h := condT hc3 h
   refine Run.sr ?_
   refine X.mv ?_
   refine X.un (by rfl) (by rfl) (by rfl) ?_
   obtain ⟨v4, hv4, h⟩ := bindE h
   refine X.cp (hrec _ _ hv4) ?_
   obtain ⟨v5, hv5, h⟩ := bindE h
   refine X.cat2 hv5 (by rfl) (by rfl) (by rfl) ?_
   refine X.an ?_
   cases h
   refine R.f1 Tryz.results57 ?_
   rfl
  ·replace h := condF hc3 h
   refine Run.skip ?_
   refine Run.sr ?_
   refine X.an ?_
   refine Run.seq ?_
   obtain ⟨o6, ho6, h⟩ := bindE h
   refine R.join2 (β := Int × ByteArray) [] [] (fun p17 S => (0, int p17.1) :: (3, str p17.2) :: S) (fun p17 M => M) (fun p17 => p17 = o6) ?_ ?_
   ·intro JJ9 hmeet8
    have hup7 := h; clear h; have h := ho6; clear ho6
    refine Run.block ?_
    refine R.lp (β := Int × ByteArray) [] [] (fun bb S => (0, int bb.1) :: (3, str bb.2) :: S) (fun bb M => M) (fun n bb => s_FormatInt_L1 n bb.1 bb.2 = some o6) F0 (b0, ByteArray.empty) h ?_
    clear h
    rintro JJ9 n9 ⟨a11, a12⟩ hag9 h
    dsimp only at h
    obtain _ | n9 := n9
    ·exact absurd h (by simp [s_FormatInt_L1])
    rw [s_FormatInt_L1] at h
    refine Run.seq ?_
    refine Run.sr ?_
    refine X.mv ?_
    refine X.bi ?_
    refine X.nil ?_
    refine R.cd (fun hc15 => ?_) (fun hc15 => ?_)
    ·replace h := condT hc15 h
     refine Run.skip ?_
     refine Run.block ?_
     refine Run.sr ?_
     refine X.mv ?_
     refine X.bi ?_
     refine X.addW (by rfl) (by rfl) (by rfl) ?_
     refine X.conv Tryz.underlying5 (by rw [Tryz.underlying3]; rfl) (by rfl) (by rfl) ?_
     refine X.buildSlice false elt109 zer5 (by rfl) (by rfl) (by rfl) (by rfl) (by rfl) (by rfl) (by repeat (first | trivial | refine ⟨by first | rfl | simp [setL], ?_⟩)) (allSz_spec (by rfl)) (by rfl) (by rfl) (by rfl) ?_
     refine X.convBS ([(IntKind.u8.wrap (W (48 + (a11.tmod 10))))] : List Int) Tryz.underlying109 Tryz.underlying5 Tryz.underlying9 (by rfl) (.own _ _ _ _ _ _ (look_mem (by rfl)) (by first | rfl | simp [setL] | omega)) (by rfl) (by rfl) (by rfl) ?_
     refine X.mv ?_
     obtain ⟨v16, hv16, h⟩ := bindE h
     refine X.cat2 hv16 (by rfl) (by rfl) (by rfl) ?_
     refine X.an ?_
     refine Run.reg ?_
     refine X.mv ?_
     refine X.bi ?_
     refine X.an ?_
     refine Run.blk ?_
     exact hag9 n9 ((W (a11.tdiv 10)), v16) _ _ (by omega) h (by repeat (first | trivial | refine ⟨by first | rfl | simp [setL], ?_⟩)) (by repeat (first | trivial | refine ⟨by first | rfl | simp [setL], ?_⟩)) (by rfl) (by rfl)
    ·replace h := condF hc15 h
     refine Run.exit (by rfl) ?_
     exact R.mt hmeet8 (a11, a12) (Option.some.inj h)
   rintro p17 rfl
   refine Run.sr ?_
   refine X.mv ?_
   refine X.addW (by rfl) (by rfl) (by rfl) ?_
   refine X.conv Tryz.underlying5 (by rw [Tryz.underlying3]; rfl) (by rfl) (by rfl) ?_
   refine X.buildSlice false elt109 zer5 (by rfl) (by rfl) (by rfl) (by rfl) (by rfl) (by rfl) (by repeat (first | trivial | refine ⟨by first | rfl | simp [setL], ?_⟩)) (allSz_spec (by rfl)) (by rfl) (by rfl) (by rfl) ?_
   refine X.convBS ([(IntKind.u8.wrap (W (48 + p17.1)))] : List Int) Tryz.underlying109 Tryz.underlying5 Tryz.underlying9 (by rfl) (.own _ _ _ _ _ _ (look_mem (by rfl)) (by first | rfl | simp [setL] | omega)) (by rfl) (by rfl) (by rfl) ?_
   refine X.mv ?_
   obtain ⟨v18, hv18, h⟩ := bindE h
   refine X.cat2 hv18 (by rfl) (by rfl) (by rfl) ?_
   refine X.an ?_
   cases h
   refine R.f1 Tryz.results57 ?_
   rfl
theorem s_FormatInt_pc (b0 : Int) (r : ByteArray) (h : s_FormatInt b0 = some r) : PC Tryz.prog 57 [int b0] (str r) := by
 have key : ∀ (n : Nat) (b0 : Int) (r : ByteArray), s_FormatInt_R n b0 = some r → PC Tryz.prog 57 [int b0] (str r) := by
  intro n
  induction n with
  | zero => intro b0 r h; cases h
  | succ n ih => intro b0 r h; exact s_FormatInt_S_pc (s_FormatInt_R n) ih b0 r h
 exact key F0 b0 r h
theorem s_FormatLiteral_pc (b0 : TProject) (b1 : TLiteral) (r : ByteArray) (h : s_FormatLiteral b0 b1 = some r) : PC Tryz.prog 54 [eTProject b0, eTLiteral b1] (str r) := by
 unfold s_FormatLiteral at h
 refine PC.start Tryz.func54 Tryz.ntmps54 rfl ok54 rfl ?_
 refine Run.sr ?_
 refine X.bx ?_
 refine X.bx ?_
 refine X.an ?_
 refine Run.seq ?_
 refine Run.sr ?_
 refine X.ld shp40 ?_
 refine X.ld shp106 ?_
 obtain ⟨v1, hv1, h⟩ := bindE h
 refine X.cp (s_LiteralOk_pc _ _ _ hv1) ?_
 refine X.un (by rfl) (by rfl) (by rfl) ?_
 refine X.nil ?_
 refine R.cd (fun hc2 => ?_) (fun hc2 => ?_)
 ·replace h := condT hc2 h
  refine Run.sr ?_
  refine X.an ?_
  cases h
  refine R.f1 Tryz.results54 ?_
  rfl
 ·replace h := condF hc2 h
  refine Run.skip ?_
  refine Run.seq ?_
  refine Run.draw (footOf [(1, ([128], [], [], [])), (3, ([192], [], [], [])), (8, ([192], [], [], [])), (12, ([192], [], [], []))]) mixed (by kernel_rfl) (by kernel_rfl) ?_
  refine X.fl fld40_1 ?_
  refine X.ld shp36 ?_
  refine X.fl fld106_1 ?_
  refine X.ld shp3 ?_
  obtain ⟨v3, hv3, h⟩ := bindE h
  refine X.ix elt36 (idxL_spec hv3).1 (idxL_map eTActivity hv3) ?_
  refine X.fieldAddr_c fld95_0 (by rfl) (by rfl) ?_
  refine X.lc shp9 ?_
  refine X.fl fld106_0 ?_
  refine X.ld shp3 ?_
  obtain ⟨v4, hv4, h⟩ := bindE h
  refine X.cp (s_LiteralSign_pc _ _ hv4) ?_
  obtain ⟨v5, hv5, h⟩ := bindE h
  refine X.cat2 hv5 (by rfl) (by rfl) (by rfl) ?_
  refine X.fl fld106_2 ?_
  refine X.ld shp3 ?_
  obtain ⟨v6, hv6, h⟩ := bindE h
  refine X.cp (s_FormatInt_pc _ _ hv6) ?_
  obtain ⟨v7, hv7, h⟩ := bindE h
  refine X.cat2 hv7 (by rfl) (by rfl) (by rfl) ?_
  refine X.an ?_
  cases h
  refine R.f1 Tryz.results54 ?_
  rfl
theorem s_Join_pc (b0 : List ByteArray) (b1 : ByteArray) (r : ByteArray) (h : s_Join b0 b1 = some r) : PC Tryz.prog 55 [.slice (b0.map str), str b1] (str r) := by
 unfold s_Join at h
 refine PC.start Tryz.func55 Tryz.ntmps55 rfl ok55 rfl ?_
 refine Run.sr ?_
 refine X.an ?_
 refine Run.sr ?_
 refine X.an ?_
 refine Run.seq ?_
 refine Run.sr ?_
 refine X.mv ?_
 refine X.ls elt104 ?_
 refine X.mn ?_
 obtain ⟨o1, ho1, h⟩ := bindE h
 refine R.join2 (β := ByteArray) [] [] (fun p17 S => (5, str p17) :: S) (fun p17 M => M) (fun p17 => p17 = o1) ?_ ?_
 ·intro JJ4 hmeet3
  have hup2 := h; clear h; have h := ho1; clear ho1
  refine Run.block ?_
  refine R.bndS (t := 0) (by rfl) (fun hbd7 => ?_)
  replace hbd7 : b0.length ≤ 9223372036854775807 := by first | (rw [List.length_map] at hbd7; exact hbd7) | simp
  refine R.lp (β := Int × ByteArray) [(1, str b1), (8, .slice (b0.map str)), (9, int (b0.length : Int))] [] (fun bb S => (5, str bb.2) :: (10, int bb.1) :: S) (fun bb M => M) (fun n bb => 0 ≤ bb.1 ∧ bb.1 + n = (b0.length : Int) ∧ s_Join_L1 b1 (b0.drop bb.1.toNat) bb.1 bb.2 = some o1) b0.length (0, ByteArray.empty) ⟨Int.le_refl _, by simp, h⟩ ?_
  clear h
  rintro JJ7 n7 ⟨z8, a9⟩ hag7 ⟨hza7, hzb7, h⟩
  dsimp only at hza7 hzb7 h
  refine Run.sr ?_
  refine X.bi ?_
  refine X.nil ?_
  refine Run.seq ?_
  refine R.cd (fun hc12 => ?_) (fun hc12 => ?_)
  ·obtain ⟨x10, xs11, hd7, hx7, hds7, hlt7⟩ := drop_atI hza7 hc12
   rw [hd7] at h
   rw [s_Join_L1] at h
   refine Run.skip ?_
   refine Run.seq ?_
   refine Run.block ?_
   refine Run.sr ?_
   refine X.mv ?_
   refine X.ix elt104 (idxL_spec hx7).1 (idxL_map str hx7) ?_
   refine X.lc shp9 ?_
   refine X.as ?_
   refine X.an ?_
   refine Run.seq ?_
   refine Run.sr ?_
   refine X.mv ?_
   refine X.bi ?_
   refine X.nil ?_
   refine R.cd (fun hc13 => ?_) (fun hc13 => ?_)
   ·replace h := condT hc13 h
    refine Run.reg ?_
    refine X.mv ?_
    refine X.mv ?_
    obtain ⟨v14, hv14, h⟩ := bindE h
    refine X.cat2 hv14 (by rfl) (by rfl) (by rfl) ?_
    refine X.an ?_
    refine Run.reg ?_
    refine X.mv ?_
    refine X.mv ?_
    obtain ⟨v15, hv15, h⟩ := bindE h
    refine X.cat2 hv15 (by rfl) (by rfl) (by rfl) ?_
    refine X.an ?_
    refine Run.blk ?_
    refine Run.reg ?_
    refine X.ad ?_
    refine X.mn ?_
    exact R.ag hag7 (n7 - 1) (z8 + 1, v15) (R.n3 (by first | (rw [hds7]; exact h) | (dsimp only; rw [hds7]; exact h)))
   ·replace h := condF hc13 h
    refine Run.skip ?_
    refine Run.reg ?_
    refine X.mv ?_
    refine X.mv ?_
    obtain ⟨v16, hv16, h⟩ := bindE h
    refine X.cat2 hv16 (by rfl) (by rfl) (by rfl) ?_
    refine X.an ?_
    refine Run.blk ?_
    refine Run.reg ?_
    refine X.ad ?_
    refine X.mn ?_
    exact R.ag hag7 (n7 - 1) (z8 + 1, v16) (R.n3 (by first | (rw [hds7]; exact h) | (dsimp only; rw [hds7]; exact h)))
  ·rw [drop_endI hza7 hc12] at h
   rw [s_Join_L1] at h
   refine Run.exit (by rfl) ?_
   exact R.mt hmeet3 a9 (Option.some.inj h)
 rintro p17 rfl
 refine Run.sr ?_
 refine X.mv ?_
 refine X.an ?_
 cases h
 refine R.f1 Tryz.results55 ?_
 rfl
theorem s_FormatClause_pc (b0 : TProject) (b1 : List TLiteral) (r : ByteArray) (h : s_FormatClause b0 b1 = some r) : PC Tryz.prog 25 [eTProject b0, .slice (b1.map eTLiteral)] (str r) := by
 unfold s_FormatClause at h
 refine PC.start Tryz.func25 Tryz.ntmps25 rfl ok25 rfl ?_
 refine Run.sr ?_
 refine X.bx ?_
 refine X.an ?_
 refine Run.seq ?_
 refine Run.sr ?_
 refine X.ld shp40 ?_
 refine X.mv ?_
 obtain ⟨v1, hv1, h⟩ := bindE h
 refine X.cp (s_ClauseOk_pc _ _ _ hv1) ?_
 refine X.un (by rfl) (by rfl) (by rfl) ?_
 refine X.nil ?_
 refine R.cd (fun hc2 => ?_) (fun hc2 => ?_)
 ·replace h := condT hc2 h
  refine Run.sr ?_
  refine X.an ?_
  cases h
  refine R.f1 Tryz.results25 ?_
  rfl
 ·replace h := condF hc2 h
  refine Run.skip ?_
  refine Run.sr ?_
  refine X.buildSlice false elt104 zer9 (by rfl) (by rfl) (by rfl) (by rfl) (by rfl) (by rfl) (by repeat (first | trivial | refine ⟨by first | rfl | simp [setL], ?_⟩)) (allSz_spec (by rfl)) (by rfl) (by rfl) (by rfl) ?_
  refine X.an ?_
  refine Run.seq ?_
  refine Run.sr ?_
  refine X.mv ?_
  refine X.ls elt43 ?_
  refine X.mn ?_
  obtain ⟨o3, ho3, h⟩ := bindE h
  refine R.join2 (β := (List ByteArray)) [] [] (fun p17 S => (5, .own 768 (p17.map str).length) :: S) (fun p17 M => (768, .obj false 9 1 (p17.map str)) :: M) (fun p17 => p17 = o3) ?_ ?_
  ·intro JJ6 hmeet5
   have hup4 := h; clear h; have h := ho3; clear ho3
   refine Run.block ?_
   refine R.bndS (t := 1) (by rfl) (fun hbd9 => ?_)
   replace hbd9 : b1.length ≤ 9223372036854775807 := by first | (rw [List.length_map] at hbd9; exact hbd9) | simp
   refine R.lp (β := Int × (List ByteArray)) [(2, .lptr 128 0), (13, .slice (b1.map eTLiteral)), (14, int (b1.length : Int))] [(128, .blk true [int b0.Deadline, .slice (b0.Activities.map eTActivity), .slice (b0.Links.map eTLink), .slice (b0.Resources.map eTResource), .slice (b0.Stocks.map int)])] (fun bb S => (5, .own 768 (bb.2.map str).length) :: (15, int bb.1) :: S) (fun bb M => (768, .obj false 9 1 (bb.2.map str)) :: M) (fun n bb => 0 ≤ bb.1 ∧ bb.1 + n = (b1.length : Int) ∧ s_FormatClause_L1 b0 (b1.drop bb.1.toNat) bb.1 bb.2 = some o3) b1.length (0, ([] : List ByteArray)) ⟨Int.le_refl _, by simp, h⟩ ?_
   clear h
   rintro JJ9 n9 ⟨z10, a11⟩ hag9 ⟨hza9, hzb9, h⟩
   dsimp only at hza9 hzb9 h
   refine Run.sr ?_
   refine X.bi ?_
   refine X.nil ?_
   refine Run.seq ?_
   refine R.cd (fun hc14 => ?_) (fun hc14 => ?_)
   ·obtain ⟨x12, xs13, hd9, hx9, hds9, hlt9⟩ := drop_atI hza9 hc14
    rw [hd9] at h
    rw [s_FormatClause_L1] at h
    refine Run.skip ?_
    refine Run.seq ?_
    refine Run.block ?_
    refine Run.sr ?_
    refine X.ix elt43 (idxL_spec hx9).1 (idxL_map eTLiteral hx9) ?_
    refine X.lc shp106 ?_
    refine X.alloc zer106 (by rfl) (by rfl) (by rfl) ?_
    refine X.sl shp106 ?_
    refine X.nil ?_
    refine Run.reg ?_
    refine X.mv ?_
    refine X.ld shp40 ?_
    refine X.ld shp106 ?_
    obtain ⟨v15, hv15, h⟩ := bindE h
    refine X.cp (s_FormatLiteral_pc _ _ _ hv15) ?_
    refine X.buildSlice false elt104 zer9 (by rfl) (by rfl) (by rfl) (by rfl) (by rfl) (by rfl) (by repeat (first | trivial | refine ⟨by first | rfl | simp [setL], ?_⟩)) (allSz_spec (by rfl)) (by rfl) (by rfl) (by rfl) ?_
    obtain ⟨v16, hv16, h⟩ := bindE h
    refine X.append elt104 zer9 (by rfl) (by rfl) (by first | rfl | simp [setL] | omega) (by rfl) (.own _ _ _ _ _ _ (look_mem (by rfl)) (by first | rfl | simp [setL] | omega)) (allSz_spec (by rfl)) (appL_len str hv16) (appL_map str hv16) (by rfl) (by rfl) (by rfl) (by rfl) ?_
    refine X.an ?_
    refine Run.blk ?_
    refine Run.reg ?_
    refine X.ad ?_
    refine X.mn ?_
    exact R.ag hag9 (n9 - 1) (z10 + 1, v16) (R.n3 (by first | (rw [hds9]; exact h) | (dsimp only; rw [hds9]; exact h)))
   ·rw [drop_endI hza9 hc14] at h
    rw [s_FormatClause_L1] at h
    refine Run.exit (by rfl) ?_
    exact R.mt hmeet5 a11 (Option.some.inj h)
  rintro p17 rfl
  refine Run.seq ?_
  refine Run.sr ?_
  refine X.mv ?_
  refine X.len_o elt104 (by rfl) (by rfl) (by first | rfl | simp [setL] | omega) (by first | exact List.length_map .. | rfl) (by rfl) (by rfl) ?_
  refine X.bi ?_
  refine X.nil ?_
  refine R.cd (fun hc18 => ?_) (fun hc18 => ?_)
  ·replace h := condT hc18 h
   refine Run.sr ?_
   refine X.an ?_
   cases h
   refine R.f1 Tryz.results25 ?_
   rfl
  ·replace h := condF hc18 h
   refine Run.skip ?_
   refine Run.sr ?_
   refine X.mv ?_
   obtain ⟨v19, hv19, h⟩ := bindE h
   refine X.cp (s_Join_pc _ _ _ hv19) ?_
   refine X.an ?_
   cases h
   refine R.f1 Tryz.results25 ?_
   rfl
theorem s_IsMachine_pc (b0 : TProject) (b1 : Int) (r : Bool) (h : s_IsMachine b0 b1 = some r) : PC Tryz.prog 93 [eTProject b0, int b1] (bool r) := by
 unfold s_IsMachine at h
 refine PC.start Tryz.func93 Tryz.ntmps93 rfl ok93 rfl ?_
 refine Run.sr ?_
 refine X.bx ?_
 refine X.an ?_
 refine Run.seq ?_
 obtain ⟨v1, hv1, h⟩ := bindE h
 obtain ⟨e2, he2, h2⟩ := bindE h
 refine R.regG [(4, bool e2)] [] ?_ ?_
 ·clear h; have h := he2; clear he2 h2
  refine X.mv ?_
  refine X.fl fld40_3 ?_
  refine X.ld shp38 ?_
  refine X.ls elt38 ?_
  refine X.subW (by rfl) (by rfl) (by rfl) ?_
  refine X.cp (s_l01In_pc _ _ _ _ hv1) ?_
  refine X.mv ?_
  refine X.iG (fun hb3 => ?_) (fun hb3 => ?_)
  ·replace h := condT hb3 h
   refine X.fl fld40_3 ?_
   refine X.gy ?_
   refine X.ld shp38 ?_
   refine X.gy ?_
   refine X.mv ?_
   refine X.gy ?_
   obtain ⟨v4, hv4, h⟩ := bindE h
   refine X.ix elt38 (idxL_spec hv4).1 (idxL_map eTResource hv4) ?_
   refine X.gy ?_
   refine X.fieldAddr_c fld100_1 (by rfl) (by rfl) ?_
   refine X.gy ?_
   refine X.lc shp88 ?_
   refine X.gy ?_
   refine X.ls elt88 ?_
   refine X.gy ?_
   refine X.bi ?_
   refine X.pT ?_
   refine X.as ?_
   cases h
   exact X.eG
  ·replace h := condF hb3 h
   refine X.gn ?_
   refine X.gn ?_
   refine X.gn ?_
   refine X.gn ?_
   refine X.gn ?_
   refine X.gn ?_
   refine X.gn ?_
   refine X.pF ?_
   refine X.as ?_
   cases h
   exact X.eG
 replace h := h2; clear h2
 cases h
 refine R.f1 Tryz.results93 ?_
 rfl
theorem s_RuleOk_pc (b0 : TProject) (b1 : TRule) (r : Bool) (h : s_RuleOk b0 b1 = some r) : PC Tryz.prog 56 [eTProject b0, eTRule b1] (bool r) := by
 unfold s_RuleOk at h
 refine PC.start Tryz.func56 Tryz.ntmps56 rfl ok56 rfl ?_
 refine Run.sr ?_
 refine X.bx ?_
 refine X.bx ?_
 refine X.an ?_
 refine Run.sr ?_
 refine X.fl fld40_1 ?_
 refine X.ld shp36 ?_
 refine X.ls elt36 ?_
 refine X.an ?_
 refine Run.seq ?_
 refine Run.sr ?_
 refine X.ld shp40 ?_
 obtain ⟨v1, hv1, h⟩ := bindE h
 refine X.cp (s_ProjectOk_pc _ _ hv1) ?_
 refine X.un (by rfl) (by rfl) (by rfl) ?_
 refine X.nil ?_
 refine R.cd (fun hc2 => ?_) (fun hc2 => ?_)
 ·replace h := condT hc2 h
  refine Run.sr ?_
  refine X.an ?_
  cases h
  refine R.f1 Tryz.results56 ?_
  rfl
 ·replace h := condF hc2 h
  refine Run.skip ?_
  refine Run.seq ?_
  refine Run.sr ?_
  refine X.fl fld42_0 ?_
  refine X.ld shp3 ?_
  refine X.nil ?_
  refine Run.block ?_
  refine Run.sr ?_
  refine X.bi ?_
  refine X.an ?_
  refine R.cd (fun hc3 => ?_) (fun hc3 => ?_)
  ·replace h := condT hc3 h
   refine Run.seq ?_
   obtain ⟨v4, hv4, h⟩ := bindE h
   obtain ⟨e5, he5, h2⟩ := bindE h
   refine R.regG [(4, bool e5)] [] ?_ ?_
   ·clear h; have h := he5; clear he5 h2
    refine X.fl fld42_1 ?_
    refine X.ld shp3 ?_
    refine X.fl fld40_2 ?_
    refine X.ld shp37 ?_
    refine X.ls elt37 ?_
    refine X.subW (by rfl) (by rfl) (by rfl) ?_
    refine X.cp (s_l01In_pc _ _ _ _ hv4) ?_
    refine X.mv ?_
    refine X.iG (fun hb6 => ?_) (fun hb6 => ?_)
    ·replace h := condT hb6 h
     refine X.fl fld42_2 ?_
     refine X.gy ?_
     refine X.ld shp3 ?_
     refine X.gy ?_
     refine X.bi ?_
     refine X.pT ?_
     refine X.mv ?_
     refine X.iG (fun hb7 => ?_) (fun hb7 => ?_)
     ·replace h := condT hb7 h
      refine X.fl fld42_3 ?_
      refine X.gy ?_
      refine X.ld shp3 ?_
      refine X.gy ?_
      refine X.bi ?_
      refine X.pT ?_
      refine X.as ?_
      cases h
      exact X.eG
     ·replace h := condF hb7 h
      refine X.gn ?_
      refine X.gn ?_
      refine X.pF ?_
      refine X.as ?_
      cases h
      exact X.eG
    ·replace h := condF hb6 h
     refine X.gn ?_
     refine X.gn ?_
     refine X.pF ?_
     refine X.mv ?_
     refine X.gn ?_
     refine X.gn ?_
     refine X.gn ?_
     refine X.pF ?_
     refine X.as ?_
     cases h
     exact X.eG
   replace h := h2; clear h2
   cases h
   refine R.f1 Tryz.results56 ?_
   rfl
  ·replace h := condF hc3 h
   refine Run.sr ?_
   refine X.bi ?_
   refine X.an ?_
   refine R.cd (fun hc8 => ?_) (fun hc8 => ?_)
   ·replace h := condT hc8 h
    refine Run.seq ?_
    obtain ⟨v9, hv9, h⟩ := bindE h
    obtain ⟨e10, he10, h2⟩ := bindE h
    refine R.regG [(4, bool e10)] [] ?_ ?_
    ·clear h; have h := he10; clear he10 h2
     refine X.fl fld42_1 ?_
     refine X.ld shp3 ?_
     refine X.mv ?_
     refine X.subW (by rfl) (by rfl) (by rfl) ?_
     refine X.cp (s_l01In_pc _ _ _ _ hv9) ?_
     refine X.mv ?_
     refine X.iG (fun hb11 => ?_) (fun hb11 => ?_)
     ·replace h := condT hb11 h
      refine X.fl fld42_2 ?_
      refine X.gy ?_
      refine X.ld shp3 ?_
      refine X.gy ?_
      refine X.bi ?_
      refine X.pT ?_
      refine X.mv ?_
      refine X.iG (fun hb12 => ?_) (fun hb12 => ?_)
      ·replace h := condT hb12 h
       refine X.fl fld42_3 ?_
       refine X.gy ?_
       refine X.ld shp3 ?_
       refine X.gy ?_
       refine X.bi ?_
       refine X.pT ?_
       refine X.as ?_
       cases h
       exact X.eG
      ·replace h := condF hb12 h
       refine X.gn ?_
       refine X.gn ?_
       refine X.pF ?_
       refine X.as ?_
       cases h
       exact X.eG
     ·replace h := condF hb11 h
      refine X.gn ?_
      refine X.gn ?_
      refine X.pF ?_
      refine X.mv ?_
      refine X.gn ?_
      refine X.gn ?_
      refine X.gn ?_
      refine X.pF ?_
      refine X.as ?_
      cases h
      exact X.eG
    replace h := h2; clear h2
    cases h
    refine R.f1 Tryz.results56 ?_
    rfl
   ·replace h := condF hc8 h
    refine Run.sr ?_
    refine X.bi ?_
    refine X.an ?_
    refine R.cd (fun hc13 => ?_) (fun hc13 => ?_)
    ·replace h := condT hc13 h
     refine Run.seq ?_
     obtain ⟨v14, hv14, h⟩ := bindE h
     obtain ⟨e15, he15, h2⟩ := bindE h
     refine R.regG [(4, bool e15)] [] ?_ ?_
     ·clear h; have h := he15; clear he15 h2
      refine X.fl fld42_1 ?_
      refine X.ld shp3 ?_
      refine X.fl fld40_3 ?_
      refine X.ld shp38 ?_
      refine X.ls elt38 ?_
      refine X.subW (by rfl) (by rfl) (by rfl) ?_
      refine X.cp (s_l01In_pc _ _ _ _ hv14) ?_
      refine X.mv ?_
      refine X.iG (fun hb16 => ?_) (fun hb16 => ?_)
      ·replace h := condT hb16 h
       refine X.fl fld42_2 ?_
       refine X.gy ?_
       refine X.ld shp3 ?_
       refine X.gy ?_
       obtain ⟨v17, hv17, h⟩ := bindE h
       refine X.cp (s_l01In_pc _ _ _ _ hv17) ?_
       refine X.pT ?_
       refine X.mv ?_
       refine X.iG (fun hb18 => ?_) (fun hb18 => ?_)
       ·replace h := condT hb18 h
        refine X.fl fld42_3 ?_
        refine X.gy ?_
        refine X.ld shp3 ?_
        refine X.gy ?_
        refine X.bi ?_
        refine X.pT ?_
        refine X.as ?_
        cases h
        exact X.eG
       ·replace h := condF hb18 h
        refine X.gn ?_
        refine X.gn ?_
        refine X.pF ?_
        refine X.as ?_
        cases h
        exact X.eG
      ·replace h := condF hb16 h
       refine X.gn ?_
       refine X.gn ?_
       refine X.pF ?_
       refine X.mv ?_
       refine X.gn ?_
       refine X.gn ?_
       refine X.gn ?_
       refine X.pF ?_
       refine X.as ?_
       cases h
       exact X.eG
     replace h := h2; clear h2
     cases h
     refine R.f1 Tryz.results56 ?_
     rfl
    ·replace h := condF hc13 h
     refine Run.sr ?_
     refine X.bi ?_
     refine X.an ?_
     refine R.cd (fun hc19 => ?_) (fun hc19 => ?_)
     ·replace h := condT hc19 h
      refine Run.seq ?_
      obtain ⟨v20, hv20, h⟩ := bindE h
      obtain ⟨e21, he21, h2⟩ := bindE h
      refine R.regG [(4, bool e21)] [] ?_ ?_
      ·clear h; have h := he21; clear he21 h2
       refine X.fl fld42_1 ?_
       refine X.ld shp3 ?_
       refine X.fl fld40_3 ?_
       refine X.ld shp38 ?_
       refine X.ls elt38 ?_
       refine X.subW (by rfl) (by rfl) (by rfl) ?_
       refine X.cp (s_l01In_pc _ _ _ _ hv20) ?_
       refine X.mv ?_
       refine X.iG (fun hb22 => ?_) (fun hb22 => ?_)
       ·replace h := condT hb22 h
        refine X.fl fld42_2 ?_
        refine X.gy ?_
        refine X.ld shp3 ?_
        refine X.gy ?_
        obtain ⟨v23, hv23, h⟩ := bindE h
        refine X.cp (s_l01In_pc _ _ _ _ hv23) ?_
        refine X.pT ?_
        refine X.mv ?_
        refine X.iG (fun hb24 => ?_) (fun hb24 => ?_)
        ·replace h := condT hb24 h
         refine X.fl fld42_3 ?_
         refine X.gy ?_
         refine X.ld shp3 ?_
         refine X.gy ?_
         obtain ⟨v25, hv25, h⟩ := bindE h
         refine X.cp (s_l01In_pc _ _ _ _ hv25) ?_
         refine X.pT ?_
         refine X.mv ?_
         refine X.iG (fun hb26 => ?_) (fun hb26 => ?_)
         ·replace h := condT hb26 h
          refine X.fl fld42_2 ?_
          refine X.gy ?_
          refine X.ld shp3 ?_
          refine X.gy ?_
          refine X.fl fld42_3 ?_
          refine X.gy ?_
          refine X.ld shp3 ?_
          refine X.gy ?_
          refine X.bi ?_
          refine X.pT ?_
          refine X.as ?_
          cases h
          exact X.eG
         ·replace h := condF hb26 h
          refine X.gn ?_
          refine X.gn ?_
          refine X.gn ?_
          refine X.gn ?_
          refine X.pF ?_
          refine X.as ?_
          cases h
          exact X.eG
        ·replace h := condF hb24 h
         refine X.gn ?_
         refine X.gn ?_
         refine X.pF ?_
         refine X.mv ?_
         refine X.gn ?_
         refine X.gn ?_
         refine X.gn ?_
         refine X.gn ?_
         refine X.gn ?_
         refine X.pF ?_
         refine X.as ?_
         cases h
         exact X.eG
       ·replace h := condF hb22 h
        refine X.gn ?_
        refine X.gn ?_
        refine X.pF ?_
        refine X.mv ?_
        refine X.gn ?_
        refine X.gn ?_
        refine X.gn ?_
        refine X.pF ?_
        refine X.mv ?_
        refine X.gn ?_
        refine X.gn ?_
        refine X.gn ?_
        refine X.gn ?_
        refine X.gn ?_
        refine X.pF ?_
        refine X.as ?_
        cases h
        exact X.eG
      replace h := h2; clear h2
      cases h
      refine R.f1 Tryz.results56 ?_
      rfl
     ·replace h := condF hc19 h
      refine Run.sr ?_
      refine X.bi ?_
      refine X.an ?_
      refine R.cd (fun hc27 => ?_) (fun hc27 => ?_)
      ·replace h := condT hc27 h
       refine Run.seq ?_
       obtain ⟨v28, hv28, h⟩ := bindE h
       obtain ⟨e29, he29, h2⟩ := bindE h
       refine R.regG [(4, bool e29)] [] ?_ ?_
       ·clear h; have h := he29; clear he29 h2
        refine X.ld shp40 ?_
        refine X.fl fld42_1 ?_
        refine X.ld shp3 ?_
        refine X.cp (s_IsMachine_pc _ _ _ hv28) ?_
        refine X.mv ?_
        refine X.iG (fun hb30 => ?_) (fun hb30 => ?_)
        ·replace h := condT hb30 h
         refine X.fl fld42_2 ?_
         refine X.gy ?_
         refine X.ld shp3 ?_
         refine X.gy ?_
         refine X.mv ?_
         refine X.gy ?_
         refine X.subW (by rfl) (by rfl) (by rfl) ?_
         refine X.gy ?_
         obtain ⟨v31, hv31, h⟩ := bindE h
         refine X.cp (s_l01In_pc _ _ _ _ hv31) ?_
         refine X.pT ?_
         refine X.mv ?_
         refine X.iG (fun hb32 => ?_) (fun hb32 => ?_)
         ·replace h := condT hb32 h
          refine X.fl fld42_3 ?_
          refine X.gy ?_
          refine X.ld shp3 ?_
          refine X.gy ?_
          refine X.mv ?_
          refine X.gy ?_
          refine X.subW (by rfl) (by rfl) (by rfl) ?_
          refine X.gy ?_
          obtain ⟨v33, hv33, h⟩ := bindE h
          refine X.cp (s_l01In_pc _ _ _ _ hv33) ?_
          refine X.pT ?_
          refine X.mv ?_
          refine X.iG (fun hb34 => ?_) (fun hb34 => ?_)
          ·replace h := condT hb34 h
           refine X.fl fld42_2 ?_
           refine X.gy ?_
           refine X.ld shp3 ?_
           refine X.gy ?_
           refine X.fl fld42_3 ?_
           refine X.gy ?_
           refine X.ld shp3 ?_
           refine X.gy ?_
           refine X.bi ?_
           refine X.pT ?_
           refine X.as ?_
           cases h
           exact X.eG
          ·replace h := condF hb34 h
           refine X.gn ?_
           refine X.gn ?_
           refine X.gn ?_
           refine X.gn ?_
           refine X.pF ?_
           refine X.as ?_
           cases h
           exact X.eG
         ·replace h := condF hb32 h
          refine X.gn ?_
          refine X.gn ?_
          refine X.gn ?_
          refine X.gn ?_
          refine X.pF ?_
          refine X.mv ?_
          refine X.gn ?_
          refine X.gn ?_
          refine X.gn ?_
          refine X.gn ?_
          refine X.gn ?_
          refine X.pF ?_
          refine X.as ?_
          cases h
          exact X.eG
        ·replace h := condF hb30 h
         refine X.gn ?_
         refine X.gn ?_
         refine X.gn ?_
         refine X.gn ?_
         refine X.pF ?_
         refine X.mv ?_
         refine X.gn ?_
         refine X.gn ?_
         refine X.gn ?_
         refine X.gn ?_
         refine X.gn ?_
         refine X.pF ?_
         refine X.mv ?_
         refine X.gn ?_
         refine X.gn ?_
         refine X.gn ?_
         refine X.gn ?_
         refine X.gn ?_
         refine X.pF ?_
         refine X.as ?_
         cases h
         exact X.eG
       replace h := h2; clear h2
       cases h
       refine R.f1 Tryz.results56 ?_
       rfl
      ·replace h := condF hc27 h
       refine Run.sr ?_
       refine X.bi ?_
       refine X.an ?_
       refine R.cd (fun hc35 => ?_) (fun hc35 => ?_)
       ·replace h := condT hc35 h
        refine Run.seq ?_
        obtain ⟨v36, hv36, h⟩ := bindE h
        obtain ⟨e37, he37, h2⟩ := bindE h
        refine R.regG [(4, bool e37)] [] ?_ ?_
        ·clear h; have h := he37; clear he37 h2
         refine X.fl fld42_1 ?_
         refine X.ld shp3 ?_
         refine X.fl fld40_4 ?_
         refine X.ld shp25 ?_
         refine X.ls elt25 ?_
         refine X.subW (by rfl) (by rfl) (by rfl) ?_
         refine X.cp (s_l01In_pc _ _ _ _ hv36) ?_
         refine X.mv ?_
         refine X.iG (fun hb38 => ?_) (fun hb38 => ?_)
         ·replace h := condT hb38 h
          refine X.fl fld42_2 ?_
          refine X.gy ?_
          refine X.ld shp3 ?_
          refine X.gy ?_
          refine X.bi ?_
          refine X.pT ?_
          refine X.mv ?_
          refine X.iG (fun hb39 => ?_) (fun hb39 => ?_)
          ·replace h := condT hb39 h
           refine X.fl fld42_3 ?_
           refine X.gy ?_
           refine X.ld shp3 ?_
           refine X.gy ?_
           refine X.bi ?_
           refine X.pT ?_
           refine X.as ?_
           cases h
           exact X.eG
          ·replace h := condF hb39 h
           refine X.gn ?_
           refine X.gn ?_
           refine X.pF ?_
           refine X.as ?_
           cases h
           exact X.eG
         ·replace h := condF hb38 h
          refine X.gn ?_
          refine X.gn ?_
          refine X.pF ?_
          refine X.mv ?_
          refine X.gn ?_
          refine X.gn ?_
          refine X.gn ?_
          refine X.pF ?_
          refine X.as ?_
          cases h
          exact X.eG
        replace h := h2; clear h2
        cases h
        refine R.f1 Tryz.results56 ?_
        rfl
       ·replace h := condF hc35 h
        refine Run.skip ?_
        refine Run.blk ?_
        refine Run.sr ?_
        refine X.an ?_
        cases h
        refine R.f1 Tryz.results56 ?_
        rfl
theorem s_RuleName_pc (b0 : Int) (r : ByteArray) (h : s_RuleName b0 = some r) : PC Tryz.prog 27 [int b0] (str r) := by
 unfold s_RuleName at h
 refine PC.start Tryz.func27 Tryz.ntmps27 rfl ok27 rfl ?_
 refine Run.sr ?_
 refine X.an ?_
 refine Run.seq ?_
 refine Run.sr ?_
 refine X.mv ?_
 obtain ⟨v1, hv1, h⟩ := bindE h
 refine X.cp (s_l01In_pc _ _ _ _ hv1) ?_
 refine X.un (by rfl) (by rfl) (by rfl) ?_
 refine X.nil ?_
 refine R.cd (fun hc2 => ?_) (fun hc2 => ?_)
 ·replace h := condT hc2 h
  refine Run.sr ?_
  refine X.an ?_
  cases h
  refine R.f1 Tryz.results27 ?_
  rfl
 ·replace h := condF hc2 h
  refine Run.skip ?_
  refine Run.sr ?_
  refine X.buildSlice false elt104 zer9 (by rfl) (by rfl) (by rfl) (by rfl) (by rfl) (by rfl) (by repeat (first | trivial | refine ⟨by first | rfl | simp [setL], ?_⟩)) (allSz_spec (by rfl)) (by rfl) (by rfl) (by rfl) ?_
  refine X.mv ?_
  obtain ⟨v3, hv3, h⟩ := bindE h
  refine X.index_o elt104 (by rfl) (by rfl) (by first | rfl | simp [setL] | omega) (by rfl) (idxL_spec hv3).1 (idxL_map str hv3) (by rfl) (by rfl) (by rfl) ?_
  refine X.lc shp9 ?_
  refine X.an ?_
  cases h
  refine R.f1 Tryz.results27 ?_
  rfl
theorem s_FormatRule_pc (b0 : TProject) (b1 : TRule) (r : ByteArray) (h : s_FormatRule b0 b1 = some r) : PC Tryz.prog 26 [eTProject b0, eTRule b1] (str r) := by
 unfold s_FormatRule at h
 refine PC.start Tryz.func26 Tryz.ntmps26 rfl ok26 rfl ?_
 refine Run.sr ?_
 refine X.bx ?_
 refine X.bx ?_
 refine X.an ?_
 refine Run.seq ?_
 refine Run.sr ?_
 refine X.ld shp40 ?_
 refine X.ld shp42 ?_
 obtain ⟨v1, hv1, h⟩ := bindE h
 refine X.cp (s_RuleOk_pc _ _ _ hv1) ?_
 refine X.un (by rfl) (by rfl) (by rfl) ?_
 refine X.nil ?_
 refine R.cd (fun hc2 => ?_) (fun hc2 => ?_)
 ·replace h := condT hc2 h
  refine Run.sr ?_
  refine X.an ?_
  cases h
  refine R.f1 Tryz.results26 ?_
  rfl
 ·replace h := condF hc2 h
  refine Run.skip ?_
  refine Run.seq ?_
  refine Run.draw (footOf [(1, ([192], [], [], [])), (4, ([192], [], [], [])), (6, ([1024], [1024], [], []))]) mixed (by kernel_rfl) (by kernel_rfl) ?_
  refine X.fl fld42_0 ?_
  refine X.ld shp3 ?_
  obtain ⟨v3, hv3, h⟩ := bindE h
  refine X.cp (s_RuleName_pc _ _ hv3) ?_
  refine X.fl fld42_1 ?_
  refine X.ld shp3 ?_
  obtain ⟨v4, hv4, h⟩ := bindE h
  refine X.cp (s_FormatInt_pc _ _ hv4) ?_
  refine X.buildSlice true elt104 zer9 (by rfl) (by rfl) (by rfl) (by rfl) (by rfl) (by rfl) (by repeat (first | trivial | refine ⟨by first | rfl | simp [setL], ?_⟩)) (allSz_spec (by rfl)) (by rfl) (by rfl) (by rfl) ?_
  refine X.an ?_
  refine Run.seq ?_
  refine Run.sr ?_
  refine X.fl fld42_0 ?_
  refine X.ld shp3 ?_
  refine X.nil ?_
  refine Run.block ?_
  refine Run.sr ?_
  refine X.bi ?_
  refine X.an ?_
  obtain ⟨o5, ho5, h⟩ := bindE h
  refine R.join2 (β := (List ByteArray)) [] [] (fun p23 S => (5, .own 1024 (p23.map str).length) :: S) (fun p23 M => (1024, .obj true 9 1 (p23.map str)) :: M) (fun p23 => p23 = o5) ?_ ?_
  ·intro JJ8 hmeet7
   have hup6 := h; clear h; have h := ho5; clear ho5
   refine R.cd (fun hc9 => ?_) (fun hc9 => ?_)
   ·replace h := condT hc9 h
    refine Run.reg ?_
    refine X.mv ?_
    refine X.fl fld40_1 ?_
    refine X.ld shp36 ?_
    refine X.fl fld42_1 ?_
    refine X.ld shp3 ?_
    obtain ⟨v10, hv10, h⟩ := bindE h
    refine X.ix elt36 (idxL_spec hv10).1 (idxL_map eTActivity hv10) ?_
    refine X.fieldAddr_c fld95_0 (by rfl) (by rfl) ?_
    refine X.lc shp9 ?_
    obtain ⟨v11, hv11, h⟩ := bindE h
    refine X.index_xs elt104 (by rfl) (by rfl) (by first | rfl | simp [setL] | omega) (by rfl) (by exact (Int.toNat_of_nonneg (idxL_spec hv11).1).symm) (by have := idxL_lt hv11; first | exact this | (rw [List.length_map]; exact this)) (by rfl) (by rfl) ?_
    refine X.store_es shp9 (by rfl) (by rfl) (by first | rfl | simp [setL] | omega) (idxL_map _ hv11) (by rfl) (by rfl) (by repeat (first | trivial | refine ⟨by first | rfl | simp [setL], ?_⟩)) (by rfl) (by rfl) (by rfl) (by rfl) (by exact setL_map _ _ _ v10.Name) ?_
    refine X.nil ?_
    refine R.castS (t := 5) (.own 1024 ((setL ([v3, v4] : List ByteArray) 1 v10.Name).map str).length) (by rfl) (.inl (by first | rfl | simp [setL])) ?_
    exact R.mt hmeet7 (setL ([v3, v4] : List ByteArray) 1 v10.Name) (Option.some.inj h)
   ·replace h := condF hc9 h
    refine Run.sr ?_
    refine X.bi ?_
    refine X.an ?_
    refine R.cd (fun hc12 => ?_) (fun hc12 => ?_)
    ·replace h := condT hc12 h
     refine Run.reg ?_
     refine X.mv ?_
     refine X.fl fld42_2 ?_
     refine X.ld shp3 ?_
     obtain ⟨v13, hv13, h⟩ := bindE h
     refine X.cp (s_FormatInt_pc _ _ hv13) ?_
     refine X.buildSlice false elt104 zer9 (by rfl) (by rfl) (by rfl) (by rfl) (by rfl) (by rfl) (by repeat (first | trivial | refine ⟨by first | rfl | simp [setL], ?_⟩)) (allSz_spec (by rfl)) (by rfl) (by rfl) (by rfl) ?_
     obtain ⟨v14, hv14, h⟩ := bindE h
     refine X.append elt104 zer9 (by rfl) (by rfl) (by first | rfl | simp [setL] | omega) (by rfl) (.own _ _ _ _ _ _ (look_mem (by rfl)) (by first | rfl | simp [setL] | omega)) (allSz_spec (by rfl)) (appL_len str hv14) (appL_map str hv14) (by rfl) (by rfl) (by rfl) (by rfl) ?_
     refine X.an ?_
     exact R.mt hmeet7 v14 (Option.some.inj h)
    ·replace h := condF hc12 h
     refine Run.sr ?_
     refine X.bi ?_
     refine X.an ?_
     refine R.cd (fun hc15 => ?_) (fun hc15 => ?_)
     ·replace h := condT hc15 h
      refine Run.draw (footOf [(2, ([192], [], [], [])), (5, ([192], [], [], [])), (7, ([3008], [3008], [], [])), (8, ([1024, 3008], [1024], [], []))]) mixed (by kernel_rfl) (by kernel_rfl) ?_
      refine X.mv ?_
      refine X.fl fld42_2 ?_
      refine X.ld shp3 ?_
      obtain ⟨v16, hv16, h⟩ := bindE h
      refine X.cp (s_FormatInt_pc _ _ hv16) ?_
      refine X.fl fld42_3 ?_
      refine X.ld shp3 ?_
      obtain ⟨v17, hv17, h⟩ := bindE h
      refine X.cp (s_FormatInt_pc _ _ hv17) ?_
      refine X.buildSlice false elt104 zer9 (by rfl) (by rfl) (by rfl) (by rfl) (by rfl) (by rfl) (by repeat (first | trivial | refine ⟨by first | rfl | simp [setL], ?_⟩)) (allSz_spec (by rfl)) (by rfl) (by rfl) (by rfl) ?_
      obtain ⟨v18, hv18, h⟩ := bindE h
      refine X.append elt104 zer9 (by rfl) (by rfl) (by first | rfl | simp [setL] | omega) (by rfl) (.own _ _ _ _ _ _ (look_mem (by rfl)) (by first | rfl | simp [setL] | omega)) (allSz_spec (by rfl)) (appL_len str hv18) (appL_map str hv18) (by rfl) (by rfl) (by rfl) (by rfl) ?_
      refine X.an ?_
      exact R.mt hmeet7 v18 (Option.some.inj h)
     ·replace h := condF hc15 h
      refine Run.sr ?_
      refine X.bi ?_
      refine X.an ?_
      refine R.cd (fun hc19 => ?_) (fun hc19 => ?_)
      ·replace h := condT hc19 h
       refine Run.draw (footOf [(2, ([128], [], [], [])), (4, ([192], [], [], [])), (9, ([128], [], [], [])), (11, ([192], [], [], [])), (15, ([4224], [4224], [], [])), (16, ([1024, 4224], [1024], [], []))]) mixed (by kernel_rfl) (by kernel_rfl) ?_
       refine X.mv ?_
       refine X.fl fld40_1 ?_
       refine X.ld shp36 ?_
       refine X.fl fld42_2 ?_
       refine X.ld shp3 ?_
       obtain ⟨v20, hv20, h⟩ := bindE h
       refine X.ix elt36 (idxL_spec hv20).1 (idxL_map eTActivity hv20) ?_
       refine X.fieldAddr_c fld95_0 (by rfl) (by rfl) ?_
       refine X.lc shp9 ?_
       refine X.fl fld40_1 ?_
       refine X.ld shp36 ?_
       refine X.fl fld42_3 ?_
       refine X.ld shp3 ?_
       obtain ⟨v21, hv21, h⟩ := bindE h
       refine X.ix elt36 (idxL_spec hv21).1 (idxL_map eTActivity hv21) ?_
       refine X.fieldAddr_c fld95_0 (by rfl) (by rfl) ?_
       refine X.lc shp9 ?_
       refine X.buildSlice false elt104 zer9 (by rfl) (by rfl) (by rfl) (by rfl) (by rfl) (by rfl) (by repeat (first | trivial | refine ⟨by first | rfl | simp [setL], ?_⟩)) (allSz_spec (by rfl)) (by rfl) (by rfl) (by rfl) ?_
       obtain ⟨v22, hv22, h⟩ := bindE h
       refine X.append elt104 zer9 (by rfl) (by rfl) (by first | rfl | simp [setL] | omega) (by rfl) (.own _ _ _ _ _ _ (look_mem (by rfl)) (by first | rfl | simp [setL] | omega)) (allSz_spec (by rfl)) (appL_len str hv22) (appL_map str hv22) (by rfl) (by rfl) (by rfl) (by rfl) ?_
       refine X.an ?_
       exact R.mt hmeet7 v22 (Option.some.inj h)
      ·replace h := condF hc19 h
       refine Run.skip ?_
       exact R.mt hmeet7 ([v3, v4] : List ByteArray) (Option.some.inj h)
  rintro p23 rfl
  refine Run.blk ?_
  refine Run.sr ?_
  refine X.mv ?_
  obtain ⟨v24, hv24, h⟩ := bindE h
  refine X.callM [(63, 1024)] (PC.lend (M0 := [(63, .obj true 9 1 (p23.map str))]) (s_Join_pc _ _ _ hv24) (.lit _) (by rfl) (.own 63 _ _ _ _ _ _ _ (by rfl) (by first | rfl | simp [setL] | omega) (.same _ _ _ (by rfl) .nil))) (by rfl) (by rfl) (.ownB 63 (by rfl) (by first | rfl | simp [setL] | omega) (by rfl) (.pureB (by rfl) (by repeat (first | trivial | refine ⟨by first | rfl | simp [setL], ?_⟩)) .nil)) (by rfl) ⟨rfl, rfl, ⟨_, by rfl, by constructor⟩, by constructor, trivial⟩ (by rfl) (by rfl) (by rfl) (by rfl) (by rfl) (by rfl) (by rfl) (by rfl) (by rfl) ?_
  refine X.an ?_
  cases h
  refine R.f1 Tryz.results26 ?_
  rfl
theorem s_l21Swap_pc (b0 : ByteArray) (b1 : Int) (b2 : Int) (r : ByteArray) (h : s_l21Swap b0 b1 b2 = some r) : PC Tryz.prog 28 [str b0, e_u8 b1, e_u8 b2] (str r) := by
 unfold s_l21Swap at h
 refine PC.start Tryz.func28 Tryz.ntmps28 rfl ok28 rfl ?_
 refine Run.sr ?_
 refine X.an ?_
 refine Run.sr ?_
 refine X.mv ?_
 obtain ⟨v1, hv1, h⟩ := bindE h
 refine X.convSB e_u8 (fun _ => rfl) hv1 Tryz.underlying9 Tryz.underlying109 Tryz.underlying5 (by rfl) (by rfl) (by rfl) (by rfl) (by rfl) ?_
 refine X.an ?_
 refine Run.seq ?_
 refine Run.sr ?_
 refine X.mv ?_
 refine X.len_o elt109 (by rfl) (by rfl) (by first | rfl | simp [setL] | omega) (by first | exact List.length_map .. | rfl) (by rfl) (by rfl) ?_
 refine X.mn ?_
 obtain ⟨o2, ho2, h⟩ := bindE h
 refine R.join2 (β := (List Int)) [] [] (fun p15 S => (7, .own 704 (p15.map e_u8).length) :: S) (fun p15 M => (704, .obj true 1099511627781 1 (p15.map e_u8)) :: M) (fun p15 => p15 = o2) ?_ ?_
 ·intro JJ5 hmeet4
  have hup3 := h; clear h; have h := ho2; clear ho2
  refine Run.block ?_
  refine R.lp (β := Int × (List Int)) [(1, e_u8 b1), (2, e_u8 b2), (13, int (v1.length : Int))] [] (fun bb S => (7, .own 704 (bb.2.map e_u8).length) :: (12, .own 704 (bb.2.map e_u8).length) :: (14, int bb.1) :: S) (fun bb M => (704, .obj true 1099511627781 1 (bb.2.map e_u8)) :: M) (fun n bb => s_l21Swap_L1 b1 b2 v1 n bb.1 bb.2 = some o2) F0 (0, v1) h ?_
  clear h
  rintro JJ6 n6 ⟨a8, a9⟩ hag6 h
  dsimp only at h
  obtain _ | n6 := n6
  ·exact absurd h (by simp [s_l21Swap_L1])
  rw [s_l21Swap_L1] at h
  refine Run.sr ?_
  refine X.bi ?_
  refine X.nil ?_
  refine Run.seq ?_
  refine R.cd (fun hc12 => ?_) (fun hc12 => ?_)
  ·replace h := condT hc12 h
   refine Run.skip ?_
   refine Run.seq ?_
   refine Run.block ?_
   refine Run.sr ?_
   refine X.mv ?_
   obtain ⟨v13, hv13, h⟩ := bindE h
   refine X.index_xs elt109 (by rfl) (by rfl) (by first | rfl | simp [setL] | omega) (by rfl) (by exact (Int.toNat_of_nonneg (idxL_spec hv13).1).symm) (by have := idxL_lt hv13; first | exact this | (rw [List.length_map]; exact this)) (by rfl) (by rfl) ?_
   refine X.load_e shp5 (by rfl) (by rfl) (by rfl) (by first | rfl | simp [setL] | omega) (idxL_map _ hv13) (by rfl) (by rfl) (by rfl) ?_
   refine X.as ?_
   refine X.an ?_
   refine Run.sr ?_
   refine X.mv ?_
   refine X.mv ?_
   refine X.bi ?_
   refine X.nil ?_
   refine R.cd (fun hc14 => ?_) (fun hc14 => ?_)
   ·replace h := condT hc14 h
    refine Run.reg ?_
    refine X.mv ?_
    refine X.mv ?_
    refine X.mv ?_
    refine X.index_xs elt109 (by rfl) (by rfl) (by first | rfl | simp [setL] | omega) (by rfl) (by exact (Int.toNat_of_nonneg (idxL_spec hv13).1).symm) (by have := idxL_lt hv13; first | exact this | (rw [List.length_map]; exact this)) (by rfl) (by rfl) ?_
    refine X.store_es shp5 (by rfl) (by rfl) (by first | rfl | simp [setL] | omega) (idxL_map _ hv13) (by rfl) (by rfl) (by repeat (first | trivial | refine ⟨by first | rfl | simp [setL], ?_⟩)) (by rfl) (by rfl) (by rfl) (by rfl) (by exact setL_map _ _ _ b2) ?_
    refine X.nil ?_
    refine Run.blk ?_
    refine Run.reg ?_
    refine X.addW (by rfl) (by rfl) (by rfl) ?_
    refine X.mn ?_
    refine R.castS (t := 7) (.own 704 ((setL a9 a8 b2).map e_u8).length) (by rfl) (.inl (by first | rfl | simp [setL])) ?_
    refine R.castS (t := 12) (.own 704 ((setL a9 a8 b2).map e_u8).length) (by rfl) (.inl (by first | rfl | simp [setL])) ?_
    exact hag6 n6 ((W (a8 + 1)), (setL a9 a8 b2)) _ _ (by omega) h (by repeat (first | trivial | refine ⟨by first | rfl | simp [setL], ?_⟩)) (by repeat (first | trivial | refine ⟨by first | rfl | simp [setL], ?_⟩)) (by rfl) (by rfl)
   ·replace h := condF hc14 h
    refine Run.skip ?_
    refine Run.blk ?_
    refine Run.reg ?_
    refine X.addW (by rfl) (by rfl) (by rfl) ?_
    refine X.mn ?_
    exact hag6 n6 ((W (a8 + 1)), a9) _ _ (by omega) h (by repeat (first | trivial | refine ⟨by first | rfl | simp [setL], ?_⟩)) (by repeat (first | trivial | refine ⟨by first | rfl | simp [setL], ?_⟩)) (by rfl) (by rfl)
  ·replace h := condF hc12 h
   refine Run.exit (by rfl) ?_
   exact R.mt hmeet4 a9 (Option.some.inj h)
 rintro p15 rfl
 refine Run.sr ?_
 refine X.mv ?_
 refine X.convBS p15 Tryz.underlying109 Tryz.underlying5 Tryz.underlying9 (by rfl) (.own _ _ _ _ _ _ (look_mem (by rfl)) (by first | rfl | simp [setL] | omega)) (by rfl) (by rfl) (by rfl) ?_
 refine X.an ?_
 cases h
 refine R.f1 Tryz.results28 ?_
 rfl
theorem s_FormatLine_pc (b0 : TProject) (b1 : TLine) (r : ByteArray) (h : s_FormatLine b0 b1 = some r) : PC Tryz.prog 7 [eTProject b0, eTLine b1] (str r) := by
 unfold s_FormatLine at h
 refine PC.start Tryz.func7 Tryz.ntmps7 rfl ok7 rfl ?_
 refine Run.sr ?_
 refine X.bx ?_
 refine X.bx ?_
 refine X.an ?_
 refine Run.seq ?_
 refine Run.seq ?_
 obtain ⟨v1, hv1, h⟩ := bindE h
 obtain ⟨e2, he2, h2⟩ := bindE h
 refine R.regG [(2, .lptr 128 0), (3, .lptr 192 0), (14, bool e2)] [(128, .blk true [int b0.Deadline, .slice (b0.Activities.map eTActivity), .slice (b0.Links.map eTLink), .slice (b0.Resources.map eTResource), .slice (b0.Stocks.map int)]), (192, .blk true [int b1.Kind, int b1.Rule.Kind, int b1.Rule.A, int b1.Rule.B, int b1.Rule.C, .slice (b1.Clause.map eTLiteral)])] ?_ ?_
 ·clear h; have h := he2; clear he2 h2
  refine X.ld shp40 ?_
  refine X.ld shp45 ?_
  refine X.cp (s_LineOk_pc _ _ _ hv1) ?_
  refine X.un (by rfl) (by rfl) (by rfl) ?_
  refine X.mv ?_
  refine X.iG (fun hb3 => ?_) (fun hb3 => ?_)
  ·replace h := condF hb3 h
   refine X.ld shp40 ?_
   refine X.gy ?_
   obtain ⟨v4, hv4, h⟩ := bindE h
   refine X.cp (s_ProjectOk_pc _ _ hv4) ?_
   refine X.gy ?_
   refine X.un (by rfl) (by rfl) (by rfl) ?_
   refine X.pF ?_
   cases h
   exact X.eG
  ·replace h := condT hb3 h
   refine X.gn ?_
   refine X.gn ?_
   refine X.pT ?_
   cases h
   exact X.eG
 replace h := h2; clear h2
 refine R.cd (fun hc5 => ?_) (fun hc5 => ?_)
 ·replace h := condT hc5 h
  refine Run.sr ?_
  refine X.an ?_
  cases h
  refine R.f1 Tryz.results7 ?_
  rfl
 ·replace h := condF hc5 h
  refine Run.skip ?_
  refine Run.seq ?_
  refine Run.sr ?_
  refine X.fl fld45_0 ?_
  refine X.ld shp3 ?_
  refine X.bi ?_
  refine X.nil ?_
  refine R.cd (fun hc6 => ?_) (fun hc6 => ?_)
  ·replace h := condT hc6 h
   refine Run.sr ?_
   refine X.ld shp40 ?_
   refine X.fl fld45_2 ?_
   refine X.ld shp43 ?_
   obtain ⟨v7, hv7, h⟩ := bindE h
   refine X.cp (s_FormatClause_pc _ _ _ hv7) ?_
   obtain ⟨v8, hv8, h⟩ := bindE h
   refine X.cat2 hv8 (by rfl) (by rfl) (by rfl) ?_
   refine X.an ?_
   cases h
   refine R.f1 Tryz.results7 ?_
   rfl
  ·replace h := condF hc6 h
   refine Run.skip ?_
   refine Run.sr ?_
   refine X.ld shp40 ?_
   refine X.fl fld45_1 ?_
   refine X.ld shp42 ?_
   obtain ⟨v9, hv9, h⟩ := bindE h
   refine X.cp (s_FormatRule_pc _ _ _ hv9) ?_
   refine X.an ?_
   refine Run.seq ?_
   refine Run.sr ?_
   refine X.mv ?_
   refine X.bi ?_
   refine X.nil ?_
   obtain ⟨o10, ho10, h⟩ := bindE h
   refine R.join2 (β := ByteArray) [(2, .lptr 128 0), (3, .lptr 192 0)] [(128, .blk true [int b0.Deadline, .slice (b0.Activities.map eTActivity), .slice (b0.Links.map eTLink), .slice (b0.Resources.map eTResource), .slice (b0.Stocks.map int)]), (192, .blk true [int b1.Kind, int b1.Rule.Kind, int b1.Rule.A, int b1.Rule.B, int b1.Rule.C, .slice (b1.Clause.map eTLiteral)])] (fun p16 S => (5, str p16) :: S) (fun p16 M => M) (fun p16 => p16 = o10) ?_ ?_
   ·intro JJ13 hmeet12
    have hup11 := h; clear h; have h := ho10; clear ho10
    refine R.cd (fun hc14 => ?_) (fun hc14 => ?_)
    ·replace h := condT hc14 h
     refine Run.reg ?_
     obtain ⟨v15, hv15, h⟩ := bindE h
     refine X.cp (s_RuleName_pc _ _ hv15) ?_
     refine X.an ?_
     exact R.mt hmeet12 v15 (Option.some.inj h)
    ·replace h := condF hc14 h
     refine Run.skip ?_
     exact R.mt hmeet12 v9 (Option.some.inj h)
   rintro p16 rfl
   refine Run.seq ?_
   refine Run.draw (footOf [(4, ([128], [], [], [])), (6, ([192], [], [], []))]) mixed (by kernel_rfl) (by kernel_rfl) ?_
   refine X.mv ?_
   obtain ⟨v17, hv17, h⟩ := bindE h
   refine X.cp (s_l21Swap_pc _ _ _ _ hv17) ?_
   obtain ⟨v18, hv18, h⟩ := bindE h
   refine X.cat2 hv18 (by rfl) (by rfl) (by rfl) ?_
   obtain ⟨v19, hv19, h⟩ := bindE h
   refine X.cat2 hv19 (by rfl) (by rfl) (by rfl) ?_
   refine X.ld shp40 ?_
   refine X.fl fld45_2 ?_
   refine X.ld shp43 ?_
   obtain ⟨v20, hv20, h⟩ := bindE h
   refine X.cp (s_FormatClause_pc _ _ _ hv20) ?_
   obtain ⟨v21, hv21, h⟩ := bindE h
   refine X.cat2 hv21 (by rfl) (by rfl) (by rfl) ?_
   refine X.an ?_
   cases h
   refine R.f1 Tryz.results7 ?_
   rfl
theorem i_within_pc (b0 : Int) (b1 : Int) (b2 : Int) (r : Bool) (h : i_within b0 b1 b2 = some r) : PC Tryz.prog 62 [int b0, int b1, int b2] (bool r) := by
 unfold i_within at h
 refine PC.start Tryz.func62 Tryz.ntmps62 rfl ok62 rfl ?_
 refine Run.sr ?_
 refine X.an ?_
 refine Run.seq ?_
 obtain ⟨e1, he1, h2⟩ := bindE h
 refine R.regG [(6, bool e1)] [] ?_ ?_
 ·clear h; have h := he1; clear he1 h2
  refine X.mv ?_
  refine X.mv ?_
  refine X.bi ?_
  refine X.mv ?_
  refine X.iG (fun hb2 => ?_) (fun hb2 => ?_)
  ·replace h := condT hb2 h
   refine X.mv ?_
   refine X.gy ?_
   refine X.mv ?_
   refine X.gy ?_
   refine X.bi ?_
   refine X.pT ?_
   refine X.as ?_
   cases h
   exact X.eG
  ·replace h := condF hb2 h
   refine X.gn ?_
   refine X.gn ?_
   refine X.pF ?_
   refine X.as ?_
   cases h
   exact X.eG
 replace h := h2; clear h2
 cases h
 refine R.f1 Tryz.results62 ?_
 rfl
theorem i_isAmount_pc (b0 : Int) (r : Bool) (h : i_isAmount b0 = some r) : PC Tryz.prog 122 [int b0] (bool r) := by
 unfold i_isAmount at h
 refine PC.start Tryz.func122 Tryz.ntmps122 rfl ok122 rfl ?_
 refine Run.sr ?_
 refine X.an ?_
 refine Run.sr ?_
 refine X.mv ?_
 obtain ⟨v1, hv1, h⟩ := bindE h
 refine X.cp (i_within_pc _ _ _ _ hv1) ?_
 refine X.an ?_
 cases h
 refine R.f1 Tryz.results122 ?_
 rfl
theorem i_areAmounts_pc (b0 : List Int) (b1 : Int) (r : Bool) (h : i_areAmounts b0 b1 = some r) : PC Tryz.prog 121 [.slice (b0.map int), int b1] (bool r) := by
 unfold i_areAmounts at h
 refine PC.start Tryz.func121 Tryz.ntmps121 rfl ok121 rfl ?_
 refine Run.sr ?_
 refine X.an ?_
 refine Run.seq ?_
 refine Run.sr ?_
 refine X.mv ?_
 refine X.ls elt25 ?_
 refine X.mn ?_
 obtain ⟨o1, ho1, h⟩ := bindE h
 refine R.join2 (β := Unit) [(0, .slice (b0.map int)), (1, int b1)] [] (fun p14 S => S) (fun p14 M => M) (fun p14 => (Sum.inl p14) = o1) ?_ ?_
 ·intro JJ4 hmeet3
  have hup2 := h; clear h; have h := ho1; clear ho1
  refine Run.block ?_
  refine R.bndS (t := 0) (by rfl) (fun hbd7 => ?_)
  replace hbd7 : b0.length ≤ 9223372036854775807 := by first | (rw [List.length_map] at hbd7; exact hbd7) | simp
  refine R.lp (β := Int) [(0, .slice (b0.map int)), (1, int b1), (7, .slice (b0.map int)), (8, int (b0.length : Int))] [] (fun bb S => (9, int bb) :: S) (fun bb M => M) (fun n bb => 0 ≤ bb ∧ bb + n = (b0.length : Int) ∧ i_areAmounts_L1 (b0.drop bb.toNat) bb = some o1) b0.length (0 : Int) ⟨Int.le_refl _, by simp, h⟩ ?_
  clear h
  rintro JJ7 n7 z8 hag7 ⟨hza7, hzb7, h⟩
  refine Run.sr ?_
  refine X.bi ?_
  refine X.nil ?_
  refine Run.seq ?_
  refine R.cd (fun hc11 => ?_) (fun hc11 => ?_)
  ·obtain ⟨x9, xs10, hd7, hx7, hds7, hlt7⟩ := drop_atI hza7 hc11
   rw [hd7] at h
   rw [i_areAmounts_L1] at h
   refine Run.skip ?_
   refine Run.seq ?_
   refine Run.block ?_
   refine Run.sr ?_
   refine X.ix elt25 (idxL_spec hx7).1 (idxL_map int hx7) ?_
   refine X.lc shp3 ?_
   refine X.an ?_
   refine Run.sr ?_
   refine X.mv ?_
   obtain ⟨v12, hv12, h⟩ := bindE h
   refine X.cp (i_isAmount_pc _ _ hv12) ?_
   refine X.un (by rfl) (by rfl) (by rfl) ?_
   refine X.nil ?_
   refine R.cd (fun hc13 => ?_) (fun hc13 => ?_)
   ·replace h := condT hc13 h
    refine Run.sr ?_
    refine X.an ?_
    cases h
    have h := hup2
    replace h := elimR h
    cases h
    refine R.f1 Tryz.results121 ?_
    rfl
   ·replace h := condF hc13 h
    refine Run.skip ?_
    refine Run.blk ?_
    refine Run.reg ?_
    refine X.ad ?_
    refine X.mn ?_
    exact R.ag hag7 (n7 - 1) (z8 + 1) (R.n3 (by first | (rw [hds7]; exact h) | (dsimp only; rw [hds7]; exact h)))
  ·rw [drop_endI hza7 hc11] at h
   rw [i_areAmounts_L1] at h
   refine Run.exit (by rfl) ?_
   exact R.mt hmeet3 () (Option.some.inj h)
 rintro p14 rfl
 replace h := elimL h
 refine Run.sr ?_
 refine X.mv ?_
 refine X.ls elt25 ?_
 refine X.mv ?_
 refine X.bi ?_
 refine X.an ?_
 cases h
 refine R.f1 Tryz.results121 ?_
 rfl
theorem i_ModeOk_pc (b0 : TMode) (b1 : Int) (b2 : Int) (r : Bool) (h : i_ModeOk b0 b1 b2 = some r) : PC Tryz.prog 97 [eTMode b0, int b1, int b2] (bool r) := by
 unfold i_ModeOk at h
 refine PC.start Tryz.func97 Tryz.ntmps97 rfl ok97 rfl ?_
 refine Run.sr ?_
 refine X.bx ?_
 refine X.an ?_
 refine Run.seq ?_
 obtain ⟨v1, hv1, h⟩ := bindE h
 obtain ⟨e2, he2, h2⟩ := bindE h
 refine R.regG [(6, bool e2)] [] ?_ ?_
 ·clear h; have h := he2; clear he2 h2
  refine X.fl fld131_0 ?_
  refine X.ld shp3 ?_
  refine X.cp (i_within_pc _ _ _ _ hv1) ?_
  refine X.mv ?_
  refine X.iG (fun hb3 => ?_) (fun hb3 => ?_)
  ·replace h := condT hb3 h
   refine X.fl fld131_1 ?_
   refine X.gy ?_
   refine X.ld shp25 ?_
   refine X.gy ?_
   refine X.mv ?_
   refine X.gy ?_
   obtain ⟨v4, hv4, h⟩ := bindE h
   refine X.cp (i_areAmounts_pc _ _ _ hv4) ?_
   refine X.pT ?_
   refine X.mv ?_
   refine X.iG (fun hb5 => ?_) (fun hb5 => ?_)
   ·replace h := condT hb5 h
    refine X.fl fld131_2 ?_
    refine X.gy ?_
    refine X.ld shp25 ?_
    refine X.gy ?_
    refine X.mv ?_
    refine X.gy ?_
    obtain ⟨v6, hv6, h⟩ := bindE h
    refine X.cp (i_areAmounts_pc _ _ _ hv6) ?_
    refine X.pT ?_
    refine X.as ?_
    cases h
    exact X.eG
   ·replace h := condF hb5 h
    refine X.gn ?_
    refine X.gn ?_
    refine X.gn ?_
    refine X.pF ?_
    refine X.as ?_
    cases h
    exact X.eG
  ·replace h := condF hb3 h
   refine X.gn ?_
   refine X.gn ?_
   refine X.gn ?_
   refine X.pF ?_
   refine X.mv ?_
   refine X.gn ?_
   refine X.gn ?_
   refine X.gn ?_
   refine X.gn ?_
   refine X.pF ?_
   refine X.as ?_
   cases h
   exact X.eG
 replace h := h2; clear h2
 cases h
 refine R.f1 Tryz.results97 ?_
 rfl
theorem i_IsName_pc (b0 : ByteArray) (r : Bool) (h : i_IsName b0 = some r) : PC Tryz.prog 98 [str b0] (bool r) := by
 unfold i_IsName at h
 refine PC.start Tryz.func98 Tryz.ntmps98 rfl ok98 rfl ?_
 refine Run.sr ?_
 refine X.an ?_
 refine Run.seq ?_
 refine Run.sr ?_
 refine X.mv ?_
 refine X.lenStr Tryz.underlying9 (by rfl) (by rfl) ?_
 refine X.mn ?_
 obtain ⟨o1, ho1, h⟩ := bindE h
 refine R.join2 (β := Unit) [(0, str b0)] [] (fun p19 S => S) (fun p19 M => M) (fun p19 => (Sum.inl p19) = o1) ?_ ?_
 ·intro JJ4 hmeet3
  have hup2 := h; clear h; have h := ho1; clear ho1
  refine Run.block ?_
  refine R.lp (β := Int) [(0, str b0), (6, int (b0.size : Int))] [] (fun bb S => (7, int bb) :: S) (fun bb M => M) (fun n bb => i_IsName_L1 b0 n bb = some o1) F0 0 h ?_
  clear h
  rintro JJ5 n5 a7 hag5 h
  obtain _ | n5 := n5
  ·exact absurd h (by simp [i_IsName_L1])
  rw [i_IsName_L1] at h
  refine Run.sr ?_
  refine X.bi ?_
  refine X.nil ?_
  refine Run.seq ?_
  refine R.cd (fun hc10 => ?_) (fun hc10 => ?_)
  ·replace h := condT hc10 h
   refine Run.skip ?_
   refine Run.seq ?_
   refine Run.block ?_
   refine Run.sr ?_
   refine X.mv ?_
   refine X.an ?_
   refine Run.seq ?_
   obtain ⟨v11, hv11, h⟩ := bindE h
   obtain ⟨e12, he12, h2⟩ := bindE h
   refine R.regG [(0, str b0), (3, int a7), (4, bool e12), (6, int (b0.size : Int)), (7, int a7)] [] ?_ ?_
   ·clear h; have h := he12; clear he12 h2
    refine X.mv ?_
    refine X.mv ?_
    refine X.indexStr2 hv11 Tryz.underlying9 (by rfl) (by rfl) (by rfl) ?_
    refine X.bi ?_
    refine X.mv ?_
    refine X.iG (fun hb13 => ?_) (fun hb13 => ?_)
    ·replace h := condT hb13 h
     refine X.mv ?_
     refine X.gy ?_
     refine X.mv ?_
     refine X.gy ?_
     refine X.indexStr2 hv11 Tryz.underlying9 (by rfl) (by rfl) (by rfl) ?_
     refine X.gy ?_
     refine X.bi ?_
     refine X.pT ?_
     refine X.as ?_
     cases h
     exact X.eG
    ·replace h := condF hb13 h
     refine X.gn ?_
     refine X.gn ?_
     refine X.gn ?_
     refine X.pF ?_
     refine X.as ?_
     cases h
     exact X.eG
   replace h := h2; clear h2
   refine Run.seq ?_
   obtain ⟨e14, he14, h2⟩ := bindE h
   refine R.regG [(0, str b0), (6, int (b0.size : Int)), (7, int a7), (37, bool e14)] [] ?_ ?_
   ·clear h; have h := he14; clear he14 h2
    refine X.mv ?_
    refine X.un (by rfl) (by rfl) (by rfl) ?_
    refine X.mv ?_
    refine X.iG (fun hb15 => ?_) (fun hb15 => ?_)
    ·replace h := condT hb15 h
     refine X.mv ?_
     refine X.gy ?_
     refine X.bi ?_
     refine X.gy ?_
     refine X.mv ?_
     refine X.iG (fun hb16 => ?_) (fun hb16 => ?_)
     ·replace h := condF hb16 h
      refine X.mv ?_
      refine X.gy ?_
      refine X.mv ?_
      refine X.gy ?_
      refine X.indexStr2 hv11 Tryz.underlying9 (by rfl) (by rfl) (by rfl) ?_
      refine X.gy ?_
      refine X.bi ?_
      refine X.gy ?_
      refine X.pF ?_
      refine X.gy ?_
      refine X.mv ?_
      refine X.iG (fun hb17 => ?_) (fun hb17 => ?_)
      ·replace h := condF hb17 h
       refine X.mv ?_
       refine X.gy ?_
       refine X.mv ?_
       refine X.gy ?_
       refine X.indexStr2 hv11 Tryz.underlying9 (by rfl) (by rfl) (by rfl) ?_
       refine X.gy ?_
       refine X.bi ?_
       refine X.gy ?_
       refine X.pF ?_
       refine X.pT ?_
       cases h
       exact X.eG
      ·replace h := condT hb17 h
       refine X.gn ?_
       refine X.gn ?_
       refine X.gn ?_
       refine X.gy ?_
       refine X.pT ?_
       refine X.pT ?_
       cases h
       exact X.eG
     ·replace h := condT hb16 h
      refine X.gn ?_
      refine X.gn ?_
      refine X.gn ?_
      refine X.gy ?_
      refine X.pT ?_
      refine X.gy ?_
      refine X.mv ?_
      refine X.gn ?_
      refine X.gn ?_
      refine X.gn ?_
      refine X.gn ?_
      refine X.gy ?_
      refine X.pT ?_
      refine X.pT ?_
      cases h
      exact X.eG
    ·replace h := condF hb15 h
     refine X.gn ?_
     refine X.gn ?_
     refine X.gU (by rfl) (by rfl) (by rfl) ?_
     refine X.gU (by rfl) (by rfl) (by rfl) ?_
     refine X.gU (by rfl) (by rfl) (by rfl) ?_
     refine X.gU (by rfl) (by rfl) (by rfl) ?_
     refine X.gn ?_
     refine X.gn ?_
     refine X.gU (by rfl) (by rfl) (by rfl) ?_
     refine X.gU (by rfl) (by rfl) (by rfl) ?_
     refine X.gU (by rfl) (by rfl) (by rfl) ?_
     refine X.gU (by rfl) (by rfl) (by rfl) ?_
     refine X.gn ?_
     refine X.pF ?_
     cases h
     exact X.eG
   replace h := h2; clear h2
   refine R.cd (fun hc18 => ?_) (fun hc18 => ?_)
   ·replace h := condT hc18 h
    refine Run.sr ?_
    refine X.an ?_
    cases h
    have h := hup2
    replace h := elimR h
    cases h
    refine R.f1 Tryz.results98 ?_
    rfl
   ·replace h := condF hc18 h
    refine Run.skip ?_
    refine Run.blk ?_
    refine Run.reg ?_
    refine X.addW (by rfl) (by rfl) (by rfl) ?_
    refine X.mn ?_
    exact hag5 n5 (W (a7 + 1)) _ _ (by omega) h (by trivial) (by trivial) (by rfl) (by rfl)
  ·replace h := condF hc10 h
   refine Run.exit (by rfl) ?_
   exact R.mt hmeet3 () (Option.some.inj h)
 rintro p19 rfl
 replace h := elimL h
 refine Run.sr ?_
 refine X.mv ?_
 refine X.lenStr Tryz.underlying9 (by rfl) (by rfl) ?_
 obtain ⟨v21, hv21, h⟩ := bindE h
 refine X.cp (i_within_pc _ _ _ _ hv21) ?_
 refine X.an ?_
 cases h
 refine R.f1 Tryz.results98 ?_
 rfl
theorem i_ActivityOk_pc (b0 : TActivity) (b1 : Int) (b2 : Int) (r : Bool) (h : i_ActivityOk b0 b1 b2 = some r) : PC Tryz.prog 63 [eTActivity b0, int b1, int b2] (bool r) := by
 unfold i_ActivityOk at h
 refine PC.start Tryz.func63 Tryz.ntmps63 rfl ok63 rfl ?_
 refine Run.sr ?_
 refine X.bx ?_
 refine X.an ?_
 refine Run.seq ?_
 refine Run.sr ?_
 refine X.fl fld95_2 ?_
 refine X.ld shp93 ?_
 refine X.ls elt93 ?_
 refine X.mn ?_
 obtain ⟨o1, ho1, h⟩ := bindE h
 refine R.join2 (β := Unit) [(3, .lptr 192 0)] [(192, .blk true [str b0.Name, int b0.Family, .slice (b0.Modes.map eTMode)])] (fun p14 S => S) (fun p14 M => M) (fun p14 => (Sum.inl p14) = o1) ?_ ?_
 ·intro JJ4 hmeet3
  have hup2 := h; clear h; have h := ho1; clear ho1
  refine Run.block ?_
  refine R.bndS (t := 10) (by rfl) (fun hbd7 => ?_)
  replace hbd7 : b0.Modes.length ≤ 9223372036854775807 := by first | (rw [List.length_map] at hbd7; exact hbd7) | simp
  refine R.lp (β := Int) [(1, int b1), (2, int b2), (3, .lptr 192 0), (10, .slice (b0.Modes.map eTMode)), (11, int (b0.Modes.length : Int))] [(192, .blk true [str b0.Name, int b0.Family, .slice (b0.Modes.map eTMode)])] (fun bb S => (12, int bb) :: S) (fun bb M => M) (fun n bb => 0 ≤ bb ∧ bb + n = (b0.Modes.length : Int) ∧ i_ActivityOk_L1 b1 b2 (b0.Modes.drop bb.toNat) bb = some o1) b0.Modes.length (0 : Int) ⟨Int.le_refl _, by simp, h⟩ ?_
  clear h
  rintro JJ7 n7 z8 hag7 ⟨hza7, hzb7, h⟩
  refine Run.sr ?_
  refine X.bi ?_
  refine X.nil ?_
  refine Run.seq ?_
  refine R.cd (fun hc11 => ?_) (fun hc11 => ?_)
  ·obtain ⟨x9, xs10, hd7, hx7, hds7, hlt7⟩ := drop_atI hza7 hc11
   rw [hd7] at h
   rw [i_ActivityOk_L1] at h
   refine Run.skip ?_
   refine Run.seq ?_
   refine Run.block ?_
   refine Run.sr ?_
   refine X.ix elt93 (idxL_spec hx7).1 (idxL_map eTMode hx7) ?_
   refine X.lc shp131 ?_
   refine X.alloc zer131 (by rfl) (by rfl) (by rfl) ?_
   refine X.sl shp131 ?_
   refine X.nil ?_
   refine Run.sr ?_
   refine X.ld shp131 ?_
   refine X.mv ?_
   refine X.mv ?_
   obtain ⟨v12, hv12, h⟩ := bindE h
   refine X.cp (i_ModeOk_pc _ _ _ _ hv12) ?_
   refine X.un (by rfl) (by rfl) (by rfl) ?_
   refine X.nil ?_
   refine R.cd (fun hc13 => ?_) (fun hc13 => ?_)
   ·replace h := condT hc13 h
    refine Run.sr ?_
    refine X.an ?_
    cases h
    have h := hup2
    replace h := elimR h
    cases h
    refine R.f1 Tryz.results63 ?_
    rfl
   ·replace h := condF hc13 h
    refine Run.skip ?_
    refine Run.blk ?_
    refine Run.reg ?_
    refine X.ad ?_
    refine X.mn ?_
    exact R.ag hag7 (n7 - 1) (z8 + 1) (R.n3 (by first | (rw [hds7]; exact h) | (dsimp only; rw [hds7]; exact h)))
  ·rw [drop_endI hza7 hc11] at h
   rw [i_ActivityOk_L1] at h
   refine Run.exit (by rfl) ?_
   exact R.mt hmeet3 () (Option.some.inj h)
 rintro p14 rfl
 replace h := elimL h
 refine Run.seq ?_
 obtain ⟨v16, hv16, h⟩ := bindE h
 obtain ⟨e17, he17, h2⟩ := bindE h
 refine R.regG [(6, bool e17)] [] ?_ ?_
 ·clear h; have h := he17; clear he17 h2
  refine X.fl fld95_0 ?_
  refine X.ld shp9 ?_
  refine X.cp (i_IsName_pc _ _ hv16) ?_
  refine X.mv ?_
  refine X.iG (fun hb18 => ?_) (fun hb18 => ?_)
  ·replace h := condT hb18 h
   refine X.fl fld95_1 ?_
   refine X.gy ?_
   refine X.ld shp3 ?_
   refine X.gy ?_
   obtain ⟨v19, hv19, h⟩ := bindE h
   refine X.cp (i_within_pc _ _ _ _ hv19) ?_
   refine X.pT ?_
   refine X.mv ?_
   refine X.iG (fun hb20 => ?_) (fun hb20 => ?_)
   ·replace h := condT hb20 h
    refine X.fl fld95_2 ?_
    refine X.gy ?_
    refine X.ld shp93 ?_
    refine X.gy ?_
    refine X.ls elt93 ?_
    refine X.gy ?_
    obtain ⟨v21, hv21, h⟩ := bindE h
    refine X.cp (i_within_pc _ _ _ _ hv21) ?_
    refine X.pT ?_
    refine X.as ?_
    cases h
    exact X.eG
   ·replace h := condF hb20 h
    refine X.gn ?_
    refine X.gn ?_
    refine X.gn ?_
    refine X.pF ?_
    refine X.as ?_
    cases h
    exact X.eG
  ·replace h := condF hb18 h
   refine X.gn ?_
   refine X.gn ?_
   refine X.pF ?_
   refine X.mv ?_
   refine X.gn ?_
   refine X.gn ?_
   refine X.gn ?_
   refine X.gn ?_
   refine X.pF ?_
   refine X.as ?_
   cases h
   exact X.eG
 replace h := h2; clear h2
 cases h
 refine R.f1 Tryz.results63 ?_
 rfl
theorem i_ActivityIndex_c1_pc (b0 : TActivity) (c1 : ByteArray) (r : Bool) (h : i_ActivityIndex_c1 b0 c1 = some r) : PC Tryz.prog 100 [eTActivity b0, .cptr (str c1 : PV).cells 0] (bool r) := by
 unfold i_ActivityIndex_c1 at h
 refine PC.start Tryz.func100 Tryz.ntmps100 rfl ok100 rfl ?_
 refine Run.sr ?_
 refine X.bx ?_
 refine X.an ?_
 refine Run.sr ?_
 refine X.fl fld95_0 ?_
 refine X.ld shp9 ?_
 refine X.lc shp9 ?_
 refine X.bi ?_
 refine X.an ?_
 cases h
 refine R.f1 Tryz.results100 ?_
 rfl
theorem slices_IndexFunc_Activity_pc (b0 : List TActivity) (g1 : TActivity → Option Bool) (g1id : Nat) (g1c : List PV) (hg1 : ∀ (x0 : TActivity) v, g1 x0 = some v → PC Tryz.prog g1id ([eTActivity x0] ++ g1c) (bool v)) (r : Int) (h : slices_IndexFunc_Activity b0 g1 = some r) : PC Tryz.prog 99 [.slice (b0.map eTActivity), .fn g1id g1c] (int r) := by
 unfold slices_IndexFunc_Activity at h
 refine PC.start Tryz.func99 Tryz.ntmps99 rfl ok99 rfl ?_
 refine Run.sr ?_
 refine X.an ?_
 refine Run.seq ?_
 refine Run.sr ?_
 refine X.mv ?_
 refine X.ls elt36 ?_
 refine X.mn ?_
 obtain ⟨o1, ho1, h⟩ := bindE h
 refine R.join2 (β := Unit) [] [] (fun p14 S => S) (fun p14 M => M) (fun p14 => (Sum.inl p14) = o1) ?_ ?_
 ·intro JJ4 hmeet3
  have hup2 := h; clear h; have h := ho1; clear ho1
  refine Run.block ?_
  refine R.bndS (t := 0) (by rfl) (fun hbd7 => ?_)
  replace hbd7 : b0.length ≤ 9223372036854775807 := by first | (rw [List.length_map] at hbd7; exact hbd7) | simp
  refine R.lp (β := Int) [(0, .slice (b0.map eTActivity)), (1, .fn g1id g1c), (7, int (b0.length : Int))] [] (fun bb S => (8, int bb) :: S) (fun bb M => M) (fun n bb => 0 ≤ bb ∧ bb + n = (b0.length : Int) ∧ slices_IndexFunc_Activity_L1 g1 (b0.drop bb.toNat) bb = some o1) b0.length (0 : Int) ⟨Int.le_refl _, by simp, h⟩ ?_
  clear h
  rintro JJ7 n7 z8 hag7 ⟨hza7, hzb7, h⟩
  refine Run.sr ?_
  refine X.bi ?_
  refine X.nil ?_
  refine Run.seq ?_
  refine R.cd (fun hc11 => ?_) (fun hc11 => ?_)
  ·obtain ⟨x9, xs10, hd7, hx7, hds7, hlt7⟩ := drop_atI hza7 hc11
   rw [hd7] at h
   rw [slices_IndexFunc_Activity_L1] at h
   refine Run.skip ?_
   refine Run.seq ?_
   refine Run.block ?_
   refine Run.sr ?_
   refine X.mv ?_
   refine X.an ?_
   refine Run.sr ?_
   refine X.mv ?_
   refine X.mv ?_
   refine X.mv ?_
   refine X.ix elt36 (idxL_spec hx7).1 (idxL_map eTActivity hx7) ?_
   refine X.lc shp95 ?_
   obtain ⟨v12, hv12, h⟩ := bindE h
   refine X.cp (hg1 _ _ hv12) ?_
   refine X.nil ?_
   refine R.cd (fun hc13 => ?_) (fun hc13 => ?_)
   ·replace h := condT hc13 h
    refine Run.sr ?_
    refine X.mv ?_
    refine X.an ?_
    cases h
    have h := hup2
    replace h := elimR h
    cases h
    refine R.f1 Tryz.results99 ?_
    rfl
   ·replace h := condF hc13 h
    refine Run.skip ?_
    refine Run.blk ?_
    refine Run.reg ?_
    refine X.ad ?_
    refine X.mn ?_
    exact R.ag hag7 (n7 - 1) (z8 + 1) (R.n3 (by first | (rw [hds7]; exact h) | (dsimp only; rw [hds7]; exact h)))
  ·rw [drop_endI hza7 hc11] at h
   rw [slices_IndexFunc_Activity_L1] at h
   refine Run.exit (by rfl) ?_
   exact R.mt hmeet3 () (Option.some.inj h)
 rintro p14 rfl
 replace h := elimL h
 refine Run.sr ?_
 refine X.an ?_
 cases h
 refine R.f1 Tryz.results99 ?_
 rfl
theorem i_ActivityIndex_pc (b0 : TProject) (b1 : ByteArray) (r : Int) (h : i_ActivityIndex b0 b1 = some r) : PC Tryz.prog 64 [eTProject b0, str b1] (int r) := by
 unfold i_ActivityIndex at h
 refine PC.start Tryz.func64 Tryz.ntmps64 rfl ok64 rfl ?_
 refine Run.sr ?_
 refine X.bx ?_
 refine X.bx ?_
 refine X.an ?_
 refine Run.seq ?_
 refine R.pubBlk (n := 192) (by rfl) (by rfl) (by repeat (first | trivial | refine ⟨by first | rfl | simp [setL], ?_⟩)) ?_
 refine Run.reg ?_
 refine X.fl fld40_1 ?_
 refine X.ld shp36 ?_
 refine X.makeFunc (by rfl) (by rfl) (by repeat (first | trivial | refine ⟨by first | rfl | simp [setL], ?_⟩)) (by rfl) (by rfl) ?_
 obtain ⟨v1, hv1, h⟩ := bindE h
 refine X.cp (slices_IndexFunc_Activity_pc _ (fun x0 => i_ActivityIndex_c1 x0 b1) _ _ (fun x0 v hv => i_ActivityIndex_c1_pc _ _ _ hv) _ hv1) ?_
 refine X.an ?_
 cases h
 refine R.f1 Tryz.results64 ?_
 rfl
theorem i_isTime_pc (b0 : Int) (r : Bool) (h : i_isTime b0 = some r) : PC Tryz.prog 74 [int b0] (bool r) := by
 unfold i_isTime at h
 refine PC.start Tryz.func74 Tryz.ntmps74 rfl ok74 rfl ?_
 refine Run.sr ?_
 refine X.an ?_
 refine Run.sr ?_
 refine X.mv ?_
 obtain ⟨v1, hv1, h⟩ := bindE h
 refine X.cp (i_within_pc _ _ _ _ hv1) ?_
 refine X.an ?_
 cases h
 refine R.f1 Tryz.results74 ?_
 rfl
theorem i_StepsOk_pc (b0 : List TStep) (r : Bool) (h : i_StepsOk b0 = some r) : PC Tryz.prog 101 [.slice (b0.map eTStep)] (bool r) := by
 unfold i_StepsOk at h
 refine PC.start Tryz.func101 Tryz.ntmps101 rfl ok101 rfl ?_
 refine Run.sr ?_
 refine X.an ?_
 refine Run.seq ?_
 refine Run.sr ?_
 refine X.mv ?_
 refine X.ls elt98 ?_
 refine X.mn ?_
 obtain ⟨o1, ho1, h⟩ := bindE h
 refine R.join2 (β := Unit) [(0, .slice (b0.map eTStep))] [] (fun p24 S => S) (fun p24 M => M) (fun p24 => (Sum.inl p24) = o1) ?_ ?_
 ·intro JJ4 hmeet3
  have hup2 := h; clear h; have h := ho1; clear ho1
  refine Run.block ?_
  refine R.bndS (t := 0) (by rfl) (fun hbd7 => ?_)
  replace hbd7 : b0.length ≤ 9223372036854775807 := by first | (rw [List.length_map] at hbd7; exact hbd7) | simp
  refine R.lp (β := Int) [(0, .slice (b0.map eTStep)), (5, .slice (b0.map eTStep)), (6, int (b0.length : Int))] [] (fun bb S => (7, int bb) :: S) (fun bb M => M) (fun n bb => 0 ≤ bb ∧ bb + n = (b0.length : Int) ∧ i_StepsOk_L1 b0 (b0.drop bb.toNat) bb = some o1) b0.length (0 : Int) ⟨Int.le_refl _, by simp, h⟩ ?_
  clear h
  rintro JJ7 n7 z8 hag7 ⟨hza7, hzb7, h⟩
  refine Run.sr ?_
  refine X.bi ?_
  refine X.nil ?_
  refine Run.seq ?_
  refine R.cd (fun hc11 => ?_) (fun hc11 => ?_)
  ·obtain ⟨x9, xs10, hd7, hx7, hds7, hlt7⟩ := drop_atI hza7 hc11
   rw [hd7] at h
   rw [i_StepsOk_L1] at h
   refine Run.skip ?_
   refine Run.seq ?_
   refine Run.block ?_
   refine Run.sr ?_
   refine X.mv ?_
   refine X.ix elt98 (idxL_spec hx7).1 (idxL_map eTStep hx7) ?_
   refine X.lc shp162 ?_
   refine X.alloc zer162 (by rfl) (by rfl) (by rfl) ?_
   refine X.as ?_
   refine X.sl shp162 ?_
   refine X.nil ?_
   refine Run.seq ?_
   obtain ⟨v12, hv12, h⟩ := bindE h
   obtain ⟨e13, he13, h2⟩ := bindE h
   refine R.drawG [(0, .slice (b0.map eTStep)), (5, .slice (b0.map eTStep)), (6, int (b0.length : Int)), (7, int z8), (45, bool e13)] [] (footOf [(1, ([256], [], [], [])), (6, ([256], [], [], [])), (15, ([256], [], [], [])), (24, ([256], [], [], []))]) mixed (by kernel_rfl) (by kernel_rfl) ?_ ?_
   ·clear h; have h := he13; clear he13 h2
    refine X.fl fld162_0 ?_
    refine X.ld shp3 ?_
    refine X.cp (i_isTime_pc _ _ hv12) ?_
    refine X.un (by rfl) (by rfl) (by rfl) ?_
    refine X.mv ?_
    refine X.iG (fun hb14 => ?_) (fun hb14 => ?_)
    ·replace h := condF hb14 h
     refine X.fl fld162_1 ?_
     refine X.gy ?_
     refine X.ld shp3 ?_
     refine X.gy ?_
     obtain ⟨v15, hv15, h⟩ := bindE h
     refine X.cp (i_isAmount_pc _ _ hv15) ?_
     refine X.gy ?_
     refine X.un (by rfl) (by rfl) (by rfl) ?_
     refine X.pF ?_
     refine X.mv ?_
     refine X.iG (fun hb16 => ?_) (fun hb16 => ?_)
     ·replace h := condF hb16 h
      refine X.mv ?_
      refine X.gy ?_
      refine X.bi ?_
      refine X.gy ?_
      refine X.mv ?_
      refine X.iG (fun hb17 => ?_) (fun hb17 => ?_)
      ·replace h := condT hb17 h
       refine X.fl fld162_0 ?_
       refine X.gy ?_
       refine X.ld shp3 ?_
       refine X.gy ?_
       refine X.bi ?_
       refine X.gy ?_
       refine X.pT ?_
       refine X.pF ?_
       refine X.mv ?_
       refine X.iG (fun hb18 => ?_) (fun hb18 => ?_)
       ·replace h := condF hb18 h
        refine X.mv ?_
        refine X.gy ?_
        refine X.bi ?_
        refine X.gy ?_
        refine X.mv ?_
        refine X.iG (fun hb19 => ?_) (fun hb19 => ?_)
        ·replace h := condT hb19 h
         refine X.fl fld162_0 ?_
         refine X.gy ?_
         refine X.ld shp3 ?_
         refine X.gy ?_
         refine X.mv ?_
         refine X.gy ?_
         refine X.mv ?_
         refine X.gy ?_
         refine X.sub (by rfl) (by rfl) (by omega) (by rfl) ?_
         refine X.gy ?_
         obtain ⟨v20, hv20, h⟩ := bindE h
         refine X.ix elt98 (idxL_spec hv20).1 (idxL_map eTStep hv20) ?_
         refine X.gy ?_
         refine X.fieldAddr_c fld162_0 (by rfl) (by rfl) ?_
         refine X.gy ?_
         refine X.lc shp3 ?_
         refine X.gy ?_
         refine X.bi ?_
         refine X.gy ?_
         refine X.pT ?_
         refine X.pF ?_
         cases h
         exact X.eG
        ·replace h := condF hb19 h
         refine X.gn ?_
         refine X.gn ?_
         refine X.gn ?_
         refine X.gn ?_
         refine X.gn ?_
         refine X.gn ?_
         refine X.gn ?_
         refine X.gn ?_
         refine X.gy ?_
         refine X.pF ?_
         refine X.pF ?_
         cases h
         exact X.eG
       ·replace h := condT hb18 h
        refine X.gn ?_
        refine X.gn ?_
        refine X.gU (by rfl) (by rfl) (by rfl) ?_
        refine X.gU (by rfl) (by rfl) (by rfl) ?_
        refine X.gU (by rfl) (by rfl) (by rfl) ?_
        refine X.gU (by rfl) (by rfl) (by rfl) ?_
        refine X.gU (by rfl) (by rfl) (by rfl) ?_
        refine X.gU (by rfl) (by rfl) (by rfl) ?_
        refine X.gU (by rfl) (by rfl) (by rfl) ?_
        refine X.gU (by rfl) (by rfl) (by rfl) ?_
        refine X.gU (by rfl) (by rfl) (by rfl) ?_
        refine X.gn ?_
        refine X.pT ?_
        cases h
        exact X.eG
      ·replace h := condF hb17 h
       refine X.gn ?_
       refine X.gn ?_
       refine X.gy ?_
       refine X.pF ?_
       refine X.pF ?_
       refine X.mv ?_
       refine X.gy ?_
       refine X.mv ?_
       refine X.gy ?_
       refine X.bi ?_
       refine X.gy ?_
       refine X.mv ?_
       refine X.iG (fun hb21 => ?_) (fun hb21 => ?_)
       ·replace h := condT hb21 h
        refine X.fl fld162_0 ?_
        refine X.gy ?_
        refine X.ld shp3 ?_
        refine X.gy ?_
        refine X.mv ?_
        refine X.gy ?_
        refine X.mv ?_
        refine X.gy ?_
        refine X.sub (by rfl) (by rfl) (by omega) (by rfl) ?_
        refine X.gy ?_
        obtain ⟨v22, hv22, h⟩ := bindE h
        refine X.ix elt98 (idxL_spec hv22).1 (idxL_map eTStep hv22) ?_
        refine X.gy ?_
        refine X.fieldAddr_c fld162_0 (by rfl) (by rfl) ?_
        refine X.gy ?_
        refine X.lc shp3 ?_
        refine X.gy ?_
        refine X.bi ?_
        refine X.gy ?_
        refine X.pT ?_
        refine X.pF ?_
        cases h
        exact X.eG
       ·replace h := condF hb21 h
        refine X.gn ?_
        refine X.gn ?_
        refine X.gn ?_
        refine X.gn ?_
        refine X.gn ?_
        refine X.gn ?_
        refine X.gn ?_
        refine X.gn ?_
        refine X.gy ?_
        refine X.pF ?_
        refine X.pF ?_
        cases h
        exact X.eG
     ·replace h := condT hb16 h
      refine X.gn ?_
      refine X.gn ?_
      refine X.gU (by rfl) (by rfl) (by rfl) ?_
      refine X.gU (by rfl) (by rfl) (by rfl) ?_
      refine X.gU (by rfl) (by rfl) (by rfl) ?_
      refine X.gn ?_
      refine X.pT ?_
      refine X.mv ?_
      refine X.gn ?_
      refine X.gn ?_
      refine X.gn ?_
      refine X.gU (by rfl) (by rfl) (by rfl) ?_
      refine X.gU (by rfl) (by rfl) (by rfl) ?_
      refine X.gU (by rfl) (by rfl) (by rfl) ?_
      refine X.gU (by rfl) (by rfl) (by rfl) ?_
      refine X.gU (by rfl) (by rfl) (by rfl) ?_
      refine X.gU (by rfl) (by rfl) (by rfl) ?_
      refine X.gU (by rfl) (by rfl) (by rfl) ?_
      refine X.gU (by rfl) (by rfl) (by rfl) ?_
      refine X.gU (by rfl) (by rfl) (by rfl) ?_
      refine X.gn ?_
      refine X.pT ?_
      cases h
      exact X.eG
    ·replace h := condT hb14 h
     refine X.gn ?_
     refine X.gn ?_
     refine X.gn ?_
     refine X.pT ?_
     refine X.mv ?_
     refine X.gn ?_
     refine X.gn ?_
     refine X.gn ?_
     refine X.gU (by rfl) (by rfl) (by rfl) ?_
     refine X.gU (by rfl) (by rfl) (by rfl) ?_
     refine X.gU (by rfl) (by rfl) (by rfl) ?_
     refine X.gn ?_
     refine X.pT ?_
     refine X.mv ?_
     refine X.gn ?_
     refine X.gn ?_
     refine X.gn ?_
     refine X.gU (by rfl) (by rfl) (by rfl) ?_
     refine X.gU (by rfl) (by rfl) (by rfl) ?_
     refine X.gU (by rfl) (by rfl) (by rfl) ?_
     refine X.gU (by rfl) (by rfl) (by rfl) ?_
     refine X.gU (by rfl) (by rfl) (by rfl) ?_
     refine X.gU (by rfl) (by rfl) (by rfl) ?_
     refine X.gU (by rfl) (by rfl) (by rfl) ?_
     refine X.gU (by rfl) (by rfl) (by rfl) ?_
     refine X.gU (by rfl) (by rfl) (by rfl) ?_
     refine X.gn ?_
     refine X.pT ?_
     cases h
     exact X.eG
   replace h := h2; clear h2
   refine R.cd (fun hc23 => ?_) (fun hc23 => ?_)
   ·replace h := condT hc23 h
    refine Run.sr ?_
    refine X.an ?_
    cases h
    have h := hup2
    replace h := elimR h
    cases h
    refine R.f1 Tryz.results101 ?_
    rfl
   ·replace h := condF hc23 h
    refine Run.skip ?_
    refine Run.blk ?_
    refine Run.reg ?_
    refine X.ad ?_
    refine X.mn ?_
    exact R.ag hag7 (n7 - 1) (z8 + 1) (R.n3 (by first | (rw [hds7]; exact h) | (dsimp only; rw [hds7]; exact h)))
  ·rw [drop_endI hza7 hc11] at h
   rw [i_StepsOk_L1] at h
   refine Run.exit (by rfl) ?_
   exact R.mt hmeet3 () (Option.some.inj h)
 rintro p24 rfl
 replace h := elimL h
 refine Run.sr ?_
 refine X.mv ?_
 refine X.ls elt98 ?_
 obtain ⟨v26, hv26, h⟩ := bindE h
 refine X.cp (i_within_pc _ _ _ _ hv26) ?_
 refine X.an ?_
 cases h
 refine R.f1 Tryz.results101 ?_
 rfl
theorem i_ResourceOk_pc (b0 : TResource) (r : Bool) (h : i_ResourceOk b0 = some r) : PC Tryz.prog 65 [eTResource b0] (bool r) := by
 unfold i_ResourceOk at h
 refine PC.start Tryz.func65 Tryz.ntmps65 rfl ok65 rfl ?_
 refine Run.sr ?_
 refine X.bx ?_
 refine X.an ?_
 refine Run.seq ?_
 refine Run.sr ?_
 refine X.fl fld100_1 ?_
 refine X.ld shp88 ?_
 refine X.ls elt88 ?_
 refine X.mn ?_
 obtain ⟨o1, ho1, h⟩ := bindE h
 refine R.join2 (β := Unit) [(1, .lptr 64 0)] [(64, .blk true [.slice (b0.Steps.map eTStep), .slice (b0.Setup.map l_int)])] (fun p28 S => S) (fun p28 M => M) (fun p28 => (Sum.inl p28) = o1) ?_ ?_
 ·intro JJ4 hmeet3
  have hup2 := h; clear h; have h := ho1; clear ho1
  refine Run.block ?_
  refine R.bndS (t := 8) (by rfl) (fun hbd7 => ?_)
  replace hbd7 : b0.Setup.length ≤ 9223372036854775807 := by first | (rw [List.length_map] at hbd7; exact hbd7) | simp
  refine R.lp (β := Int) [(1, .lptr 64 0), (8, .slice (b0.Setup.map l_int)), (9, int (b0.Setup.length : Int))] [(64, .blk true [.slice (b0.Steps.map eTStep), .slice (b0.Setup.map l_int)])] (fun bb S => (10, int bb) :: S) (fun bb M => M) (fun n bb => 0 ≤ bb ∧ bb + n = (b0.Setup.length : Int) ∧ i_ResourceOk_L1 (b0.Setup.drop bb.toNat) bb = some o1) b0.Setup.length (0 : Int) ⟨Int.le_refl _, by simp, h⟩ ?_
  clear h
  rintro JJ7 n7 z8 hag7 ⟨hza7, hzb7, h⟩
  refine Run.sr ?_
  refine X.bi ?_
  refine X.nil ?_
  refine Run.seq ?_
  refine R.cd (fun hc11 => ?_) (fun hc11 => ?_)
  ·obtain ⟨x9, xs10, hd7, hx7, hds7, hlt7⟩ := drop_atI hza7 hc11
   rw [hd7] at h
   rw [i_ResourceOk_L1] at h
   refine Run.skip ?_
   refine Run.seq ?_
   refine Run.block ?_
   refine Run.sr ?_
   refine X.ix elt88 (idxL_spec hx7).1 (idxL_map l_int hx7) ?_
   refine X.lc shp25 ?_
   refine X.an ?_
   refine Run.seq ?_
   refine Run.sr ?_
   refine X.mv ?_
   refine X.ls elt25 ?_
   refine X.bi ?_
   refine X.nil ?_
   refine R.cd (fun hc12 => ?_) (fun hc12 => ?_)
   ·replace h := condT hc12 h
    refine Run.sr ?_
    refine X.an ?_
    cases h
    have h := hup2
    replace h := elimR h
    cases h
    refine R.f1 Tryz.results65 ?_
    rfl
   ·replace h := condF hc12 h
    refine Run.skip ?_
    refine Run.sr ?_
    refine X.mv ?_
    refine X.ls elt25 ?_
    refine X.mn ?_
    obtain ⟨o13, ho13, h⟩ := bindE h
    refine R.join2 (β := Unit) [(1, .lptr 64 0), (8, .slice (b0.Setup.map l_int)), (9, int (b0.Setup.length : Int)), (10, int z8)] [(64, .blk true [.slice (b0.Steps.map eTStep), .slice (b0.Setup.map l_int)])] (fun p26 S => S) (fun p26 M => M) (fun p26 => (Sum.inl p26) = o13) ?_ ?_
    ·intro JJ16 hmeet15
     have hup14 := h; clear h; have h := ho13; clear ho13
     refine Run.block ?_
     refine R.bndS (t := 4) (by rfl) (fun hbd19 => ?_)
     replace hbd19 : x9.length ≤ 9223372036854775807 := by first | (rw [List.length_map] at hbd19; exact hbd19) | simp
     refine R.lp (β := Int) [(1, .lptr 64 0), (8, .slice (b0.Setup.map l_int)), (9, int (b0.Setup.length : Int)), (10, int z8), (17, .slice (x9.map int)), (18, int (x9.length : Int))] [(64, .blk true [.slice (b0.Steps.map eTStep), .slice (b0.Setup.map l_int)])] (fun bb S => (19, int bb) :: S) (fun bb M => M) (fun n bb => 0 ≤ bb ∧ bb + n = (x9.length : Int) ∧ i_ResourceOk_L2 (x9.drop bb.toNat) bb = some o13) x9.length (0 : Int) ⟨Int.le_refl _, by simp, h⟩ ?_
     clear h
     rintro JJ19 n19 z20 hag19 ⟨hza19, hzb19, h⟩
     refine Run.sr ?_
     refine X.bi ?_
     refine X.nil ?_
     refine Run.seq ?_
     refine R.cd (fun hc23 => ?_) (fun hc23 => ?_)
     ·obtain ⟨x21, xs22, hd19, hx19, hds19, hlt19⟩ := drop_atI hza19 hc23
      rw [hd19] at h
      rw [i_ResourceOk_L2] at h
      refine Run.skip ?_
      refine Run.seq ?_
      refine Run.block ?_
      refine Run.sr ?_
      refine X.ix elt25 (idxL_spec hx19).1 (idxL_map int hx19) ?_
      refine X.lc shp3 ?_
      refine X.an ?_
      refine Run.sr ?_
      refine X.mv ?_
      obtain ⟨v24, hv24, h⟩ := bindE h
      refine X.cp (i_within_pc _ _ _ _ hv24) ?_
      refine X.un (by rfl) (by rfl) (by rfl) ?_
      refine X.nil ?_
      refine R.cd (fun hc25 => ?_) (fun hc25 => ?_)
      ·replace h := condT hc25 h
       refine Run.sr ?_
       refine X.an ?_
       cases h
       have h := hup14
       replace h := elimR h
       cases h
       have h := hup2
       replace h := elimR h
       cases h
       refine R.f1 Tryz.results65 ?_
       rfl
      ·replace h := condF hc25 h
       refine Run.skip ?_
       refine Run.blk ?_
       refine Run.reg ?_
       refine X.ad ?_
       refine X.mn ?_
       exact R.ag hag19 (n19 - 1) (z20 + 1) (R.n3 (by first | (rw [hds19]; exact h) | (dsimp only; rw [hds19]; exact h)))
     ·rw [drop_endI hza19 hc23] at h
      rw [i_ResourceOk_L2] at h
      refine Run.exit (by rfl) ?_
      exact R.mt hmeet15 () (Option.some.inj h)
    rintro p26 rfl
    replace h := elimL h
    refine Run.blk ?_
    refine Run.reg ?_
    refine X.ad ?_
    refine X.mn ?_
    exact R.ag hag7 (n7 - 1) (z8 + 1) (R.n3 (by first | (rw [hds7]; exact h) | (dsimp only; rw [hds7]; exact h)))
  ·rw [drop_endI hza7 hc11] at h
   rw [i_ResourceOk_L1] at h
   refine Run.exit (by rfl) ?_
   exact R.mt hmeet3 () (Option.some.inj h)
 rintro p28 rfl
 replace h := elimL h
 refine Run.seq ?_
 obtain ⟨v30, hv30, h⟩ := bindE h
 obtain ⟨e31, he31, h2⟩ := bindE h
 refine R.regG [(2, bool e31)] [] ?_ ?_
 ·clear h; have h := he31; clear he31 h2
  refine X.fl fld100_0 ?_
  refine X.ld shp98 ?_
  refine X.cp (i_StepsOk_pc _ _ hv30) ?_
  refine X.mv ?_
  refine X.iG (fun hb32 => ?_) (fun hb32 => ?_)
  ·replace h := condT hb32 h
   refine X.fl fld100_1 ?_
   refine X.gy ?_
   refine X.ld shp88 ?_
   refine X.gy ?_
   refine X.ls elt88 ?_
   refine X.gy ?_
   refine X.bi ?_
   refine X.gy ?_
   refine X.mv ?_
   refine X.iG (fun hb33 => ?_) (fun hb33 => ?_)
   ·replace h := condF hb33 h
    refine X.fl fld100_1 ?_
    refine X.gy ?_
    refine X.ld shp88 ?_
    refine X.gy ?_
    refine X.ls elt88 ?_
    refine X.gy ?_
    refine X.bi ?_
    refine X.gy ?_
    refine X.pF ?_
    refine X.pT ?_
    refine X.as ?_
    cases h
    exact X.eG
   ·replace h := condT hb33 h
    refine X.gn ?_
    refine X.gn ?_
    refine X.gn ?_
    refine X.gy ?_
    refine X.pT ?_
    refine X.pT ?_
    refine X.as ?_
    cases h
    exact X.eG
  ·replace h := condF hb32 h
   refine X.gn ?_
   refine X.gn ?_
   refine X.gn ?_
   refine X.gn ?_
   refine X.gU (by rfl) (by rfl) (by rfl) ?_
   refine X.gU (by rfl) (by rfl) (by rfl) ?_
   refine X.gU (by rfl) (by rfl) (by rfl) ?_
   refine X.gU (by rfl) (by rfl) (by rfl) ?_
   refine X.gn ?_
   refine X.pF ?_
   refine X.as ?_
   cases h
   exact X.eG
 replace h := h2; clear h2
 cases h
 refine R.f1 Tryz.results65 ?_
 rfl
theorem i_Project_hasActivity_pc (b0 : TProject) (b1 : Int) (r : Bool) (h : i_Project_hasActivity b0 b1 = some r) : PC Tryz.prog 72 [eTProject b0, int b1] (bool r) := by
 unfold i_Project_hasActivity at h
 refine PC.start Tryz.func72 Tryz.ntmps72 rfl ok72 rfl ?_
 refine Run.sr ?_
 refine X.bx ?_
 refine X.an ?_
 refine Run.sr ?_
 refine X.mv ?_
 refine X.fl fld40_1 ?_
 refine X.ld shp36 ?_
 refine X.ls elt36 ?_
 refine X.subW (by rfl) (by rfl) (by rfl) ?_
 obtain ⟨v1, hv1, h⟩ := bindE h
 refine X.cp (i_within_pc _ _ _ _ hv1) ?_
 refine X.an ?_
 cases h
 refine R.f1 Tryz.results72 ?_
 rfl
theorem i_Project_linkOk_pc (b0 : TProject) (b1 : TLink) (r : Bool) (h : i_Project_linkOk b0 b1 = some r) : PC Tryz.prog 68 [eTProject b0, eTLink b1] (bool r) := by
 unfold i_Project_linkOk at h
 refine PC.start Tryz.func68 Tryz.ntmps68 rfl ok68 rfl ?_
 refine Run.sr ?_
 refine X.bx ?_
 refine X.bx ?_
 refine X.an ?_
 refine Run.seq ?_
 obtain ⟨v1, hv1, h⟩ := bindE h
 obtain ⟨e2, he2, h2⟩ := bindE h
 refine R.regG [(4, bool e2)] [] ?_ ?_
 ·clear h; have h := he2; clear he2 h2
  refine X.ld shp40 ?_
  refine X.fl fld103_0 ?_
  refine X.ld shp3 ?_
  refine X.cp (i_Project_hasActivity_pc _ _ _ hv1) ?_
  refine X.mv ?_
  refine X.iG (fun hb3 => ?_) (fun hb3 => ?_)
  ·replace h := condT hb3 h
   refine X.ld shp40 ?_
   refine X.gy ?_
   refine X.fl fld103_1 ?_
   refine X.gy ?_
   refine X.ld shp3 ?_
   refine X.gy ?_
   obtain ⟨v4, hv4, h⟩ := bindE h
   refine X.cp (i_Project_hasActivity_pc _ _ _ hv4) ?_
   refine X.pT ?_
   refine X.mv ?_
   refine X.iG (fun hb5 => ?_) (fun hb5 => ?_)
   ·replace h := condT hb5 h
    refine X.fl fld103_0 ?_
    refine X.gy ?_
    refine X.ld shp3 ?_
    refine X.gy ?_
    refine X.fl fld103_1 ?_
    refine X.gy ?_
    refine X.ld shp3 ?_
    refine X.gy ?_
    refine X.bi ?_
    refine X.pT ?_
    refine X.mv ?_
    refine X.iG (fun hb6 => ?_) (fun hb6 => ?_)
    ·replace h := condT hb6 h
     refine X.fl fld103_3 ?_
     refine X.gy ?_
     refine X.ld shp3 ?_
     refine X.gy ?_
     obtain ⟨v7, hv7, h⟩ := bindE h
     refine X.cp (i_within_pc _ _ _ _ hv7) ?_
     refine X.pT ?_
     refine X.as ?_
     cases h
     exact X.eG
    ·replace h := condF hb6 h
     refine X.gn ?_
     refine X.gn ?_
     refine X.pF ?_
     refine X.as ?_
     cases h
     exact X.eG
   ·replace h := condF hb5 h
    refine X.gn ?_
    refine X.gn ?_
    refine X.gn ?_
    refine X.gn ?_
    refine X.pF ?_
    refine X.mv ?_
    refine X.gn ?_
    refine X.gn ?_
    refine X.gn ?_
    refine X.pF ?_
    refine X.as ?_
    cases h
    exact X.eG
  ·replace h := condF hb3 h
   refine X.gn ?_
   refine X.gn ?_
   refine X.gn ?_
   refine X.pF ?_
   refine X.mv ?_
   refine X.gn ?_
   refine X.gn ?_
   refine X.gn ?_
   refine X.gn ?_
   refine X.gn ?_
   refine X.pF ?_
   refine X.mv ?_
   refine X.gn ?_
   refine X.gn ?_
   refine X.gn ?_
   refine X.pF ?_
   refine X.as ?_
   cases h
   exact X.eG
 replace h := h2; clear h2
 cases h
 refine R.f1 Tryz.results68 ?_
 rfl
theorem i_ProjectOk_c1_pc (b0 : TLink) (c1 : TProject) (r : Bool) (h : i_ProjectOk_c1 b0 c1 = some r) : PC Tryz.prog 67 [eTLink b0, .cptr (eTProject c1 : PV).cells 0] (bool r) := by
 unfold i_ProjectOk_c1 at h
 refine PC.start Tryz.func67 Tryz.ntmps67 rfl ok67 rfl ?_
 refine Run.sr ?_
 refine X.bx ?_
 refine X.an ?_
 refine Run.sr ?_
 refine X.lc shp40 ?_
 refine X.ld shp103 ?_
 obtain ⟨v1, hv1, h⟩ := bindE h
 refine X.cp (i_Project_linkOk_pc _ _ _ hv1) ?_
 refine X.un (by rfl) (by rfl) (by rfl) ?_
 refine X.an ?_
 cases h
 refine R.f1 Tryz.results67 ?_
 rfl
theorem slices_IndexFunc_Link_pc (b0 : List TLink) (g1 : TLink → Option Bool) (g1id : Nat) (g1c : List PV) (hg1 : ∀ (x0 : TLink) v, g1 x0 = some v → PC Tryz.prog g1id ([eTLink x0] ++ g1c) (bool v)) (r : Int) (h : slices_IndexFunc_Link b0 g1 = some r) : PC Tryz.prog 102 [.slice (b0.map eTLink), .fn g1id g1c] (int r) := by
 unfold slices_IndexFunc_Link at h
 refine PC.start Tryz.func102 Tryz.ntmps102 rfl ok102 rfl ?_
 refine Run.sr ?_
 refine X.an ?_
 refine Run.seq ?_
 refine Run.sr ?_
 refine X.mv ?_
 refine X.ls elt37 ?_
 refine X.mn ?_
 obtain ⟨o1, ho1, h⟩ := bindE h
 refine R.join2 (β := Unit) [] [] (fun p14 S => S) (fun p14 M => M) (fun p14 => (Sum.inl p14) = o1) ?_ ?_
 ·intro JJ4 hmeet3
  have hup2 := h; clear h; have h := ho1; clear ho1
  refine Run.block ?_
  refine R.bndS (t := 0) (by rfl) (fun hbd7 => ?_)
  replace hbd7 : b0.length ≤ 9223372036854775807 := by first | (rw [List.length_map] at hbd7; exact hbd7) | simp
  refine R.lp (β := Int) [(0, .slice (b0.map eTLink)), (1, .fn g1id g1c), (7, int (b0.length : Int))] [] (fun bb S => (8, int bb) :: S) (fun bb M => M) (fun n bb => 0 ≤ bb ∧ bb + n = (b0.length : Int) ∧ slices_IndexFunc_Link_L1 g1 (b0.drop bb.toNat) bb = some o1) b0.length (0 : Int) ⟨Int.le_refl _, by simp, h⟩ ?_
  clear h
  rintro JJ7 n7 z8 hag7 ⟨hza7, hzb7, h⟩
  refine Run.sr ?_
  refine X.bi ?_
  refine X.nil ?_
  refine Run.seq ?_
  refine R.cd (fun hc11 => ?_) (fun hc11 => ?_)
  ·obtain ⟨x9, xs10, hd7, hx7, hds7, hlt7⟩ := drop_atI hza7 hc11
   rw [hd7] at h
   rw [slices_IndexFunc_Link_L1] at h
   refine Run.skip ?_
   refine Run.seq ?_
   refine Run.block ?_
   refine Run.sr ?_
   refine X.mv ?_
   refine X.an ?_
   refine Run.sr ?_
   refine X.mv ?_
   refine X.mv ?_
   refine X.mv ?_
   refine X.ix elt37 (idxL_spec hx7).1 (idxL_map eTLink hx7) ?_
   refine X.lc shp103 ?_
   obtain ⟨v12, hv12, h⟩ := bindE h
   refine X.cp (hg1 _ _ hv12) ?_
   refine X.nil ?_
   refine R.cd (fun hc13 => ?_) (fun hc13 => ?_)
   ·replace h := condT hc13 h
    refine Run.sr ?_
    refine X.mv ?_
    refine X.an ?_
    cases h
    have h := hup2
    replace h := elimR h
    cases h
    refine R.f1 Tryz.results102 ?_
    rfl
   ·replace h := condF hc13 h
    refine Run.skip ?_
    refine Run.blk ?_
    refine Run.reg ?_
    refine X.ad ?_
    refine X.mn ?_
    exact R.ag hag7 (n7 - 1) (z8 + 1) (R.n3 (by first | (rw [hds7]; exact h) | (dsimp only; rw [hds7]; exact h)))
  ·rw [drop_endI hza7 hc11] at h
   rw [slices_IndexFunc_Link_L1] at h
   refine Run.exit (by rfl) ?_
   exact R.mt hmeet3 () (Option.some.inj h)
 rintro p14 rfl
 replace h := elimL h
 refine Run.sr ?_
 refine X.an ?_
 cases h
 refine R.f1 Tryz.results102 ?_
 rfl
theorem slices_ContainsFunc_Link_pc (b0 : List TLink) (g1 : TLink → Option Bool) (g1id : Nat) (g1c : List PV) (hg1 : ∀ (x0 : TLink) v, g1 x0 = some v → PC Tryz.prog g1id ([eTLink x0] ++ g1c) (bool v)) (r : Bool) (h : slices_ContainsFunc_Link b0 g1 = some r) : PC Tryz.prog 66 [.slice (b0.map eTLink), .fn g1id g1c] (bool r) := by
 unfold slices_ContainsFunc_Link at h
 refine PC.start Tryz.func66 Tryz.ntmps66 rfl ok66 rfl ?_
 refine Run.sr ?_
 refine X.an ?_
 refine Run.sr ?_
 refine X.mv ?_
 refine X.mv ?_
 obtain ⟨v1, hv1, h⟩ := bindE h
 refine X.cp (slices_IndexFunc_Link_pc _ g1 _ _ hg1 _ hv1) ?_
 refine X.bi ?_
 refine X.an ?_
 cases h
 refine R.f1 Tryz.results66 ?_
 rfl
theorem i_ProjectOk_pc (b0 : TProject) (r : Bool) (h : i_ProjectOk b0 = some r) : PC Tryz.prog 35 [eTProject b0] (bool r) := by
 unfold i_ProjectOk at h
 refine PC.start Tryz.func35 Tryz.ntmps35 rfl ok35 rfl ?_
 refine Run.sr ?_
 refine X.bx ?_
 refine X.an ?_
 refine Run.seq ?_
 refine Run.seq ?_
 obtain ⟨v1, hv1, h⟩ := bindE h
 obtain ⟨e2, he2, h2⟩ := bindE h
 refine R.regG [(1, .lptr 64 0), (37, bool e2)] [(64, .blk true [int b0.Deadline, .slice (b0.Activities.map eTActivity), .slice (b0.Links.map eTLink), .slice (b0.Resources.map eTResource), .slice (b0.Stocks.map int)])] ?_ ?_
 ·clear h; have h := he2; clear he2 h2
  refine X.fl fld40_0 ?_
  refine X.ld shp3 ?_
  refine X.cp (i_within_pc _ _ _ _ hv1) ?_
  refine X.un (by rfl) (by rfl) (by rfl) ?_
  refine X.mv ?_
  refine X.iG (fun hb3 => ?_) (fun hb3 => ?_)
  ·replace h := condF hb3 h
   refine X.fl fld40_1 ?_
   refine X.gy ?_
   refine X.ld shp36 ?_
   refine X.gy ?_
   refine X.ls elt36 ?_
   refine X.gy ?_
   obtain ⟨v4, hv4, h⟩ := bindE h
   refine X.cp (i_within_pc _ _ _ _ hv4) ?_
   refine X.gy ?_
   refine X.un (by rfl) (by rfl) (by rfl) ?_
   refine X.pF ?_
   refine X.mv ?_
   refine X.iG (fun hb5 => ?_) (fun hb5 => ?_)
   ·replace h := condF hb5 h
    refine X.fl fld40_3 ?_
    refine X.gy ?_
    refine X.ld shp38 ?_
    refine X.gy ?_
    refine X.ls elt38 ?_
    refine X.gy ?_
    refine X.bi ?_
    refine X.pF ?_
    refine X.mv ?_
    refine X.iG (fun hb6 => ?_) (fun hb6 => ?_)
    ·replace h := condF hb6 h
     refine X.fl fld40_4 ?_
     refine X.gy ?_
     refine X.ld shp25 ?_
     refine X.gy ?_
     refine X.ls elt25 ?_
     refine X.gy ?_
     refine X.bi ?_
     refine X.pF ?_
     refine X.mv ?_
     refine X.iG (fun hb7 => ?_) (fun hb7 => ?_)
     ·replace h := condF hb7 h
      refine X.fl fld40_2 ?_
      refine X.gy ?_
      refine X.ld shp37 ?_
      refine X.gy ?_
      refine X.ls elt37 ?_
      refine X.gy ?_
      refine X.bi ?_
      refine X.pF ?_
      cases h
      exact X.eG
     ·replace h := condT hb7 h
      refine X.gn ?_
      refine X.gn ?_
      refine X.gn ?_
      refine X.pT ?_
      cases h
      exact X.eG
    ·replace h := condT hb6 h
     refine X.gn ?_
     refine X.gn ?_
     refine X.gn ?_
     refine X.pT ?_
     refine X.mv ?_
     refine X.gn ?_
     refine X.gn ?_
     refine X.gn ?_
     refine X.gn ?_
     refine X.pT ?_
     cases h
     exact X.eG
   ·replace h := condT hb5 h
    refine X.gn ?_
    refine X.gn ?_
    refine X.gn ?_
    refine X.pT ?_
    refine X.mv ?_
    refine X.gn ?_
    refine X.gn ?_
    refine X.gn ?_
    refine X.gn ?_
    refine X.pT ?_
    refine X.mv ?_
    refine X.gn ?_
    refine X.gn ?_
    refine X.gn ?_
    refine X.gn ?_
    refine X.pT ?_
    cases h
    exact X.eG
  ·replace h := condT hb3 h
   refine X.gn ?_
   refine X.gn ?_
   refine X.gn ?_
   refine X.gn ?_
   refine X.pT ?_
   refine X.mv ?_
   refine X.gn ?_
   refine X.gn ?_
   refine X.gn ?_
   refine X.gn ?_
   refine X.pT ?_
   refine X.mv ?_
   refine X.gn ?_
   refine X.gn ?_
   refine X.gn ?_
   refine X.gn ?_
   refine X.pT ?_
   refine X.mv ?_
   refine X.gn ?_
   refine X.gn ?_
   refine X.gn ?_
   refine X.gn ?_
   refine X.pT ?_
   cases h
   exact X.eG
 replace h := h2; clear h2
 refine R.cd (fun hc8 => ?_) (fun hc8 => ?_)
 ·replace h := condT hc8 h
  refine Run.sr ?_
  refine X.an ?_
  cases h
  refine R.f1 Tryz.results35 ?_
  rfl
 ·replace h := condF hc8 h
  refine Run.skip ?_
  refine Run.seq ?_
  refine Run.sr ?_
  refine X.fl fld40_1 ?_
  refine X.ld shp36 ?_
  refine X.ls elt36 ?_
  refine X.mn ?_
  obtain ⟨o9, ho9, h⟩ := bindE h
  refine R.join2 (β := Unit) [(1, .lptr 64 0)] [(64, .blk true [int b0.Deadline, .slice (b0.Activities.map eTActivity), .slice (b0.Links.map eTLink), .slice (b0.Resources.map eTResource), .slice (b0.Stocks.map int)])] (fun p25 S => S) (fun p25 M => M) (fun p25 => (Sum.inl p25) = o9) ?_ ?_
  ·intro JJ12 hmeet11
   have hup10 := h; clear h; have h := ho9; clear ho9
   refine Run.block ?_
   refine R.bndS (t := 39) (by rfl) (fun hbd15 => ?_)
   replace hbd15 : b0.Activities.length ≤ 9223372036854775807 := by first | (rw [List.length_map] at hbd15; exact hbd15) | simp
   refine R.lp (β := Int) [(1, .lptr 64 0), (39, .slice (b0.Activities.map eTActivity)), (40, int (b0.Activities.length : Int))] [(64, .blk true [int b0.Deadline, .slice (b0.Activities.map eTActivity), .slice (b0.Links.map eTLink), .slice (b0.Resources.map eTResource), .slice (b0.Stocks.map int)])] (fun bb S => (41, int bb) :: S) (fun bb M => M) (fun n bb => 0 ≤ bb ∧ bb + n = (b0.Activities.length : Int) ∧ i_ProjectOk_L1 b0 (b0.Activities.drop bb.toNat) bb = some o9) b0.Activities.length (0 : Int) ⟨Int.le_refl _, by simp, h⟩ ?_
   clear h
   rintro JJ15 n15 z16 hag15 ⟨hza15, hzb15, h⟩
   refine Run.sr ?_
   refine X.bi ?_
   refine X.nil ?_
   refine Run.seq ?_
   refine R.cd (fun hc19 => ?_) (fun hc19 => ?_)
   ·obtain ⟨x17, xs18, hd15, hx15, hds15, hlt15⟩ := drop_atI hza15 hc19
    rw [hd15] at h
    rw [i_ProjectOk_L1] at h
    refine Run.skip ?_
    refine Run.seq ?_
    refine Run.block ?_
    refine Run.sr ?_
    refine X.mv ?_
    refine X.ix elt36 (idxL_spec hx15).1 (idxL_map eTActivity hx15) ?_
    refine X.lc shp95 ?_
    refine X.alloc zer95 (by rfl) (by rfl) (by rfl) ?_
    refine X.as ?_
    refine X.sl shp95 ?_
    refine X.nil ?_
    refine Run.seq ?_
    obtain ⟨v20, hv20, h⟩ := bindE h
    obtain ⟨e21, he21, h2⟩ := bindE h
    refine R.regG [(1, .lptr 64 0), (39, .slice (b0.Activities.map eTActivity)), (40, int (b0.Activities.length : Int)), (41, int z16), (62, bool e21)] [(64, .blk true [int b0.Deadline, .slice (b0.Activities.map eTActivity), .slice (b0.Links.map eTLink), .slice (b0.Resources.map eTResource), .slice (b0.Stocks.map int)])] ?_ ?_
    ·clear h; have h := he21; clear he21 h2
     refine X.ld shp95 ?_
     refine X.fl fld40_3 ?_
     refine X.ld shp38 ?_
     refine X.ls elt38 ?_
     refine X.fl fld40_4 ?_
     refine X.ld shp25 ?_
     refine X.ls elt25 ?_
     refine X.cp (i_ActivityOk_pc _ _ _ _ hv20) ?_
     refine X.un (by rfl) (by rfl) (by rfl) ?_
     refine X.mv ?_
     refine X.iG (fun hb22 => ?_) (fun hb22 => ?_)
     ·replace h := condF hb22 h
      refine X.ld shp40 ?_
      refine X.gy ?_
      refine X.fl fld95_0 ?_
      refine X.gy ?_
      refine X.ld shp9 ?_
      refine X.gy ?_
      obtain ⟨v23, hv23, h⟩ := bindE h
      refine X.cp (i_ActivityIndex_pc _ _ _ hv23) ?_
      refine X.gy ?_
      refine X.mv ?_
      refine X.gy ?_
      refine X.bi ?_
      refine X.pF ?_
      cases h
      exact X.eG
     ·replace h := condT hb22 h
      refine X.gn ?_
      refine X.gn ?_
      refine X.gn ?_
      refine X.gn ?_
      refine X.gn ?_
      refine X.pT ?_
      cases h
      exact X.eG
    replace h := h2; clear h2
    refine R.cd (fun hc24 => ?_) (fun hc24 => ?_)
    ·replace h := condT hc24 h
     refine Run.sr ?_
     refine X.an ?_
     cases h
     have h := hup10
     replace h := elimR h
     cases h
     refine R.f1 Tryz.results35 ?_
     rfl
    ·replace h := condF hc24 h
     refine Run.skip ?_
     refine Run.blk ?_
     refine Run.reg ?_
     refine X.ad ?_
     refine X.mn ?_
     exact R.ag hag15 (n15 - 1) (z16 + 1) (R.n3 (by first | (rw [hds15]; exact h) | (dsimp only; rw [hds15]; exact h)))
   ·rw [drop_endI hza15 hc19] at h
    rw [i_ProjectOk_L1] at h
    refine Run.exit (by rfl) ?_
    exact R.mt hmeet11 () (Option.some.inj h)
  rintro p25 rfl
  replace h := elimL h
  refine Run.seq ?_
  refine Run.sr ?_
  refine X.fl fld40_3 ?_
  refine X.ld shp38 ?_
  refine X.ls elt38 ?_
  refine X.mn ?_
  obtain ⟨o27, ho27, h⟩ := bindE h
  refine R.join2 (β := Unit) [(1, .lptr 64 0)] [(64, .blk true [int b0.Deadline, .slice (b0.Activities.map eTActivity), .slice (b0.Links.map eTLink), .slice (b0.Resources.map eTResource), .slice (b0.Stocks.map int)])] (fun p40 S => S) (fun p40 M => M) (fun p40 => (Sum.inl p40) = o27) ?_ ?_
  ·intro JJ30 hmeet29
   have hup28 := h; clear h; have h := ho27; clear ho27
   refine Run.block ?_
   refine R.bndS (t := 65) (by rfl) (fun hbd33 => ?_)
   replace hbd33 : b0.Resources.length ≤ 9223372036854775807 := by first | (rw [List.length_map] at hbd33; exact hbd33) | simp
   refine R.lp (β := Int) [(1, .lptr 64 0), (65, .slice (b0.Resources.map eTResource)), (66, int (b0.Resources.length : Int))] [(64, .blk true [int b0.Deadline, .slice (b0.Activities.map eTActivity), .slice (b0.Links.map eTLink), .slice (b0.Resources.map eTResource), .slice (b0.Stocks.map int)])] (fun bb S => (67, int bb) :: S) (fun bb M => M) (fun n bb => 0 ≤ bb ∧ bb + n = (b0.Resources.length : Int) ∧ i_ProjectOk_L2 (b0.Resources.drop bb.toNat) bb = some o27) b0.Resources.length (0 : Int) ⟨Int.le_refl _, by simp, h⟩ ?_
   clear h
   rintro JJ33 n33 z34 hag33 ⟨hza33, hzb33, h⟩
   refine Run.sr ?_
   refine X.bi ?_
   refine X.nil ?_
   refine Run.seq ?_
   refine R.cd (fun hc37 => ?_) (fun hc37 => ?_)
   ·obtain ⟨x35, xs36, hd33, hx33, hds33, hlt33⟩ := drop_atI hza33 hc37
    rw [hd33] at h
    rw [i_ProjectOk_L2] at h
    refine Run.skip ?_
    refine Run.seq ?_
    refine Run.block ?_
    refine Run.sr ?_
    refine X.ix elt38 (idxL_spec hx33).1 (idxL_map eTResource hx33) ?_
    refine X.lc shp100 ?_
    refine X.alloc zer100 (by rfl) (by rfl) (by rfl) ?_
    refine X.sl shp100 ?_
    refine X.nil ?_
    refine Run.sr ?_
    refine X.ld shp100 ?_
    obtain ⟨v38, hv38, h⟩ := bindE h
    refine X.cp (i_ResourceOk_pc _ _ hv38) ?_
    refine X.un (by rfl) (by rfl) (by rfl) ?_
    refine X.nil ?_
    refine R.cd (fun hc39 => ?_) (fun hc39 => ?_)
    ·replace h := condT hc39 h
     refine Run.sr ?_
     refine X.an ?_
     cases h
     have h := hup28
     replace h := elimR h
     cases h
     refine R.f1 Tryz.results35 ?_
     rfl
    ·replace h := condF hc39 h
     refine Run.skip ?_
     refine Run.blk ?_
     refine Run.reg ?_
     refine X.ad ?_
     refine X.mn ?_
     exact R.ag hag33 (n33 - 1) (z34 + 1) (R.n3 (by first | (rw [hds33]; exact h) | (dsimp only; rw [hds33]; exact h)))
   ·rw [drop_endI hza33 hc37] at h
    rw [i_ProjectOk_L2] at h
    refine Run.exit (by rfl) ?_
    exact R.mt hmeet29 () (Option.some.inj h)
  rintro p40 rfl
  replace h := elimL h
  refine Run.seq ?_
  refine Run.sr ?_
  refine X.fl fld40_4 ?_
  refine X.ld shp25 ?_
  refine X.ls elt25 ?_
  refine X.mn ?_
  obtain ⟨o42, ho42, h⟩ := bindE h
  refine R.join2 (β := Unit) [(1, .lptr 64 0)] [(64, .blk true [int b0.Deadline, .slice (b0.Activities.map eTActivity), .slice (b0.Links.map eTLink), .slice (b0.Resources.map eTResource), .slice (b0.Stocks.map int)])] (fun p55 S => S) (fun p55 M => M) (fun p55 => (Sum.inl p55) = o42) ?_ ?_
  ·intro JJ45 hmeet44
   have hup43 := h; clear h; have h := ho42; clear ho42
   refine Run.block ?_
   refine R.bndS (t := 76) (by rfl) (fun hbd48 => ?_)
   replace hbd48 : b0.Stocks.length ≤ 9223372036854775807 := by first | (rw [List.length_map] at hbd48; exact hbd48) | simp
   refine R.lp (β := Int) [(1, .lptr 64 0), (76, .slice (b0.Stocks.map int)), (77, int (b0.Stocks.length : Int))] [(64, .blk true [int b0.Deadline, .slice (b0.Activities.map eTActivity), .slice (b0.Links.map eTLink), .slice (b0.Resources.map eTResource), .slice (b0.Stocks.map int)])] (fun bb S => (78, int bb) :: S) (fun bb M => M) (fun n bb => 0 ≤ bb ∧ bb + n = (b0.Stocks.length : Int) ∧ i_ProjectOk_L3 (b0.Stocks.drop bb.toNat) bb = some o42) b0.Stocks.length (0 : Int) ⟨Int.le_refl _, by simp, h⟩ ?_
   clear h
   rintro JJ48 n48 z49 hag48 ⟨hza48, hzb48, h⟩
   refine Run.sr ?_
   refine X.bi ?_
   refine X.nil ?_
   refine Run.seq ?_
   refine R.cd (fun hc52 => ?_) (fun hc52 => ?_)
   ·obtain ⟨x50, xs51, hd48, hx48, hds48, hlt48⟩ := drop_atI hza48 hc52
    rw [hd48] at h
    rw [i_ProjectOk_L3] at h
    refine Run.skip ?_
    refine Run.seq ?_
    refine Run.block ?_
    refine Run.sr ?_
    refine X.ix elt25 (idxL_spec hx48).1 (idxL_map int hx48) ?_
    refine X.lc shp3 ?_
    refine X.an ?_
    refine Run.sr ?_
    refine X.mv ?_
    obtain ⟨v53, hv53, h⟩ := bindE h
    refine X.cp (i_within_pc _ _ _ _ hv53) ?_
    refine X.un (by rfl) (by rfl) (by rfl) ?_
    refine X.nil ?_
    refine R.cd (fun hc54 => ?_) (fun hc54 => ?_)
    ·replace h := condT hc54 h
     refine Run.sr ?_
     refine X.an ?_
     cases h
     have h := hup43
     replace h := elimR h
     cases h
     refine R.f1 Tryz.results35 ?_
     rfl
    ·replace h := condF hc54 h
     refine Run.skip ?_
     refine Run.blk ?_
     refine Run.reg ?_
     refine X.ad ?_
     refine X.mn ?_
     exact R.ag hag48 (n48 - 1) (z49 + 1) (R.n3 (by first | (rw [hds48]; exact h) | (dsimp only; rw [hds48]; exact h)))
   ·rw [drop_endI hza48 hc52] at h
    rw [i_ProjectOk_L3] at h
    refine Run.exit (by rfl) ?_
    exact R.mt hmeet44 () (Option.some.inj h)
  rintro p55 rfl
  replace h := elimL h
  refine Run.seq ?_
  refine R.pubBlk (n := 64) (by rfl) (by rfl) (by repeat (first | trivial | refine ⟨by first | rfl | simp [setL], ?_⟩)) ?_
  refine Run.reg ?_
  refine X.fl fld40_2 ?_
  refine X.ld shp37 ?_
  refine X.makeFunc (by rfl) (by rfl) (by repeat (first | trivial | refine ⟨by first | rfl | simp [setL], ?_⟩)) (by rfl) (by rfl) ?_
  obtain ⟨v57, hv57, h⟩ := bindE h
  refine X.cp (slices_ContainsFunc_Link_pc _ (fun x0 => i_ProjectOk_c1 x0 b0) _ _ (fun x0 v hv => i_ProjectOk_c1_pc _ _ _ hv) _ hv57) ?_
  refine X.un (by rfl) (by rfl) (by rfl) ?_
  refine X.an ?_
  cases h
  refine R.f1 Tryz.results35 ?_
  rfl
theorem i_LiteralOk_pc (b0 : TProject) (b1 : TLiteral) (r : Bool) (h : i_LiteralOk b0 b1 = some r) : PC Tryz.prog 103 [eTProject b0, eTLiteral b1] (bool r) := by
 unfold i_LiteralOk at h
 refine PC.start Tryz.func103 Tryz.ntmps103 rfl ok103 rfl ?_
 refine Run.sr ?_
 refine X.bx ?_
 refine X.bx ?_
 refine X.an ?_
 refine Run.seq ?_
 refine Run.seq ?_
 obtain ⟨v1, hv1, h⟩ := bindE h
 obtain ⟨e2, he2, h2⟩ := bindE h
 refine R.regG [(2, .lptr 128 0), (3, .lptr 192 0), (14, bool e2)] [(128, .blk true [int b0.Deadline, .slice (b0.Activities.map eTActivity), .slice (b0.Links.map eTLink), .slice (b0.Resources.map eTResource), .slice (b0.Stocks.map int)]), (192, .blk true [int b1.Kind, int b1.Activity, int b1.Value])] ?_ ?_
 ·clear h; have h := he2; clear he2 h2
  refine X.ld shp40 ?_
  refine X.cp (i_ProjectOk_pc _ _ hv1) ?_
  refine X.un (by rfl) (by rfl) (by rfl) ?_
  refine X.mv ?_
  refine X.iG (fun hb3 => ?_) (fun hb3 => ?_)
  ·replace h := condF hb3 h
   refine X.ld shp40 ?_
   refine X.gy ?_
   refine X.fl fld106_1 ?_
   refine X.gy ?_
   refine X.ld shp3 ?_
   refine X.gy ?_
   obtain ⟨v4, hv4, h⟩ := bindE h
   refine X.cp (i_Project_hasActivity_pc _ _ _ hv4) ?_
   refine X.gy ?_
   refine X.un (by rfl) (by rfl) (by rfl) ?_
   refine X.pF ?_
   cases h
   exact X.eG
  ·replace h := condT hb3 h
   refine X.gn ?_
   refine X.gn ?_
   refine X.gn ?_
   refine X.gn ?_
   refine X.pT ?_
   cases h
   exact X.eG
 replace h := h2; clear h2
 refine R.cd (fun hc5 => ?_) (fun hc5 => ?_)
 ·replace h := condT hc5 h
  refine Run.sr ?_
  refine X.an ?_
  cases h
  refine R.f1 Tryz.results103 ?_
  rfl
 ·replace h := condF hc5 h
  refine Run.skip ?_
  refine Run.seq ?_
  refine Run.sr ?_
  refine X.fl fld106_0 ?_
  refine X.ld shp3 ?_
  refine X.nil ?_
  refine Run.block ?_
  refine Run.seq ?_
  refine Run.sr ?_
  refine X.bi ?_
  refine X.an ?_
  obtain ⟨o6, ho6, h⟩ := bindE h
  refine R.join2 (β := Bool) [(2, .lptr 128 0), (3, .lptr 192 0), (16, int b1.Kind)] [(128, .blk true [int b0.Deadline, .slice (b0.Activities.map eTActivity), .slice (b0.Links.map eTLink), .slice (b0.Resources.map eTResource), .slice (b0.Stocks.map int)]), (192, .blk true [int b1.Kind, int b1.Activity, int b1.Value])] (fun p11 S => (17, bool p11) :: S) (fun p11 M => M) (fun p11 => p11 = o6) ?_ ?_
  ·intro JJ9 hmeet8
   have hup7 := h; clear h; have h := ho6; clear ho6
   refine R.cd (fun hc10 => ?_) (fun hc10 => ?_)
   ·replace h := condT hc10 h
    refine Run.skip ?_
    exact R.mt hmeet8 (b1.Kind == 1) (Option.some.inj h)
   ·replace h := condF hc10 h
    refine Run.reg ?_
    refine X.bi ?_
    refine X.an ?_
    exact R.mt hmeet8 (b1.Kind == 2) (Option.some.inj h)
  rintro p11 rfl
  refine R.cd (fun hc12 => ?_) (fun hc12 => ?_)
  ·replace h := condT hc12 h
   refine Run.sr ?_
   refine X.fl fld106_2 ?_
   refine X.ld shp3 ?_
   obtain ⟨v13, hv13, h⟩ := bindE h
   refine X.cp (i_within_pc _ _ _ _ hv13) ?_
   refine X.an ?_
   cases h
   refine R.f1 Tryz.results103 ?_
   rfl
  ·replace h := condF hc12 h
   refine Run.seq ?_
   refine Run.sr ?_
   refine X.bi ?_
   refine X.an ?_
   obtain ⟨o14, ho14, h⟩ := bindE h
   refine R.join2 (β := Bool) [(2, .lptr 128 0), (3, .lptr 192 0)] [(128, .blk true [int b0.Deadline, .slice (b0.Activities.map eTActivity), .slice (b0.Links.map eTLink), .slice (b0.Resources.map eTResource), .slice (b0.Stocks.map int)]), (192, .blk true [int b1.Kind, int b1.Activity, int b1.Value])] (fun p19 S => (23, bool p19) :: S) (fun p19 M => M) (fun p19 => p19 = o14) ?_ ?_
   ·intro JJ17 hmeet16
    have hup15 := h; clear h; have h := ho14; clear ho14
    refine R.cd (fun hc18 => ?_) (fun hc18 => ?_)
    ·replace h := condT hc18 h
     refine Run.skip ?_
     exact R.mt hmeet16 (b1.Kind == 3) (Option.some.inj h)
    ·replace h := condF hc18 h
     refine Run.reg ?_
     refine X.bi ?_
     refine X.an ?_
     exact R.mt hmeet16 (b1.Kind == 4) (Option.some.inj h)
   rintro p19 rfl
   refine R.cd (fun hc20 => ?_) (fun hc20 => ?_)
   ·replace h := condT hc20 h
    refine Run.seq ?_
    refine Run.draw (footOf [(1, ([192], [], [], [])), (3, ([128], [], [], [])), (5, ([192], [], [], []))]) mixed (by kernel_rfl) (by kernel_rfl) ?_
    refine X.fl fld106_2 ?_
    refine X.ld shp3 ?_
    refine X.fl fld40_1 ?_
    refine X.ld shp36 ?_
    refine X.fl fld106_1 ?_
    refine X.ld shp3 ?_
    obtain ⟨v21, hv21, h⟩ := bindE h
    refine X.ix elt36 (idxL_spec hv21).1 (idxL_map eTActivity hv21) ?_
    refine X.fieldAddr_c fld95_2 (by rfl) (by rfl) ?_
    refine X.lc shp93 ?_
    refine X.ls elt93 ?_
    refine X.subW (by rfl) (by rfl) (by rfl) ?_
    obtain ⟨v22, hv22, h⟩ := bindE h
    refine X.cp (i_within_pc _ _ _ _ hv22) ?_
    refine X.an ?_
    cases h
    refine R.f1 Tryz.results103 ?_
    rfl
   ·replace h := condF hc20 h
    refine Run.skip ?_
    refine Run.blk ?_
    refine Run.sr ?_
    refine X.an ?_
    cases h
    refine R.f1 Tryz.results103 ?_
    rfl
theorem cmp_isNaN_int_pc (b0 : Int) (r : Bool) (h : cmp_isNaN_int b0 = some r) : PC Tryz.prog 134 [int b0] (bool r) := by
 unfold cmp_isNaN_int at h
 refine PC.start Tryz.func134 Tryz.ntmps134 rfl ok134 rfl ?_
 refine Run.sr ?_
 refine X.an ?_
 refine Run.sr ?_
 refine X.mv ?_
 refine X.mv ?_
 refine X.bi ?_
 refine X.an ?_
 cases h
 refine R.f1 Tryz.results134 ?_
 rfl
theorem cmp_Compare_int_pc (b0 : Int) (b1 : Int) (r : Int) (h : cmp_Compare_int b0 b1 = some r) : PC Tryz.prog 124 [int b0, int b1] (int r) := by
 unfold cmp_Compare_int at h
 refine PC.start Tryz.func124 Tryz.ntmps124 rfl ok124 rfl ?_
 refine Run.sr ?_
 refine X.an ?_
 refine Run.sr ?_
 refine X.mv ?_
 obtain ⟨v1, hv1, h⟩ := bindE h
 refine X.cp (cmp_isNaN_int_pc _ _ hv1) ?_
 refine X.an ?_
 refine Run.sr ?_
 refine X.mv ?_
 obtain ⟨v2, hv2, h⟩ := bindE h
 refine X.cp (cmp_isNaN_int_pc _ _ hv2) ?_
 refine X.an ?_
 refine Run.seq ?_
 refine Run.sr ?_
 refine X.mn ?_
 refine R.cd (fun hc3 => ?_) (fun hc3 => ?_)
 ·replace h := condT hc3 h
  refine Run.seq ?_
  refine Run.sr ?_
  refine X.mn ?_
  refine R.cd (fun hc4 => ?_) (fun hc4 => ?_)
  ·replace h := condT hc4 h
   refine Run.sr ?_
   refine X.an ?_
   cases h
   refine R.f1 Tryz.results124 ?_
   rfl
  ·replace h := condF hc4 h
   refine Run.skip ?_
   refine Run.sr ?_
   refine X.an ?_
   cases h
   refine R.f1 Tryz.results124 ?_
   rfl
 ·replace h := condF hc3 h
  refine Run.skip ?_
  refine Run.seq ?_
  refine Run.sr ?_
  refine X.mn ?_
  refine R.cd (fun hc5 => ?_) (fun hc5 => ?_)
  ·replace h := condT hc5 h
   refine Run.sr ?_
   refine X.an ?_
   cases h
   refine R.f1 Tryz.results124 ?_
   rfl
  ·replace h := condF hc5 h
   refine Run.skip ?_
   refine Run.seq ?_
   refine Run.sr ?_
   refine X.mv ?_
   refine X.mv ?_
   refine X.bi ?_
   refine X.nil ?_
   refine R.cd (fun hc6 => ?_) (fun hc6 => ?_)
   ·replace h := condT hc6 h
    refine Run.sr ?_
    refine X.an ?_
    cases h
    refine R.f1 Tryz.results124 ?_
    rfl
   ·replace h := condF hc6 h
    refine Run.skip ?_
    refine Run.seq ?_
    refine Run.sr ?_
    refine X.mv ?_
    refine X.mv ?_
    refine X.bi ?_
    refine X.nil ?_
    refine R.cd (fun hc7 => ?_) (fun hc7 => ?_)
    ·replace h := condT hc7 h
     refine Run.sr ?_
     refine X.an ?_
     cases h
     refine R.f1 Tryz.results124 ?_
     rfl
    ·replace h := condF hc7 h
     refine Run.skip ?_
     refine Run.sr ?_
     refine X.an ?_
     cases h
     refine R.f1 Tryz.results124 ?_
     rfl
theorem cmp_Or_int_pc (b0 : List Int) (r : Int) (h : cmp_Or_int b0 = some r) : PC Tryz.prog 123 [.slice (b0.map int)] (int r) := by
 unfold cmp_Or_int at h
 refine PC.start Tryz.func123 Tryz.ntmps123 rfl ok123 rfl ?_
 refine Run.sr ?_
 refine X.an ?_
 refine Run.sr ?_
 refine X.an ?_
 refine Run.seq ?_
 refine Run.sr ?_
 refine X.mv ?_
 refine X.ls elt25 ?_
 refine X.mn ?_
 obtain ⟨o1, ho1, h⟩ := bindE h
 refine R.join2 (β := Unit) [(3, int 0)] [] (fun p13 S => S) (fun p13 M => M) (fun p13 => (Sum.inl p13) = o1) ?_ ?_
 ·intro JJ4 hmeet3
  have hup2 := h; clear h; have h := ho1; clear ho1
  refine Run.block ?_
  refine R.bndS (t := 0) (by rfl) (fun hbd7 => ?_)
  replace hbd7 : b0.length ≤ 9223372036854775807 := by first | (rw [List.length_map] at hbd7; exact hbd7) | simp
  refine R.lp (β := Int) [(3, int 0), (6, .slice (b0.map int)), (7, int (b0.length : Int))] [] (fun bb S => (8, int bb) :: S) (fun bb M => M) (fun n bb => 0 ≤ bb ∧ bb + n = (b0.length : Int) ∧ cmp_Or_int_L1 (b0.drop bb.toNat) bb = some o1) b0.length (0 : Int) ⟨Int.le_refl _, by simp, h⟩ ?_
  clear h
  rintro JJ7 n7 z8 hag7 ⟨hza7, hzb7, h⟩
  refine Run.sr ?_
  refine X.bi ?_
  refine X.nil ?_
  refine Run.seq ?_
  refine R.cd (fun hc11 => ?_) (fun hc11 => ?_)
  ·obtain ⟨x9, xs10, hd7, hx7, hds7, hlt7⟩ := drop_atI hza7 hc11
   rw [hd7] at h
   rw [cmp_Or_int_L1] at h
   refine Run.skip ?_
   refine Run.seq ?_
   refine Run.block ?_
   refine Run.sr ?_
   refine X.ix elt25 (idxL_spec hx7).1 (idxL_map int hx7) ?_
   refine X.lc shp3 ?_
   refine X.an ?_
   refine Run.sr ?_
   refine X.mv ?_
   refine X.mv ?_
   refine X.bi ?_
   refine X.nil ?_
   refine R.cd (fun hc12 => ?_) (fun hc12 => ?_)
   ·replace h := condT hc12 h
    refine Run.sr ?_
    refine X.mv ?_
    refine X.an ?_
    cases h
    have h := hup2
    replace h := elimR h
    cases h
    refine R.f1 Tryz.results123 ?_
    rfl
   ·replace h := condF hc12 h
    refine Run.skip ?_
    refine Run.blk ?_
    refine Run.reg ?_
    refine X.ad ?_
    refine X.mn ?_
    exact R.ag hag7 (n7 - 1) (z8 + 1) (R.n3 (by first | (rw [hds7]; exact h) | (dsimp only; rw [hds7]; exact h)))
  ·rw [drop_endI hza7 hc11] at h
   rw [cmp_Or_int_L1] at h
   refine Run.exit (by rfl) ?_
   exact R.mt hmeet3 () (Option.some.inj h)
 rintro p13 rfl
 replace h := elimL h
 refine Run.sr ?_
 refine X.mv ?_
 refine X.an ?_
 cases h
 refine R.f1 Tryz.results123 ?_
 rfl
theorem i_CompareLiterals_pc (b0 : TLiteral) (b1 : TLiteral) (r : Int) (h : i_CompareLiterals b0 b1 = some r) : PC Tryz.prog 104 [eTLiteral b0, eTLiteral b1] (int r) := by
 unfold i_CompareLiterals at h
 refine PC.start Tryz.func104 Tryz.ntmps104 rfl ok104 rfl ?_
 refine Run.sr ?_
 refine X.bx ?_
 refine X.bx ?_
 refine X.an ?_
 refine Run.seq ?_
 refine Run.draw (footOf [(1, ([128], [], [], [])), (3, ([192], [], [], [])), (6, ([128], [], [], [])), (8, ([192], [], [], [])), (11, ([128], [], [], [])), (13, ([192], [], [], [])), (15, ([1280], [1280], [], [])), (16, ([1280], [], [], []))]) mixed (by kernel_rfl) (by kernel_rfl) ?_
 refine X.fl fld106_1 ?_
 refine X.ld shp3 ?_
 refine X.fl fld106_1 ?_
 refine X.ld shp3 ?_
 obtain ⟨v1, hv1, h⟩ := bindE h
 refine X.cp (cmp_Compare_int_pc _ _ _ hv1) ?_
 refine X.fl fld106_0 ?_
 refine X.ld shp3 ?_
 refine X.fl fld106_0 ?_
 refine X.ld shp3 ?_
 obtain ⟨v2, hv2, h⟩ := bindE h
 refine X.cp (cmp_Compare_int_pc _ _ _ hv2) ?_
 refine X.fl fld106_2 ?_
 refine X.ld shp3 ?_
 refine X.fl fld106_2 ?_
 refine X.ld shp3 ?_
 obtain ⟨v3, hv3, h⟩ := bindE h
 refine X.cp (cmp_Compare_int_pc _ _ _ hv3) ?_
 refine X.buildSlice false elt25 zer3 (by rfl) (by rfl) (by rfl) (by rfl) (by rfl) (by rfl) (by repeat (first | trivial | refine ⟨by first | rfl | simp [setL], ?_⟩)) (allSz_spec (by rfl)) (by rfl) (by rfl) (by rfl) ?_
 obtain ⟨v4, hv4, h⟩ := bindE h
 refine X.cp (cmp_Or_int_pc _ _ hv4) ?_
 refine X.an ?_
 cases h
 refine R.f1 Tryz.results104 ?_
 rfl
end Go.Px.YtbppcgnbkeegbaaGreatDoor
