/-
  PROVED: contracts of functions of the program over pure values. No condition beyond those that each theorem names.
-/
import Derived.Test.YtiinfmdopfkefaaGreatProg
import Derived.Test.YtiinfmdopfkefaaGreatD1
import Derived.Test.YtiinfmdopfkefaaGreatS
namespace Go.Px.YtiinfmdopfkefaaGreat
set_option linter.unusedSimpArgs false
set_option linter.unusedVariables false
open Go.Px Go.Proofs
theorem shp27 : shp Tryz.prog 27 = some (true, 5) := by kernel_rfl
theorem fld27_1 : fldOff Tryz.prog 27 1 = some 1 := by kernel_rfl
theorem shp22 : shp Tryz.prog 22 = some (false, 1) := by kernel_rfl
theorem elt22 : eltOf Tryz.prog 22 = some (98, 3, 48) := by kernel_rfl
theorem shp98 : shp Tryz.prog 98 = some (true, 3) := by kernel_rfl
theorem fld98_0 : fldOff Tryz.prog 98 0 = some 0 := by kernel_rfl
theorem shp9 : shp Tryz.prog 9 = some (false, 1) := by kernel_rfl
theorem fld98_2 : fldOff Tryz.prog 98 2 = some 2 := by kernel_rfl
theorem shp96 : shp Tryz.prog 96 = some (false, 1) := by kernel_rfl
theorem elt96 : eltOf Tryz.prog 96 = some (162, 3, 56) := by kernel_rfl
theorem shp162 : shp Tryz.prog 162 = some (true, 3) := by kernel_rfl
theorem fld162_1 : fldOff Tryz.prog 162 1 = some 1 := by kernel_rfl
theorem shp25 : shp Tryz.prog 25 = some (false, 1) := by kernel_rfl
theorem elt25 : eltOf Tryz.prog 25 = some (3, 1, 8) := by kernel_rfl
theorem ok34 : okFn Tryz.prog 34 = true := by kernel_rfl
theorem fld162_2 : fldOff Tryz.prog 162 2 = some 2 := by kernel_rfl
theorem ok158 : okFn Tryz.prog 158 = true := by kernel_rfl
theorem ok121 : okFn Tryz.prog 121 = true := by kernel_rfl
theorem ok70 : okFn Tryz.prog 70 = true := by kernel_rfl
theorem ok31 : okFn Tryz.prog 31 = true := by kernel_rfl
theorem fld27_2 : fldOff Tryz.prog 27 2 = some 2 := by kernel_rfl
theorem shp23 : shp Tryz.prog 23 = some (false, 1) := by kernel_rfl
theorem elt23 : eltOf Tryz.prog 23 = some (113, 4, 32) := by kernel_rfl
theorem ok32 : okFn Tryz.prog 32 = true := by kernel_rfl
theorem fld27_3 : fldOff Tryz.prog 27 3 = some 3 := by kernel_rfl
theorem shp24 : shp Tryz.prog 24 = some (false, 1) := by kernel_rfl
theorem elt24 : eltOf Tryz.prog 24 = some (102, 2, 48) := by kernel_rfl
theorem shp102 : shp Tryz.prog 102 = some (true, 2) := by kernel_rfl
theorem fld102_0 : fldOff Tryz.prog 102 0 = some 0 := by kernel_rfl
theorem shp100 : shp Tryz.prog 100 = some (false, 1) := by kernel_rfl
theorem elt100 : eltOf Tryz.prog 100 = some (168, 2, 16) := by kernel_rfl
theorem ok122 : okFn Tryz.prog 122 = true := by kernel_rfl
theorem fld102_1 : fldOff Tryz.prog 102 1 = some 1 := by kernel_rfl
theorem shp45 : shp Tryz.prog 45 = some (false, 1) := by kernel_rfl
theorem elt45 : eltOf Tryz.prog 45 = some (25, 1, 24) := by kernel_rfl
theorem ok53 : okFn Tryz.prog 53 = true := by kernel_rfl
theorem ok71 : okFn Tryz.prog 71 = true := by kernel_rfl
theorem ok33 : okFn Tryz.prog 33 = true := by kernel_rfl
theorem fld27_4 : fldOff Tryz.prog 27 4 = some 4 := by kernel_rfl
theorem ok7 : okFn Tryz.prog 7 = true := by kernel_rfl
theorem zer36 : zeroPV Tryz.prog 36 = some [.lit (.int .i64 0), .nils, .nils, .nils, .nils] := by kernel_rfl
theorem fld27_0 : fldOff Tryz.prog 27 0 = some 0 := by kernel_rfl
theorem shp3 : shp Tryz.prog 3 = some (false, 1) := by kernel_rfl
theorem fld36_0 : fldOff Tryz.prog 36 0 = some 0 := by kernel_rfl
theorem elt32 : eltOf Tryz.prog 32 = some (108, 3, 48) := by kernel_rfl
theorem zer108 : zeroPV Tryz.prog 108 = some [.lit (.string ByteArray.empty), .lit (.int .i64 0), .nils] := by kernel_rfl
theorem fld108_0 : fldOff Tryz.prog 108 0 = some 0 := by kernel_rfl
theorem fld98_1 : fldOff Tryz.prog 98 1 = some 1 := by kernel_rfl
theorem fld108_1 : fldOff Tryz.prog 108 1 = some 1 := by kernel_rfl
theorem elt106 : eltOf Tryz.prog 106 = some (110, 3, 56) := by kernel_rfl
theorem zer110 : zeroPV Tryz.prog 110 = some [.lit (.int .i64 0), .nils, .nils] := by kernel_rfl
theorem fld162_0 : fldOff Tryz.prog 162 0 = some 0 := by kernel_rfl
theorem fld110_0 : fldOff Tryz.prog 110 0 = some 0 := by kernel_rfl
theorem zer3 : zeroPV Tryz.prog 3 = some [.lit (.int .i64 0)] := by kernel_rfl
theorem ok42 : okFn Tryz.prog 42 = true := by kernel_rfl
theorem fld110_1 : fldOff Tryz.prog 110 1 = some 1 := by kernel_rfl
theorem fld110_2 : fldOff Tryz.prog 110 2 = some 2 := by kernel_rfl
theorem shp110 : shp Tryz.prog 110 = some (true, 3) := by kernel_rfl
theorem ok162 : okFn Tryz.prog 162 = true := by kernel_rfl
theorem ok127 : okFn Tryz.prog 127 = true := by kernel_rfl
theorem fld108_2 : fldOff Tryz.prog 108 2 = some 2 := by kernel_rfl
theorem shp106 : shp Tryz.prog 106 = some (false, 1) := by kernel_rfl
theorem shp108 : shp Tryz.prog 108 = some (true, 3) := by kernel_rfl
theorem ok77 : okFn Tryz.prog 77 = true := by kernel_rfl
theorem ok39 : okFn Tryz.prog 39 = true := by kernel_rfl
theorem fld36_1 : fldOff Tryz.prog 36 1 = some 1 := by kernel_rfl
theorem shp32 : shp Tryz.prog 32 = some (false, 1) := by kernel_rfl
theorem elt33 : eltOf Tryz.prog 33 = some (68, 4, 32) := by kernel_rfl
theorem zer68 : zeroPV Tryz.prog 68 = some [.lit (.int .i64 0), .lit (.int .i64 0), .lit (.bool false), .lit (.int .i64 0)] := by kernel_rfl
theorem shp113 : shp Tryz.prog 113 = some (true, 4) := by kernel_rfl
theorem fld113_0 : fldOff Tryz.prog 113 0 = some 0 := by kernel_rfl
theorem fld68_0 : fldOff Tryz.prog 68 0 = some 0 := by kernel_rfl
theorem fld113_1 : fldOff Tryz.prog 113 1 = some 1 := by kernel_rfl
theorem fld68_1 : fldOff Tryz.prog 68 1 = some 1 := by kernel_rfl
theorem fld113_2 : fldOff Tryz.prog 113 2 = some 2 := by kernel_rfl
theorem shp4 : shp Tryz.prog 4 = some (false, 1) := by kernel_rfl
theorem fld68_2 : fldOff Tryz.prog 68 2 = some 2 := by kernel_rfl
theorem fld113_3 : fldOff Tryz.prog 113 3 = some 3 := by kernel_rfl
theorem fld68_3 : fldOff Tryz.prog 68 3 = some 3 := by kernel_rfl
theorem shp68 : shp Tryz.prog 68 = some (true, 4) := by kernel_rfl
theorem ok78 : okFn Tryz.prog 78 = true := by kernel_rfl
theorem ok40 : okFn Tryz.prog 40 = true := by kernel_rfl
theorem fld36_2 : fldOff Tryz.prog 36 2 = some 2 := by kernel_rfl
theorem shp33 : shp Tryz.prog 33 = some (false, 1) := by kernel_rfl
theorem elt34 : eltOf Tryz.prog 34 = some (86, 2, 48) := by kernel_rfl
theorem zer86 : zeroPV Tryz.prog 86 = some [.nils, .nils] := by kernel_rfl
theorem elt84 : eltOf Tryz.prog 84 = some (88, 2, 16) := by kernel_rfl
theorem zer88 : zeroPV Tryz.prog 88 = some [.lit (.int .i64 0), .lit (.int .i64 0)] := by kernel_rfl
theorem shp168 : shp Tryz.prog 168 = some (true, 2) := by kernel_rfl
theorem fld168_0 : fldOff Tryz.prog 168 0 = some 0 := by kernel_rfl
theorem fld88_0 : fldOff Tryz.prog 88 0 = some 0 := by kernel_rfl
theorem fld168_1 : fldOff Tryz.prog 168 1 = some 1 := by kernel_rfl
theorem fld88_1 : fldOff Tryz.prog 88 1 = some 1 := by kernel_rfl
theorem shp88 : shp Tryz.prog 88 = some (true, 2) := by kernel_rfl
theorem ok163 : okFn Tryz.prog 163 = true := by kernel_rfl
theorem ok128 : okFn Tryz.prog 128 = true := by kernel_rfl
theorem fld86_0 : fldOff Tryz.prog 86 0 = some 0 := by kernel_rfl
theorem shp84 : shp Tryz.prog 84 = some (false, 1) := by kernel_rfl
theorem zer25 : zeroPV Tryz.prog 25 = some [.nils] := by kernel_rfl
theorem ok56 : okFn Tryz.prog 56 = true := by kernel_rfl
theorem fld86_1 : fldOff Tryz.prog 86 1 = some 1 := by kernel_rfl
theorem shp86 : shp Tryz.prog 86 = some (true, 2) := by kernel_rfl
theorem ok79 : okFn Tryz.prog 79 = true := by kernel_rfl
theorem ok41 : okFn Tryz.prog 41 = true := by kernel_rfl
theorem fld36_3 : fldOff Tryz.prog 36 3 = some 3 := by kernel_rfl
theorem shp34 : shp Tryz.prog 34 = some (false, 1) := by kernel_rfl
theorem fld36_4 : fldOff Tryz.prog 36 4 = some 4 := by kernel_rfl
theorem shp36 : shp Tryz.prog 36 = some (true, 5) := by kernel_rfl
theorem ok9 : okFn Tryz.prog 9 = true := by kernel_rfl
theorem zer38 : zeroPV Tryz.prog 38 = some [.lit (.int .i64 0), .lit (.int .i64 0), .lit (.int .i64 0), .lit (.int .i64 0)] := by kernel_rfl
theorem fld38_0 : fldOff Tryz.prog 38 0 = some 0 := by kernel_rfl
theorem fld38_1 : fldOff Tryz.prog 38 1 = some 1 := by kernel_rfl
theorem fld38_2 : fldOff Tryz.prog 38 2 = some 2 := by kernel_rfl
theorem fld38_3 : fldOff Tryz.prog 38 3 = some 3 := by kernel_rfl
theorem shp38 : shp Tryz.prog 38 = some (true, 4) := by kernel_rfl
theorem ok73 : okFn Tryz.prog 73 = true := by kernel_rfl
theorem ok198 : okFn Tryz.prog 198 = true := by kernel_rfl
theorem ok159 : okFn Tryz.prog 159 = true := by kernel_rfl
theorem ok160 : okFn Tryz.prog 160 = true := by kernel_rfl
theorem ok123 : okFn Tryz.prog 123 = true := by kernel_rfl
theorem ok124 : okFn Tryz.prog 124 = true := by kernel_rfl
theorem mixed : Tryz.prog.follows .mixedOrders = true := by kernel_rfl
theorem ok161 : okFn Tryz.prog 161 = true := by kernel_rfl
theorem ok125 : okFn Tryz.prog 125 = true := by kernel_rfl
theorem ok72 : okFn Tryz.prog 72 = true := by kernel_rfl
theorem ok74 : okFn Tryz.prog 74 = true := by kernel_rfl
theorem ok126 : okFn Tryz.prog 126 = true := by kernel_rfl
theorem ok75 : okFn Tryz.prog 75 = true := by kernel_rfl
theorem ok36 : okFn Tryz.prog 36 = true := by kernel_rfl
theorem ok37 : okFn Tryz.prog 37 = true := by kernel_rfl
theorem ok76 : okFn Tryz.prog 76 = true := by kernel_rfl
theorem ok81 : okFn Tryz.prog 81 = true := by kernel_rfl
theorem ok200 : okFn Tryz.prog 200 = true := by kernel_rfl
theorem ok199 : okFn Tryz.prog 199 = true := by kernel_rfl
theorem ok164 : okFn Tryz.prog 164 = true := by kernel_rfl
theorem ok165 : okFn Tryz.prog 165 = true := by kernel_rfl
theorem ok129 : okFn Tryz.prog 129 = true := by kernel_rfl
theorem ok167 : okFn Tryz.prog 167 = true := by kernel_rfl
theorem ok166 : okFn Tryz.prog 166 = true := by kernel_rfl
theorem ok130 : okFn Tryz.prog 130 = true := by kernel_rfl
theorem ok60 : okFn Tryz.prog 60 = true := by kernel_rfl
theorem ok168 : okFn Tryz.prog 168 = true := by kernel_rfl
theorem ok131 : okFn Tryz.prog 131 = true := by kernel_rfl
theorem ok82 : okFn Tryz.prog 82 = true := by kernel_rfl
theorem ok134 : okFn Tryz.prog 134 = true := by kernel_rfl
theorem ok133 : okFn Tryz.prog 133 = true := by kernel_rfl
theorem ok169 : okFn Tryz.prog 169 = true := by kernel_rfl
theorem ok132 : okFn Tryz.prog 132 = true := by kernel_rfl
theorem ok80 : okFn Tryz.prog 80 = true := by kernel_rfl
theorem ok83 : okFn Tryz.prog 83 = true := by kernel_rfl
theorem ok84 : okFn Tryz.prog 84 = true := by kernel_rfl
theorem ok85 : okFn Tryz.prog 85 = true := by kernel_rfl
theorem ok43 : okFn Tryz.prog 43 = true := by kernel_rfl
theorem ok86 : okFn Tryz.prog 86 = true := by kernel_rfl
theorem ok87 : okFn Tryz.prog 87 = true := by kernel_rfl
theorem ok44 : okFn Tryz.prog 44 = true := by kernel_rfl
theorem ok46 : okFn Tryz.prog 46 = true := by kernel_rfl
theorem ok12 : okFn Tryz.prog 12 = true := by kernel_rfl
theorem ok181 : okFn Tryz.prog 181 = true := by kernel_rfl
theorem ok138 : okFn Tryz.prog 138 = true := by kernel_rfl
theorem ok91 : okFn Tryz.prog 91 = true := by kernel_rfl
theorem ok47 : okFn Tryz.prog 47 = true := by kernel_rfl
theorem ok92 : okFn Tryz.prog 92 = true := by kernel_rfl
theorem ok48 : okFn Tryz.prog 48 = true := by kernel_rfl
theorem ok182 : okFn Tryz.prog 182 = true := by kernel_rfl
theorem ok139 : okFn Tryz.prog 139 = true := by kernel_rfl
theorem ok62 : okFn Tryz.prog 62 = true := by kernel_rfl
theorem ok93 : okFn Tryz.prog 93 = true := by kernel_rfl
theorem ok49 : okFn Tryz.prog 49 = true := by kernel_rfl
theorem ok13 : okFn Tryz.prog 13 = true := by kernel_rfl
theorem shp47 : shp Tryz.prog 47 = some (true, 3) := by kernel_rfl
theorem fld47_0 : fldOff Tryz.prog 47 0 = some 0 := by kernel_rfl
theorem fld47_1 : fldOff Tryz.prog 47 1 = some 1 := by kernel_rfl
theorem fld47_2 : fldOff Tryz.prog 47 2 = some 2 := by kernel_rfl
theorem ok17 : okFn Tryz.prog 17 = true := by kernel_rfl
theorem zer51 : zeroPV Tryz.prog 51 = some [.nils, .nils, .nils] := by kernel_rfl
theorem fld51_0 : fldOff Tryz.prog 51 0 = some 0 := by kernel_rfl
theorem fld51_1 : fldOff Tryz.prog 51 1 = some 1 := by kernel_rfl
theorem fld51_2 : fldOff Tryz.prog 51 2 = some 2 := by kernel_rfl
theorem shp51 : shp Tryz.prog 51 = some (true, 3) := by kernel_rfl
theorem ok19 : okFn Tryz.prog 19 = true := by kernel_rfl
theorem ok99 : okFn Tryz.prog 99 = true := by kernel_rfl
theorem ok101 : okFn Tryz.prog 101 = true := by kernel_rfl
theorem ok100 : okFn Tryz.prog 100 = true := by kernel_rfl
theorem ok64 : okFn Tryz.prog 64 = true := by kernel_rfl
theorem ok65 : okFn Tryz.prog 65 = true := by kernel_rfl
theorem ok54 : okFn Tryz.prog 54 = true := by kernel_rfl
theorem elt49 : eltOf Tryz.prog 49 = some (38, 4, 32) := by kernel_rfl
theorem pl38 : fldPlaces Tryz.prog 38 = some [(0, 1), (1, 1), (2, 1), (3, 1)] := by kernel_rfl
theorem ok140 : okFn Tryz.prog 140 = true := by kernel_rfl
theorem ok97 : okFn Tryz.prog 97 = true := by kernel_rfl
theorem ok55 : okFn Tryz.prog 55 = true := by kernel_rfl
theorem ok18 : okFn Tryz.prog 18 = true := by kernel_rfl
theorem ok108 : okFn Tryz.prog 108 = true := by kernel_rfl
theorem ok109 : okFn Tryz.prog 109 = true := by kernel_rfl
theorem ok111 : okFn Tryz.prog 111 = true := by kernel_rfl
theorem ok207 : okFn Tryz.prog 207 = true := by kernel_rfl
theorem ok189 : okFn Tryz.prog 189 = true := by kernel_rfl
theorem ok148 : okFn Tryz.prog 148 = true := by kernel_rfl
theorem ok110 : okFn Tryz.prog 110 = true := by kernel_rfl
theorem ok67 : okFn Tryz.prog 67 = true := by kernel_rfl
theorem ok149 : okFn Tryz.prog 149 = true := by kernel_rfl
theorem ok112 : okFn Tryz.prog 112 = true := by kernel_rfl
theorem ok113 : okFn Tryz.prog 113 = true := by kernel_rfl
theorem ok68 : okFn Tryz.prog 68 = true := by kernel_rfl
theorem ok57 : okFn Tryz.prog 57 = true := by kernel_rfl
theorem ok58 : okFn Tryz.prog 58 = true := by kernel_rfl
theorem ok59 : okFn Tryz.prog 59 = true := by kernel_rfl
theorem ok141 : okFn Tryz.prog 141 = true := by kernel_rfl
theorem ok98 : okFn Tryz.prog 98 = true := by kernel_rfl
theorem ok61 : okFn Tryz.prog 61 = true := by kernel_rfl
theorem ok20 : okFn Tryz.prog 20 = true := by kernel_rfl
theorem ok22 : okFn Tryz.prog 22 = true := by kernel_rfl
theorem ok142 : okFn Tryz.prog 142 = true := by kernel_rfl
theorem ok102 : okFn Tryz.prog 102 = true := by kernel_rfl
theorem ok188 : okFn Tryz.prog 188 = true := by kernel_rfl
theorem ok183 : okFn Tryz.prog 183 = true := by kernel_rfl
theorem ok143 : okFn Tryz.prog 143 = true := by kernel_rfl
theorem ok103 : okFn Tryz.prog 103 = true := by kernel_rfl
theorem ok104 : okFn Tryz.prog 104 = true := by kernel_rfl
theorem ok184 : okFn Tryz.prog 184 = true := by kernel_rfl
theorem ok186 : okFn Tryz.prog 186 = true := by kernel_rfl
theorem ok185 : okFn Tryz.prog 185 = true := by kernel_rfl
theorem ok144 : okFn Tryz.prog 144 = true := by kernel_rfl
theorem ok187 : okFn Tryz.prog 187 = true := by kernel_rfl
theorem ok145 : okFn Tryz.prog 145 = true := by kernel_rfl
theorem ok105 : okFn Tryz.prog 105 = true := by kernel_rfl
theorem ok146 : okFn Tryz.prog 146 = true := by kernel_rfl
theorem ok106 : okFn Tryz.prog 106 = true := by kernel_rfl
theorem ok147 : okFn Tryz.prog 147 = true := by kernel_rfl
theorem ok107 : okFn Tryz.prog 107 = true := by kernel_rfl
theorem ok66 : okFn Tryz.prog 66 = true := by kernel_rfl
theorem ok150 : okFn Tryz.prog 150 = true := by kernel_rfl
theorem ok115 : okFn Tryz.prog 115 = true := by kernel_rfl
theorem ok114 : okFn Tryz.prog 114 = true := by kernel_rfl
theorem ok151 : okFn Tryz.prog 151 = true := by kernel_rfl
theorem ok192 : okFn Tryz.prog 192 = true := by kernel_rfl
theorem ok191 : okFn Tryz.prog 191 = true := by kernel_rfl
theorem ok190 : okFn Tryz.prog 190 = true := by kernel_rfl
theorem ok152 : okFn Tryz.prog 152 = true := by kernel_rfl
theorem ok116 : okFn Tryz.prog 116 = true := by kernel_rfl
theorem ok117 : okFn Tryz.prog 117 = true := by kernel_rfl
theorem ok208 : okFn Tryz.prog 208 = true := by kernel_rfl
theorem ok193 : okFn Tryz.prog 193 = true := by kernel_rfl
theorem ok153 : okFn Tryz.prog 153 = true := by kernel_rfl
theorem ok154 : okFn Tryz.prog 154 = true := by kernel_rfl
theorem ok118 : okFn Tryz.prog 118 = true := by kernel_rfl
theorem ok209 : okFn Tryz.prog 209 = true := by kernel_rfl
theorem ok194 : okFn Tryz.prog 194 = true := by kernel_rfl
theorem ok195 : okFn Tryz.prog 195 = true := by kernel_rfl
theorem ok155 : okFn Tryz.prog 155 = true := by kernel_rfl
theorem ok210 : okFn Tryz.prog 210 = true := by kernel_rfl
theorem ok196 : okFn Tryz.prog 196 = true := by kernel_rfl
theorem ok156 : okFn Tryz.prog 156 = true := by kernel_rfl
theorem ok119 : okFn Tryz.prog 119 = true := by kernel_rfl
theorem ok197 : okFn Tryz.prog 197 = true := by kernel_rfl
theorem ok157 : okFn Tryz.prog 157 = true := by kernel_rfl
theorem ok120 : okFn Tryz.prog 120 = true := by kernel_rfl
theorem ok69 : okFn Tryz.prog 69 = true := by kernel_rfl
theorem ok29 : okFn Tryz.prog 29 = true := by kernel_rfl
theorem ok30 : okFn Tryz.prog 30 = true := by kernel_rfl
theorem ok6 : okFn Tryz.prog 6 = true := by kernel_rfl
theorem ok88 : okFn Tryz.prog 88 = true := by kernel_rfl
theorem cut88 (b0 r : List Int) (h : compactL b0 = some r) : CCut Tryz.prog 88 3 1 (b0.map int) (r.map int) := by
  cases h
  exact CCut.compactInt (by decide) ok88 (fun blk off cap zs w h1 h2 h3 => Tryz.slices_Compact_int blk off cap zs w h1 h2 h3) (fun a cap w => Tryz.slices_Compact_int_empty a cap w) b0 (compactL_le b0) (compactL_nil b0)
theorem w_szIntS_pc (b0 : List Int) (b1 : Int) (r : Int) (h : w_szIntS b0 b1 = some r) : PC Tryz.prog 34 [.slice (b0.map int), int b1] (int r) := by
 unfold w_szIntS at h
 refine PC.start Tryz.func34 Tryz.ntmps34 rfl ok34 rfl ?_
 refine Run.sr ?_
 refine X.an ?_
 refine Run.sr ?_
 refine X.mv ?_
 refine X.mv ?_
 refine X.ls elt25 ?_
 refine X.subW (by rfl) (by rfl) (by rfl) ?_
 refine X.an ?_
 refine Run.seq ?_
 refine Run.sr ?_
 refine X.mv ?_
 refine X.bi ?_
 refine X.nil ?_
 refine R.cd (fun hc1 => ?_) (fun hc1 => ?_)
 ·replace h := condT hc1 h
  refine Run.sr ?_
  refine X.an ?_
  cases h
  refine R.f1 Tryz.results34 ?_
  rfl
 ·replace h := condF hc1 h
  refine Run.skip ?_
  refine Run.sr ?_
  refine X.mv ?_
  refine X.an ?_
  cases h
  refine R.f1 Tryz.results34 ?_
  rfl
theorem w_szMode_pc (b0 : TMode) (b1 : Int) (r : Int) (h : w_szMode b0 b1 = some r) : PC Tryz.prog 158 [eTMode b0, int b1] (int r) := by
 unfold w_szMode at h
 refine PC.start Tryz.func158 Tryz.ntmps158 rfl ok158 rfl ?_
 refine Run.sr ?_
 refine X.bx ?_
 refine X.an ?_
 refine Run.sr ?_
 refine X.fl fld162_1 ?_
 refine X.ld shp25 ?_
 refine X.mv ?_
 obtain ⟨v1, hv1, h⟩ := bindE h
 refine X.cp (w_szIntS_pc _ _ _ hv1) ?_
 refine X.an ?_
 refine Run.seq ?_
 refine Run.sr ?_
 refine X.mv ?_
 refine X.bi ?_
 refine X.nil ?_
 refine R.cd (fun hc2 => ?_) (fun hc2 => ?_)
 ·replace h := condT hc2 h
  refine Run.sr ?_
  refine X.an ?_
  cases h
  refine R.f1 Tryz.results158 ?_
  rfl
 ·replace h := condF hc2 h
  refine Run.skip ?_
  refine Run.sr ?_
  refine X.fl fld162_2 ?_
  refine X.ld shp25 ?_
  refine X.mv ?_
  obtain ⟨v3, hv3, h⟩ := bindE h
  refine X.cp (w_szIntS_pc _ _ _ hv3) ?_
  refine X.an ?_
  refine Run.seq ?_
  refine Run.sr ?_
  refine X.mv ?_
  refine X.bi ?_
  refine X.nil ?_
  refine R.cd (fun hc4 => ?_) (fun hc4 => ?_)
  ·replace h := condT hc4 h
   refine Run.sr ?_
   refine X.an ?_
   cases h
   refine R.f1 Tryz.results158 ?_
   rfl
  ·replace h := condF hc4 h
   refine Run.skip ?_
   refine Run.sr ?_
   refine X.mv ?_
   refine X.an ?_
   cases h
   refine R.f1 Tryz.results158 ?_
   rfl
theorem w_szModeS_pc (b0 : List TMode) (b1 : Int) (r : Int) (h : w_szModeS b0 b1 = some r) : PC Tryz.prog 121 [.slice (b0.map eTMode), int b1] (int r) := by
 unfold w_szModeS at h
 refine PC.start Tryz.func121 Tryz.ntmps121 rfl ok121 rfl ?_
 refine Run.sr ?_
 refine X.an ?_
 refine Run.sr ?_
 refine X.mv ?_
 refine X.mv ?_
 refine X.ls elt96 ?_
 refine X.subW (by rfl) (by rfl) (by rfl) ?_
 refine X.an ?_
 refine Run.seq ?_
 refine Run.sr ?_
 refine X.mv ?_
 refine X.bi ?_
 refine X.nil ?_
 refine R.cd (fun hc1 => ?_) (fun hc1 => ?_)
 ·replace h := condT hc1 h
  refine Run.sr ?_
  refine X.an ?_
  cases h
  refine R.f1 Tryz.results121 ?_
  rfl
 ·replace h := condF hc1 h
  refine Run.skip ?_
  refine Run.seq ?_
  refine Run.sr ?_
  refine X.an ?_
  obtain ⟨o2, ho2, h⟩ := bindE h
  refine R.join2 (β := Int) [] [] (fun p16 S => (1, int p16) :: S) (fun p16 M => M) (fun p16 => (Sum.inl p16) = o2) ?_ ?_
  ·intro JJ5 hmeet4
   have hup3 := h; clear h; have h := ho2; clear ho2
   refine Run.block ?_
   refine R.bndS (t := 0) (by rfl) (fun hbd8 => ?_)
   replace hbd8 : b0.length ≤ 9223372036854775807 := by first | (rw [List.length_map] at hbd8; exact hbd8) | simp
   refine R.lp (β := Int × Int) [(0, .slice (b0.map eTMode))] [] (fun bb S => (1, int bb.2) :: (5, int bb.1) :: S) (fun bb M => M) (fun n bb => 0 ≤ bb.1 ∧ bb.1 + n = (b0.length : Int) ∧ w_szModeS_L1 (b0.drop bb.1.toNat) bb.1 bb.2 = some o2) b0.length (0, (W (b1 - (b0.length : Int)))) ⟨Int.le_refl _, by simp, h⟩ ?_
   clear h
   rintro JJ8 n8 ⟨z9, a10⟩ hag8 ⟨hza8, hzb8, h⟩
   dsimp only at hza8 hzb8 h
   refine Run.seq ?_
   refine Run.sr ?_
   refine X.mv ?_
   refine X.mv ?_
   refine X.ls elt96 ?_
   refine X.bi ?_
   refine X.nil ?_
   refine R.cd (fun hc13 => ?_) (fun hc13 => ?_)
   ·obtain ⟨x11, xs12, hd8, hx8, hds8, hlt8⟩ := drop_atI hza8 hc13
    rw [hd8] at h
    rw [w_szModeS_L1] at h
    refine Run.skip ?_
    refine Run.seq ?_
    refine Run.block ?_
    refine Run.sr ?_
    refine X.mv ?_
    refine X.mv ?_
    refine X.ix elt96 (idxL_spec hx8).1 (idxL_map eTMode hx8) ?_
    refine X.lc shp162 ?_
    refine X.mv ?_
    obtain ⟨v14, hv14, h⟩ := bindE h
    refine X.cp (w_szMode_pc _ _ _ hv14) ?_
    refine X.an ?_
    refine Run.sr ?_
    refine X.mv ?_
    refine X.bi ?_
    refine X.nil ?_
    refine R.cd (fun hc15 => ?_) (fun hc15 => ?_)
    ·replace h := condT hc15 h
     refine Run.sr ?_
     refine X.an ?_
     cases h
     have h := hup3
     replace h := elimR h
     cases h
     refine R.f1 Tryz.results121 ?_
     rfl
    ·replace h := condF hc15 h
     refine Run.skip ?_
     refine Run.blk ?_
     refine Run.reg ?_
     refine X.mv ?_
     refine X.ad ?_
     refine X.an ?_
     exact R.ag hag8 (n8 - 1) (z9 + 1, v14) (R.n3 (by first | (rw [hds8]; exact h) | (dsimp only; rw [hds8]; exact h)))
   ·rw [drop_endI hza8 hc13] at h
    rw [w_szModeS_L1] at h
    refine Run.exit (by rfl) ?_
    exact R.mt hmeet4 a10 (Option.some.inj h)
  rintro p16 rfl
  replace h := elimL h
  refine Run.sr ?_
  refine X.mv ?_
  refine X.an ?_
  cases h
  refine R.f1 Tryz.results121 ?_
  rfl
theorem w_szActivity_pc (b0 : TActivity) (b1 : Int) (r : Int) (h : w_szActivity b0 b1 = some r) : PC Tryz.prog 70 [eTActivity b0, int b1] (int r) := by
 unfold w_szActivity at h
 refine PC.start Tryz.func70 Tryz.ntmps70 rfl ok70 rfl ?_
 refine Run.sr ?_
 refine X.bx ?_
 refine X.an ?_
 refine Run.sr ?_
 refine X.mv ?_
 refine X.fl fld98_0 ?_
 refine X.ld shp9 ?_
 refine X.lenStr Tryz.underlying9 (by rfl) (by rfl) ?_
 refine X.subW (by rfl) (by rfl) (by rfl) ?_
 refine X.an ?_
 refine Run.seq ?_
 refine Run.sr ?_
 refine X.mv ?_
 refine X.bi ?_
 refine X.nil ?_
 refine R.cd (fun hc1 => ?_) (fun hc1 => ?_)
 ·replace h := condT hc1 h
  refine Run.sr ?_
  refine X.an ?_
  cases h
  refine R.f1 Tryz.results70 ?_
  rfl
 ·replace h := condF hc1 h
  refine Run.skip ?_
  refine Run.sr ?_
  refine X.fl fld98_2 ?_
  refine X.ld shp96 ?_
  refine X.mv ?_
  obtain ⟨v2, hv2, h⟩ := bindE h
  refine X.cp (w_szModeS_pc _ _ _ hv2) ?_
  refine X.an ?_
  refine Run.seq ?_
  refine Run.sr ?_
  refine X.mv ?_
  refine X.bi ?_
  refine X.nil ?_
  refine R.cd (fun hc3 => ?_) (fun hc3 => ?_)
  ·replace h := condT hc3 h
   refine Run.sr ?_
   refine X.an ?_
   cases h
   refine R.f1 Tryz.results70 ?_
   rfl
  ·replace h := condF hc3 h
   refine Run.skip ?_
   refine Run.sr ?_
   refine X.mv ?_
   refine X.an ?_
   cases h
   refine R.f1 Tryz.results70 ?_
   rfl
theorem w_szActivityS_pc (b0 : List TActivity) (b1 : Int) (r : Int) (h : w_szActivityS b0 b1 = some r) : PC Tryz.prog 31 [.slice (b0.map eTActivity), int b1] (int r) := by
 unfold w_szActivityS at h
 refine PC.start Tryz.func31 Tryz.ntmps31 rfl ok31 rfl ?_
 refine Run.sr ?_
 refine X.an ?_
 refine Run.sr ?_
 refine X.mv ?_
 refine X.mv ?_
 refine X.ls elt22 ?_
 refine X.subW (by rfl) (by rfl) (by rfl) ?_
 refine X.an ?_
 refine Run.seq ?_
 refine Run.sr ?_
 refine X.mv ?_
 refine X.bi ?_
 refine X.nil ?_
 refine R.cd (fun hc1 => ?_) (fun hc1 => ?_)
 ·replace h := condT hc1 h
  refine Run.sr ?_
  refine X.an ?_
  cases h
  refine R.f1 Tryz.results31 ?_
  rfl
 ·replace h := condF hc1 h
  refine Run.skip ?_
  refine Run.seq ?_
  refine Run.sr ?_
  refine X.an ?_
  obtain ⟨o2, ho2, h⟩ := bindE h
  refine R.join2 (β := Int) [] [] (fun p16 S => (1, int p16) :: S) (fun p16 M => M) (fun p16 => (Sum.inl p16) = o2) ?_ ?_
  ·intro JJ5 hmeet4
   have hup3 := h; clear h; have h := ho2; clear ho2
   refine Run.block ?_
   refine R.bndS (t := 0) (by rfl) (fun hbd8 => ?_)
   replace hbd8 : b0.length ≤ 9223372036854775807 := by first | (rw [List.length_map] at hbd8; exact hbd8) | simp
   refine R.lp (β := Int × Int) [(0, .slice (b0.map eTActivity))] [] (fun bb S => (1, int bb.2) :: (5, int bb.1) :: S) (fun bb M => M) (fun n bb => 0 ≤ bb.1 ∧ bb.1 + n = (b0.length : Int) ∧ w_szActivityS_L1 (b0.drop bb.1.toNat) bb.1 bb.2 = some o2) b0.length (0, (W (b1 - (b0.length : Int)))) ⟨Int.le_refl _, by simp, h⟩ ?_
   clear h
   rintro JJ8 n8 ⟨z9, a10⟩ hag8 ⟨hza8, hzb8, h⟩
   dsimp only at hza8 hzb8 h
   refine Run.seq ?_
   refine Run.sr ?_
   refine X.mv ?_
   refine X.mv ?_
   refine X.ls elt22 ?_
   refine X.bi ?_
   refine X.nil ?_
   refine R.cd (fun hc13 => ?_) (fun hc13 => ?_)
   ·obtain ⟨x11, xs12, hd8, hx8, hds8, hlt8⟩ := drop_atI hza8 hc13
    rw [hd8] at h
    rw [w_szActivityS_L1] at h
    refine Run.skip ?_
    refine Run.seq ?_
    refine Run.block ?_
    refine Run.sr ?_
    refine X.mv ?_
    refine X.mv ?_
    refine X.ix elt22 (idxL_spec hx8).1 (idxL_map eTActivity hx8) ?_
    refine X.lc shp98 ?_
    refine X.mv ?_
    obtain ⟨v14, hv14, h⟩ := bindE h
    refine X.cp (w_szActivity_pc _ _ _ hv14) ?_
    refine X.an ?_
    refine Run.sr ?_
    refine X.mv ?_
    refine X.bi ?_
    refine X.nil ?_
    refine R.cd (fun hc15 => ?_) (fun hc15 => ?_)
    ·replace h := condT hc15 h
     refine Run.sr ?_
     refine X.an ?_
     cases h
     have h := hup3
     replace h := elimR h
     cases h
     refine R.f1 Tryz.results31 ?_
     rfl
    ·replace h := condF hc15 h
     refine Run.skip ?_
     refine Run.blk ?_
     refine Run.reg ?_
     refine X.mv ?_
     refine X.ad ?_
     refine X.an ?_
     exact R.ag hag8 (n8 - 1) (z9 + 1, v14) (R.n3 (by first | (rw [hds8]; exact h) | (dsimp only; rw [hds8]; exact h)))
   ·rw [drop_endI hza8 hc13] at h
    rw [w_szActivityS_L1] at h
    refine Run.exit (by rfl) ?_
    exact R.mt hmeet4 a10 (Option.some.inj h)
  rintro p16 rfl
  replace h := elimL h
  refine Run.sr ?_
  refine X.mv ?_
  refine X.an ?_
  cases h
  refine R.f1 Tryz.results31 ?_
  rfl
theorem w_szLinkS_pc (b0 : List TLink) (b1 : Int) (r : Int) (h : w_szLinkS b0 b1 = some r) : PC Tryz.prog 32 [.slice (b0.map eTLink), int b1] (int r) := by
 unfold w_szLinkS at h
 refine PC.start Tryz.func32 Tryz.ntmps32 rfl ok32 rfl ?_
 refine Run.sr ?_
 refine X.an ?_
 refine Run.sr ?_
 refine X.mv ?_
 refine X.mv ?_
 refine X.ls elt23 ?_
 refine X.subW (by rfl) (by rfl) (by rfl) ?_
 refine X.an ?_
 refine Run.seq ?_
 refine Run.sr ?_
 refine X.mv ?_
 refine X.bi ?_
 refine X.nil ?_
 refine R.cd (fun hc1 => ?_) (fun hc1 => ?_)
 ·replace h := condT hc1 h
  refine Run.sr ?_
  refine X.an ?_
  cases h
  refine R.f1 Tryz.results32 ?_
  rfl
 ·replace h := condF hc1 h
  refine Run.skip ?_
  refine Run.sr ?_
  refine X.mv ?_
  refine X.an ?_
  cases h
  refine R.f1 Tryz.results32 ?_
  rfl
theorem w_szStepS_pc (b0 : List TStep) (b1 : Int) (r : Int) (h : w_szStepS b0 b1 = some r) : PC Tryz.prog 122 [.slice (b0.map eTStep), int b1] (int r) := by
 unfold w_szStepS at h
 refine PC.start Tryz.func122 Tryz.ntmps122 rfl ok122 rfl ?_
 refine Run.sr ?_
 refine X.an ?_
 refine Run.sr ?_
 refine X.mv ?_
 refine X.mv ?_
 refine X.ls elt100 ?_
 refine X.subW (by rfl) (by rfl) (by rfl) ?_
 refine X.an ?_
 refine Run.seq ?_
 refine Run.sr ?_
 refine X.mv ?_
 refine X.bi ?_
 refine X.nil ?_
 refine R.cd (fun hc1 => ?_) (fun hc1 => ?_)
 ·replace h := condT hc1 h
  refine Run.sr ?_
  refine X.an ?_
  cases h
  refine R.f1 Tryz.results122 ?_
  rfl
 ·replace h := condF hc1 h
  refine Run.skip ?_
  refine Run.sr ?_
  refine X.mv ?_
  refine X.an ?_
  cases h
  refine R.f1 Tryz.results122 ?_
  rfl
theorem w_szIntSS_pc (b0 : List (List Int)) (b1 : Int) (r : Int) (h : w_szIntSS b0 b1 = some r) : PC Tryz.prog 53 [.slice (b0.map l_int), int b1] (int r) := by
 unfold w_szIntSS at h
 refine PC.start Tryz.func53 Tryz.ntmps53 rfl ok53 rfl ?_
 refine Run.sr ?_
 refine X.an ?_
 refine Run.sr ?_
 refine X.mv ?_
 refine X.mv ?_
 refine X.ls elt45 ?_
 refine X.subW (by rfl) (by rfl) (by rfl) ?_
 refine X.an ?_
 refine Run.seq ?_
 refine Run.sr ?_
 refine X.mv ?_
 refine X.bi ?_
 refine X.nil ?_
 refine R.cd (fun hc1 => ?_) (fun hc1 => ?_)
 ·replace h := condT hc1 h
  refine Run.sr ?_
  refine X.an ?_
  cases h
  refine R.f1 Tryz.results53 ?_
  rfl
 ·replace h := condF hc1 h
  refine Run.skip ?_
  refine Run.seq ?_
  refine Run.sr ?_
  refine X.an ?_
  obtain ⟨o2, ho2, h⟩ := bindE h
  refine R.join2 (β := Int) [] [] (fun p16 S => (1, int p16) :: S) (fun p16 M => M) (fun p16 => (Sum.inl p16) = o2) ?_ ?_
  ·intro JJ5 hmeet4
   have hup3 := h; clear h; have h := ho2; clear ho2
   refine Run.block ?_
   refine R.bndS (t := 0) (by rfl) (fun hbd8 => ?_)
   replace hbd8 : b0.length ≤ 9223372036854775807 := by first | (rw [List.length_map] at hbd8; exact hbd8) | simp
   refine R.lp (β := Int × Int) [(0, .slice (b0.map l_int))] [] (fun bb S => (1, int bb.2) :: (5, int bb.1) :: S) (fun bb M => M) (fun n bb => 0 ≤ bb.1 ∧ bb.1 + n = (b0.length : Int) ∧ w_szIntSS_L1 (b0.drop bb.1.toNat) bb.1 bb.2 = some o2) b0.length (0, (W (b1 - (b0.length : Int)))) ⟨Int.le_refl _, by simp, h⟩ ?_
   clear h
   rintro JJ8 n8 ⟨z9, a10⟩ hag8 ⟨hza8, hzb8, h⟩
   dsimp only at hza8 hzb8 h
   refine Run.seq ?_
   refine Run.sr ?_
   refine X.mv ?_
   refine X.mv ?_
   refine X.ls elt45 ?_
   refine X.bi ?_
   refine X.nil ?_
   refine R.cd (fun hc13 => ?_) (fun hc13 => ?_)
   ·obtain ⟨x11, xs12, hd8, hx8, hds8, hlt8⟩ := drop_atI hza8 hc13
    rw [hd8] at h
    rw [w_szIntSS_L1] at h
    refine Run.skip ?_
    refine Run.seq ?_
    refine Run.block ?_
    refine Run.sr ?_
    refine X.mv ?_
    refine X.mv ?_
    refine X.ix elt45 (idxL_spec hx8).1 (idxL_map l_int hx8) ?_
    refine X.lc shp25 ?_
    refine X.mv ?_
    obtain ⟨v14, hv14, h⟩ := bindE h
    refine X.cp (w_szIntS_pc _ _ _ hv14) ?_
    refine X.an ?_
    refine Run.sr ?_
    refine X.mv ?_
    refine X.bi ?_
    refine X.nil ?_
    refine R.cd (fun hc15 => ?_) (fun hc15 => ?_)
    ·replace h := condT hc15 h
     refine Run.sr ?_
     refine X.an ?_
     cases h
     have h := hup3
     replace h := elimR h
     cases h
     refine R.f1 Tryz.results53 ?_
     rfl
    ·replace h := condF hc15 h
     refine Run.skip ?_
     refine Run.blk ?_
     refine Run.reg ?_
     refine X.mv ?_
     refine X.ad ?_
     refine X.an ?_
     exact R.ag hag8 (n8 - 1) (z9 + 1, v14) (R.n3 (by first | (rw [hds8]; exact h) | (dsimp only; rw [hds8]; exact h)))
   ·rw [drop_endI hza8 hc13] at h
    rw [w_szIntSS_L1] at h
    refine Run.exit (by rfl) ?_
    exact R.mt hmeet4 a10 (Option.some.inj h)
  rintro p16 rfl
  replace h := elimL h
  refine Run.sr ?_
  refine X.mv ?_
  refine X.an ?_
  cases h
  refine R.f1 Tryz.results53 ?_
  rfl
theorem w_szResource_pc (b0 : TResource) (b1 : Int) (r : Int) (h : w_szResource b0 b1 = some r) : PC Tryz.prog 71 [eTResource b0, int b1] (int r) := by
 unfold w_szResource at h
 refine PC.start Tryz.func71 Tryz.ntmps71 rfl ok71 rfl ?_
 refine Run.sr ?_
 refine X.bx ?_
 refine X.an ?_
 refine Run.sr ?_
 refine X.fl fld102_0 ?_
 refine X.ld shp100 ?_
 refine X.mv ?_
 obtain ⟨v1, hv1, h⟩ := bindE h
 refine X.cp (w_szStepS_pc _ _ _ hv1) ?_
 refine X.an ?_
 refine Run.seq ?_
 refine Run.sr ?_
 refine X.mv ?_
 refine X.bi ?_
 refine X.nil ?_
 refine R.cd (fun hc2 => ?_) (fun hc2 => ?_)
 ·replace h := condT hc2 h
  refine Run.sr ?_
  refine X.an ?_
  cases h
  refine R.f1 Tryz.results71 ?_
  rfl
 ·replace h := condF hc2 h
  refine Run.skip ?_
  refine Run.sr ?_
  refine X.fl fld102_1 ?_
  refine X.ld shp45 ?_
  refine X.mv ?_
  obtain ⟨v3, hv3, h⟩ := bindE h
  refine X.cp (w_szIntSS_pc _ _ _ hv3) ?_
  refine X.an ?_
  refine Run.seq ?_
  refine Run.sr ?_
  refine X.mv ?_
  refine X.bi ?_
  refine X.nil ?_
  refine R.cd (fun hc4 => ?_) (fun hc4 => ?_)
  ·replace h := condT hc4 h
   refine Run.sr ?_
   refine X.an ?_
   cases h
   refine R.f1 Tryz.results71 ?_
   rfl
  ·replace h := condF hc4 h
   refine Run.skip ?_
   refine Run.sr ?_
   refine X.mv ?_
   refine X.an ?_
   cases h
   refine R.f1 Tryz.results71 ?_
   rfl
theorem w_szResourceS_pc (b0 : List TResource) (b1 : Int) (r : Int) (h : w_szResourceS b0 b1 = some r) : PC Tryz.prog 33 [.slice (b0.map eTResource), int b1] (int r) := by
 unfold w_szResourceS at h
 refine PC.start Tryz.func33 Tryz.ntmps33 rfl ok33 rfl ?_
 refine Run.sr ?_
 refine X.an ?_
 refine Run.sr ?_
 refine X.mv ?_
 refine X.mv ?_
 refine X.ls elt24 ?_
 refine X.subW (by rfl) (by rfl) (by rfl) ?_
 refine X.an ?_
 refine Run.seq ?_
 refine Run.sr ?_
 refine X.mv ?_
 refine X.bi ?_
 refine X.nil ?_
 refine R.cd (fun hc1 => ?_) (fun hc1 => ?_)
 ·replace h := condT hc1 h
  refine Run.sr ?_
  refine X.an ?_
  cases h
  refine R.f1 Tryz.results33 ?_
  rfl
 ·replace h := condF hc1 h
  refine Run.skip ?_
  refine Run.seq ?_
  refine Run.sr ?_
  refine X.an ?_
  obtain ⟨o2, ho2, h⟩ := bindE h
  refine R.join2 (β := Int) [] [] (fun p16 S => (1, int p16) :: S) (fun p16 M => M) (fun p16 => (Sum.inl p16) = o2) ?_ ?_
  ·intro JJ5 hmeet4
   have hup3 := h; clear h; have h := ho2; clear ho2
   refine Run.block ?_
   refine R.bndS (t := 0) (by rfl) (fun hbd8 => ?_)
   replace hbd8 : b0.length ≤ 9223372036854775807 := by first | (rw [List.length_map] at hbd8; exact hbd8) | simp
   refine R.lp (β := Int × Int) [(0, .slice (b0.map eTResource))] [] (fun bb S => (1, int bb.2) :: (5, int bb.1) :: S) (fun bb M => M) (fun n bb => 0 ≤ bb.1 ∧ bb.1 + n = (b0.length : Int) ∧ w_szResourceS_L1 (b0.drop bb.1.toNat) bb.1 bb.2 = some o2) b0.length (0, (W (b1 - (b0.length : Int)))) ⟨Int.le_refl _, by simp, h⟩ ?_
   clear h
   rintro JJ8 n8 ⟨z9, a10⟩ hag8 ⟨hza8, hzb8, h⟩
   dsimp only at hza8 hzb8 h
   refine Run.seq ?_
   refine Run.sr ?_
   refine X.mv ?_
   refine X.mv ?_
   refine X.ls elt24 ?_
   refine X.bi ?_
   refine X.nil ?_
   refine R.cd (fun hc13 => ?_) (fun hc13 => ?_)
   ·obtain ⟨x11, xs12, hd8, hx8, hds8, hlt8⟩ := drop_atI hza8 hc13
    rw [hd8] at h
    rw [w_szResourceS_L1] at h
    refine Run.skip ?_
    refine Run.seq ?_
    refine Run.block ?_
    refine Run.sr ?_
    refine X.mv ?_
    refine X.mv ?_
    refine X.ix elt24 (idxL_spec hx8).1 (idxL_map eTResource hx8) ?_
    refine X.lc shp102 ?_
    refine X.mv ?_
    obtain ⟨v14, hv14, h⟩ := bindE h
    refine X.cp (w_szResource_pc _ _ _ hv14) ?_
    refine X.an ?_
    refine Run.sr ?_
    refine X.mv ?_
    refine X.bi ?_
    refine X.nil ?_
    refine R.cd (fun hc15 => ?_) (fun hc15 => ?_)
    ·replace h := condT hc15 h
     refine Run.sr ?_
     refine X.an ?_
     cases h
     have h := hup3
     replace h := elimR h
     cases h
     refine R.f1 Tryz.results33 ?_
     rfl
    ·replace h := condF hc15 h
     refine Run.skip ?_
     refine Run.blk ?_
     refine Run.reg ?_
     refine X.mv ?_
     refine X.ad ?_
     refine X.an ?_
     exact R.ag hag8 (n8 - 1) (z9 + 1, v14) (R.n3 (by first | (rw [hds8]; exact h) | (dsimp only; rw [hds8]; exact h)))
   ·rw [drop_endI hza8 hc13] at h
    rw [w_szResourceS_L1] at h
    refine Run.exit (by rfl) ?_
    exact R.mt hmeet4 a10 (Option.some.inj h)
  rintro p16 rfl
  replace h := elimL h
  refine Run.sr ?_
  refine X.mv ?_
  refine X.an ?_
  cases h
  refine R.f1 Tryz.results33 ?_
  rfl
theorem w_szProject_pc (b0 : TProject) (b1 : Int) (r : Int) (h : w_szProject b0 b1 = some r) : PC Tryz.prog 7 [eTProject b0, int b1] (int r) := by
 unfold w_szProject at h
 refine PC.start Tryz.func7 Tryz.ntmps7 rfl ok7 rfl ?_
 refine Run.sr ?_
 refine X.bx ?_
 refine X.an ?_
 refine Run.sr ?_
 refine X.fl fld27_1 ?_
 refine X.ld shp22 ?_
 refine X.mv ?_
 obtain ⟨v1, hv1, h⟩ := bindE h
 refine X.cp (w_szActivityS_pc _ _ _ hv1) ?_
 refine X.an ?_
 refine Run.seq ?_
 refine Run.sr ?_
 refine X.mv ?_
 refine X.bi ?_
 refine X.nil ?_
 refine R.cd (fun hc2 => ?_) (fun hc2 => ?_)
 ·replace h := condT hc2 h
  refine Run.sr ?_
  refine X.an ?_
  cases h
  refine R.f1 Tryz.results7 ?_
  rfl
 ·replace h := condF hc2 h
  refine Run.skip ?_
  refine Run.sr ?_
  refine X.fl fld27_2 ?_
  refine X.ld shp23 ?_
  refine X.mv ?_
  obtain ⟨v3, hv3, h⟩ := bindE h
  refine X.cp (w_szLinkS_pc _ _ _ hv3) ?_
  refine X.an ?_
  refine Run.seq ?_
  refine Run.sr ?_
  refine X.mv ?_
  refine X.bi ?_
  refine X.nil ?_
  refine R.cd (fun hc4 => ?_) (fun hc4 => ?_)
  ·replace h := condT hc4 h
   refine Run.sr ?_
   refine X.an ?_
   cases h
   refine R.f1 Tryz.results7 ?_
   rfl
  ·replace h := condF hc4 h
   refine Run.skip ?_
   refine Run.sr ?_
   refine X.fl fld27_3 ?_
   refine X.ld shp24 ?_
   refine X.mv ?_
   obtain ⟨v5, hv5, h⟩ := bindE h
   refine X.cp (w_szResourceS_pc _ _ _ hv5) ?_
   refine X.an ?_
   refine Run.seq ?_
   refine Run.sr ?_
   refine X.mv ?_
   refine X.bi ?_
   refine X.nil ?_
   refine R.cd (fun hc6 => ?_) (fun hc6 => ?_)
   ·replace h := condT hc6 h
    refine Run.sr ?_
    refine X.an ?_
    cases h
    refine R.f1 Tryz.results7 ?_
    rfl
   ·replace h := condF hc6 h
    refine Run.skip ?_
    refine Run.sr ?_
    refine X.fl fld27_4 ?_
    refine X.ld shp25 ?_
    refine X.mv ?_
    obtain ⟨v7, hv7, h⟩ := bindE h
    refine X.cp (w_szIntS_pc _ _ _ hv7) ?_
    refine X.an ?_
    refine Run.seq ?_
    refine Run.sr ?_
    refine X.mv ?_
    refine X.bi ?_
    refine X.nil ?_
    refine R.cd (fun hc8 => ?_) (fun hc8 => ?_)
    ·replace h := condT hc8 h
     refine Run.sr ?_
     refine X.an ?_
     cases h
     refine R.f1 Tryz.results7 ?_
     rfl
    ·replace h := condF hc8 h
     refine Run.skip ?_
     refine Run.sr ?_
     refine X.mv ?_
     refine X.an ?_
     cases h
     refine R.f1 Tryz.results7 ?_
     rfl
theorem w_toIntS_pc (b0 : List Int) (r : List Int) (h : w_toIntS b0 = some r) : PCM Tryz.prog 42 [.yng 63 (.slice (b0.map int))] [(63, .yreg false false)] (.fresh false 3 1 (r.map int)) [(63, .yreg false false)] := by
 unfold w_toIntS at h
 refine PCM.start Tryz.func42 Tryz.ntmps42 rfl ok42 rfl (by rfl) (by rfl) (by rfl) (by rfl) (by rfl) ?_
 refine Run.sr ?_
 refine X.an ?_
 refine Run.sr ?_
 refine X.mv ?_
 refine X.lenY false 63 elt25 (by rfl) (by exact List.length_map ..) (by rfl) ?_
 obtain ⟨v1, hv1, h⟩ := bindE h
 refine X.makeSlice2 int hv1 elt25 zer3 (by rfl) (by rfl) (by rfl) (by simp [PV.plain]) (by rfl) (by rfl) (by rfl) (by rfl) (by rfl) (by rfl) ?_
 refine X.an ?_
 refine Run.seq ?_
 refine Run.sr ?_
 refine X.an ?_
 obtain ⟨o2, ho2, h⟩ := bindE h
 refine R.join2 (β := (List Int)) [] [(63, .yreg false false)] (fun p15 S => (3, .own 448 (p15.map int).length) :: S) (fun p15 M => (448, .obj true 3 1 (p15.map int)) :: M) (fun p15 => p15 = o2) ?_ ?_
 ·intro JJ5 hmeet4
  have hup3 := h; clear h; have h := ho2; clear ho2
  refine Run.block ?_
  refine R.bndY false 63 (t := 0) (by rfl) (fun hbd8 => ?_)
  replace hbd8 : b0.length ≤ 9223372036854775807 := by first | (rw [List.length_map] at hbd8; exact hbd8) | simp
  refine R.lp (β := Int × (List Int)) [(0, .yng 63 (.slice (b0.map int)))] [(63, .yreg false false)] (fun bb S => (3, .own 448 (bb.2.map int).length) :: (4, int bb.1) :: S) (fun bb M => (448, .obj true 3 1 (bb.2.map int)) :: M) (fun n bb => 0 ≤ bb.1 ∧ bb.1 + n = (b0.length : Int) ∧ w_toIntS_L1 (b0.drop bb.1.toNat) bb.1 bb.2 = some o2) b0.length (0, v1) ⟨Int.le_refl _, by simp, h⟩ ?_
  clear h
  rintro JJ8 n8 ⟨z9, a10⟩ hag8 ⟨hza8, hzb8, h⟩
  dsimp only at hza8 hzb8 h
  refine Run.seq ?_
  refine Run.sr ?_
  refine X.mv ?_
  refine X.mv ?_
  refine X.lenY false 63 elt25 (by rfl) (by exact List.length_map ..) (by rfl) ?_
  refine X.bi ?_
  refine X.nil ?_
  refine R.cd (fun hc13 => ?_) (fun hc13 => ?_)
  ·obtain ⟨x11, xs12, hd8, hx8, hds8, hlt8⟩ := drop_atI hza8 hc13
   rw [hd8] at h
   rw [w_toIntS_L1] at h
   refine Run.skip ?_
   refine Run.seq ?_
   refine Run.block ?_
   refine Run.reg ?_
   refine X.mv ?_
   refine X.mv ?_
   refine X.mv ?_
   refine X.mv ?_
   refine X.indexY false 63 elt25 (by rfl) (by rfl) (idxL_spec hx8).1 (idxL_map int hx8) (by rfl) (by rfl) ?_
   refine X.loadY false 63 shp3 (by rfl) (by rfl) (by rfl) (by rfl) ?_
   obtain ⟨v14, hv14, h⟩ := bindE h
   refine X.index_xs elt25 (by rfl) (by rfl) (by first | rfl | simp [setL] | omega) (by rfl) (by exact (Int.toNat_of_nonneg (idxL_spec hv14).1).symm) (by have := idxL_lt hv14; first | exact this | (rw [List.length_map]; exact this)) (by rfl) (by rfl) ?_
   refine X.store_es shp3 (by rfl) (by rfl) (by first | rfl | simp [setL] | omega) (idxL_map _ hv14) (by rfl) (by rfl) (by repeat (first | trivial | refine ⟨by first | rfl | simp [setL], ?_⟩)) (by rfl) (by rfl) (by rfl) (by rfl) (by exact setL_map _ _ _ x11) ?_
   refine X.nil ?_
   refine Run.blk ?_
   refine Run.reg ?_
   refine X.mv ?_
   refine X.ad ?_
   refine X.an ?_
   refine R.castS (t := 3) (.own 448 ((setL a10 z9 x11).map int).length) (by rfl) (.inl (by first | rfl | simp [setL])) ?_
   exact R.ag hag8 (n8 - 1) (z9 + 1, (setL a10 z9 x11)) (R.n3 (by first | (rw [hds8]; exact h) | (dsimp only; rw [hds8]; exact h)))
  ·rw [drop_endI hza8 hc13] at h
   rw [w_toIntS_L1] at h
   refine Run.exit (by rfl) ?_
   exact R.mt hmeet4 a10 (Option.some.inj h)
 rintro p15 rfl
 refine Run.sr ?_
 refine X.mv ?_
 refine X.an ?_
 cases h
 refine R.pubObj (n := 448) (by rfl) ?_
 exact R.finM1o Tryz.results42 (by rfl) (by rfl) (by first | rfl | simp [setL] | omega) (by rfl) (by repeat (first | exact trivial | refine ⟨by rfl, ?_⟩)) rfl
theorem w_toMode_pc (b0 : TMode) (r : TMode) (h : w_toMode b0 = some r) : PCM Tryz.prog 162 [.agg [int b0.Duration, .yng 63 (.slice (b0.Usage.map int)), .yng 63 (.slice (b0.Consumption.map int))]] [(63, .yreg false false)] (.agg [int r.Duration, .fresh false 3 1 (r.Usage.map int), .fresh false 3 1 (r.Consumption.map int)]) [(63, .yreg false false)] := by
 unfold w_toMode at h
 refine PCM.start Tryz.func162 Tryz.ntmps162 rfl ok162 rfl (by rfl) (by rfl) (by rfl) (by rfl) (by rfl) ?_
 refine Run.sr ?_
 refine X.bx ?_
 refine X.alloc zer110 (by rfl) (by rfl) (by rfl) ?_
 refine X.nil ?_
 refine Run.sr ?_
 refine X.alloc zer110 (by rfl) (by rfl) (by rfl) ?_
 refine X.nil ?_
 refine Run.sr ?_
 refine X.fl fld162_0 ?_
 refine X.ld shp3 ?_
 refine X.fl fld110_0 ?_
 refine X.sl shp3 ?_
 refine X.nil ?_
 refine Run.sr ?_
 refine X.fl fld162_1 ?_
 refine X.ld shp25 ?_
 obtain ⟨v1, hv1, h⟩ := bindE h
 refine X.callM [(63, 63)] (w_toIntS_pc _ _ hv1) (by rfl) (by rfl) (.yngB 63 (by rfl) (by rfl) .nil) (by rfl) ⟨rfl, rfl, ⟨_, by rfl, by constructor⟩, by constructor, trivial⟩ (by rfl) (by rfl) (by rfl) (by rfl) (by rfl) (by rfl) (by rfl) (by rfl) (by rfl) ?_
 refine X.fl fld110_1 ?_
 refine X.sl shp25 ?_
 refine X.nil ?_
 refine Run.sr ?_
 refine X.fl fld162_2 ?_
 refine X.ld shp25 ?_
 obtain ⟨v2, hv2, h⟩ := bindE h
 refine X.callM [(63, 63)] (w_toIntS_pc _ _ hv2) (by rfl) (by rfl) (.yngB 63 (by rfl) (by rfl) .nil) (by rfl) ⟨rfl, rfl, ⟨_, by rfl, by constructor⟩, by constructor, trivial⟩ (by rfl) (by rfl) (by rfl) (by rfl) (by rfl) (by rfl) (by rfl) (by rfl) (by rfl) ?_
 refine X.fl fld110_2 ?_
 refine X.sl shp25 ?_
 refine X.nil ?_
 refine Run.sr ?_
 refine X.ld shp110 ?_
 refine X.sl shp110 ?_
 refine X.nil ?_
 cases h
 exact R.finMC Tryz.results162 shp110 (by rfl) (by rfl) (by rfl) (by rfl) (by repeat (first | trivial | refine ⟨by first | rfl | simp [setL], ?_⟩)) (by rfl) (by repeat (first | exact trivial | refine ⟨by rfl, ?_⟩)) rfl
theorem w_toModeS_pc (b0 : List TMode) (r : List TMode) (h : w_toModeS b0 = some r) : PCM Tryz.prog 127 [.yng 63 (.slice (b0.map eTMode))] [(63, .yreg false false)] (.fresh false 110 3 (r.map eTMode)) [(63, .yreg false false)] := by
 unfold w_toModeS at h
 refine PCM.start Tryz.func127 Tryz.ntmps127 rfl ok127 rfl (by rfl) (by rfl) (by rfl) (by rfl) (by rfl) ?_
 refine Run.sr ?_
 refine X.an ?_
 refine Run.sr ?_
 refine X.mv ?_
 refine X.lenY false 63 elt96 (by rfl) (by exact List.length_map ..) (by rfl) ?_
 obtain ⟨v1, hv1, h⟩ := bindE h
 refine X.makeSlice2 eTMode hv1 elt106 zer110 (by rfl) (by rfl) (by rfl) (by simp [PV.plain]) (by rfl) (by rfl) (by rfl) (by rfl) (by rfl) (by rfl) ?_
 refine X.an ?_
 refine Run.seq ?_
 refine Run.sr ?_
 refine X.an ?_
 obtain ⟨o2, ho2, h⟩ := bindE h
 refine R.join2 (β := (List TMode)) [] [(63, .yreg false false)] (fun p16 S => (3, .own 448 (p16.map eTMode).length) :: S) (fun p16 M => (448, .obj true 110 3 (p16.map eTMode)) :: M) (fun p16 => p16 = o2) ?_ ?_
 ·intro JJ5 hmeet4
  have hup3 := h; clear h; have h := ho2; clear ho2
  refine Run.block ?_
  refine R.bndY false 63 (t := 0) (by rfl) (fun hbd8 => ?_)
  replace hbd8 : b0.length ≤ 9223372036854775807 := by first | (rw [List.length_map] at hbd8; exact hbd8) | simp
  refine R.lp (β := Int × (List TMode)) [(0, .yng 63 (.slice (b0.map eTMode)))] [(63, .yreg false false)] (fun bb S => (3, .own 448 (bb.2.map eTMode).length) :: (4, int bb.1) :: S) (fun bb M => (448, .obj true 110 3 (bb.2.map eTMode)) :: M) (fun n bb => 0 ≤ bb.1 ∧ bb.1 + n = (b0.length : Int) ∧ w_toModeS_L1 (b0.drop bb.1.toNat) bb.1 bb.2 = some o2) b0.length (0, v1) ⟨Int.le_refl _, by simp, h⟩ ?_
  clear h
  rintro JJ8 n8 ⟨z9, a10⟩ hag8 ⟨hza8, hzb8, h⟩
  dsimp only at hza8 hzb8 h
  refine Run.seq ?_
  refine Run.sr ?_
  refine X.mv ?_
  refine X.mv ?_
  refine X.lenY false 63 elt96 (by rfl) (by exact List.length_map ..) (by rfl) ?_
  refine X.bi ?_
  refine X.nil ?_
  refine R.cd (fun hc13 => ?_) (fun hc13 => ?_)
  ·obtain ⟨x11, xs12, hd8, hx8, hds8, hlt8⟩ := drop_atI hza8 hc13
   rw [hd8] at h
   rw [w_toModeS_L1] at h
   refine Run.skip ?_
   refine Run.seq ?_
   refine Run.block ?_
   refine Run.reg ?_
   refine X.mv ?_
   refine X.mv ?_
   refine X.mv ?_
   refine X.mv ?_
   refine X.indexY false 63 elt96 (by rfl) (by rfl) (idxL_spec hx8).1 (idxL_map eTMode hx8) (by rfl) (by rfl) ?_
   refine X.loadY false 63 shp162 (by rfl) (by rfl) (by rfl) (by rfl) ?_
   obtain ⟨v14, hv14, h⟩ := bindE h
   refine X.callM [(63, 63)] (w_toMode_pc _ _ hv14) (by rfl) (by rfl) (.agg _ _ _ _ _ _ (.pureB (by rfl) (by repeat (first | trivial | refine ⟨by first | rfl | simp [setL], ?_⟩)) (.yngB 63 (by rfl) (by rfl) (.yngB 63 (by rfl) (by rfl) .nil))) .nil) (by rfl) ⟨rfl, rfl, ⟨_, by rfl, by constructor⟩, by constructor, trivial⟩ (by rfl) (by rfl) (by rfl) (by rfl) (by rfl) (by rfl) (by rfl) (by rfl) (by rfl) ?_
   obtain ⟨v15, hv15, h⟩ := bindE h
   refine X.index_xs elt106 (by rfl) (by rfl) (by first | rfl | simp [setL] | omega) (by rfl) (by exact (Int.toNat_of_nonneg (idxL_spec hv15).1).symm) (by have := idxL_lt hv15; first | exact this | (rw [List.length_map]; exact this)) (by rfl) (by rfl) ?_
   refine X.store_es shp110 (by rfl) (by rfl) (by first | rfl | simp [setL] | omega) (idxL_map _ hv15) (by rfl) (by rfl) (by repeat (first | trivial | refine ⟨by first | rfl | simp [setL], ?_⟩)) (by rfl) (by rfl) (by rfl) (by rfl) (by exact setL_map _ _ _ v14) ?_
   refine X.nil ?_
   refine Run.blk ?_
   refine Run.reg ?_
   refine X.mv ?_
   refine X.ad ?_
   refine X.an ?_
   refine R.castS (t := 3) (.own 448 ((setL a10 z9 v14).map eTMode).length) (by rfl) (.inl (by first | rfl | simp [setL])) ?_
   exact R.ag hag8 (n8 - 1) (z9 + 1, (setL a10 z9 v14)) (R.n3 (by first | (rw [hds8]; exact h) | (dsimp only; rw [hds8]; exact h)))
  ·rw [drop_endI hza8 hc13] at h
   rw [w_toModeS_L1] at h
   refine Run.exit (by rfl) ?_
   exact R.mt hmeet4 a10 (Option.some.inj h)
 rintro p16 rfl
 refine Run.sr ?_
 refine X.mv ?_
 refine X.an ?_
 cases h
 refine R.pubObj (n := 448) (by rfl) ?_
 exact R.finM1o Tryz.results127 (by rfl) (by rfl) (by first | rfl | simp [setL] | omega) (by rfl) (by repeat (first | exact trivial | refine ⟨by rfl, ?_⟩)) rfl
theorem w_toActivity_pc (b0 : TActivity) (r : TActivity) (h : w_toActivity b0 = some r) : PCM Tryz.prog 77 [.agg [str b0.Name, int b0.Family, .yng 63 (.slice (b0.Modes.map eTMode))]] [(63, .yreg false false)] (.agg [str r.Name, int r.Family, .fresh false 110 3 (r.Modes.map eTMode)]) [(63, .yreg false false)] := by
 unfold w_toActivity at h
 refine PCM.start Tryz.func77 Tryz.ntmps77 rfl ok77 rfl (by rfl) (by rfl) (by rfl) (by rfl) (by rfl) ?_
 refine Run.sr ?_
 refine X.bx ?_
 refine X.alloc zer108 (by rfl) (by rfl) (by rfl) ?_
 refine X.nil ?_
 refine Run.sr ?_
 refine X.alloc zer108 (by rfl) (by rfl) (by rfl) ?_
 refine X.nil ?_
 refine Run.sr ?_
 refine X.fl fld98_0 ?_
 refine X.ld shp9 ?_
 refine X.fl fld108_0 ?_
 refine X.sl shp9 ?_
 refine X.nil ?_
 refine Run.sr ?_
 refine X.fl fld98_1 ?_
 refine X.ld shp3 ?_
 refine X.fl fld108_1 ?_
 refine X.sl shp3 ?_
 refine X.nil ?_
 refine Run.sr ?_
 refine X.fl fld98_2 ?_
 refine X.ld shp96 ?_
 obtain ⟨v1, hv1, h⟩ := bindE h
 refine X.callM [(63, 63)] (w_toModeS_pc _ _ hv1) (by rfl) (by rfl) (.yngB 63 (by rfl) (by rfl) .nil) (by rfl) ⟨rfl, rfl, ⟨_, by rfl, by constructor⟩, by constructor, trivial⟩ (by rfl) (by rfl) (by rfl) (by rfl) (by rfl) (by rfl) (by rfl) (by rfl) (by rfl) ?_
 refine X.fl fld108_2 ?_
 refine X.sl shp106 ?_
 refine X.nil ?_
 refine Run.sr ?_
 refine X.ld shp108 ?_
 refine X.sl shp108 ?_
 refine X.nil ?_
 cases h
 exact R.finMC Tryz.results77 shp108 (by rfl) (by rfl) (by rfl) (by rfl) (by repeat (first | trivial | refine ⟨by first | rfl | simp [setL], ?_⟩)) (by rfl) (by repeat (first | exact trivial | refine ⟨by rfl, ?_⟩)) rfl
theorem w_toActivityS_pc (b0 : List TActivity) (r : List TActivity) (h : w_toActivityS b0 = some r) : PCM Tryz.prog 39 [.yng 63 (.slice (b0.map eTActivity))] [(63, .yreg false false)] (.fresh false 108 3 (r.map eTActivity)) [(63, .yreg false false)] := by
 unfold w_toActivityS at h
 refine PCM.start Tryz.func39 Tryz.ntmps39 rfl ok39 rfl (by rfl) (by rfl) (by rfl) (by rfl) (by rfl) ?_
 refine Run.sr ?_
 refine X.an ?_
 refine Run.sr ?_
 refine X.mv ?_
 refine X.lenY false 63 elt22 (by rfl) (by exact List.length_map ..) (by rfl) ?_
 obtain ⟨v1, hv1, h⟩ := bindE h
 refine X.makeSlice2 eTActivity hv1 elt32 zer108 (by rfl) (by rfl) (by rfl) (by simp [PV.plain]) (by rfl) (by rfl) (by rfl) (by rfl) (by rfl) (by rfl) ?_
 refine X.an ?_
 refine Run.seq ?_
 refine Run.sr ?_
 refine X.an ?_
 obtain ⟨o2, ho2, h⟩ := bindE h
 refine R.join2 (β := (List TActivity)) [] [(63, .yreg false false)] (fun p16 S => (3, .own 448 (p16.map eTActivity).length) :: S) (fun p16 M => (448, .obj true 108 3 (p16.map eTActivity)) :: M) (fun p16 => p16 = o2) ?_ ?_
 ·intro JJ5 hmeet4
  have hup3 := h; clear h; have h := ho2; clear ho2
  refine Run.block ?_
  refine R.bndY false 63 (t := 0) (by rfl) (fun hbd8 => ?_)
  replace hbd8 : b0.length ≤ 9223372036854775807 := by first | (rw [List.length_map] at hbd8; exact hbd8) | simp
  refine R.lp (β := Int × (List TActivity)) [(0, .yng 63 (.slice (b0.map eTActivity)))] [(63, .yreg false false)] (fun bb S => (3, .own 448 (bb.2.map eTActivity).length) :: (4, int bb.1) :: S) (fun bb M => (448, .obj true 108 3 (bb.2.map eTActivity)) :: M) (fun n bb => 0 ≤ bb.1 ∧ bb.1 + n = (b0.length : Int) ∧ w_toActivityS_L1 (b0.drop bb.1.toNat) bb.1 bb.2 = some o2) b0.length (0, v1) ⟨Int.le_refl _, by simp, h⟩ ?_
  clear h
  rintro JJ8 n8 ⟨z9, a10⟩ hag8 ⟨hza8, hzb8, h⟩
  dsimp only at hza8 hzb8 h
  refine Run.seq ?_
  refine Run.sr ?_
  refine X.mv ?_
  refine X.mv ?_
  refine X.lenY false 63 elt22 (by rfl) (by exact List.length_map ..) (by rfl) ?_
  refine X.bi ?_
  refine X.nil ?_
  refine R.cd (fun hc13 => ?_) (fun hc13 => ?_)
  ·obtain ⟨x11, xs12, hd8, hx8, hds8, hlt8⟩ := drop_atI hza8 hc13
   rw [hd8] at h
   rw [w_toActivityS_L1] at h
   refine Run.skip ?_
   refine Run.seq ?_
   refine Run.block ?_
   refine Run.reg ?_
   refine X.mv ?_
   refine X.mv ?_
   refine X.mv ?_
   refine X.mv ?_
   refine X.indexY false 63 elt22 (by rfl) (by rfl) (idxL_spec hx8).1 (idxL_map eTActivity hx8) (by rfl) (by rfl) ?_
   refine X.loadY false 63 shp98 (by rfl) (by rfl) (by rfl) (by rfl) ?_
   obtain ⟨v14, hv14, h⟩ := bindE h
   refine X.callM [(63, 63)] (w_toActivity_pc _ _ hv14) (by rfl) (by rfl) (.agg _ _ _ _ _ _ (.pureB (by rfl) (by repeat (first | trivial | refine ⟨by first | rfl | simp [setL], ?_⟩)) (.pureB (by rfl) (by repeat (first | trivial | refine ⟨by first | rfl | simp [setL], ?_⟩)) (.yngB 63 (by rfl) (by rfl) .nil))) .nil) (by rfl) ⟨rfl, rfl, ⟨_, by rfl, by constructor⟩, by constructor, trivial⟩ (by rfl) (by rfl) (by rfl) (by rfl) (by rfl) (by rfl) (by rfl) (by rfl) (by rfl) ?_
   obtain ⟨v15, hv15, h⟩ := bindE h
   refine X.index_xs elt32 (by rfl) (by rfl) (by first | rfl | simp [setL] | omega) (by rfl) (by exact (Int.toNat_of_nonneg (idxL_spec hv15).1).symm) (by have := idxL_lt hv15; first | exact this | (rw [List.length_map]; exact this)) (by rfl) (by rfl) ?_
   refine X.store_es shp108 (by rfl) (by rfl) (by first | rfl | simp [setL] | omega) (idxL_map _ hv15) (by rfl) (by rfl) (by repeat (first | trivial | refine ⟨by first | rfl | simp [setL], ?_⟩)) (by rfl) (by rfl) (by rfl) (by rfl) (by exact setL_map _ _ _ v14) ?_
   refine X.nil ?_
   refine Run.blk ?_
   refine Run.reg ?_
   refine X.mv ?_
   refine X.ad ?_
   refine X.an ?_
   refine R.castS (t := 3) (.own 448 ((setL a10 z9 v14).map eTActivity).length) (by rfl) (.inl (by first | rfl | simp [setL])) ?_
   exact R.ag hag8 (n8 - 1) (z9 + 1, (setL a10 z9 v14)) (R.n3 (by first | (rw [hds8]; exact h) | (dsimp only; rw [hds8]; exact h)))
  ·rw [drop_endI hza8 hc13] at h
   rw [w_toActivityS_L1] at h
   refine Run.exit (by rfl) ?_
   exact R.mt hmeet4 a10 (Option.some.inj h)
 rintro p16 rfl
 refine Run.sr ?_
 refine X.mv ?_
 refine X.an ?_
 cases h
 refine R.pubObj (n := 448) (by rfl) ?_
 exact R.finM1o Tryz.results39 (by rfl) (by rfl) (by first | rfl | simp [setL] | omega) (by rfl) (by repeat (first | exact trivial | refine ⟨by rfl, ?_⟩)) rfl
theorem w_toLink_pc (b0 : TLink) (r : TLink) (h : w_toLink b0 = some r) : PC Tryz.prog 78 [eTLink b0] (eTLink r) := by
 unfold w_toLink at h
 refine PC.start Tryz.func78 Tryz.ntmps78 rfl ok78 rfl ?_
 refine Run.sr ?_
 refine X.bx ?_
 refine X.alloc zer68 (by rfl) (by rfl) (by rfl) ?_
 refine X.nil ?_
 refine Run.sr ?_
 refine X.alloc zer68 (by rfl) (by rfl) (by rfl) ?_
 refine X.nil ?_
 refine Run.sr ?_
 refine X.fl fld113_0 ?_
 refine X.ld shp3 ?_
 refine X.fl fld68_0 ?_
 refine X.sl shp3 ?_
 refine X.nil ?_
 refine Run.sr ?_
 refine X.fl fld113_1 ?_
 refine X.ld shp3 ?_
 refine X.fl fld68_1 ?_
 refine X.sl shp3 ?_
 refine X.nil ?_
 refine Run.sr ?_
 refine X.fl fld113_2 ?_
 refine X.ld shp4 ?_
 refine X.fl fld68_2 ?_
 refine X.sl shp4 ?_
 refine X.nil ?_
 refine Run.sr ?_
 refine X.fl fld113_3 ?_
 refine X.ld shp3 ?_
 refine X.fl fld68_3 ?_
 refine X.sl shp3 ?_
 refine X.nil ?_
 refine Run.sr ?_
 refine X.ld shp68 ?_
 refine X.sl shp68 ?_
 refine X.nil ?_
 cases h
 refine R.finC Tryz.results78 shp68 (by rfl) (by rfl) (by rfl) (by rfl) (by repeat (first | trivial | refine ⟨by first | rfl | simp [setL], ?_⟩)) ?_
 rfl
theorem w_toLinkS_pc (b0 : List TLink) (r : List TLink) (h : w_toLinkS b0 = some r) : PCM Tryz.prog 40 [.yng 63 (.slice (b0.map eTLink))] [(63, .yreg false false)] (.fresh false 68 4 (r.map eTLink)) [(63, .yreg false false)] := by
 unfold w_toLinkS at h
 refine PCM.start Tryz.func40 Tryz.ntmps40 rfl ok40 rfl (by rfl) (by rfl) (by rfl) (by rfl) (by rfl) ?_
 refine Run.sr ?_
 refine X.an ?_
 refine Run.sr ?_
 refine X.mv ?_
 refine X.lenY false 63 elt23 (by rfl) (by exact List.length_map ..) (by rfl) ?_
 obtain ⟨v1, hv1, h⟩ := bindE h
 refine X.makeSlice2 eTLink hv1 elt33 zer68 (by rfl) (by rfl) (by rfl) (by simp [PV.plain]) (by rfl) (by rfl) (by rfl) (by rfl) (by rfl) (by rfl) ?_
 refine X.an ?_
 refine Run.seq ?_
 refine Run.sr ?_
 refine X.an ?_
 obtain ⟨o2, ho2, h⟩ := bindE h
 refine R.join2 (β := (List TLink)) [] [(63, .yreg false false)] (fun p16 S => (3, .own 448 (p16.map eTLink).length) :: S) (fun p16 M => (448, .obj true 68 4 (p16.map eTLink)) :: M) (fun p16 => p16 = o2) ?_ ?_
 ·intro JJ5 hmeet4
  have hup3 := h; clear h; have h := ho2; clear ho2
  refine Run.block ?_
  refine R.bndY false 63 (t := 0) (by rfl) (fun hbd8 => ?_)
  replace hbd8 : b0.length ≤ 9223372036854775807 := by first | (rw [List.length_map] at hbd8; exact hbd8) | simp
  refine R.lp (β := Int × (List TLink)) [(0, .yng 63 (.slice (b0.map eTLink)))] [(63, .yreg false false)] (fun bb S => (3, .own 448 (bb.2.map eTLink).length) :: (4, int bb.1) :: S) (fun bb M => (448, .obj true 68 4 (bb.2.map eTLink)) :: M) (fun n bb => 0 ≤ bb.1 ∧ bb.1 + n = (b0.length : Int) ∧ w_toLinkS_L1 (b0.drop bb.1.toNat) bb.1 bb.2 = some o2) b0.length (0, v1) ⟨Int.le_refl _, by simp, h⟩ ?_
  clear h
  rintro JJ8 n8 ⟨z9, a10⟩ hag8 ⟨hza8, hzb8, h⟩
  dsimp only at hza8 hzb8 h
  refine Run.seq ?_
  refine Run.sr ?_
  refine X.mv ?_
  refine X.mv ?_
  refine X.lenY false 63 elt23 (by rfl) (by exact List.length_map ..) (by rfl) ?_
  refine X.bi ?_
  refine X.nil ?_
  refine R.cd (fun hc13 => ?_) (fun hc13 => ?_)
  ·obtain ⟨x11, xs12, hd8, hx8, hds8, hlt8⟩ := drop_atI hza8 hc13
   rw [hd8] at h
   rw [w_toLinkS_L1] at h
   refine Run.skip ?_
   refine Run.seq ?_
   refine Run.block ?_
   refine Run.reg ?_
   refine X.mv ?_
   refine X.mv ?_
   refine X.mv ?_
   refine X.mv ?_
   refine X.indexY false 63 elt23 (by rfl) (by rfl) (idxL_spec hx8).1 (idxL_map eTLink hx8) (by rfl) (by rfl) ?_
   refine X.loadY false 63 shp113 (by rfl) (by rfl) (by rfl) (by rfl) ?_
   obtain ⟨v14, hv14, h⟩ := bindE h
   refine X.callA (w_toLink_pc _ _ hv14) (by rfl) (by rfl) (by rfl) (by trivial) (by rfl) (by rfl) (by rfl) (by rfl) (by rfl) (by rfl) ?_
   obtain ⟨v15, hv15, h⟩ := bindE h
   refine X.index_xs elt33 (by rfl) (by rfl) (by first | rfl | simp [setL] | omega) (by rfl) (by exact (Int.toNat_of_nonneg (idxL_spec hv15).1).symm) (by have := idxL_lt hv15; first | exact this | (rw [List.length_map]; exact this)) (by rfl) (by rfl) ?_
   refine X.store_es shp68 (by rfl) (by rfl) (by first | rfl | simp [setL] | omega) (idxL_map _ hv15) (by rfl) (by rfl) (by repeat (first | trivial | refine ⟨by first | rfl | simp [setL], ?_⟩)) (by rfl) (by rfl) (by rfl) (by rfl) (by exact setL_map _ _ _ v14) ?_
   refine X.nil ?_
   refine Run.blk ?_
   refine Run.reg ?_
   refine X.mv ?_
   refine X.ad ?_
   refine X.an ?_
   refine R.castS (t := 3) (.own 448 ((setL a10 z9 v14).map eTLink).length) (by rfl) (.inl (by first | rfl | simp [setL])) ?_
   exact R.ag hag8 (n8 - 1) (z9 + 1, (setL a10 z9 v14)) (R.n3 (by first | (rw [hds8]; exact h) | (dsimp only; rw [hds8]; exact h)))
  ·rw [drop_endI hza8 hc13] at h
   rw [w_toLinkS_L1] at h
   refine Run.exit (by rfl) ?_
   exact R.mt hmeet4 a10 (Option.some.inj h)
 rintro p16 rfl
 refine Run.sr ?_
 refine X.mv ?_
 refine X.an ?_
 cases h
 refine R.pubObj (n := 448) (by rfl) ?_
 exact R.finM1o Tryz.results40 (by rfl) (by rfl) (by first | rfl | simp [setL] | omega) (by rfl) (by repeat (first | exact trivial | refine ⟨by rfl, ?_⟩)) rfl
theorem w_toStep_pc (b0 : TStep) (r : TStep) (h : w_toStep b0 = some r) : PC Tryz.prog 163 [eTStep b0] (eTStep r) := by
 unfold w_toStep at h
 refine PC.start Tryz.func163 Tryz.ntmps163 rfl ok163 rfl ?_
 refine Run.sr ?_
 refine X.bx ?_
 refine X.alloc zer88 (by rfl) (by rfl) (by rfl) ?_
 refine X.nil ?_
 refine Run.sr ?_
 refine X.alloc zer88 (by rfl) (by rfl) (by rfl) ?_
 refine X.nil ?_
 refine Run.sr ?_
 refine X.fl fld168_0 ?_
 refine X.ld shp3 ?_
 refine X.fl fld88_0 ?_
 refine X.sl shp3 ?_
 refine X.nil ?_
 refine Run.sr ?_
 refine X.fl fld168_1 ?_
 refine X.ld shp3 ?_
 refine X.fl fld88_1 ?_
 refine X.sl shp3 ?_
 refine X.nil ?_
 refine Run.sr ?_
 refine X.ld shp88 ?_
 refine X.sl shp88 ?_
 refine X.nil ?_
 cases h
 refine R.finC Tryz.results163 shp88 (by rfl) (by rfl) (by rfl) (by rfl) (by repeat (first | trivial | refine ⟨by first | rfl | simp [setL], ?_⟩)) ?_
 rfl
theorem w_toStepS_pc (b0 : List TStep) (r : List TStep) (h : w_toStepS b0 = some r) : PCM Tryz.prog 128 [.yng 63 (.slice (b0.map eTStep))] [(63, .yreg false false)] (.fresh false 88 2 (r.map eTStep)) [(63, .yreg false false)] := by
 unfold w_toStepS at h
 refine PCM.start Tryz.func128 Tryz.ntmps128 rfl ok128 rfl (by rfl) (by rfl) (by rfl) (by rfl) (by rfl) ?_
 refine Run.sr ?_
 refine X.an ?_
 refine Run.sr ?_
 refine X.mv ?_
 refine X.lenY false 63 elt100 (by rfl) (by exact List.length_map ..) (by rfl) ?_
 obtain ⟨v1, hv1, h⟩ := bindE h
 refine X.makeSlice2 eTStep hv1 elt84 zer88 (by rfl) (by rfl) (by rfl) (by simp [PV.plain]) (by rfl) (by rfl) (by rfl) (by rfl) (by rfl) (by rfl) ?_
 refine X.an ?_
 refine Run.seq ?_
 refine Run.sr ?_
 refine X.an ?_
 obtain ⟨o2, ho2, h⟩ := bindE h
 refine R.join2 (β := (List TStep)) [] [(63, .yreg false false)] (fun p16 S => (3, .own 448 (p16.map eTStep).length) :: S) (fun p16 M => (448, .obj true 88 2 (p16.map eTStep)) :: M) (fun p16 => p16 = o2) ?_ ?_
 ·intro JJ5 hmeet4
  have hup3 := h; clear h; have h := ho2; clear ho2
  refine Run.block ?_
  refine R.bndY false 63 (t := 0) (by rfl) (fun hbd8 => ?_)
  replace hbd8 : b0.length ≤ 9223372036854775807 := by first | (rw [List.length_map] at hbd8; exact hbd8) | simp
  refine R.lp (β := Int × (List TStep)) [(0, .yng 63 (.slice (b0.map eTStep)))] [(63, .yreg false false)] (fun bb S => (3, .own 448 (bb.2.map eTStep).length) :: (4, int bb.1) :: S) (fun bb M => (448, .obj true 88 2 (bb.2.map eTStep)) :: M) (fun n bb => 0 ≤ bb.1 ∧ bb.1 + n = (b0.length : Int) ∧ w_toStepS_L1 (b0.drop bb.1.toNat) bb.1 bb.2 = some o2) b0.length (0, v1) ⟨Int.le_refl _, by simp, h⟩ ?_
  clear h
  rintro JJ8 n8 ⟨z9, a10⟩ hag8 ⟨hza8, hzb8, h⟩
  dsimp only at hza8 hzb8 h
  refine Run.seq ?_
  refine Run.sr ?_
  refine X.mv ?_
  refine X.mv ?_
  refine X.lenY false 63 elt100 (by rfl) (by exact List.length_map ..) (by rfl) ?_
  refine X.bi ?_
  refine X.nil ?_
  refine R.cd (fun hc13 => ?_) (fun hc13 => ?_)
  ·obtain ⟨x11, xs12, hd8, hx8, hds8, hlt8⟩ := drop_atI hza8 hc13
   rw [hd8] at h
   rw [w_toStepS_L1] at h
   refine Run.skip ?_
   refine Run.seq ?_
   refine Run.block ?_
   refine Run.reg ?_
   refine X.mv ?_
   refine X.mv ?_
   refine X.mv ?_
   refine X.mv ?_
   refine X.indexY false 63 elt100 (by rfl) (by rfl) (idxL_spec hx8).1 (idxL_map eTStep hx8) (by rfl) (by rfl) ?_
   refine X.loadY false 63 shp168 (by rfl) (by rfl) (by rfl) (by rfl) ?_
   obtain ⟨v14, hv14, h⟩ := bindE h
   refine X.callA (w_toStep_pc _ _ hv14) (by rfl) (by rfl) (by rfl) (by trivial) (by rfl) (by rfl) (by rfl) (by rfl) (by rfl) (by rfl) ?_
   obtain ⟨v15, hv15, h⟩ := bindE h
   refine X.index_xs elt84 (by rfl) (by rfl) (by first | rfl | simp [setL] | omega) (by rfl) (by exact (Int.toNat_of_nonneg (idxL_spec hv15).1).symm) (by have := idxL_lt hv15; first | exact this | (rw [List.length_map]; exact this)) (by rfl) (by rfl) ?_
   refine X.store_es shp88 (by rfl) (by rfl) (by first | rfl | simp [setL] | omega) (idxL_map _ hv15) (by rfl) (by rfl) (by repeat (first | trivial | refine ⟨by first | rfl | simp [setL], ?_⟩)) (by rfl) (by rfl) (by rfl) (by rfl) (by exact setL_map _ _ _ v14) ?_
   refine X.nil ?_
   refine Run.blk ?_
   refine Run.reg ?_
   refine X.mv ?_
   refine X.ad ?_
   refine X.an ?_
   refine R.castS (t := 3) (.own 448 ((setL a10 z9 v14).map eTStep).length) (by rfl) (.inl (by first | rfl | simp [setL])) ?_
   exact R.ag hag8 (n8 - 1) (z9 + 1, (setL a10 z9 v14)) (R.n3 (by first | (rw [hds8]; exact h) | (dsimp only; rw [hds8]; exact h)))
  ·rw [drop_endI hza8 hc13] at h
   rw [w_toStepS_L1] at h
   refine Run.exit (by rfl) ?_
   exact R.mt hmeet4 a10 (Option.some.inj h)
 rintro p16 rfl
 refine Run.sr ?_
 refine X.mv ?_
 refine X.an ?_
 cases h
 refine R.pubObj (n := 448) (by rfl) ?_
 exact R.finM1o Tryz.results128 (by rfl) (by rfl) (by first | rfl | simp [setL] | omega) (by rfl) (by repeat (first | exact trivial | refine ⟨by rfl, ?_⟩)) rfl
theorem w_toIntSS_pc (b0 : List (List Int)) (r : List (List Int)) (h : w_toIntSS b0 = some r) : PCM Tryz.prog 56 [.yng 63 (.slice (b0.map l_int))] [(63, .yreg false false)] (.fresh false 25 1 (r.map l_int)) [(63, .yreg false false)] := by
 unfold w_toIntSS at h
 refine PCM.start Tryz.func56 Tryz.ntmps56 rfl ok56 rfl (by rfl) (by rfl) (by rfl) (by rfl) (by rfl) ?_
 refine Run.sr ?_
 refine X.an ?_
 refine Run.sr ?_
 refine X.mv ?_
 refine X.lenY false 63 elt45 (by rfl) (by exact List.length_map ..) (by rfl) ?_
 obtain ⟨v1, hv1, h⟩ := bindE h
 refine X.makeSlice2 l_int hv1 elt45 zer25 (by rfl) (by rfl) (by rfl) (by simp [PV.plain]) (by rfl) (by rfl) (by rfl) (by rfl) (by rfl) (by rfl) ?_
 refine X.an ?_
 refine Run.seq ?_
 refine Run.sr ?_
 refine X.an ?_
 obtain ⟨o2, ho2, h⟩ := bindE h
 refine R.join2 (β := (List (List Int))) [] [(63, .yreg false false)] (fun p16 S => (3, .own 448 (p16.map l_int).length) :: S) (fun p16 M => (448, .obj true 25 1 (p16.map l_int)) :: M) (fun p16 => p16 = o2) ?_ ?_
 ·intro JJ5 hmeet4
  have hup3 := h; clear h; have h := ho2; clear ho2
  refine Run.block ?_
  refine R.bndY false 63 (t := 0) (by rfl) (fun hbd8 => ?_)
  replace hbd8 : b0.length ≤ 9223372036854775807 := by first | (rw [List.length_map] at hbd8; exact hbd8) | simp
  refine R.lp (β := Int × (List (List Int))) [(0, .yng 63 (.slice (b0.map l_int)))] [(63, .yreg false false)] (fun bb S => (3, .own 448 (bb.2.map l_int).length) :: (4, int bb.1) :: S) (fun bb M => (448, .obj true 25 1 (bb.2.map l_int)) :: M) (fun n bb => 0 ≤ bb.1 ∧ bb.1 + n = (b0.length : Int) ∧ w_toIntSS_L1 (b0.drop bb.1.toNat) bb.1 bb.2 = some o2) b0.length (0, v1) ⟨Int.le_refl _, by simp, h⟩ ?_
  clear h
  rintro JJ8 n8 ⟨z9, a10⟩ hag8 ⟨hza8, hzb8, h⟩
  dsimp only at hza8 hzb8 h
  refine Run.seq ?_
  refine Run.sr ?_
  refine X.mv ?_
  refine X.mv ?_
  refine X.lenY false 63 elt45 (by rfl) (by exact List.length_map ..) (by rfl) ?_
  refine X.bi ?_
  refine X.nil ?_
  refine R.cd (fun hc13 => ?_) (fun hc13 => ?_)
  ·obtain ⟨x11, xs12, hd8, hx8, hds8, hlt8⟩ := drop_atI hza8 hc13
   rw [hd8] at h
   rw [w_toIntSS_L1] at h
   refine Run.skip ?_
   refine Run.seq ?_
   refine Run.block ?_
   refine Run.reg ?_
   refine X.mv ?_
   refine X.mv ?_
   refine X.mv ?_
   refine X.mv ?_
   refine X.indexY false 63 elt45 (by rfl) (by rfl) (idxL_spec hx8).1 (idxL_map l_int hx8) (by rfl) (by rfl) ?_
   refine X.loadY false 63 shp25 (by rfl) (by rfl) (by rfl) (by rfl) ?_
   obtain ⟨v14, hv14, h⟩ := bindE h
   refine X.callM [(63, 63)] (w_toIntS_pc _ _ hv14) (by rfl) (by rfl) (.yngB 63 (by rfl) (by rfl) .nil) (by rfl) ⟨rfl, rfl, ⟨_, by rfl, by constructor⟩, by constructor, trivial⟩ (by rfl) (by rfl) (by rfl) (by rfl) (by rfl) (by rfl) (by rfl) (by rfl) (by rfl) ?_
   obtain ⟨v15, hv15, h⟩ := bindE h
   refine X.index_xs elt45 (by rfl) (by rfl) (by first | rfl | simp [setL] | omega) (by rfl) (by exact (Int.toNat_of_nonneg (idxL_spec hv15).1).symm) (by have := idxL_lt hv15; first | exact this | (rw [List.length_map]; exact this)) (by rfl) (by rfl) ?_
   refine X.store_es shp25 (by rfl) (by rfl) (by first | rfl | simp [setL] | omega) (idxL_map _ hv15) (by rfl) (by rfl) (by repeat (first | trivial | refine ⟨by first | rfl | simp [setL], ?_⟩)) (by rfl) (by rfl) (by rfl) (by rfl) (by exact setL_map _ _ _ v14) ?_
   refine X.nil ?_
   refine Run.blk ?_
   refine Run.reg ?_
   refine X.mv ?_
   refine X.ad ?_
   refine X.an ?_
   refine R.castS (t := 3) (.own 448 ((setL a10 z9 v14).map l_int).length) (by rfl) (.inl (by first | rfl | simp [setL])) ?_
   exact R.ag hag8 (n8 - 1) (z9 + 1, (setL a10 z9 v14)) (R.n3 (by first | (rw [hds8]; exact h) | (dsimp only; rw [hds8]; exact h)))
  ·rw [drop_endI hza8 hc13] at h
   rw [w_toIntSS_L1] at h
   refine Run.exit (by rfl) ?_
   exact R.mt hmeet4 a10 (Option.some.inj h)
 rintro p16 rfl
 refine Run.sr ?_
 refine X.mv ?_
 refine X.an ?_
 cases h
 refine R.pubObj (n := 448) (by rfl) ?_
 exact R.finM1o Tryz.results56 (by rfl) (by rfl) (by first | rfl | simp [setL] | omega) (by rfl) (by repeat (first | exact trivial | refine ⟨by rfl, ?_⟩)) rfl
theorem w_toResource_pc (b0 : TResource) (r : TResource) (h : w_toResource b0 = some r) : PCM Tryz.prog 79 [.agg [.yng 63 (.slice (b0.Steps.map eTStep)), .yng 63 (.slice (b0.Setup.map l_int))]] [(63, .yreg false false)] (.agg [.fresh false 88 2 (r.Steps.map eTStep), .fresh false 25 1 (r.Setup.map l_int)]) [(63, .yreg false false)] := by
 unfold w_toResource at h
 refine PCM.start Tryz.func79 Tryz.ntmps79 rfl ok79 rfl (by rfl) (by rfl) (by rfl) (by rfl) (by rfl) ?_
 refine Run.sr ?_
 refine X.bx ?_
 refine X.alloc zer86 (by rfl) (by rfl) (by rfl) ?_
 refine X.nil ?_
 refine Run.sr ?_
 refine X.alloc zer86 (by rfl) (by rfl) (by rfl) ?_
 refine X.nil ?_
 refine Run.sr ?_
 refine X.fl fld102_0 ?_
 refine X.ld shp100 ?_
 obtain ⟨v1, hv1, h⟩ := bindE h
 refine X.callM [(63, 63)] (w_toStepS_pc _ _ hv1) (by rfl) (by rfl) (.yngB 63 (by rfl) (by rfl) .nil) (by rfl) ⟨rfl, rfl, ⟨_, by rfl, by constructor⟩, by constructor, trivial⟩ (by rfl) (by rfl) (by rfl) (by rfl) (by rfl) (by rfl) (by rfl) (by rfl) (by rfl) ?_
 refine X.fl fld86_0 ?_
 refine X.sl shp84 ?_
 refine X.nil ?_
 refine Run.sr ?_
 refine X.fl fld102_1 ?_
 refine X.ld shp45 ?_
 obtain ⟨v2, hv2, h⟩ := bindE h
 refine X.callM [(63, 63)] (w_toIntSS_pc _ _ hv2) (by rfl) (by rfl) (.yngB 63 (by rfl) (by rfl) .nil) (by rfl) ⟨rfl, rfl, ⟨_, by rfl, by constructor⟩, by constructor, trivial⟩ (by rfl) (by rfl) (by rfl) (by rfl) (by rfl) (by rfl) (by rfl) (by rfl) (by rfl) ?_
 refine X.fl fld86_1 ?_
 refine X.sl shp45 ?_
 refine X.nil ?_
 refine Run.sr ?_
 refine X.ld shp86 ?_
 refine X.sl shp86 ?_
 refine X.nil ?_
 cases h
 exact R.finMC Tryz.results79 shp86 (by rfl) (by rfl) (by rfl) (by rfl) (by repeat (first | trivial | refine ⟨by first | rfl | simp [setL], ?_⟩)) (by rfl) (by repeat (first | exact trivial | refine ⟨by rfl, ?_⟩)) rfl
theorem w_toResourceS_pc (b0 : List TResource) (r : List TResource) (h : w_toResourceS b0 = some r) : PCM Tryz.prog 41 [.yng 63 (.slice (b0.map eTResource))] [(63, .yreg false false)] (.fresh false 86 2 (r.map eTResource)) [(63, .yreg false false)] := by
 unfold w_toResourceS at h
 refine PCM.start Tryz.func41 Tryz.ntmps41 rfl ok41 rfl (by rfl) (by rfl) (by rfl) (by rfl) (by rfl) ?_
 refine Run.sr ?_
 refine X.an ?_
 refine Run.sr ?_
 refine X.mv ?_
 refine X.lenY false 63 elt24 (by rfl) (by exact List.length_map ..) (by rfl) ?_
 obtain ⟨v1, hv1, h⟩ := bindE h
 refine X.makeSlice2 eTResource hv1 elt34 zer86 (by rfl) (by rfl) (by rfl) (by simp [PV.plain]) (by rfl) (by rfl) (by rfl) (by rfl) (by rfl) (by rfl) ?_
 refine X.an ?_
 refine Run.seq ?_
 refine Run.sr ?_
 refine X.an ?_
 obtain ⟨o2, ho2, h⟩ := bindE h
 refine R.join2 (β := (List TResource)) [] [(63, .yreg false false)] (fun p16 S => (3, .own 448 (p16.map eTResource).length) :: S) (fun p16 M => (448, .obj true 86 2 (p16.map eTResource)) :: M) (fun p16 => p16 = o2) ?_ ?_
 ·intro JJ5 hmeet4
  have hup3 := h; clear h; have h := ho2; clear ho2
  refine Run.block ?_
  refine R.bndY false 63 (t := 0) (by rfl) (fun hbd8 => ?_)
  replace hbd8 : b0.length ≤ 9223372036854775807 := by first | (rw [List.length_map] at hbd8; exact hbd8) | simp
  refine R.lp (β := Int × (List TResource)) [(0, .yng 63 (.slice (b0.map eTResource)))] [(63, .yreg false false)] (fun bb S => (3, .own 448 (bb.2.map eTResource).length) :: (4, int bb.1) :: S) (fun bb M => (448, .obj true 86 2 (bb.2.map eTResource)) :: M) (fun n bb => 0 ≤ bb.1 ∧ bb.1 + n = (b0.length : Int) ∧ w_toResourceS_L1 (b0.drop bb.1.toNat) bb.1 bb.2 = some o2) b0.length (0, v1) ⟨Int.le_refl _, by simp, h⟩ ?_
  clear h
  rintro JJ8 n8 ⟨z9, a10⟩ hag8 ⟨hza8, hzb8, h⟩
  dsimp only at hza8 hzb8 h
  refine Run.seq ?_
  refine Run.sr ?_
  refine X.mv ?_
  refine X.mv ?_
  refine X.lenY false 63 elt24 (by rfl) (by exact List.length_map ..) (by rfl) ?_
  refine X.bi ?_
  refine X.nil ?_
  refine R.cd (fun hc13 => ?_) (fun hc13 => ?_)
  ·obtain ⟨x11, xs12, hd8, hx8, hds8, hlt8⟩ := drop_atI hza8 hc13
   rw [hd8] at h
   rw [w_toResourceS_L1] at h
   refine Run.skip ?_
   refine Run.seq ?_
   refine Run.block ?_
   refine Run.reg ?_
   refine X.mv ?_
   refine X.mv ?_
   refine X.mv ?_
   refine X.mv ?_
   refine X.indexY false 63 elt24 (by rfl) (by rfl) (idxL_spec hx8).1 (idxL_map eTResource hx8) (by rfl) (by rfl) ?_
   refine X.loadY false 63 shp102 (by rfl) (by rfl) (by rfl) (by rfl) ?_
   obtain ⟨v14, hv14, h⟩ := bindE h
   refine X.callM [(63, 63)] (w_toResource_pc _ _ hv14) (by rfl) (by rfl) (.agg _ _ _ _ _ _ (.yngB 63 (by rfl) (by rfl) (.yngB 63 (by rfl) (by rfl) .nil)) .nil) (by rfl) ⟨rfl, rfl, ⟨_, by rfl, by constructor⟩, by constructor, trivial⟩ (by rfl) (by rfl) (by rfl) (by rfl) (by rfl) (by rfl) (by rfl) (by rfl) (by rfl) ?_
   obtain ⟨v15, hv15, h⟩ := bindE h
   refine X.index_xs elt34 (by rfl) (by rfl) (by first | rfl | simp [setL] | omega) (by rfl) (by exact (Int.toNat_of_nonneg (idxL_spec hv15).1).symm) (by have := idxL_lt hv15; first | exact this | (rw [List.length_map]; exact this)) (by rfl) (by rfl) ?_
   refine X.store_es shp86 (by rfl) (by rfl) (by first | rfl | simp [setL] | omega) (idxL_map _ hv15) (by rfl) (by rfl) (by repeat (first | trivial | refine ⟨by first | rfl | simp [setL], ?_⟩)) (by rfl) (by rfl) (by rfl) (by rfl) (by exact setL_map _ _ _ v14) ?_
   refine X.nil ?_
   refine Run.blk ?_
   refine Run.reg ?_
   refine X.mv ?_
   refine X.ad ?_
   refine X.an ?_
   refine R.castS (t := 3) (.own 448 ((setL a10 z9 v14).map eTResource).length) (by rfl) (.inl (by first | rfl | simp [setL])) ?_
   exact R.ag hag8 (n8 - 1) (z9 + 1, (setL a10 z9 v14)) (R.n3 (by first | (rw [hds8]; exact h) | (dsimp only; rw [hds8]; exact h)))
  ·rw [drop_endI hza8 hc13] at h
   rw [w_toResourceS_L1] at h
   refine Run.exit (by rfl) ?_
   exact R.mt hmeet4 a10 (Option.some.inj h)
 rintro p16 rfl
 refine Run.sr ?_
 refine X.mv ?_
 refine X.an ?_
 cases h
 refine R.pubObj (n := 448) (by rfl) ?_
 exact R.finM1o Tryz.results41 (by rfl) (by rfl) (by first | rfl | simp [setL] | omega) (by rfl) (by repeat (first | exact trivial | refine ⟨by rfl, ?_⟩)) rfl
theorem w_toProject_pc (b0 : TProject) (r : TProject) (h : w_toProject b0 = some r) : PCM Tryz.prog 9 [.agg [int b0.Deadline, .yng 63 (.slice (b0.Activities.map eTActivity)), .yng 63 (.slice (b0.Links.map eTLink)), .yng 63 (.slice (b0.Resources.map eTResource)), .yng 63 (.slice (b0.Stocks.map int))]] [(63, .yreg false false)] (.agg [int r.Deadline, .fresh false 108 3 (r.Activities.map eTActivity), .fresh false 68 4 (r.Links.map eTLink), .fresh false 86 2 (r.Resources.map eTResource), .fresh false 3 1 (r.Stocks.map int)]) [(63, .yreg false false)] := by
 unfold w_toProject at h
 refine PCM.start Tryz.func9 Tryz.ntmps9 rfl ok9 rfl (by rfl) (by rfl) (by rfl) (by rfl) (by rfl) ?_
 refine Run.sr ?_
 refine X.bx ?_
 refine X.alloc zer36 (by rfl) (by rfl) (by rfl) ?_
 refine X.nil ?_
 refine Run.sr ?_
 refine X.alloc zer36 (by rfl) (by rfl) (by rfl) ?_
 refine X.nil ?_
 refine Run.sr ?_
 refine X.fl fld27_0 ?_
 refine X.ld shp3 ?_
 refine X.fl fld36_0 ?_
 refine X.sl shp3 ?_
 refine X.nil ?_
 refine Run.sr ?_
 refine X.fl fld27_1 ?_
 refine X.ld shp22 ?_
 obtain ⟨v1, hv1, h⟩ := bindE h
 refine X.callM [(63, 63)] (w_toActivityS_pc _ _ hv1) (by rfl) (by rfl) (.yngB 63 (by rfl) (by rfl) .nil) (by rfl) ⟨rfl, rfl, ⟨_, by rfl, by constructor⟩, by constructor, trivial⟩ (by rfl) (by rfl) (by rfl) (by rfl) (by rfl) (by rfl) (by rfl) (by rfl) (by rfl) ?_
 refine X.fl fld36_1 ?_
 refine X.sl shp32 ?_
 refine X.nil ?_
 refine Run.sr ?_
 refine X.fl fld27_2 ?_
 refine X.ld shp23 ?_
 obtain ⟨v2, hv2, h⟩ := bindE h
 refine X.callM [(63, 63)] (w_toLinkS_pc _ _ hv2) (by rfl) (by rfl) (.yngB 63 (by rfl) (by rfl) .nil) (by rfl) ⟨rfl, rfl, ⟨_, by rfl, by constructor⟩, by constructor, trivial⟩ (by rfl) (by rfl) (by rfl) (by rfl) (by rfl) (by rfl) (by rfl) (by rfl) (by rfl) ?_
 refine X.fl fld36_2 ?_
 refine X.sl shp33 ?_
 refine X.nil ?_
 refine Run.sr ?_
 refine X.fl fld27_3 ?_
 refine X.ld shp24 ?_
 obtain ⟨v3, hv3, h⟩ := bindE h
 refine X.callM [(63, 63)] (w_toResourceS_pc _ _ hv3) (by rfl) (by rfl) (.yngB 63 (by rfl) (by rfl) .nil) (by rfl) ⟨rfl, rfl, ⟨_, by rfl, by constructor⟩, by constructor, trivial⟩ (by rfl) (by rfl) (by rfl) (by rfl) (by rfl) (by rfl) (by rfl) (by rfl) (by rfl) ?_
 refine X.fl fld36_3 ?_
 refine X.sl shp34 ?_
 refine X.nil ?_
 refine Run.sr ?_
 refine X.fl fld27_4 ?_
 refine X.ld shp25 ?_
 obtain ⟨v4, hv4, h⟩ := bindE h
 refine X.callM [(63, 63)] (w_toIntS_pc _ _ hv4) (by rfl) (by rfl) (.yngB 63 (by rfl) (by rfl) .nil) (by rfl) ⟨rfl, rfl, ⟨_, by rfl, by constructor⟩, by constructor, trivial⟩ (by rfl) (by rfl) (by rfl) (by rfl) (by rfl) (by rfl) (by rfl) (by rfl) (by rfl) ?_
 refine X.fl fld36_4 ?_
 refine X.sl shp25 ?_
 refine X.nil ?_
 refine Run.sr ?_
 refine X.ld shp36 ?_
 refine X.sl shp36 ?_
 refine X.nil ?_
 cases h
 exact R.finMC Tryz.results9 shp36 (by rfl) (by rfl) (by rfl) (by rfl) (by repeat (first | trivial | refine ⟨by first | rfl | simp [setL], ?_⟩)) (by rfl) (by repeat (first | exact trivial | refine ⟨by rfl, ?_⟩)) rfl
theorem s_l01In_pc (b0 : Int) (b1 : Int) (b2 : Int) (r : Bool) (h : s_l01In b0 b1 b2 = some r) : PC Tryz.prog 73 [int b0, int b1, int b2] (bool r) := by
 unfold s_l01In at h
 refine PC.start Tryz.func73 Tryz.ntmps73 rfl ok73 rfl ?_
 refine Run.sr ?_
 refine X.an ?_
 refine Run.seq ?_
 obtain ⟨e1, he1, h2⟩ := bindE h
 refine R.regG [(6, bool e1)] [] ?_ ?_
 ·clear h; have h := he1; clear he1 h2
  refine X.mv ?_
  refine X.mv ?_
  refine X.bi ?_
  refine X.mv ?_
  refine X.iG (fun hb2 => ?_) (fun hb2 => ?_)
  ·replace h := condT hb2 h
   refine X.mv ?_
   refine X.gy ?_
   refine X.mv ?_
   refine X.gy ?_
   refine X.bi ?_
   refine X.pT ?_
   refine X.as ?_
   cases h
   exact X.eG
  ·replace h := condF hb2 h
   refine X.gn ?_
   refine X.gn ?_
   refine X.pF ?_
   refine X.as ?_
   cases h
   exact X.eG
 replace h := h2; clear h2
 cases h
 refine R.f1 Tryz.results73 ?_
 rfl
theorem s_l04Nums_pc (b0 : List Int) (b1 : Int) (r : Bool) (h : s_l04Nums b0 b1 = some r) : PC Tryz.prog 198 [.slice (b0.map int), int b1] (bool r) := by
 unfold s_l04Nums at h
 refine PC.start Tryz.func198 Tryz.ntmps198 rfl ok198 rfl ?_
 refine Run.sr ?_
 refine X.an ?_
 refine Run.seq ?_
 refine Run.sr ?_
 refine X.mv ?_
 refine X.ls elt25 ?_
 refine X.mn ?_
 obtain ⟨o1, ho1, h⟩ := bindE h
 refine R.join2 (β := Unit) [(0, .slice (b0.map int)), (1, int b1)] [] (fun p14 S => S) (fun p14 M => M) (fun p14 => (Sum.inl p14) = o1) ?_ ?_
 ·intro JJ4 hmeet3
  have hup2 := h; clear h; have h := ho1; clear ho1
  refine Run.block ?_
  refine R.bndS (t := 0) (by rfl) (fun hbd7 => ?_)
  replace hbd7 : b0.length ≤ 9223372036854775807 := by first | (rw [List.length_map] at hbd7; exact hbd7) | simp
  refine R.lp (β := Int) [(0, .slice (b0.map int)), (1, int b1), (7, .slice (b0.map int)), (8, int (b0.length : Int))] [] (fun bb S => (9, int bb) :: S) (fun bb M => M) (fun n bb => 0 ≤ bb ∧ bb + n = (b0.length : Int) ∧ s_l04Nums_L1 (b0.drop bb.toNat) bb = some o1) b0.length (0 : Int) ⟨Int.le_refl _, by simp, h⟩ ?_
  clear h
  rintro JJ7 n7 z8 hag7 ⟨hza7, hzb7, h⟩
  refine Run.sr ?_
  refine X.bi ?_
  refine X.nil ?_
  refine Run.seq ?_
  refine R.cd (fun hc11 => ?_) (fun hc11 => ?_)
  ·obtain ⟨x9, xs10, hd7, hx7, hds7, hlt7⟩ := drop_atI hza7 hc11
   rw [hd7] at h
   rw [s_l04Nums_L1] at h
   refine Run.skip ?_
   refine Run.seq ?_
   refine Run.block ?_
   refine Run.sr ?_
   refine X.ix elt25 (idxL_spec hx7).1 (idxL_map int hx7) ?_
   refine X.lc shp3 ?_
   refine X.an ?_
   refine Run.sr ?_
   refine X.mv ?_
   obtain ⟨v12, hv12, h⟩ := bindE h
   refine X.cp (s_l01In_pc _ _ _ _ hv12) ?_
   refine X.un (by rfl) (by rfl) (by rfl) ?_
   refine X.nil ?_
   refine R.cd (fun hc13 => ?_) (fun hc13 => ?_)
   ·replace h := condT hc13 h
    refine Run.sr ?_
    refine X.an ?_
    cases h
    have h := hup2
    replace h := elimR h
    cases h
    refine R.f1 Tryz.results198 ?_
    rfl
   ·replace h := condF hc13 h
    refine Run.skip ?_
    refine Run.blk ?_
    refine Run.reg ?_
    refine X.ad ?_
    refine X.mn ?_
    exact R.ag hag7 (n7 - 1) (z8 + 1) (R.n3 (by first | (rw [hds7]; exact h) | (dsimp only; rw [hds7]; exact h)))
  ·rw [drop_endI hza7 hc11] at h
   rw [s_l04Nums_L1] at h
   refine Run.exit (by rfl) ?_
   exact R.mt hmeet3 () (Option.some.inj h)
 rintro p14 rfl
 replace h := elimL h
 refine Run.sr ?_
 refine X.mv ?_
 refine X.ls elt25 ?_
 refine X.mv ?_
 refine X.bi ?_
 refine X.an ?_
 cases h
 refine R.f1 Tryz.results198 ?_
 rfl
theorem s_ModeOk_pc (b0 : TMode) (b1 : Int) (b2 : Int) (r : Bool) (h : s_ModeOk b0 b1 b2 = some r) : PC Tryz.prog 159 [eTMode b0, int b1, int b2] (bool r) := by
 unfold s_ModeOk at h
 refine PC.start Tryz.func159 Tryz.ntmps159 rfl ok159 rfl ?_
 refine Run.sr ?_
 refine X.bx ?_
 refine X.an ?_
 refine Run.seq ?_
 obtain ⟨v1, hv1, h⟩ := bindE h
 obtain ⟨e2, he2, h2⟩ := bindE h
 refine R.regG [(6, bool e2)] [] ?_ ?_
 ·clear h; have h := he2; clear he2 h2
  refine X.fl fld110_0 ?_
  refine X.ld shp3 ?_
  refine X.cp (s_l01In_pc _ _ _ _ hv1) ?_
  refine X.mv ?_
  refine X.iG (fun hb3 => ?_) (fun hb3 => ?_)
  ·replace h := condT hb3 h
   refine X.fl fld110_1 ?_
   refine X.gy ?_
   refine X.ld shp25 ?_
   refine X.gy ?_
   refine X.mv ?_
   refine X.gy ?_
   obtain ⟨v4, hv4, h⟩ := bindE h
   refine X.cp (s_l04Nums_pc _ _ _ hv4) ?_
   refine X.pT ?_
   refine X.mv ?_
   refine X.iG (fun hb5 => ?_) (fun hb5 => ?_)
   ·replace h := condT hb5 h
    refine X.fl fld110_2 ?_
    refine X.gy ?_
    refine X.ld shp25 ?_
    refine X.gy ?_
    refine X.mv ?_
    refine X.gy ?_
    obtain ⟨v6, hv6, h⟩ := bindE h
    refine X.cp (s_l04Nums_pc _ _ _ hv6) ?_
    refine X.pT ?_
    refine X.as ?_
    cases h
    exact X.eG
   ·replace h := condF hb5 h
    refine X.gn ?_
    refine X.gn ?_
    refine X.gn ?_
    refine X.pF ?_
    refine X.as ?_
    cases h
    exact X.eG
  ·replace h := condF hb3 h
   refine X.gn ?_
   refine X.gn ?_
   refine X.gn ?_
   refine X.pF ?_
   refine X.mv ?_
   refine X.gn ?_
   refine X.gn ?_
   refine X.gn ?_
   refine X.gn ?_
   refine X.pF ?_
   refine X.as ?_
   cases h
   exact X.eG
 replace h := h2; clear h2
 cases h
 refine R.f1 Tryz.results159 ?_
 rfl
theorem s_IsName_pc (b0 : ByteArray) (r : Bool) (h : s_IsName b0 = some r) : PC Tryz.prog 160 [str b0] (bool r) := by
 unfold s_IsName at h
 refine PC.start Tryz.func160 Tryz.ntmps160 rfl ok160 rfl ?_
 refine Run.sr ?_
 refine X.an ?_
 refine Run.seq ?_
 refine Run.sr ?_
 refine X.an ?_
 obtain ⟨o1, ho1, h⟩ := bindE h
 refine R.join2 (β := Unit) [(0, str b0)] [] (fun p19 S => S) (fun p19 M => M) (fun p19 => (Sum.inl p19) = o1) ?_ ?_
 ·intro JJ4 hmeet3
  have hup2 := h; clear h; have h := ho1; clear ho1
  refine Run.block ?_
  refine R.lp (β := Int) [(0, str b0)] [] (fun bb S => (3, int bb) :: S) (fun bb M => M) (fun n bb => s_IsName_L1 b0 n bb = some o1) F0 0 h ?_
  clear h
  rintro JJ5 n5 a7 hag5 h
  obtain _ | n5 := n5
  ·exact absurd h (by simp [s_IsName_L1])
  rw [s_IsName_L1] at h
  refine Run.seq ?_
  refine Run.sr ?_
  refine X.mv ?_
  refine X.mv ?_
  refine X.lenStr Tryz.underlying9 (by rfl) (by rfl) ?_
  refine X.bi ?_
  refine X.nil ?_
  refine R.cd (fun hc10 => ?_) (fun hc10 => ?_)
  ·replace h := condT hc10 h
   refine Run.skip ?_
   refine Run.seq ?_
   refine Run.block ?_
   refine Run.seq ?_
   obtain ⟨v11, hv11, h⟩ := bindE h
   obtain ⟨e12, he12, h2⟩ := bindE h
   refine R.regG [(0, str b0), (3, int a7), (4, bool e12)] [] ?_ ?_
   ·clear h; have h := he12; clear he12 h2
    refine X.mv ?_
    refine X.mv ?_
    refine X.indexStr2 hv11 Tryz.underlying9 (by rfl) (by rfl) (by rfl) ?_
    refine X.bi ?_
    refine X.mv ?_
    refine X.iG (fun hb13 => ?_) (fun hb13 => ?_)
    ·replace h := condT hb13 h
     refine X.mv ?_
     refine X.gy ?_
     refine X.mv ?_
     refine X.gy ?_
     refine X.indexStr2 hv11 Tryz.underlying9 (by rfl) (by rfl) (by rfl) ?_
     refine X.gy ?_
     refine X.bi ?_
     refine X.pT ?_
     refine X.as ?_
     cases h
     exact X.eG
    ·replace h := condF hb13 h
     refine X.gn ?_
     refine X.gn ?_
     refine X.gn ?_
     refine X.pF ?_
     refine X.as ?_
     cases h
     exact X.eG
   replace h := h2; clear h2
   refine Run.seq ?_
   obtain ⟨e14, he14, h2⟩ := bindE h
   refine R.regG [(0, str b0), (3, int a7), (38, bool e14)] [] ?_ ?_
   ·clear h; have h := he14; clear he14 h2
    refine X.mv ?_
    refine X.un (by rfl) (by rfl) (by rfl) ?_
    refine X.mv ?_
    refine X.iG (fun hb15 => ?_) (fun hb15 => ?_)
    ·replace h := condT hb15 h
     refine X.mv ?_
     refine X.gy ?_
     refine X.bi ?_
     refine X.gy ?_
     refine X.mv ?_
     refine X.iG (fun hb16 => ?_) (fun hb16 => ?_)
     ·replace h := condF hb16 h
      refine X.mv ?_
      refine X.gy ?_
      refine X.mv ?_
      refine X.gy ?_
      refine X.indexStr2 hv11 Tryz.underlying9 (by rfl) (by rfl) (by rfl) ?_
      refine X.gy ?_
      refine X.bi ?_
      refine X.gy ?_
      refine X.pF ?_
      refine X.gy ?_
      refine X.mv ?_
      refine X.iG (fun hb17 => ?_) (fun hb17 => ?_)
      ·replace h := condF hb17 h
       refine X.mv ?_
       refine X.gy ?_
       refine X.mv ?_
       refine X.gy ?_
       refine X.indexStr2 hv11 Tryz.underlying9 (by rfl) (by rfl) (by rfl) ?_
       refine X.gy ?_
       refine X.bi ?_
       refine X.gy ?_
       refine X.pF ?_
       refine X.pT ?_
       cases h
       exact X.eG
      ·replace h := condT hb17 h
       refine X.gn ?_
       refine X.gn ?_
       refine X.gn ?_
       refine X.gy ?_
       refine X.pT ?_
       refine X.pT ?_
       cases h
       exact X.eG
     ·replace h := condT hb16 h
      refine X.gn ?_
      refine X.gn ?_
      refine X.gn ?_
      refine X.gy ?_
      refine X.pT ?_
      refine X.gy ?_
      refine X.mv ?_
      refine X.gn ?_
      refine X.gn ?_
      refine X.gn ?_
      refine X.gn ?_
      refine X.gy ?_
      refine X.pT ?_
      refine X.pT ?_
      cases h
      exact X.eG
    ·replace h := condF hb15 h
     refine X.gn ?_
     refine X.gn ?_
     refine X.gU (by rfl) (by rfl) (by rfl) ?_
     refine X.gU (by rfl) (by rfl) (by rfl) ?_
     refine X.gU (by rfl) (by rfl) (by rfl) ?_
     refine X.gU (by rfl) (by rfl) (by rfl) ?_
     refine X.gn ?_
     refine X.gn ?_
     refine X.gU (by rfl) (by rfl) (by rfl) ?_
     refine X.gU (by rfl) (by rfl) (by rfl) ?_
     refine X.gU (by rfl) (by rfl) (by rfl) ?_
     refine X.gU (by rfl) (by rfl) (by rfl) ?_
     refine X.gn ?_
     refine X.pF ?_
     cases h
     exact X.eG
   replace h := h2; clear h2
   refine R.cd (fun hc18 => ?_) (fun hc18 => ?_)
   ·replace h := condT hc18 h
    refine Run.sr ?_
    refine X.an ?_
    cases h
    have h := hup2
    replace h := elimR h
    cases h
    refine R.f1 Tryz.results160 ?_
    rfl
   ·replace h := condF hc18 h
    refine Run.skip ?_
    refine Run.blk ?_
    refine Run.reg ?_
    refine X.mv ?_
    refine X.addW (by rfl) (by rfl) (by rfl) ?_
    refine X.an ?_
    exact hag5 n5 (W (a7 + 1)) _ _ (by omega) h (by trivial) (by trivial) (by rfl) (by rfl)
  ·replace h := condF hc10 h
   refine Run.exit (by rfl) ?_
   exact R.mt hmeet3 () (Option.some.inj h)
 rintro p19 rfl
 replace h := elimL h
 refine Run.sr ?_
 refine X.mv ?_
 refine X.lenStr Tryz.underlying9 (by rfl) (by rfl) ?_
 obtain ⟨v21, hv21, h⟩ := bindE h
 refine X.cp (s_l01In_pc _ _ _ _ hv21) ?_
 refine X.an ?_
 cases h
 refine R.f1 Tryz.results160 ?_
 rfl
theorem s_ActivityOk_pc (b0 : TActivity) (b1 : Int) (b2 : Int) (r : Bool) (h : s_ActivityOk b0 b1 b2 = some r) : PC Tryz.prog 123 [eTActivity b0, int b1, int b2] (bool r) := by
 unfold s_ActivityOk at h
 refine PC.start Tryz.func123 Tryz.ntmps123 rfl ok123 rfl ?_
 refine Run.sr ?_
 refine X.bx ?_
 refine X.an ?_
 refine Run.seq ?_
 refine Run.sr ?_
 refine X.fl fld108_2 ?_
 refine X.ld shp106 ?_
 refine X.ls elt106 ?_
 refine X.mn ?_
 obtain ⟨o1, ho1, h⟩ := bindE h
 refine R.join2 (β := Unit) [(3, .lptr 192 0)] [(192, .blk true [str b0.Name, int b0.Family, .slice (b0.Modes.map eTMode)])] (fun p14 S => S) (fun p14 M => M) (fun p14 => (Sum.inl p14) = o1) ?_ ?_
 ·intro JJ4 hmeet3
  have hup2 := h; clear h; have h := ho1; clear ho1
  refine Run.block ?_
  refine R.bndS (t := 10) (by rfl) (fun hbd7 => ?_)
  replace hbd7 : b0.Modes.length ≤ 9223372036854775807 := by first | (rw [List.length_map] at hbd7; exact hbd7) | simp
  refine R.lp (β := Int) [(1, int b1), (2, int b2), (3, .lptr 192 0), (10, .slice (b0.Modes.map eTMode)), (11, int (b0.Modes.length : Int))] [(192, .blk true [str b0.Name, int b0.Family, .slice (b0.Modes.map eTMode)])] (fun bb S => (12, int bb) :: S) (fun bb M => M) (fun n bb => 0 ≤ bb ∧ bb + n = (b0.Modes.length : Int) ∧ s_ActivityOk_L1 b1 b2 (b0.Modes.drop bb.toNat) bb = some o1) b0.Modes.length (0 : Int) ⟨Int.le_refl _, by simp, h⟩ ?_
  clear h
  rintro JJ7 n7 z8 hag7 ⟨hza7, hzb7, h⟩
  refine Run.sr ?_
  refine X.bi ?_
  refine X.nil ?_
  refine Run.seq ?_
  refine R.cd (fun hc11 => ?_) (fun hc11 => ?_)
  ·obtain ⟨x9, xs10, hd7, hx7, hds7, hlt7⟩ := drop_atI hza7 hc11
   rw [hd7] at h
   rw [s_ActivityOk_L1] at h
   refine Run.skip ?_
   refine Run.seq ?_
   refine Run.block ?_
   refine Run.sr ?_
   refine X.ix elt106 (idxL_spec hx7).1 (idxL_map eTMode hx7) ?_
   refine X.lc shp110 ?_
   refine X.alloc zer110 (by rfl) (by rfl) (by rfl) ?_
   refine X.sl shp110 ?_
   refine X.nil ?_
   refine Run.sr ?_
   refine X.ld shp110 ?_
   refine X.mv ?_
   refine X.mv ?_
   obtain ⟨v12, hv12, h⟩ := bindE h
   refine X.cp (s_ModeOk_pc _ _ _ _ hv12) ?_
   refine X.un (by rfl) (by rfl) (by rfl) ?_
   refine X.nil ?_
   refine R.cd (fun hc13 => ?_) (fun hc13 => ?_)
   ·replace h := condT hc13 h
    refine Run.sr ?_
    refine X.an ?_
    cases h
    have h := hup2
    replace h := elimR h
    cases h
    refine R.f1 Tryz.results123 ?_
    rfl
   ·replace h := condF hc13 h
    refine Run.skip ?_
    refine Run.blk ?_
    refine Run.reg ?_
    refine X.ad ?_
    refine X.mn ?_
    exact R.ag hag7 (n7 - 1) (z8 + 1) (R.n3 (by first | (rw [hds7]; exact h) | (dsimp only; rw [hds7]; exact h)))
  ·rw [drop_endI hza7 hc11] at h
   rw [s_ActivityOk_L1] at h
   refine Run.exit (by rfl) ?_
   exact R.mt hmeet3 () (Option.some.inj h)
 rintro p14 rfl
 replace h := elimL h
 refine Run.seq ?_
 obtain ⟨v16, hv16, h⟩ := bindE h
 obtain ⟨e17, he17, h2⟩ := bindE h
 refine R.regG [(6, bool e17)] [] ?_ ?_
 ·clear h; have h := he17; clear he17 h2
  refine X.fl fld108_0 ?_
  refine X.ld shp9 ?_
  refine X.cp (s_IsName_pc _ _ hv16) ?_
  refine X.mv ?_
  refine X.iG (fun hb18 => ?_) (fun hb18 => ?_)
  ·replace h := condT hb18 h
   refine X.fl fld108_1 ?_
   refine X.gy ?_
   refine X.ld shp3 ?_
   refine X.gy ?_
   obtain ⟨v19, hv19, h⟩ := bindE h
   refine X.cp (s_l01In_pc _ _ _ _ hv19) ?_
   refine X.pT ?_
   refine X.mv ?_
   refine X.iG (fun hb20 => ?_) (fun hb20 => ?_)
   ·replace h := condT hb20 h
    refine X.fl fld108_2 ?_
    refine X.gy ?_
    refine X.ld shp106 ?_
    refine X.gy ?_
    refine X.ls elt106 ?_
    refine X.gy ?_
    obtain ⟨v21, hv21, h⟩ := bindE h
    refine X.cp (s_l01In_pc _ _ _ _ hv21) ?_
    refine X.pT ?_
    refine X.as ?_
    cases h
    exact X.eG
   ·replace h := condF hb20 h
    refine X.gn ?_
    refine X.gn ?_
    refine X.gn ?_
    refine X.pF ?_
    refine X.as ?_
    cases h
    exact X.eG
  ·replace h := condF hb18 h
   refine X.gn ?_
   refine X.gn ?_
   refine X.pF ?_
   refine X.mv ?_
   refine X.gn ?_
   refine X.gn ?_
   refine X.gn ?_
   refine X.gn ?_
   refine X.pF ?_
   refine X.as ?_
   cases h
   exact X.eG
 replace h := h2; clear h2
 cases h
 refine R.f1 Tryz.results123 ?_
 rfl
theorem s_ActivityIndex_pc (b0 : TProject) (b1 : ByteArray) (r : Int) (h : s_ActivityIndex b0 b1 = some r) : PC Tryz.prog 124 [eTProject b0, str b1] (int r) := by
 unfold s_ActivityIndex at h
 refine PC.start Tryz.func124 Tryz.ntmps124 rfl ok124 rfl ?_
 refine Run.sr ?_
 refine X.bx ?_
 refine X.an ?_
 refine Run.seq ?_
 refine Run.sr ?_
 refine X.fl fld36_1 ?_
 refine X.ld shp32 ?_
 refine X.ls elt32 ?_
 refine X.mn ?_
 obtain ⟨o1, ho1, h⟩ := bindE h
 refine R.join2 (β := Unit) [] [] (fun p13 S => S) (fun p13 M => M) (fun p13 => (Sum.inl p13) = o1) ?_ ?_
 ·intro JJ4 hmeet3
  have hup2 := h; clear h; have h := ho1; clear ho1
  refine Run.block ?_
  refine R.bndS (t := 8) (by rfl) (fun hbd7 => ?_)
  replace hbd7 : b0.Activities.length ≤ 9223372036854775807 := by first | (rw [List.length_map] at hbd7; exact hbd7) | simp
  refine R.lp (β := Int) [(1, str b1), (8, .slice (b0.Activities.map eTActivity)), (9, int (b0.Activities.length : Int))] [] (fun bb S => (10, int bb) :: S) (fun bb M => M) (fun n bb => 0 ≤ bb ∧ bb + n = (b0.Activities.length : Int) ∧ s_ActivityIndex_L1 b1 (b0.Activities.drop bb.toNat) bb = some o1) b0.Activities.length (0 : Int) ⟨Int.le_refl _, by simp, h⟩ ?_
  clear h
  rintro JJ7 n7 z8 hag7 ⟨hza7, hzb7, h⟩
  refine Run.sr ?_
  refine X.bi ?_
  refine X.nil ?_
  refine Run.seq ?_
  refine R.cd (fun hc11 => ?_) (fun hc11 => ?_)
  ·obtain ⟨x9, xs10, hd7, hx7, hds7, hlt7⟩ := drop_atI hza7 hc11
   rw [hd7] at h
   rw [s_ActivityIndex_L1] at h
   refine Run.skip ?_
   refine Run.seq ?_
   refine Run.block ?_
   refine Run.sr ?_
   refine X.mv ?_
   refine X.ix elt32 (idxL_spec hx7).1 (idxL_map eTActivity hx7) ?_
   refine X.lc shp108 ?_
   refine X.alloc zer108 (by rfl) (by rfl) (by rfl) ?_
   refine X.as ?_
   refine X.sl shp108 ?_
   refine X.nil ?_
   refine Run.sr ?_
   refine X.fl fld108_0 ?_
   refine X.ld shp9 ?_
   refine X.mv ?_
   refine X.bi ?_
   refine X.nil ?_
   refine R.cd (fun hc12 => ?_) (fun hc12 => ?_)
   ·replace h := condT hc12 h
    refine Run.sr ?_
    refine X.mv ?_
    refine X.an ?_
    cases h
    have h := hup2
    replace h := elimR h
    cases h
    refine R.f1 Tryz.results124 ?_
    rfl
   ·replace h := condF hc12 h
    refine Run.skip ?_
    refine Run.blk ?_
    refine Run.reg ?_
    refine X.ad ?_
    refine X.mn ?_
    exact R.ag hag7 (n7 - 1) (z8 + 1) (R.n3 (by first | (rw [hds7]; exact h) | (dsimp only; rw [hds7]; exact h)))
  ·rw [drop_endI hza7 hc11] at h
   rw [s_ActivityIndex_L1] at h
   refine Run.exit (by rfl) ?_
   exact R.mt hmeet3 () (Option.some.inj h)
 rintro p13 rfl
 replace h := elimL h
 refine Run.sr ?_
 refine X.an ?_
 cases h
 refine R.f1 Tryz.results124 ?_
 rfl
theorem s_StepsOk_pc (b0 : List TStep) (r : Bool) (h : s_StepsOk b0 = some r) : PC Tryz.prog 161 [.slice (b0.map eTStep)] (bool r) := by
 unfold s_StepsOk at h
 refine PC.start Tryz.func161 Tryz.ntmps161 rfl ok161 rfl ?_
 refine Run.sr ?_
 refine X.an ?_
 refine Run.seq ?_
 refine Run.sr ?_
 refine X.mv ?_
 refine X.ls elt84 ?_
 refine X.mn ?_
 obtain ⟨o1, ho1, h⟩ := bindE h
 refine R.join2 (β := Unit) [(0, .slice (b0.map eTStep))] [] (fun p20 S => S) (fun p20 M => M) (fun p20 => (Sum.inl p20) = o1) ?_ ?_
 ·intro JJ4 hmeet3
  have hup2 := h; clear h; have h := ho1; clear ho1
  refine Run.block ?_
  refine R.bndS (t := 0) (by rfl) (fun hbd7 => ?_)
  replace hbd7 : b0.length ≤ 9223372036854775807 := by first | (rw [List.length_map] at hbd7; exact hbd7) | simp
  refine R.lp (β := Int) [(0, .slice (b0.map eTStep)), (5, .slice (b0.map eTStep)), (6, int (b0.length : Int))] [] (fun bb S => (7, int bb) :: S) (fun bb M => M) (fun n bb => 0 ≤ bb ∧ bb + n = (b0.length : Int) ∧ s_StepsOk_L1 b0 (b0.drop bb.toNat) bb = some o1) b0.length (0 : Int) ⟨Int.le_refl _, by simp, h⟩ ?_
  clear h
  rintro JJ7 n7 z8 hag7 ⟨hza7, hzb7, h⟩
  refine Run.sr ?_
  refine X.bi ?_
  refine X.nil ?_
  refine Run.seq ?_
  refine R.cd (fun hc11 => ?_) (fun hc11 => ?_)
  ·obtain ⟨x9, xs10, hd7, hx7, hds7, hlt7⟩ := drop_atI hza7 hc11
   rw [hd7] at h
   rw [s_StepsOk_L1] at h
   refine Run.skip ?_
   refine Run.seq ?_
   refine Run.block ?_
   refine Run.sr ?_
   refine X.mv ?_
   refine X.ix elt84 (idxL_spec hx7).1 (idxL_map eTStep hx7) ?_
   refine X.lc shp88 ?_
   refine X.alloc zer88 (by rfl) (by rfl) (by rfl) ?_
   refine X.as ?_
   refine X.sl shp88 ?_
   refine X.nil ?_
   refine Run.seq ?_
   obtain ⟨v12, hv12, h⟩ := bindE h
   obtain ⟨e13, he13, h2⟩ := bindE h
   refine R.drawG [(0, .slice (b0.map eTStep)), (5, .slice (b0.map eTStep)), (6, int (b0.length : Int)), (7, int z8), (36, bool e13)] [] (footOf [(1, ([256], [], [], [])), (6, ([256], [], [], [])), (21, ([256], [], [], []))]) mixed (by kernel_rfl) (by kernel_rfl) ?_ ?_
   ·clear h; have h := he13; clear he13 h2
    refine X.fl fld88_0 ?_
    refine X.ld shp3 ?_
    refine X.cp (s_l01In_pc _ _ _ _ hv12) ?_
    refine X.un (by rfl) (by rfl) (by rfl) ?_
    refine X.mv ?_
    refine X.iG (fun hb14 => ?_) (fun hb14 => ?_)
    ·replace h := condF hb14 h
     refine X.fl fld88_1 ?_
     refine X.gy ?_
     refine X.ld shp3 ?_
     refine X.gy ?_
     obtain ⟨v15, hv15, h⟩ := bindE h
     refine X.cp (s_l01In_pc _ _ _ _ hv15) ?_
     refine X.gy ?_
     refine X.un (by rfl) (by rfl) (by rfl) ?_
     refine X.pF ?_
     refine X.mv ?_
     refine X.iG (fun hb16 => ?_) (fun hb16 => ?_)
     ·replace h := condF hb16 h
      refine X.mv ?_
      refine X.gy ?_
      refine X.bi ?_
      refine X.gy ?_
      refine X.mv ?_
      refine X.iG (fun hb17 => ?_) (fun hb17 => ?_)
      ·replace h := condT hb17 h
       refine X.mv ?_
       refine X.gy ?_
       refine X.mv ?_
       refine X.gy ?_
       refine X.sub (by rfl) (by rfl) (by omega) (by rfl) ?_
       refine X.gy ?_
       obtain ⟨v18, hv18, h⟩ := bindE h
       refine X.ix elt84 (idxL_spec hv18).1 (idxL_map eTStep hv18) ?_
       refine X.gy ?_
       refine X.fieldAddr_c fld88_0 (by rfl) (by rfl) ?_
       refine X.gy ?_
       refine X.lc shp3 ?_
       refine X.gy ?_
       refine X.fl fld88_0 ?_
       refine X.gy ?_
       refine X.ld shp3 ?_
       refine X.gy ?_
       refine X.bi ?_
       refine X.gy ?_
       refine X.pT ?_
       refine X.pF ?_
       cases h
       exact X.eG
      ·replace h := condF hb17 h
       refine X.gn ?_
       refine X.gn ?_
       refine X.gn ?_
       refine X.gn ?_
       refine X.gn ?_
       refine X.gn ?_
       refine X.gn ?_
       refine X.gn ?_
       refine X.gy ?_
       refine X.pF ?_
       refine X.pF ?_
       cases h
       exact X.eG
     ·replace h := condT hb16 h
      refine X.gn ?_
      refine X.gn ?_
      refine X.gU (by rfl) (by rfl) (by rfl) ?_
      refine X.gU (by rfl) (by rfl) (by rfl) ?_
      refine X.gU (by rfl) (by rfl) (by rfl) ?_
      refine X.gU (by rfl) (by rfl) (by rfl) ?_
      refine X.gU (by rfl) (by rfl) (by rfl) ?_
      refine X.gU (by rfl) (by rfl) (by rfl) ?_
      refine X.gU (by rfl) (by rfl) (by rfl) ?_
      refine X.gU (by rfl) (by rfl) (by rfl) ?_
      refine X.gU (by rfl) (by rfl) (by rfl) ?_
      refine X.gn ?_
      refine X.pT ?_
      cases h
      exact X.eG
    ·replace h := condT hb14 h
     refine X.gn ?_
     refine X.gn ?_
     refine X.gn ?_
     refine X.pT ?_
     refine X.mv ?_
     refine X.gn ?_
     refine X.gn ?_
     refine X.gn ?_
     refine X.gU (by rfl) (by rfl) (by rfl) ?_
     refine X.gU (by rfl) (by rfl) (by rfl) ?_
     refine X.gU (by rfl) (by rfl) (by rfl) ?_
     refine X.gU (by rfl) (by rfl) (by rfl) ?_
     refine X.gU (by rfl) (by rfl) (by rfl) ?_
     refine X.gU (by rfl) (by rfl) (by rfl) ?_
     refine X.gU (by rfl) (by rfl) (by rfl) ?_
     refine X.gU (by rfl) (by rfl) (by rfl) ?_
     refine X.gU (by rfl) (by rfl) (by rfl) ?_
     refine X.gn ?_
     refine X.pT ?_
     cases h
     exact X.eG
   replace h := h2; clear h2
   refine R.cd (fun hc19 => ?_) (fun hc19 => ?_)
   ·replace h := condT hc19 h
    refine Run.sr ?_
    refine X.an ?_
    cases h
    have h := hup2
    replace h := elimR h
    cases h
    refine R.f1 Tryz.results161 ?_
    rfl
   ·replace h := condF hc19 h
    refine Run.skip ?_
    refine Run.blk ?_
    refine Run.reg ?_
    refine X.ad ?_
    refine X.mn ?_
    exact R.ag hag7 (n7 - 1) (z8 + 1) (R.n3 (by first | (rw [hds7]; exact h) | (dsimp only; rw [hds7]; exact h)))
  ·rw [drop_endI hza7 hc11] at h
   rw [s_StepsOk_L1] at h
   refine Run.exit (by rfl) ?_
   exact R.mt hmeet3 () (Option.some.inj h)
 rintro p20 rfl
 replace h := elimL h
 refine Run.seq ?_
 obtain ⟨v22, hv22, h⟩ := bindE h
 obtain ⟨e23, he23, h2⟩ := bindE h
 refine R.regG [(2, bool e23)] [] ?_ ?_
 ·clear h; have h := he23; clear he23 h2
  refine X.mv ?_
  refine X.ls elt84 ?_
  refine X.cp (s_l01In_pc _ _ _ _ hv22) ?_
  refine X.mv ?_
  refine X.iG (fun hb24 => ?_) (fun hb24 => ?_)
  ·replace h := condT hb24 h
   refine X.mv ?_
   refine X.gy ?_
   obtain ⟨v25, hv25, h⟩ := bindE h
   refine X.ix elt84 (idxL_spec hv25).1 (idxL_map eTStep hv25) ?_
   refine X.gy ?_
   refine X.fieldAddr_c fld88_0 (by rfl) (by rfl) ?_
   refine X.gy ?_
   refine X.lc shp3 ?_
   refine X.gy ?_
   refine X.bi ?_
   refine X.pT ?_
   refine X.as ?_
   cases h
   exact X.eG
  ·replace h := condF hb24 h
   refine X.gn ?_
   refine X.gn ?_
   refine X.gn ?_
   refine X.gn ?_
   refine X.pF ?_
   refine X.as ?_
   cases h
   exact X.eG
 replace h := h2; clear h2
 cases h
 refine R.f1 Tryz.results161 ?_
 rfl
theorem s_ResourceOk_pc (b0 : TResource) (r : Bool) (h : s_ResourceOk b0 = some r) : PC Tryz.prog 125 [eTResource b0] (bool r) := by
 unfold s_ResourceOk at h
 refine PC.start Tryz.func125 Tryz.ntmps125 rfl ok125 rfl ?_
 refine Run.sr ?_
 refine X.bx ?_
 refine X.an ?_
 refine Run.seq ?_
 refine Run.sr ?_
 refine X.fl fld86_1 ?_
 refine X.ld shp45 ?_
 refine X.ls elt45 ?_
 refine X.mn ?_
 obtain ⟨o1, ho1, h⟩ := bindE h
 refine R.join2 (β := Unit) [(1, .lptr 64 0)] [(64, .blk true [.slice (b0.Steps.map eTStep), .slice (b0.Setup.map l_int)])] (fun p28 S => S) (fun p28 M => M) (fun p28 => (Sum.inl p28) = o1) ?_ ?_
 ·intro JJ4 hmeet3
  have hup2 := h; clear h; have h := ho1; clear ho1
  refine Run.block ?_
  refine R.bndS (t := 8) (by rfl) (fun hbd7 => ?_)
  replace hbd7 : b0.Setup.length ≤ 9223372036854775807 := by first | (rw [List.length_map] at hbd7; exact hbd7) | simp
  refine R.lp (β := Int) [(1, .lptr 64 0), (8, .slice (b0.Setup.map l_int)), (9, int (b0.Setup.length : Int))] [(64, .blk true [.slice (b0.Steps.map eTStep), .slice (b0.Setup.map l_int)])] (fun bb S => (10, int bb) :: S) (fun bb M => M) (fun n bb => 0 ≤ bb ∧ bb + n = (b0.Setup.length : Int) ∧ s_ResourceOk_L1 (b0.Setup.drop bb.toNat) bb = some o1) b0.Setup.length (0 : Int) ⟨Int.le_refl _, by simp, h⟩ ?_
  clear h
  rintro JJ7 n7 z8 hag7 ⟨hza7, hzb7, h⟩
  refine Run.sr ?_
  refine X.bi ?_
  refine X.nil ?_
  refine Run.seq ?_
  refine R.cd (fun hc11 => ?_) (fun hc11 => ?_)
  ·obtain ⟨x9, xs10, hd7, hx7, hds7, hlt7⟩ := drop_atI hza7 hc11
   rw [hd7] at h
   rw [s_ResourceOk_L1] at h
   refine Run.skip ?_
   refine Run.seq ?_
   refine Run.block ?_
   refine Run.sr ?_
   refine X.ix elt45 (idxL_spec hx7).1 (idxL_map l_int hx7) ?_
   refine X.lc shp25 ?_
   refine X.an ?_
   refine Run.seq ?_
   refine Run.sr ?_
   refine X.mv ?_
   refine X.ls elt25 ?_
   refine X.bi ?_
   refine X.nil ?_
   refine R.cd (fun hc12 => ?_) (fun hc12 => ?_)
   ·replace h := condT hc12 h
    refine Run.sr ?_
    refine X.an ?_
    cases h
    have h := hup2
    replace h := elimR h
    cases h
    refine R.f1 Tryz.results125 ?_
    rfl
   ·replace h := condF hc12 h
    refine Run.skip ?_
    refine Run.sr ?_
    refine X.mv ?_
    refine X.ls elt25 ?_
    refine X.mn ?_
    obtain ⟨o13, ho13, h⟩ := bindE h
    refine R.join2 (β := Unit) [(1, .lptr 64 0), (8, .slice (b0.Setup.map l_int)), (9, int (b0.Setup.length : Int)), (10, int z8)] [(64, .blk true [.slice (b0.Steps.map eTStep), .slice (b0.Setup.map l_int)])] (fun p26 S => S) (fun p26 M => M) (fun p26 => (Sum.inl p26) = o13) ?_ ?_
    ·intro JJ16 hmeet15
     have hup14 := h; clear h; have h := ho13; clear ho13
     refine Run.block ?_
     refine R.bndS (t := 4) (by rfl) (fun hbd19 => ?_)
     replace hbd19 : x9.length ≤ 9223372036854775807 := by first | (rw [List.length_map] at hbd19; exact hbd19) | simp
     refine R.lp (β := Int) [(1, .lptr 64 0), (8, .slice (b0.Setup.map l_int)), (9, int (b0.Setup.length : Int)), (10, int z8), (17, .slice (x9.map int)), (18, int (x9.length : Int))] [(64, .blk true [.slice (b0.Steps.map eTStep), .slice (b0.Setup.map l_int)])] (fun bb S => (19, int bb) :: S) (fun bb M => M) (fun n bb => 0 ≤ bb ∧ bb + n = (x9.length : Int) ∧ s_ResourceOk_L2 (x9.drop bb.toNat) bb = some o13) x9.length (0 : Int) ⟨Int.le_refl _, by simp, h⟩ ?_
     clear h
     rintro JJ19 n19 z20 hag19 ⟨hza19, hzb19, h⟩
     refine Run.sr ?_
     refine X.bi ?_
     refine X.nil ?_
     refine Run.seq ?_
     refine R.cd (fun hc23 => ?_) (fun hc23 => ?_)
     ·obtain ⟨x21, xs22, hd19, hx19, hds19, hlt19⟩ := drop_atI hza19 hc23
      rw [hd19] at h
      rw [s_ResourceOk_L2] at h
      refine Run.skip ?_
      refine Run.seq ?_
      refine Run.block ?_
      refine Run.sr ?_
      refine X.ix elt25 (idxL_spec hx19).1 (idxL_map int hx19) ?_
      refine X.lc shp3 ?_
      refine X.an ?_
      refine Run.sr ?_
      refine X.mv ?_
      obtain ⟨v24, hv24, h⟩ := bindE h
      refine X.cp (s_l01In_pc _ _ _ _ hv24) ?_
      refine X.un (by rfl) (by rfl) (by rfl) ?_
      refine X.nil ?_
      refine R.cd (fun hc25 => ?_) (fun hc25 => ?_)
      ·replace h := condT hc25 h
       refine Run.sr ?_
       refine X.an ?_
       cases h
       have h := hup14
       replace h := elimR h
       cases h
       have h := hup2
       replace h := elimR h
       cases h
       refine R.f1 Tryz.results125 ?_
       rfl
      ·replace h := condF hc25 h
       refine Run.skip ?_
       refine Run.blk ?_
       refine Run.reg ?_
       refine X.ad ?_
       refine X.mn ?_
       exact R.ag hag19 (n19 - 1) (z20 + 1) (R.n3 (by first | (rw [hds19]; exact h) | (dsimp only; rw [hds19]; exact h)))
     ·rw [drop_endI hza19 hc23] at h
      rw [s_ResourceOk_L2] at h
      refine Run.exit (by rfl) ?_
      exact R.mt hmeet15 () (Option.some.inj h)
    rintro p26 rfl
    replace h := elimL h
    refine Run.blk ?_
    refine Run.reg ?_
    refine X.ad ?_
    refine X.mn ?_
    exact R.ag hag7 (n7 - 1) (z8 + 1) (R.n3 (by first | (rw [hds7]; exact h) | (dsimp only; rw [hds7]; exact h)))
  ·rw [drop_endI hza7 hc11] at h
   rw [s_ResourceOk_L1] at h
   refine Run.exit (by rfl) ?_
   exact R.mt hmeet3 () (Option.some.inj h)
 rintro p28 rfl
 replace h := elimL h
 refine Run.seq ?_
 obtain ⟨v30, hv30, h⟩ := bindE h
 obtain ⟨e31, he31, h2⟩ := bindE h
 refine R.regG [(2, bool e31)] [] ?_ ?_
 ·clear h; have h := he31; clear he31 h2
  refine X.fl fld86_0 ?_
  refine X.ld shp84 ?_
  refine X.cp (s_StepsOk_pc _ _ hv30) ?_
  refine X.mv ?_
  refine X.iG (fun hb32 => ?_) (fun hb32 => ?_)
  ·replace h := condT hb32 h
   refine X.fl fld86_1 ?_
   refine X.gy ?_
   refine X.ld shp45 ?_
   refine X.gy ?_
   refine X.ls elt45 ?_
   refine X.gy ?_
   refine X.bi ?_
   refine X.gy ?_
   refine X.mv ?_
   refine X.iG (fun hb33 => ?_) (fun hb33 => ?_)
   ·replace h := condF hb33 h
    refine X.fl fld86_1 ?_
    refine X.gy ?_
    refine X.ld shp45 ?_
    refine X.gy ?_
    refine X.ls elt45 ?_
    refine X.gy ?_
    refine X.bi ?_
    refine X.gy ?_
    refine X.pF ?_
    refine X.pT ?_
    refine X.as ?_
    cases h
    exact X.eG
   ·replace h := condT hb33 h
    refine X.gn ?_
    refine X.gn ?_
    refine X.gn ?_
    refine X.gy ?_
    refine X.pT ?_
    refine X.pT ?_
    refine X.as ?_
    cases h
    exact X.eG
  ·replace h := condF hb32 h
   refine X.gn ?_
   refine X.gn ?_
   refine X.gn ?_
   refine X.gn ?_
   refine X.gU (by rfl) (by rfl) (by rfl) ?_
   refine X.gU (by rfl) (by rfl) (by rfl) ?_
   refine X.gU (by rfl) (by rfl) (by rfl) ?_
   refine X.gU (by rfl) (by rfl) (by rfl) ?_
   refine X.gn ?_
   refine X.pF ?_
   refine X.as ?_
   cases h
   exact X.eG
 replace h := h2; clear h2
 cases h
 refine R.f1 Tryz.results125 ?_
 rfl
theorem s_ProjectOk_pc (b0 : TProject) (r : Bool) (h : s_ProjectOk b0 = some r) : PC Tryz.prog 72 [eTProject b0] (bool r) := by
 unfold s_ProjectOk at h
 refine PC.start Tryz.func72 Tryz.ntmps72 rfl ok72 rfl ?_
 refine Run.sr ?_
 refine X.bx ?_
 refine X.an ?_
 refine Run.sr ?_
 refine X.fl fld36_1 ?_
 refine X.ld shp32 ?_
 refine X.ls elt32 ?_
 refine X.an ?_
 refine Run.seq ?_
 refine Run.seq ?_
 obtain ⟨v1, hv1, h⟩ := bindE h
 obtain ⟨e2, he2, h2⟩ := bindE h
 refine R.regG [(1, .lptr 64 0), (3, int (b0.Activities.length : Int)), (41, bool e2)] [(64, .blk true [int b0.Deadline, .slice (b0.Activities.map eTActivity), .slice (b0.Links.map eTLink), .slice (b0.Resources.map eTResource), .slice (b0.Stocks.map int)])] ?_ ?_
 ·clear h; have h := he2; clear he2 h2
  refine X.fl fld36_0 ?_
  refine X.ld shp3 ?_
  refine X.cp (s_l01In_pc _ _ _ _ hv1) ?_
  refine X.un (by rfl) (by rfl) (by rfl) ?_
  refine X.mv ?_
  refine X.iG (fun hb3 => ?_) (fun hb3 => ?_)
  ·replace h := condF hb3 h
   refine X.mv ?_
   refine X.gy ?_
   obtain ⟨v4, hv4, h⟩ := bindE h
   refine X.cp (s_l01In_pc _ _ _ _ hv4) ?_
   refine X.gy ?_
   refine X.un (by rfl) (by rfl) (by rfl) ?_
   refine X.pF ?_
   refine X.mv ?_
   refine X.iG (fun hb5 => ?_) (fun hb5 => ?_)
   ·replace h := condF hb5 h
    refine X.fl fld36_3 ?_
    refine X.gy ?_
    refine X.ld shp34 ?_
    refine X.gy ?_
    refine X.ls elt34 ?_
    refine X.gy ?_
    refine X.bi ?_
    refine X.pF ?_
    refine X.mv ?_
    refine X.iG (fun hb6 => ?_) (fun hb6 => ?_)
    ·replace h := condF hb6 h
     refine X.fl fld36_4 ?_
     refine X.gy ?_
     refine X.ld shp25 ?_
     refine X.gy ?_
     refine X.ls elt25 ?_
     refine X.gy ?_
     refine X.bi ?_
     refine X.pF ?_
     refine X.mv ?_
     refine X.iG (fun hb7 => ?_) (fun hb7 => ?_)
     ·replace h := condF hb7 h
      refine X.fl fld36_2 ?_
      refine X.gy ?_
      refine X.ld shp33 ?_
      refine X.gy ?_
      refine X.ls elt33 ?_
      refine X.gy ?_
      refine X.bi ?_
      refine X.pF ?_
      cases h
      exact X.eG
     ·replace h := condT hb7 h
      refine X.gn ?_
      refine X.gn ?_
      refine X.gn ?_
      refine X.pT ?_
      cases h
      exact X.eG
    ·replace h := condT hb6 h
     refine X.gn ?_
     refine X.gn ?_
     refine X.gn ?_
     refine X.pT ?_
     refine X.mv ?_
     refine X.gn ?_
     refine X.gn ?_
     refine X.gn ?_
     refine X.gn ?_
     refine X.pT ?_
     cases h
     exact X.eG
   ·replace h := condT hb5 h
    refine X.gn ?_
    refine X.gn ?_
    refine X.gn ?_
    refine X.pT ?_
    refine X.mv ?_
    refine X.gn ?_
    refine X.gn ?_
    refine X.gn ?_
    refine X.gn ?_
    refine X.pT ?_
    refine X.mv ?_
    refine X.gn ?_
    refine X.gn ?_
    refine X.gn ?_
    refine X.gn ?_
    refine X.pT ?_
    cases h
    exact X.eG
  ·replace h := condT hb3 h
   refine X.gn ?_
   refine X.gn ?_
   refine X.pT ?_
   refine X.mv ?_
   refine X.gn ?_
   refine X.gn ?_
   refine X.gn ?_
   refine X.gn ?_
   refine X.pT ?_
   refine X.mv ?_
   refine X.gn ?_
   refine X.gn ?_
   refine X.gn ?_
   refine X.gn ?_
   refine X.pT ?_
   refine X.mv ?_
   refine X.gn ?_
   refine X.gn ?_
   refine X.gn ?_
   refine X.gn ?_
   refine X.pT ?_
   cases h
   exact X.eG
 replace h := h2; clear h2
 refine R.cd (fun hc8 => ?_) (fun hc8 => ?_)
 ·replace h := condT hc8 h
  refine Run.sr ?_
  refine X.an ?_
  cases h
  refine R.f1 Tryz.results72 ?_
  rfl
 ·replace h := condF hc8 h
  refine Run.skip ?_
  refine Run.seq ?_
  refine Run.sr ?_
  refine X.fl fld36_1 ?_
  refine X.ld shp32 ?_
  refine X.ls elt32 ?_
  refine X.mn ?_
  obtain ⟨o9, ho9, h⟩ := bindE h
  refine R.join2 (β := Unit) [(1, .lptr 64 0), (3, int (b0.Activities.length : Int))] [(64, .blk true [int b0.Deadline, .slice (b0.Activities.map eTActivity), .slice (b0.Links.map eTLink), .slice (b0.Resources.map eTResource), .slice (b0.Stocks.map int)])] (fun p25 S => S) (fun p25 M => M) (fun p25 => (Sum.inl p25) = o9) ?_ ?_
  ·intro JJ12 hmeet11
   have hup10 := h; clear h; have h := ho9; clear ho9
   refine Run.block ?_
   refine R.bndS (t := 43) (by rfl) (fun hbd15 => ?_)
   replace hbd15 : b0.Activities.length ≤ 9223372036854775807 := by first | (rw [List.length_map] at hbd15; exact hbd15) | simp
   refine R.lp (β := Int) [(1, .lptr 64 0), (3, int (b0.Activities.length : Int)), (43, .slice (b0.Activities.map eTActivity)), (44, int (b0.Activities.length : Int))] [(64, .blk true [int b0.Deadline, .slice (b0.Activities.map eTActivity), .slice (b0.Links.map eTLink), .slice (b0.Resources.map eTResource), .slice (b0.Stocks.map int)])] (fun bb S => (45, int bb) :: S) (fun bb M => M) (fun n bb => 0 ≤ bb ∧ bb + n = (b0.Activities.length : Int) ∧ s_ProjectOk_L1 b0 (b0.Activities.drop bb.toNat) bb = some o9) b0.Activities.length (0 : Int) ⟨Int.le_refl _, by simp, h⟩ ?_
   clear h
   rintro JJ15 n15 z16 hag15 ⟨hza15, hzb15, h⟩
   refine Run.sr ?_
   refine X.bi ?_
   refine X.nil ?_
   refine Run.seq ?_
   refine R.cd (fun hc19 => ?_) (fun hc19 => ?_)
   ·obtain ⟨x17, xs18, hd15, hx15, hds15, hlt15⟩ := drop_atI hza15 hc19
    rw [hd15] at h
    rw [s_ProjectOk_L1] at h
    refine Run.skip ?_
    refine Run.seq ?_
    refine Run.block ?_
    refine Run.sr ?_
    refine X.mv ?_
    refine X.ix elt32 (idxL_spec hx15).1 (idxL_map eTActivity hx15) ?_
    refine X.lc shp108 ?_
    refine X.alloc zer108 (by rfl) (by rfl) (by rfl) ?_
    refine X.as ?_
    refine X.sl shp108 ?_
    refine X.nil ?_
    refine Run.seq ?_
    obtain ⟨v20, hv20, h⟩ := bindE h
    obtain ⟨e21, he21, h2⟩ := bindE h
    refine R.regG [(1, .lptr 64 0), (3, int (b0.Activities.length : Int)), (43, .slice (b0.Activities.map eTActivity)), (44, int (b0.Activities.length : Int)), (45, int z16), (66, bool e21)] [(64, .blk true [int b0.Deadline, .slice (b0.Activities.map eTActivity), .slice (b0.Links.map eTLink), .slice (b0.Resources.map eTResource), .slice (b0.Stocks.map int)])] ?_ ?_
    ·clear h; have h := he21; clear he21 h2
     refine X.ld shp108 ?_
     refine X.fl fld36_3 ?_
     refine X.ld shp34 ?_
     refine X.ls elt34 ?_
     refine X.fl fld36_4 ?_
     refine X.ld shp25 ?_
     refine X.ls elt25 ?_
     refine X.cp (s_ActivityOk_pc _ _ _ _ hv20) ?_
     refine X.un (by rfl) (by rfl) (by rfl) ?_
     refine X.mv ?_
     refine X.iG (fun hb22 => ?_) (fun hb22 => ?_)
     ·replace h := condF hb22 h
      refine X.ld shp36 ?_
      refine X.gy ?_
      refine X.fl fld108_0 ?_
      refine X.gy ?_
      refine X.ld shp9 ?_
      refine X.gy ?_
      obtain ⟨v23, hv23, h⟩ := bindE h
      refine X.cp (s_ActivityIndex_pc _ _ _ hv23) ?_
      refine X.gy ?_
      refine X.mv ?_
      refine X.gy ?_
      refine X.bi ?_
      refine X.pF ?_
      cases h
      exact X.eG
     ·replace h := condT hb22 h
      refine X.gn ?_
      refine X.gn ?_
      refine X.gn ?_
      refine X.gn ?_
      refine X.gn ?_
      refine X.pT ?_
      cases h
      exact X.eG
    replace h := h2; clear h2
    refine R.cd (fun hc24 => ?_) (fun hc24 => ?_)
    ·replace h := condT hc24 h
     refine Run.sr ?_
     refine X.an ?_
     cases h
     have h := hup10
     replace h := elimR h
     cases h
     refine R.f1 Tryz.results72 ?_
     rfl
    ·replace h := condF hc24 h
     refine Run.skip ?_
     refine Run.blk ?_
     refine Run.reg ?_
     refine X.ad ?_
     refine X.mn ?_
     exact R.ag hag15 (n15 - 1) (z16 + 1) (R.n3 (by first | (rw [hds15]; exact h) | (dsimp only; rw [hds15]; exact h)))
   ·rw [drop_endI hza15 hc19] at h
    rw [s_ProjectOk_L1] at h
    refine Run.exit (by rfl) ?_
    exact R.mt hmeet11 () (Option.some.inj h)
  rintro p25 rfl
  replace h := elimL h
  refine Run.seq ?_
  refine Run.sr ?_
  refine X.fl fld36_3 ?_
  refine X.ld shp34 ?_
  refine X.ls elt34 ?_
  refine X.mn ?_
  obtain ⟨o27, ho27, h⟩ := bindE h
  refine R.join2 (β := Unit) [(1, .lptr 64 0), (3, int (b0.Activities.length : Int))] [(64, .blk true [int b0.Deadline, .slice (b0.Activities.map eTActivity), .slice (b0.Links.map eTLink), .slice (b0.Resources.map eTResource), .slice (b0.Stocks.map int)])] (fun p40 S => S) (fun p40 M => M) (fun p40 => (Sum.inl p40) = o27) ?_ ?_
  ·intro JJ30 hmeet29
   have hup28 := h; clear h; have h := ho27; clear ho27
   refine Run.block ?_
   refine R.bndS (t := 69) (by rfl) (fun hbd33 => ?_)
   replace hbd33 : b0.Resources.length ≤ 9223372036854775807 := by first | (rw [List.length_map] at hbd33; exact hbd33) | simp
   refine R.lp (β := Int) [(1, .lptr 64 0), (3, int (b0.Activities.length : Int)), (69, .slice (b0.Resources.map eTResource)), (70, int (b0.Resources.length : Int))] [(64, .blk true [int b0.Deadline, .slice (b0.Activities.map eTActivity), .slice (b0.Links.map eTLink), .slice (b0.Resources.map eTResource), .slice (b0.Stocks.map int)])] (fun bb S => (71, int bb) :: S) (fun bb M => M) (fun n bb => 0 ≤ bb ∧ bb + n = (b0.Resources.length : Int) ∧ s_ProjectOk_L2 (b0.Resources.drop bb.toNat) bb = some o27) b0.Resources.length (0 : Int) ⟨Int.le_refl _, by simp, h⟩ ?_
   clear h
   rintro JJ33 n33 z34 hag33 ⟨hza33, hzb33, h⟩
   refine Run.sr ?_
   refine X.bi ?_
   refine X.nil ?_
   refine Run.seq ?_
   refine R.cd (fun hc37 => ?_) (fun hc37 => ?_)
   ·obtain ⟨x35, xs36, hd33, hx33, hds33, hlt33⟩ := drop_atI hza33 hc37
    rw [hd33] at h
    rw [s_ProjectOk_L2] at h
    refine Run.skip ?_
    refine Run.seq ?_
    refine Run.block ?_
    refine Run.sr ?_
    refine X.ix elt34 (idxL_spec hx33).1 (idxL_map eTResource hx33) ?_
    refine X.lc shp86 ?_
    refine X.alloc zer86 (by rfl) (by rfl) (by rfl) ?_
    refine X.sl shp86 ?_
    refine X.nil ?_
    refine Run.sr ?_
    refine X.ld shp86 ?_
    obtain ⟨v38, hv38, h⟩ := bindE h
    refine X.cp (s_ResourceOk_pc _ _ hv38) ?_
    refine X.un (by rfl) (by rfl) (by rfl) ?_
    refine X.nil ?_
    refine R.cd (fun hc39 => ?_) (fun hc39 => ?_)
    ·replace h := condT hc39 h
     refine Run.sr ?_
     refine X.an ?_
     cases h
     have h := hup28
     replace h := elimR h
     cases h
     refine R.f1 Tryz.results72 ?_
     rfl
    ·replace h := condF hc39 h
     refine Run.skip ?_
     refine Run.blk ?_
     refine Run.reg ?_
     refine X.ad ?_
     refine X.mn ?_
     exact R.ag hag33 (n33 - 1) (z34 + 1) (R.n3 (by first | (rw [hds33]; exact h) | (dsimp only; rw [hds33]; exact h)))
   ·rw [drop_endI hza33 hc37] at h
    rw [s_ProjectOk_L2] at h
    refine Run.exit (by rfl) ?_
    exact R.mt hmeet29 () (Option.some.inj h)
  rintro p40 rfl
  replace h := elimL h
  refine Run.seq ?_
  refine Run.sr ?_
  refine X.fl fld36_4 ?_
  refine X.ld shp25 ?_
  refine X.ls elt25 ?_
  refine X.mn ?_
  obtain ⟨o42, ho42, h⟩ := bindE h
  refine R.join2 (β := Unit) [(1, .lptr 64 0), (3, int (b0.Activities.length : Int))] [(64, .blk true [int b0.Deadline, .slice (b0.Activities.map eTActivity), .slice (b0.Links.map eTLink), .slice (b0.Resources.map eTResource), .slice (b0.Stocks.map int)])] (fun p55 S => S) (fun p55 M => M) (fun p55 => (Sum.inl p55) = o42) ?_ ?_
  ·intro JJ45 hmeet44
   have hup43 := h; clear h; have h := ho42; clear ho42
   refine Run.block ?_
   refine R.bndS (t := 80) (by rfl) (fun hbd48 => ?_)
   replace hbd48 : b0.Stocks.length ≤ 9223372036854775807 := by first | (rw [List.length_map] at hbd48; exact hbd48) | simp
   refine R.lp (β := Int) [(1, .lptr 64 0), (3, int (b0.Activities.length : Int)), (80, .slice (b0.Stocks.map int)), (81, int (b0.Stocks.length : Int))] [(64, .blk true [int b0.Deadline, .slice (b0.Activities.map eTActivity), .slice (b0.Links.map eTLink), .slice (b0.Resources.map eTResource), .slice (b0.Stocks.map int)])] (fun bb S => (82, int bb) :: S) (fun bb M => M) (fun n bb => 0 ≤ bb ∧ bb + n = (b0.Stocks.length : Int) ∧ s_ProjectOk_L3 (b0.Stocks.drop bb.toNat) bb = some o42) b0.Stocks.length (0 : Int) ⟨Int.le_refl _, by simp, h⟩ ?_
   clear h
   rintro JJ48 n48 z49 hag48 ⟨hza48, hzb48, h⟩
   refine Run.sr ?_
   refine X.bi ?_
   refine X.nil ?_
   refine Run.seq ?_
   refine R.cd (fun hc52 => ?_) (fun hc52 => ?_)
   ·obtain ⟨x50, xs51, hd48, hx48, hds48, hlt48⟩ := drop_atI hza48 hc52
    rw [hd48] at h
    rw [s_ProjectOk_L3] at h
    refine Run.skip ?_
    refine Run.seq ?_
    refine Run.block ?_
    refine Run.sr ?_
    refine X.ix elt25 (idxL_spec hx48).1 (idxL_map int hx48) ?_
    refine X.lc shp3 ?_
    refine X.an ?_
    refine Run.sr ?_
    refine X.mv ?_
    obtain ⟨v53, hv53, h⟩ := bindE h
    refine X.cp (s_l01In_pc _ _ _ _ hv53) ?_
    refine X.un (by rfl) (by rfl) (by rfl) ?_
    refine X.nil ?_
    refine R.cd (fun hc54 => ?_) (fun hc54 => ?_)
    ·replace h := condT hc54 h
     refine Run.sr ?_
     refine X.an ?_
     cases h
     have h := hup43
     replace h := elimR h
     cases h
     refine R.f1 Tryz.results72 ?_
     rfl
    ·replace h := condF hc54 h
     refine Run.skip ?_
     refine Run.blk ?_
     refine Run.reg ?_
     refine X.ad ?_
     refine X.mn ?_
     exact R.ag hag48 (n48 - 1) (z49 + 1) (R.n3 (by first | (rw [hds48]; exact h) | (dsimp only; rw [hds48]; exact h)))
   ·rw [drop_endI hza48 hc52] at h
    rw [s_ProjectOk_L3] at h
    refine Run.exit (by rfl) ?_
    exact R.mt hmeet44 () (Option.some.inj h)
  rintro p55 rfl
  replace h := elimL h
  refine Run.seq ?_
  refine Run.sr ?_
  refine X.fl fld36_2 ?_
  refine X.ld shp33 ?_
  refine X.ls elt33 ?_
  refine X.mn ?_
  obtain ⟨o57, ho57, h⟩ := bindE h
  refine R.join2 (β := Unit) [] [] (fun p76 S => S) (fun p76 M => M) (fun p76 => (Sum.inl p76) = o57) ?_ ?_
  ·intro JJ60 hmeet59
   have hup58 := h; clear h; have h := ho57; clear ho57
   refine Run.block ?_
   refine R.bndS (t := 91) (by rfl) (fun hbd63 => ?_)
   replace hbd63 : b0.Links.length ≤ 9223372036854775807 := by first | (rw [List.length_map] at hbd63; exact hbd63) | simp
   refine R.lp (β := Int) [(3, int (b0.Activities.length : Int)), (91, .slice (b0.Links.map eTLink)), (92, int (b0.Links.length : Int))] [] (fun bb S => (93, int bb) :: S) (fun bb M => M) (fun n bb => 0 ≤ bb ∧ bb + n = (b0.Links.length : Int) ∧ s_ProjectOk_L4 b0 (b0.Links.drop bb.toNat) bb = some o57) b0.Links.length (0 : Int) ⟨Int.le_refl _, by simp, h⟩ ?_
   clear h
   rintro JJ63 n63 z64 hag63 ⟨hza63, hzb63, h⟩
   refine Run.sr ?_
   refine X.bi ?_
   refine X.nil ?_
   refine Run.seq ?_
   refine R.cd (fun hc67 => ?_) (fun hc67 => ?_)
   ·obtain ⟨x65, xs66, hd63, hx63, hds63, hlt63⟩ := drop_atI hza63 hc67
    rw [hd63] at h
    rw [s_ProjectOk_L4] at h
    refine Run.skip ?_
    refine Run.seq ?_
    refine Run.block ?_
    refine Run.sr ?_
    refine X.ix elt33 (idxL_spec hx63).1 (idxL_map eTLink hx63) ?_
    refine X.lc shp68 ?_
    refine X.alloc zer68 (by rfl) (by rfl) (by rfl) ?_
    refine X.sl shp68 ?_
    refine X.nil ?_
    refine Run.seq ?_
    obtain ⟨v68, hv68, h⟩ := bindE h
    obtain ⟨e69, he69, h2⟩ := bindE h
    refine R.regG [(3, int (b0.Activities.length : Int)), (91, .slice (b0.Links.map eTLink)), (92, int (b0.Links.length : Int)), (93, int z64), (123, bool e69)] [] ?_ ?_
    ·clear h; have h := he69; clear he69 h2
     refine X.fl fld68_0 ?_
     refine X.ld shp3 ?_
     refine X.mv ?_
     refine X.subW (by rfl) (by rfl) (by rfl) ?_
     refine X.cp (s_l01In_pc _ _ _ _ hv68) ?_
     refine X.un (by rfl) (by rfl) (by rfl) ?_
     refine X.mv ?_
     refine X.iG (fun hb70 => ?_) (fun hb70 => ?_)
     ·replace h := condF hb70 h
      refine X.fl fld68_1 ?_
      refine X.gy ?_
      refine X.ld shp3 ?_
      refine X.gy ?_
      refine X.mv ?_
      refine X.gy ?_
      refine X.subW (by rfl) (by rfl) (by rfl) ?_
      refine X.gy ?_
      obtain ⟨v71, hv71, h⟩ := bindE h
      refine X.cp (s_l01In_pc _ _ _ _ hv71) ?_
      refine X.gy ?_
      refine X.un (by rfl) (by rfl) (by rfl) ?_
      refine X.pF ?_
      refine X.mv ?_
      refine X.iG (fun hb72 => ?_) (fun hb72 => ?_)
      ·replace h := condF hb72 h
       refine X.fl fld68_0 ?_
       refine X.gy ?_
       refine X.ld shp3 ?_
       refine X.gy ?_
       refine X.fl fld68_1 ?_
       refine X.gy ?_
       refine X.ld shp3 ?_
       refine X.gy ?_
       refine X.bi ?_
       refine X.pF ?_
       refine X.mv ?_
       refine X.iG (fun hb73 => ?_) (fun hb73 => ?_)
       ·replace h := condF hb73 h
        refine X.fl fld68_3 ?_
        refine X.gy ?_
        refine X.ld shp3 ?_
        refine X.gy ?_
        obtain ⟨v74, hv74, h⟩ := bindE h
        refine X.cp (s_l01In_pc _ _ _ _ hv74) ?_
        refine X.gy ?_
        refine X.un (by rfl) (by rfl) (by rfl) ?_
        refine X.pF ?_
        cases h
        exact X.eG
       ·replace h := condT hb73 h
        refine X.gn ?_
        refine X.gn ?_
        refine X.gn ?_
        refine X.pT ?_
        cases h
        exact X.eG
      ·replace h := condT hb72 h
       refine X.gn ?_
       refine X.gn ?_
       refine X.gn ?_
       refine X.gn ?_
       refine X.pT ?_
       refine X.mv ?_
       refine X.gn ?_
       refine X.gn ?_
       refine X.gn ?_
       refine X.gn ?_
       refine X.pT ?_
       cases h
       exact X.eG
     ·replace h := condT hb70 h
      refine X.gn ?_
      refine X.gn ?_
      refine X.gn ?_
      refine X.gn ?_
      refine X.gn ?_
      refine X.pT ?_
      refine X.mv ?_
      refine X.gn ?_
      refine X.gn ?_
      refine X.gn ?_
      refine X.gn ?_
      refine X.gn ?_
      refine X.pT ?_
      refine X.mv ?_
      refine X.gn ?_
      refine X.gn ?_
      refine X.gn ?_
      refine X.gn ?_
      refine X.pT ?_
      cases h
      exact X.eG
    replace h := h2; clear h2
    refine R.cd (fun hc75 => ?_) (fun hc75 => ?_)
    ·replace h := condT hc75 h
     refine Run.sr ?_
     refine X.an ?_
     cases h
     have h := hup58
     replace h := elimR h
     cases h
     refine R.f1 Tryz.results72 ?_
     rfl
    ·replace h := condF hc75 h
     refine Run.skip ?_
     refine Run.blk ?_
     refine Run.reg ?_
     refine X.ad ?_
     refine X.mn ?_
     exact R.ag hag63 (n63 - 1) (z64 + 1) (R.n3 (by first | (rw [hds63]; exact h) | (dsimp only; rw [hds63]; exact h)))
   ·rw [drop_endI hza63 hc67] at h
    rw [s_ProjectOk_L4] at h
    refine Run.exit (by rfl) ?_
    exact R.mt hmeet59 () (Option.some.inj h)
  rintro p76 rfl
  replace h := elimL h
  refine Run.sr ?_
  refine X.an ?_
  cases h
  refine R.f1 Tryz.results72 ?_
  rfl
theorem s_IsMachine_pc (b0 : TProject) (b1 : Int) (r : Bool) (h : s_IsMachine b0 b1 = some r) : PC Tryz.prog 74 [eTProject b0, int b1] (bool r) := by
 unfold s_IsMachine at h
 refine PC.start Tryz.func74 Tryz.ntmps74 rfl ok74 rfl ?_
 refine Run.sr ?_
 refine X.bx ?_
 refine X.an ?_
 refine Run.seq ?_
 obtain ⟨v1, hv1, h⟩ := bindE h
 obtain ⟨e2, he2, h2⟩ := bindE h
 refine R.regG [(4, bool e2)] [] ?_ ?_
 ·clear h; have h := he2; clear he2 h2
  refine X.mv ?_
  refine X.fl fld36_3 ?_
  refine X.ld shp34 ?_
  refine X.ls elt34 ?_
  refine X.subW (by rfl) (by rfl) (by rfl) ?_
  refine X.cp (s_l01In_pc _ _ _ _ hv1) ?_
  refine X.mv ?_
  refine X.iG (fun hb3 => ?_) (fun hb3 => ?_)
  ·replace h := condT hb3 h
   refine X.fl fld36_3 ?_
   refine X.gy ?_
   refine X.ld shp34 ?_
   refine X.gy ?_
   refine X.mv ?_
   refine X.gy ?_
   obtain ⟨v4, hv4, h⟩ := bindE h
   refine X.ix elt34 (idxL_spec hv4).1 (idxL_map eTResource hv4) ?_
   refine X.gy ?_
   refine X.fieldAddr_c fld86_1 (by rfl) (by rfl) ?_
   refine X.gy ?_
   refine X.lc shp45 ?_
   refine X.gy ?_
   refine X.ls elt45 ?_
   refine X.gy ?_
   refine X.bi ?_
   refine X.pT ?_
   refine X.as ?_
   cases h
   exact X.eG
  ·replace h := condF hb3 h
   refine X.gn ?_
   refine X.gn ?_
   refine X.gn ?_
   refine X.gn ?_
   refine X.gn ?_
   refine X.gn ?_
   refine X.gn ?_
   refine X.pF ?_
   refine X.as ?_
   cases h
   exact X.eG
 replace h := h2; clear h2
 cases h
 refine R.f1 Tryz.results74 ?_
 rfl
theorem s_SetHas_pc (b0 : List Int) (b1 : Int) (r : Bool) (h : s_SetHas b0 b1 = some r) : PC Tryz.prog 126 [.slice (b0.map int), int b1] (bool r) := by
 unfold s_SetHas at h
 refine PC.start Tryz.func126 Tryz.ntmps126 rfl ok126 rfl ?_
 refine Run.sr ?_
 refine X.an ?_
 refine Run.seq ?_
 refine Run.sr ?_
 refine X.mv ?_
 refine X.ls elt25 ?_
 refine X.mn ?_
 obtain ⟨o1, ho1, h⟩ := bindE h
 refine R.join2 (β := Unit) [] [] (fun p13 S => S) (fun p13 M => M) (fun p13 => (Sum.inl p13) = o1) ?_ ?_
 ·intro JJ4 hmeet3
  have hup2 := h; clear h; have h := ho1; clear ho1
  refine Run.block ?_
  refine R.bndS (t := 0) (by rfl) (fun hbd7 => ?_)
  replace hbd7 : b0.length ≤ 9223372036854775807 := by first | (rw [List.length_map] at hbd7; exact hbd7) | simp
  refine R.lp (β := Int) [(1, int b1), (7, .slice (b0.map int)), (8, int (b0.length : Int))] [] (fun bb S => (9, int bb) :: S) (fun bb M => M) (fun n bb => 0 ≤ bb ∧ bb + n = (b0.length : Int) ∧ s_SetHas_L1 b1 (b0.drop bb.toNat) bb = some o1) b0.length (0 : Int) ⟨Int.le_refl _, by simp, h⟩ ?_
  clear h
  rintro JJ7 n7 z8 hag7 ⟨hza7, hzb7, h⟩
  refine Run.sr ?_
  refine X.bi ?_
  refine X.nil ?_
  refine Run.seq ?_
  refine R.cd (fun hc11 => ?_) (fun hc11 => ?_)
  ·obtain ⟨x9, xs10, hd7, hx7, hds7, hlt7⟩ := drop_atI hza7 hc11
   rw [hd7] at h
   rw [s_SetHas_L1] at h
   refine Run.skip ?_
   refine Run.seq ?_
   refine Run.block ?_
   refine Run.sr ?_
   refine X.ix elt25 (idxL_spec hx7).1 (idxL_map int hx7) ?_
   refine X.lc shp3 ?_
   refine X.an ?_
   refine Run.sr ?_
   refine X.mv ?_
   refine X.mv ?_
   refine X.bi ?_
   refine X.nil ?_
   refine R.cd (fun hc12 => ?_) (fun hc12 => ?_)
   ·replace h := condT hc12 h
    refine Run.sr ?_
    refine X.an ?_
    cases h
    have h := hup2
    replace h := elimR h
    cases h
    refine R.f1 Tryz.results126 ?_
    rfl
   ·replace h := condF hc12 h
    refine Run.skip ?_
    refine Run.blk ?_
    refine Run.reg ?_
    refine X.ad ?_
    refine X.mn ?_
    exact R.ag hag7 (n7 - 1) (z8 + 1) (R.n3 (by first | (rw [hds7]; exact h) | (dsimp only; rw [hds7]; exact h)))
  ·rw [drop_endI hza7 hc11] at h
   rw [s_SetHas_L1] at h
   refine Run.exit (by rfl) ?_
   exact R.mt hmeet3 () (Option.some.inj h)
 rintro p13 rfl
 replace h := elimL h
 refine Run.sr ?_
 refine X.an ?_
 cases h
 refine R.f1 Tryz.results126 ?_
 rfl
theorem s_l02Put_pc (b0 : List Int) (b1 : Int) (r : List Int) (h : s_l02Put b0 b1 = some r) : PC Tryz.prog 75 [.slice (b0.map int), int b1] (.slice (r.map int)) := by
 unfold s_l02Put at h
 refine PC.start Tryz.func75 Tryz.ntmps75 rfl ok75 rfl ?_
 refine Run.sr ?_
 refine X.an ?_
 refine Run.seq ?_
 refine Run.sr ?_
 refine X.mv ?_
 refine X.mv ?_
 obtain ⟨v1, hv1, h⟩ := bindE h
 refine X.cp (s_SetHas_pc _ _ _ hv1) ?_
 refine X.nil ?_
 refine R.cd (fun hc2 => ?_) (fun hc2 => ?_)
 ·replace h := condT hc2 h
  refine Run.sr ?_
  refine X.mv ?_
  refine X.an ?_
  cases h
  refine R.f1 Tryz.results75 ?_
  rfl
 ·replace h := condF hc2 h
  refine Run.skip ?_
  refine Run.sr ?_
  refine X.an ?_
  refine Run.seq ?_
  obtain ⟨o3, ho3, h⟩ := bindE h
  refine R.join2 (β := Int) [(0, .slice (b0.map int)), (1, int b1)] [] (fun p15 S => (5, int p15) :: S) (fun p15 M => M) (fun p15 => p15 = o3) ?_ ?_
  ·intro JJ6 hmeet5
   have hup4 := h; clear h; have h := ho3; clear ho3
   refine Run.block ?_
   refine R.lp (β := Int) [(0, .slice (b0.map int)), (1, int b1)] [] (fun bb S => (5, int bb) :: S) (fun bb M => M) (fun n bb => s_l02Put_L1 b0 b1 n bb = some o3) F0 0 h ?_
   clear h
   rintro JJ6 n6 a8 hag6 h
   obtain _ | n6 := n6
   ·exact absurd h (by simp [s_l02Put_L1])
   rw [s_l02Put_L1] at h
   refine Run.seq ?_
   refine Run.seq ?_
   obtain ⟨e11, he11, h2⟩ := bindE h
   refine R.regG [(0, .slice (b0.map int)), (1, int b1), (5, int a8), (22, bool e11)] [] ?_ ?_
   ·clear h; have h := he11; clear he11 h2
    refine X.mv ?_
    refine X.mv ?_
    refine X.ls elt25 ?_
    refine X.bi ?_
    refine X.mv ?_
    refine X.iG (fun hb12 => ?_) (fun hb12 => ?_)
    ·replace h := condT hb12 h
     refine X.mv ?_
     refine X.gy ?_
     refine X.mv ?_
     refine X.gy ?_
     obtain ⟨v13, hv13, h⟩ := bindE h
     refine X.ix elt25 (idxL_spec hv13).1 (idxL_map int hv13) ?_
     refine X.gy ?_
     refine X.lc shp3 ?_
     refine X.gy ?_
     refine X.mv ?_
     refine X.gy ?_
     refine X.bi ?_
     refine X.pT ?_
     cases h
     exact X.eG
    ·replace h := condF hb12 h
     refine X.gn ?_
     refine X.gn ?_
     refine X.gn ?_
     refine X.gn ?_
     refine X.gn ?_
     refine X.pF ?_
     cases h
     exact X.eG
   replace h := h2; clear h2
   refine R.cd (fun hc14 => ?_) (fun hc14 => ?_)
   ·replace h := condT hc14 h
    refine Run.skip ?_
    refine Run.block ?_
    refine Run.reg ?_
    refine X.mv ?_
    refine X.addW (by rfl) (by rfl) (by rfl) ?_
    refine X.an ?_
    refine Run.blk ?_
    exact hag6 n6 (W (a8 + 1)) _ _ (by omega) h (by trivial) (by trivial) (by rfl) (by rfl)
   ·replace h := condF hc14 h
    refine Run.exit (by rfl) ?_
    exact R.mt hmeet5 a8 (Option.some.inj h)
  rintro p15 rfl
  refine Run.sr ?_
  refine X.buildSlice false elt25 zer3 (by rfl) (by rfl) (by rfl) (by rfl) (by rfl) (by rfl) (by repeat (first | trivial | refine ⟨by first | rfl | simp [setL], ?_⟩)) (allSz_spec (by rfl)) (by rfl) (by rfl) (by rfl) ?_
  refine X.mv ?_
  refine X.mv ?_
  obtain ⟨v16, hv16, h⟩ := bindE h
  refine X.sliceS2 elt25 (by rfl) (by exact cells_map (f := int) (fun _ => rfl)) (by rfl) ⟨_, by rfl⟩ (subL_le _ hv16) (subL_map _ hv16) (by rfl) ?_
  obtain ⟨v17, hv17, h⟩ := bindE h
  refine X.append elt25 zer3 (by rfl) (by rfl) (by first | rfl | simp [setL] | omega) (by rfl) (.pure _) (by exact cells_map (f := int) (fun _ => rfl)) (appL_len int hv17) (appL_map int hv17) (by rfl) (by rfl) (by rfl) (by rfl) ?_
  refine X.an ?_
  refine Run.sr ?_
  refine X.mv ?_
  refine X.mv ?_
  refine X.buildSlice false elt25 zer3 (by rfl) (by rfl) (by rfl) (by rfl) (by rfl) (by rfl) (by repeat (first | trivial | refine ⟨by first | rfl | simp [setL], ?_⟩)) (allSz_spec (by rfl)) (by rfl) (by rfl) (by rfl) ?_
  obtain ⟨v18, hv18, h⟩ := bindE h
  refine X.append elt25 zer3 (by rfl) (by rfl) (by first | rfl | simp [setL] | omega) (by rfl) (.own _ _ _ _ _ _ (look_mem (by rfl)) (by first | rfl | simp [setL] | omega)) (allSz_spec (by rfl)) (appL_len int hv18) (appL_map int hv18) (by rfl) (by rfl) (by rfl) (by rfl) ?_
  refine X.an ?_
  refine Run.sr ?_
  refine X.mv ?_
  refine X.mv ?_
  refine X.mv ?_
  obtain ⟨v19, hv19, h⟩ := bindE h
  refine X.sliceS2 elt25 (by rfl) (by exact cells_map (f := int) (fun _ => rfl)) ⟨_, by rfl⟩ (by first | rfl | simp [Bound]) (subL_le _ hv19) (subL_map _ hv19) (by rfl) ?_
  obtain ⟨v20, hv20, h⟩ := bindE h
  refine X.append elt25 zer3 (by rfl) (by rfl) (by first | rfl | simp [setL] | omega) (by rfl) (.pure _) (by exact cells_map (f := int) (fun _ => rfl)) (appL_len int hv20) (appL_map int hv20) (by rfl) (by rfl) (by rfl) (by rfl) ?_
  refine X.an ?_
  cases h
  refine R.castS (t := 4) _ (by rfl) (.inr (.inr ⟨_, _, _, _, _, rfl, (by rfl), (by first | rfl | simp [setL] | omega), rfl⟩)) ?_
  refine R.f1 Tryz.results75 ?_
  rfl
theorem s_SetOf_pc (b0 : List Int) (r : List Int) (h : s_SetOf b0 = some r) : PC Tryz.prog 36 [.slice (b0.map int)] (.slice (r.map int)) := by
 unfold s_SetOf at h
 refine PC.start Tryz.func36 Tryz.ntmps36 rfl ok36 rfl ?_
 refine Run.sr ?_
 refine X.an ?_
 refine Run.sr ?_
 refine X.buildSlice false elt25 zer3 (by rfl) (by rfl) (by rfl) (by rfl) (by rfl) (by rfl) (by repeat (first | trivial | refine ⟨by first | rfl | simp [setL], ?_⟩)) (allSz_spec (by rfl)) (by rfl) (by rfl) (by rfl) ?_
 refine X.an ?_
 refine Run.seq ?_
 refine Run.sr ?_
 refine X.mv ?_
 refine X.ls elt25 ?_
 refine X.mn ?_
 obtain ⟨o1, ho1, h⟩ := bindE h
 refine R.join2 (β := (List Int)) [] [] (fun p14 S => (3, .slice (p14.map int)) :: S) (fun p14 M => M) (fun p14 => p14 = o1) ?_ ?_
 ·intro JJ4 hmeet3
  have hup2 := h; clear h; have h := ho1; clear ho1
  refine Run.block ?_
  refine R.castS (t := 3) _ (by rfl) (.inr (.inr ⟨_, _, _, _, _, rfl, (by rfl), (by first | rfl | simp [setL] | omega), rfl⟩)) ?_
  refine R.bndS (t := 0) (by rfl) (fun hbd7 => ?_)
  replace hbd7 : b0.length ≤ 9223372036854775807 := by first | (rw [List.length_map] at hbd7; exact hbd7) | simp
  refine R.lp (β := Int × (List Int)) [(7, .slice (b0.map int)), (8, int (b0.length : Int))] [] (fun bb S => (3, .slice (bb.2.map int)) :: (9, int bb.1) :: S) (fun bb M => M) (fun n bb => 0 ≤ bb.1 ∧ bb.1 + n = (b0.length : Int) ∧ s_SetOf_L1 (b0.drop bb.1.toNat) bb.1 bb.2 = some o1) b0.length (0, ([] : List Int)) ⟨Int.le_refl _, by simp, h⟩ ?_
  clear h
  rintro JJ7 n7 ⟨z8, a9⟩ hag7 ⟨hza7, hzb7, h⟩
  dsimp only at hza7 hzb7 h
  refine Run.sr ?_
  refine X.bi ?_
  refine X.nil ?_
  refine Run.seq ?_
  refine R.cd (fun hc12 => ?_) (fun hc12 => ?_)
  ·obtain ⟨x10, xs11, hd7, hx7, hds7, hlt7⟩ := drop_atI hza7 hc12
   rw [hd7] at h
   rw [s_SetOf_L1] at h
   refine Run.skip ?_
   refine Run.seq ?_
   refine Run.block ?_
   refine Run.sr ?_
   refine X.ix elt25 (idxL_spec hx7).1 (idxL_map int hx7) ?_
   refine X.lc shp3 ?_
   refine X.an ?_
   refine Run.reg ?_
   refine X.mv ?_
   refine X.mv ?_
   obtain ⟨v13, hv13, h⟩ := bindE h
   refine X.cp (s_l02Put_pc _ _ _ hv13) ?_
   refine X.an ?_
   refine Run.blk ?_
   refine Run.reg ?_
   refine X.ad ?_
   refine X.mn ?_
   exact R.ag hag7 (n7 - 1) (z8 + 1, v13) (R.n3 (by first | (rw [hds7]; exact h) | (dsimp only; rw [hds7]; exact h)))
  ·rw [drop_endI hza7 hc12] at h
   rw [s_SetOf_L1] at h
   refine Run.exit (by rfl) ?_
   exact R.mt hmeet3 a9 (Option.some.inj h)
 rintro p14 rfl
 refine Run.sr ?_
 refine X.mv ?_
 refine X.an ?_
 cases h
 refine R.f1 Tryz.results36 ?_
 rfl
theorem s_IntRange_pc (b0 : Int) (r : List Int) (h : s_IntRange b0 = some r) : PC Tryz.prog 37 [int b0] (.fresh false 3 1 (r.map int)) := by
 unfold s_IntRange at h
 refine PC.start Tryz.func37 Tryz.ntmps37 rfl ok37 rfl ?_
 refine Run.sr ?_
 refine X.an ?_
 refine Run.sr ?_
 refine X.buildSlice false elt25 zer3 (by rfl) (by rfl) (by rfl) (by rfl) (by rfl) (by rfl) (by repeat (first | trivial | refine ⟨by first | rfl | simp [setL], ?_⟩)) (allSz_spec (by rfl)) (by rfl) (by rfl) (by rfl) ?_
 refine X.an ?_
 refine Run.seq ?_
 refine Run.sr ?_
 refine X.mv ?_
 obtain ⟨v1, hv1, h⟩ := bindE h
 refine X.cp (s_l01In_pc _ _ _ _ hv1) ?_
 refine X.un (by rfl) (by rfl) (by rfl) ?_
 refine X.nil ?_
 refine R.cd (fun hc2 => ?_) (fun hc2 => ?_)
 ·replace h := condT hc2 h
  refine Run.sr ?_
  refine X.an ?_
  cases h
  refine R.fin1n (x := false) (e := 3) (sz := 1) Tryz.results37 (by rfl) (by decide) ?_
  rfl
 ·replace h := condF hc2 h
  refine Run.skip ?_
  refine Run.seq ?_
  refine Run.sr ?_
  refine X.an ?_
  obtain ⟨o3, ho3, h⟩ := bindE h
  refine R.join2 (β := (List Int)) [] [] (fun p15 S => (3, .own 320 (p15.map int).length) :: S) (fun p15 M => (320, .obj false 3 1 (p15.map int)) :: M) (fun p15 => p15 = o3) ?_ ?_
  ·intro JJ6 hmeet5
   have hup4 := h; clear h; have h := ho3; clear ho3
   refine Run.block ?_
   refine R.lp (β := Int × (List Int)) [(0, int b0)] [] (fun bb S => (3, .own 320 (bb.2.map int).length) :: (4, int bb.1) :: S) (fun bb M => (320, .obj false 3 1 (bb.2.map int)) :: M) (fun n bb => s_IntRange_L1 b0 n bb.1 bb.2 = some o3) F0 (0, ([] : List Int)) h ?_
   clear h
   rintro JJ7 n7 ⟨a9, a10⟩ hag7 h
   dsimp only at h
   obtain _ | n7 := n7
   ·exact absurd h (by simp [s_IntRange_L1])
   rw [s_IntRange_L1] at h
   refine Run.seq ?_
   refine Run.sr ?_
   refine X.mv ?_
   refine X.mv ?_
   refine X.bi ?_
   refine X.nil ?_
   refine R.cd (fun hc13 => ?_) (fun hc13 => ?_)
   ·replace h := condT hc13 h
    refine Run.skip ?_
    refine Run.seq ?_
    refine Run.block ?_
    refine Run.reg ?_
    refine X.mv ?_
    refine X.mv ?_
    refine X.buildSlice false elt25 zer3 (by rfl) (by rfl) (by rfl) (by rfl) (by rfl) (by rfl) (by repeat (first | trivial | refine ⟨by first | rfl | simp [setL], ?_⟩)) (allSz_spec (by rfl)) (by rfl) (by rfl) (by rfl) ?_
    obtain ⟨v14, hv14, h⟩ := bindE h
    refine X.append elt25 zer3 (by rfl) (by rfl) (by first | rfl | simp [setL] | omega) (by rfl) (.own _ _ _ _ _ _ (look_mem (by rfl)) (by first | rfl | simp [setL] | omega)) (allSz_spec (by rfl)) (appL_len int hv14) (appL_map int hv14) (by rfl) (by rfl) (by rfl) (by rfl) ?_
    refine X.an ?_
    refine Run.blk ?_
    refine Run.reg ?_
    refine X.mv ?_
    refine X.addW (by rfl) (by rfl) (by rfl) ?_
    refine X.an ?_
    exact hag7 n7 ((W (a9 + 1)), v14) _ _ (by omega) h (by repeat (first | trivial | refine ⟨by first | rfl | simp [setL], ?_⟩)) (by repeat (first | trivial | refine ⟨by first | rfl | simp [setL], ?_⟩)) (by rfl) (by rfl)
   ·replace h := condF hc13 h
    refine Run.exit (by rfl) ?_
    exact R.mt hmeet5 a10 (Option.some.inj h)
  rintro p15 rfl
  refine Run.sr ?_
  refine X.mv ?_
  refine X.an ?_
  cases h
  refine R.fin1o Tryz.results37 (by rfl) (by rfl) (by first | rfl | simp [setL] | omega) ?_
  rfl
theorem s_SetAdd_pc (b0 : List Int) (b1 : Int) (r : List Int) (h : s_SetAdd b0 b1 = some r) : PC Tryz.prog 76 [.slice (b0.map int), int b1] (.slice (r.map int)) := by
 unfold s_SetAdd at h
 refine PC.start Tryz.func76 Tryz.ntmps76 rfl ok76 rfl ?_
 refine Run.sr ?_
 refine X.an ?_
 refine Run.sr ?_
 refine X.mv ?_
 obtain ⟨v1, hv1, h⟩ := bindE h
 refine X.cp (s_SetOf_pc _ _ hv1) ?_
 refine X.mv ?_
 obtain ⟨v2, hv2, h⟩ := bindE h
 refine X.cp (s_l02Put_pc _ _ _ hv2) ?_
 refine X.an ?_
 cases h
 refine R.f1 Tryz.results76 ?_
 rfl
theorem i_within_pc (b0 : Int) (b1 : Int) (b2 : Int) (r : Bool) (h : i_within b0 b1 b2 = some r) : PC Tryz.prog 81 [int b0, int b1, int b2] (bool r) := by
 unfold i_within at h
 refine PC.start Tryz.func81 Tryz.ntmps81 rfl ok81 rfl ?_
 refine Run.sr ?_
 refine X.an ?_
 refine Run.seq ?_
 obtain ⟨e1, he1, h2⟩ := bindE h
 refine R.regG [(6, bool e1)] [] ?_ ?_
 ·clear h; have h := he1; clear he1 h2
  refine X.mv ?_
  refine X.mv ?_
  refine X.bi ?_
  refine X.mv ?_
  refine X.iG (fun hb2 => ?_) (fun hb2 => ?_)
  ·replace h := condT hb2 h
   refine X.mv ?_
   refine X.gy ?_
   refine X.mv ?_
   refine X.gy ?_
   refine X.bi ?_
   refine X.pT ?_
   refine X.as ?_
   cases h
   exact X.eG
  ·replace h := condF hb2 h
   refine X.gn ?_
   refine X.gn ?_
   refine X.pF ?_
   refine X.as ?_
   cases h
   exact X.eG
 replace h := h2; clear h2
 cases h
 refine R.f1 Tryz.results81 ?_
 rfl
theorem i_isAmount_pc (b0 : Int) (r : Bool) (h : i_isAmount b0 = some r) : PC Tryz.prog 200 [int b0] (bool r) := by
 unfold i_isAmount at h
 refine PC.start Tryz.func200 Tryz.ntmps200 rfl ok200 rfl ?_
 refine Run.sr ?_
 refine X.an ?_
 refine Run.sr ?_
 refine X.mv ?_
 obtain ⟨v1, hv1, h⟩ := bindE h
 refine X.cp (i_within_pc _ _ _ _ hv1) ?_
 refine X.an ?_
 cases h
 refine R.f1 Tryz.results200 ?_
 rfl
theorem i_areAmounts_pc (b0 : List Int) (b1 : Int) (r : Bool) (h : i_areAmounts b0 b1 = some r) : PC Tryz.prog 199 [.slice (b0.map int), int b1] (bool r) := by
 unfold i_areAmounts at h
 refine PC.start Tryz.func199 Tryz.ntmps199 rfl ok199 rfl ?_
 refine Run.sr ?_
 refine X.an ?_
 refine Run.seq ?_
 refine Run.sr ?_
 refine X.mv ?_
 refine X.ls elt25 ?_
 refine X.mn ?_
 obtain ⟨o1, ho1, h⟩ := bindE h
 refine R.join2 (β := Unit) [(0, .slice (b0.map int)), (1, int b1)] [] (fun p14 S => S) (fun p14 M => M) (fun p14 => (Sum.inl p14) = o1) ?_ ?_
 ·intro JJ4 hmeet3
  have hup2 := h; clear h; have h := ho1; clear ho1
  refine Run.block ?_
  refine R.bndS (t := 0) (by rfl) (fun hbd7 => ?_)
  replace hbd7 : b0.length ≤ 9223372036854775807 := by first | (rw [List.length_map] at hbd7; exact hbd7) | simp
  refine R.lp (β := Int) [(0, .slice (b0.map int)), (1, int b1), (7, .slice (b0.map int)), (8, int (b0.length : Int))] [] (fun bb S => (9, int bb) :: S) (fun bb M => M) (fun n bb => 0 ≤ bb ∧ bb + n = (b0.length : Int) ∧ i_areAmounts_L1 (b0.drop bb.toNat) bb = some o1) b0.length (0 : Int) ⟨Int.le_refl _, by simp, h⟩ ?_
  clear h
  rintro JJ7 n7 z8 hag7 ⟨hza7, hzb7, h⟩
  refine Run.sr ?_
  refine X.bi ?_
  refine X.nil ?_
  refine Run.seq ?_
  refine R.cd (fun hc11 => ?_) (fun hc11 => ?_)
  ·obtain ⟨x9, xs10, hd7, hx7, hds7, hlt7⟩ := drop_atI hza7 hc11
   rw [hd7] at h
   rw [i_areAmounts_L1] at h
   refine Run.skip ?_
   refine Run.seq ?_
   refine Run.block ?_
   refine Run.sr ?_
   refine X.ix elt25 (idxL_spec hx7).1 (idxL_map int hx7) ?_
   refine X.lc shp3 ?_
   refine X.an ?_
   refine Run.sr ?_
   refine X.mv ?_
   obtain ⟨v12, hv12, h⟩ := bindE h
   refine X.cp (i_isAmount_pc _ _ hv12) ?_
   refine X.un (by rfl) (by rfl) (by rfl) ?_
   refine X.nil ?_
   refine R.cd (fun hc13 => ?_) (fun hc13 => ?_)
   ·replace h := condT hc13 h
    refine Run.sr ?_
    refine X.an ?_
    cases h
    have h := hup2
    replace h := elimR h
    cases h
    refine R.f1 Tryz.results199 ?_
    rfl
   ·replace h := condF hc13 h
    refine Run.skip ?_
    refine Run.blk ?_
    refine Run.reg ?_
    refine X.ad ?_
    refine X.mn ?_
    exact R.ag hag7 (n7 - 1) (z8 + 1) (R.n3 (by first | (rw [hds7]; exact h) | (dsimp only; rw [hds7]; exact h)))
  ·rw [drop_endI hza7 hc11] at h
   rw [i_areAmounts_L1] at h
   refine Run.exit (by rfl) ?_
   exact R.mt hmeet3 () (Option.some.inj h)
 rintro p14 rfl
 replace h := elimL h
 refine Run.sr ?_
 refine X.mv ?_
 refine X.ls elt25 ?_
 refine X.mv ?_
 refine X.bi ?_
 refine X.an ?_
 cases h
 refine R.f1 Tryz.results199 ?_
 rfl
theorem i_ModeOk_pc (b0 : TMode) (b1 : Int) (b2 : Int) (r : Bool) (h : i_ModeOk b0 b1 b2 = some r) : PC Tryz.prog 164 [eTMode b0, int b1, int b2] (bool r) := by
 unfold i_ModeOk at h
 refine PC.start Tryz.func164 Tryz.ntmps164 rfl ok164 rfl ?_
 refine Run.sr ?_
 refine X.bx ?_
 refine X.an ?_
 refine Run.seq ?_
 obtain ⟨v1, hv1, h⟩ := bindE h
 obtain ⟨e2, he2, h2⟩ := bindE h
 refine R.regG [(6, bool e2)] [] ?_ ?_
 ·clear h; have h := he2; clear he2 h2
  refine X.fl fld110_0 ?_
  refine X.ld shp3 ?_
  refine X.cp (i_within_pc _ _ _ _ hv1) ?_
  refine X.mv ?_
  refine X.iG (fun hb3 => ?_) (fun hb3 => ?_)
  ·replace h := condT hb3 h
   refine X.fl fld110_1 ?_
   refine X.gy ?_
   refine X.ld shp25 ?_
   refine X.gy ?_
   refine X.mv ?_
   refine X.gy ?_
   obtain ⟨v4, hv4, h⟩ := bindE h
   refine X.cp (i_areAmounts_pc _ _ _ hv4) ?_
   refine X.pT ?_
   refine X.mv ?_
   refine X.iG (fun hb5 => ?_) (fun hb5 => ?_)
   ·replace h := condT hb5 h
    refine X.fl fld110_2 ?_
    refine X.gy ?_
    refine X.ld shp25 ?_
    refine X.gy ?_
    refine X.mv ?_
    refine X.gy ?_
    obtain ⟨v6, hv6, h⟩ := bindE h
    refine X.cp (i_areAmounts_pc _ _ _ hv6) ?_
    refine X.pT ?_
    refine X.as ?_
    cases h
    exact X.eG
   ·replace h := condF hb5 h
    refine X.gn ?_
    refine X.gn ?_
    refine X.gn ?_
    refine X.pF ?_
    refine X.as ?_
    cases h
    exact X.eG
  ·replace h := condF hb3 h
   refine X.gn ?_
   refine X.gn ?_
   refine X.gn ?_
   refine X.pF ?_
   refine X.mv ?_
   refine X.gn ?_
   refine X.gn ?_
   refine X.gn ?_
   refine X.gn ?_
   refine X.pF ?_
   refine X.as ?_
   cases h
   exact X.eG
 replace h := h2; clear h2
 cases h
 refine R.f1 Tryz.results164 ?_
 rfl
theorem i_IsName_pc (b0 : ByteArray) (r : Bool) (h : i_IsName b0 = some r) : PC Tryz.prog 165 [str b0] (bool r) := by
 unfold i_IsName at h
 refine PC.start Tryz.func165 Tryz.ntmps165 rfl ok165 rfl ?_
 refine Run.sr ?_
 refine X.an ?_
 refine Run.seq ?_
 refine Run.sr ?_
 refine X.mv ?_
 refine X.lenStr Tryz.underlying9 (by rfl) (by rfl) ?_
 refine X.mn ?_
 obtain ⟨o1, ho1, h⟩ := bindE h
 refine R.join2 (β := Unit) [(0, str b0)] [] (fun p19 S => S) (fun p19 M => M) (fun p19 => (Sum.inl p19) = o1) ?_ ?_
 ·intro JJ4 hmeet3
  have hup2 := h; clear h; have h := ho1; clear ho1
  refine Run.block ?_
  refine R.lp (β := Int) [(0, str b0), (6, int (b0.size : Int))] [] (fun bb S => (7, int bb) :: S) (fun bb M => M) (fun n bb => i_IsName_L1 b0 n bb = some o1) F0 0 h ?_
  clear h
  rintro JJ5 n5 a7 hag5 h
  obtain _ | n5 := n5
  ·exact absurd h (by simp [i_IsName_L1])
  rw [i_IsName_L1] at h
  refine Run.sr ?_
  refine X.bi ?_
  refine X.nil ?_
  refine Run.seq ?_
  refine R.cd (fun hc10 => ?_) (fun hc10 => ?_)
  ·replace h := condT hc10 h
   refine Run.skip ?_
   refine Run.seq ?_
   refine Run.block ?_
   refine Run.sr ?_
   refine X.mv ?_
   refine X.an ?_
   refine Run.seq ?_
   obtain ⟨v11, hv11, h⟩ := bindE h
   obtain ⟨e12, he12, h2⟩ := bindE h
   refine R.regG [(0, str b0), (3, int a7), (4, bool e12), (6, int (b0.size : Int)), (7, int a7)] [] ?_ ?_
   ·clear h; have h := he12; clear he12 h2
    refine X.mv ?_
    refine X.mv ?_
    refine X.indexStr2 hv11 Tryz.underlying9 (by rfl) (by rfl) (by rfl) ?_
    refine X.bi ?_
    refine X.mv ?_
    refine X.iG (fun hb13 => ?_) (fun hb13 => ?_)
    ·replace h := condT hb13 h
     refine X.mv ?_
     refine X.gy ?_
     refine X.mv ?_
     refine X.gy ?_
     refine X.indexStr2 hv11 Tryz.underlying9 (by rfl) (by rfl) (by rfl) ?_
     refine X.gy ?_
     refine X.bi ?_
     refine X.pT ?_
     refine X.as ?_
     cases h
     exact X.eG
    ·replace h := condF hb13 h
     refine X.gn ?_
     refine X.gn ?_
     refine X.gn ?_
     refine X.pF ?_
     refine X.as ?_
     cases h
     exact X.eG
   replace h := h2; clear h2
   refine Run.seq ?_
   obtain ⟨e14, he14, h2⟩ := bindE h
   refine R.regG [(0, str b0), (6, int (b0.size : Int)), (7, int a7), (37, bool e14)] [] ?_ ?_
   ·clear h; have h := he14; clear he14 h2
    refine X.mv ?_
    refine X.un (by rfl) (by rfl) (by rfl) ?_
    refine X.mv ?_
    refine X.iG (fun hb15 => ?_) (fun hb15 => ?_)
    ·replace h := condT hb15 h
     refine X.mv ?_
     refine X.gy ?_
     refine X.bi ?_
     refine X.gy ?_
     refine X.mv ?_
     refine X.iG (fun hb16 => ?_) (fun hb16 => ?_)
     ·replace h := condF hb16 h
      refine X.mv ?_
      refine X.gy ?_
      refine X.mv ?_
      refine X.gy ?_
      refine X.indexStr2 hv11 Tryz.underlying9 (by rfl) (by rfl) (by rfl) ?_
      refine X.gy ?_
      refine X.bi ?_
      refine X.gy ?_
      refine X.pF ?_
      refine X.gy ?_
      refine X.mv ?_
      refine X.iG (fun hb17 => ?_) (fun hb17 => ?_)
      ·replace h := condF hb17 h
       refine X.mv ?_
       refine X.gy ?_
       refine X.mv ?_
       refine X.gy ?_
       refine X.indexStr2 hv11 Tryz.underlying9 (by rfl) (by rfl) (by rfl) ?_
       refine X.gy ?_
       refine X.bi ?_
       refine X.gy ?_
       refine X.pF ?_
       refine X.pT ?_
       cases h
       exact X.eG
      ·replace h := condT hb17 h
       refine X.gn ?_
       refine X.gn ?_
       refine X.gn ?_
       refine X.gy ?_
       refine X.pT ?_
       refine X.pT ?_
       cases h
       exact X.eG
     ·replace h := condT hb16 h
      refine X.gn ?_
      refine X.gn ?_
      refine X.gn ?_
      refine X.gy ?_
      refine X.pT ?_
      refine X.gy ?_
      refine X.mv ?_
      refine X.gn ?_
      refine X.gn ?_
      refine X.gn ?_
      refine X.gn ?_
      refine X.gy ?_
      refine X.pT ?_
      refine X.pT ?_
      cases h
      exact X.eG
    ·replace h := condF hb15 h
     refine X.gn ?_
     refine X.gn ?_
     refine X.gU (by rfl) (by rfl) (by rfl) ?_
     refine X.gU (by rfl) (by rfl) (by rfl) ?_
     refine X.gU (by rfl) (by rfl) (by rfl) ?_
     refine X.gU (by rfl) (by rfl) (by rfl) ?_
     refine X.gn ?_
     refine X.gn ?_
     refine X.gU (by rfl) (by rfl) (by rfl) ?_
     refine X.gU (by rfl) (by rfl) (by rfl) ?_
     refine X.gU (by rfl) (by rfl) (by rfl) ?_
     refine X.gU (by rfl) (by rfl) (by rfl) ?_
     refine X.gn ?_
     refine X.pF ?_
     cases h
     exact X.eG
   replace h := h2; clear h2
   refine R.cd (fun hc18 => ?_) (fun hc18 => ?_)
   ·replace h := condT hc18 h
    refine Run.sr ?_
    refine X.an ?_
    cases h
    have h := hup2
    replace h := elimR h
    cases h
    refine R.f1 Tryz.results165 ?_
    rfl
   ·replace h := condF hc18 h
    refine Run.skip ?_
    refine Run.blk ?_
    refine Run.reg ?_
    refine X.addW (by rfl) (by rfl) (by rfl) ?_
    refine X.mn ?_
    exact hag5 n5 (W (a7 + 1)) _ _ (by omega) h (by trivial) (by trivial) (by rfl) (by rfl)
  ·replace h := condF hc10 h
   refine Run.exit (by rfl) ?_
   exact R.mt hmeet3 () (Option.some.inj h)
 rintro p19 rfl
 replace h := elimL h
 refine Run.sr ?_
 refine X.mv ?_
 refine X.lenStr Tryz.underlying9 (by rfl) (by rfl) ?_
 obtain ⟨v21, hv21, h⟩ := bindE h
 refine X.cp (i_within_pc _ _ _ _ hv21) ?_
 refine X.an ?_
 cases h
 refine R.f1 Tryz.results165 ?_
 rfl
theorem i_ActivityOk_pc (b0 : TActivity) (b1 : Int) (b2 : Int) (r : Bool) (h : i_ActivityOk b0 b1 b2 = some r) : PC Tryz.prog 129 [eTActivity b0, int b1, int b2] (bool r) := by
 unfold i_ActivityOk at h
 refine PC.start Tryz.func129 Tryz.ntmps129 rfl ok129 rfl ?_
 refine Run.sr ?_
 refine X.bx ?_
 refine X.an ?_
 refine Run.seq ?_
 refine Run.sr ?_
 refine X.fl fld108_2 ?_
 refine X.ld shp106 ?_
 refine X.ls elt106 ?_
 refine X.mn ?_
 obtain ⟨o1, ho1, h⟩ := bindE h
 refine R.join2 (β := Unit) [(3, .lptr 192 0)] [(192, .blk true [str b0.Name, int b0.Family, .slice (b0.Modes.map eTMode)])] (fun p14 S => S) (fun p14 M => M) (fun p14 => (Sum.inl p14) = o1) ?_ ?_
 ·intro JJ4 hmeet3
  have hup2 := h; clear h; have h := ho1; clear ho1
  refine Run.block ?_
  refine R.bndS (t := 10) (by rfl) (fun hbd7 => ?_)
  replace hbd7 : b0.Modes.length ≤ 9223372036854775807 := by first | (rw [List.length_map] at hbd7; exact hbd7) | simp
  refine R.lp (β := Int) [(1, int b1), (2, int b2), (3, .lptr 192 0), (10, .slice (b0.Modes.map eTMode)), (11, int (b0.Modes.length : Int))] [(192, .blk true [str b0.Name, int b0.Family, .slice (b0.Modes.map eTMode)])] (fun bb S => (12, int bb) :: S) (fun bb M => M) (fun n bb => 0 ≤ bb ∧ bb + n = (b0.Modes.length : Int) ∧ i_ActivityOk_L1 b1 b2 (b0.Modes.drop bb.toNat) bb = some o1) b0.Modes.length (0 : Int) ⟨Int.le_refl _, by simp, h⟩ ?_
  clear h
  rintro JJ7 n7 z8 hag7 ⟨hza7, hzb7, h⟩
  refine Run.sr ?_
  refine X.bi ?_
  refine X.nil ?_
  refine Run.seq ?_
  refine R.cd (fun hc11 => ?_) (fun hc11 => ?_)
  ·obtain ⟨x9, xs10, hd7, hx7, hds7, hlt7⟩ := drop_atI hza7 hc11
   rw [hd7] at h
   rw [i_ActivityOk_L1] at h
   refine Run.skip ?_
   refine Run.seq ?_
   refine Run.block ?_
   refine Run.sr ?_
   refine X.ix elt106 (idxL_spec hx7).1 (idxL_map eTMode hx7) ?_
   refine X.lc shp110 ?_
   refine X.alloc zer110 (by rfl) (by rfl) (by rfl) ?_
   refine X.sl shp110 ?_
   refine X.nil ?_
   refine Run.sr ?_
   refine X.ld shp110 ?_
   refine X.mv ?_
   refine X.mv ?_
   obtain ⟨v12, hv12, h⟩ := bindE h
   refine X.cp (i_ModeOk_pc _ _ _ _ hv12) ?_
   refine X.un (by rfl) (by rfl) (by rfl) ?_
   refine X.nil ?_
   refine R.cd (fun hc13 => ?_) (fun hc13 => ?_)
   ·replace h := condT hc13 h
    refine Run.sr ?_
    refine X.an ?_
    cases h
    have h := hup2
    replace h := elimR h
    cases h
    refine R.f1 Tryz.results129 ?_
    rfl
   ·replace h := condF hc13 h
    refine Run.skip ?_
    refine Run.blk ?_
    refine Run.reg ?_
    refine X.ad ?_
    refine X.mn ?_
    exact R.ag hag7 (n7 - 1) (z8 + 1) (R.n3 (by first | (rw [hds7]; exact h) | (dsimp only; rw [hds7]; exact h)))
  ·rw [drop_endI hza7 hc11] at h
   rw [i_ActivityOk_L1] at h
   refine Run.exit (by rfl) ?_
   exact R.mt hmeet3 () (Option.some.inj h)
 rintro p14 rfl
 replace h := elimL h
 refine Run.seq ?_
 obtain ⟨v16, hv16, h⟩ := bindE h
 obtain ⟨e17, he17, h2⟩ := bindE h
 refine R.regG [(6, bool e17)] [] ?_ ?_
 ·clear h; have h := he17; clear he17 h2
  refine X.fl fld108_0 ?_
  refine X.ld shp9 ?_
  refine X.cp (i_IsName_pc _ _ hv16) ?_
  refine X.mv ?_
  refine X.iG (fun hb18 => ?_) (fun hb18 => ?_)
  ·replace h := condT hb18 h
   refine X.fl fld108_1 ?_
   refine X.gy ?_
   refine X.ld shp3 ?_
   refine X.gy ?_
   obtain ⟨v19, hv19, h⟩ := bindE h
   refine X.cp (i_within_pc _ _ _ _ hv19) ?_
   refine X.pT ?_
   refine X.mv ?_
   refine X.iG (fun hb20 => ?_) (fun hb20 => ?_)
   ·replace h := condT hb20 h
    refine X.fl fld108_2 ?_
    refine X.gy ?_
    refine X.ld shp106 ?_
    refine X.gy ?_
    refine X.ls elt106 ?_
    refine X.gy ?_
    obtain ⟨v21, hv21, h⟩ := bindE h
    refine X.cp (i_within_pc _ _ _ _ hv21) ?_
    refine X.pT ?_
    refine X.as ?_
    cases h
    exact X.eG
   ·replace h := condF hb20 h
    refine X.gn ?_
    refine X.gn ?_
    refine X.gn ?_
    refine X.pF ?_
    refine X.as ?_
    cases h
    exact X.eG
  ·replace h := condF hb18 h
   refine X.gn ?_
   refine X.gn ?_
   refine X.pF ?_
   refine X.mv ?_
   refine X.gn ?_
   refine X.gn ?_
   refine X.gn ?_
   refine X.gn ?_
   refine X.pF ?_
   refine X.as ?_
   cases h
   exact X.eG
 replace h := h2; clear h2
 cases h
 refine R.f1 Tryz.results129 ?_
 rfl
theorem i_ActivityIndex_c1_pc (b0 : TActivity) (c1 : ByteArray) (r : Bool) (h : i_ActivityIndex_c1 b0 c1 = some r) : PC Tryz.prog 167 [eTActivity b0, .cptr (str c1 : PV).cells 0] (bool r) := by
 unfold i_ActivityIndex_c1 at h
 refine PC.start Tryz.func167 Tryz.ntmps167 rfl ok167 rfl ?_
 refine Run.sr ?_
 refine X.bx ?_
 refine X.an ?_
 refine Run.sr ?_
 refine X.fl fld108_0 ?_
 refine X.ld shp9 ?_
 refine X.lc shp9 ?_
 refine X.bi ?_
 refine X.an ?_
 cases h
 refine R.f1 Tryz.results167 ?_
 rfl
theorem slices_IndexFunc_Activity_pc (b0 : List TActivity) (g1 : TActivity → Option Bool) (g1id : Nat) (g1c : List PV) (hg1 : ∀ (x0 : TActivity) v, g1 x0 = some v → PC Tryz.prog g1id ([eTActivity x0] ++ g1c) (bool v)) (r : Int) (h : slices_IndexFunc_Activity b0 g1 = some r) : PC Tryz.prog 166 [.slice (b0.map eTActivity), .fn g1id g1c] (int r) := by
 unfold slices_IndexFunc_Activity at h
 refine PC.start Tryz.func166 Tryz.ntmps166 rfl ok166 rfl ?_
 refine Run.sr ?_
 refine X.an ?_
 refine Run.seq ?_
 refine Run.sr ?_
 refine X.mv ?_
 refine X.ls elt32 ?_
 refine X.mn ?_
 obtain ⟨o1, ho1, h⟩ := bindE h
 refine R.join2 (β := Unit) [] [] (fun p14 S => S) (fun p14 M => M) (fun p14 => (Sum.inl p14) = o1) ?_ ?_
 ·intro JJ4 hmeet3
  have hup2 := h; clear h; have h := ho1; clear ho1
  refine Run.block ?_
  refine R.bndS (t := 0) (by rfl) (fun hbd7 => ?_)
  replace hbd7 : b0.length ≤ 9223372036854775807 := by first | (rw [List.length_map] at hbd7; exact hbd7) | simp
  refine R.lp (β := Int) [(0, .slice (b0.map eTActivity)), (1, .fn g1id g1c), (7, int (b0.length : Int))] [] (fun bb S => (8, int bb) :: S) (fun bb M => M) (fun n bb => 0 ≤ bb ∧ bb + n = (b0.length : Int) ∧ slices_IndexFunc_Activity_L1 g1 (b0.drop bb.toNat) bb = some o1) b0.length (0 : Int) ⟨Int.le_refl _, by simp, h⟩ ?_
  clear h
  rintro JJ7 n7 z8 hag7 ⟨hza7, hzb7, h⟩
  refine Run.sr ?_
  refine X.bi ?_
  refine X.nil ?_
  refine Run.seq ?_
  refine R.cd (fun hc11 => ?_) (fun hc11 => ?_)
  ·obtain ⟨x9, xs10, hd7, hx7, hds7, hlt7⟩ := drop_atI hza7 hc11
   rw [hd7] at h
   rw [slices_IndexFunc_Activity_L1] at h
   refine Run.skip ?_
   refine Run.seq ?_
   refine Run.block ?_
   refine Run.sr ?_
   refine X.mv ?_
   refine X.an ?_
   refine Run.sr ?_
   refine X.mv ?_
   refine X.mv ?_
   refine X.mv ?_
   refine X.ix elt32 (idxL_spec hx7).1 (idxL_map eTActivity hx7) ?_
   refine X.lc shp108 ?_
   obtain ⟨v12, hv12, h⟩ := bindE h
   refine X.cp (hg1 _ _ hv12) ?_
   refine X.nil ?_
   refine R.cd (fun hc13 => ?_) (fun hc13 => ?_)
   ·replace h := condT hc13 h
    refine Run.sr ?_
    refine X.mv ?_
    refine X.an ?_
    cases h
    have h := hup2
    replace h := elimR h
    cases h
    refine R.f1 Tryz.results166 ?_
    rfl
   ·replace h := condF hc13 h
    refine Run.skip ?_
    refine Run.blk ?_
    refine Run.reg ?_
    refine X.ad ?_
    refine X.mn ?_
    exact R.ag hag7 (n7 - 1) (z8 + 1) (R.n3 (by first | (rw [hds7]; exact h) | (dsimp only; rw [hds7]; exact h)))
  ·rw [drop_endI hza7 hc11] at h
   rw [slices_IndexFunc_Activity_L1] at h
   refine Run.exit (by rfl) ?_
   exact R.mt hmeet3 () (Option.some.inj h)
 rintro p14 rfl
 replace h := elimL h
 refine Run.sr ?_
 refine X.an ?_
 cases h
 refine R.f1 Tryz.results166 ?_
 rfl
theorem i_ActivityIndex_pc (b0 : TProject) (b1 : ByteArray) (r : Int) (h : i_ActivityIndex b0 b1 = some r) : PC Tryz.prog 130 [eTProject b0, str b1] (int r) := by
 unfold i_ActivityIndex at h
 refine PC.start Tryz.func130 Tryz.ntmps130 rfl ok130 rfl ?_
 refine Run.sr ?_
 refine X.bx ?_
 refine X.bx ?_
 refine X.an ?_
 refine Run.seq ?_
 refine R.pubBlk (n := 192) (by rfl) (by rfl) (by repeat (first | trivial | refine ⟨by first | rfl | simp [setL], ?_⟩)) ?_
 refine Run.reg ?_
 refine X.fl fld36_1 ?_
 refine X.ld shp32 ?_
 refine X.makeFunc (by rfl) (by rfl) (by repeat (first | trivial | refine ⟨by first | rfl | simp [setL], ?_⟩)) (by rfl) (by rfl) ?_
 obtain ⟨v1, hv1, h⟩ := bindE h
 refine X.cp (slices_IndexFunc_Activity_pc _ (fun x0 => i_ActivityIndex_c1 x0 b1) _ _ (fun x0 v hv => i_ActivityIndex_c1_pc _ _ _ hv) _ hv1) ?_
 refine X.an ?_
 cases h
 refine R.f1 Tryz.results130 ?_
 rfl
theorem i_isTime_pc (b0 : Int) (r : Bool) (h : i_isTime b0 = some r) : PC Tryz.prog 60 [int b0] (bool r) := by
 unfold i_isTime at h
 refine PC.start Tryz.func60 Tryz.ntmps60 rfl ok60 rfl ?_
 refine Run.sr ?_
 refine X.an ?_
 refine Run.sr ?_
 refine X.mv ?_
 obtain ⟨v1, hv1, h⟩ := bindE h
 refine X.cp (i_within_pc _ _ _ _ hv1) ?_
 refine X.an ?_
 cases h
 refine R.f1 Tryz.results60 ?_
 rfl
theorem i_StepsOk_pc (b0 : List TStep) (r : Bool) (h : i_StepsOk b0 = some r) : PC Tryz.prog 168 [.slice (b0.map eTStep)] (bool r) := by
 unfold i_StepsOk at h
 refine PC.start Tryz.func168 Tryz.ntmps168 rfl ok168 rfl ?_
 refine Run.sr ?_
 refine X.an ?_
 refine Run.seq ?_
 refine Run.sr ?_
 refine X.mv ?_
 refine X.ls elt84 ?_
 refine X.mn ?_
 obtain ⟨o1, ho1, h⟩ := bindE h
 refine R.join2 (β := Unit) [(0, .slice (b0.map eTStep))] [] (fun p24 S => S) (fun p24 M => M) (fun p24 => (Sum.inl p24) = o1) ?_ ?_
 ·intro JJ4 hmeet3
  have hup2 := h; clear h; have h := ho1; clear ho1
  refine Run.block ?_
  refine R.bndS (t := 0) (by rfl) (fun hbd7 => ?_)
  replace hbd7 : b0.length ≤ 9223372036854775807 := by first | (rw [List.length_map] at hbd7; exact hbd7) | simp
  refine R.lp (β := Int) [(0, .slice (b0.map eTStep)), (5, .slice (b0.map eTStep)), (6, int (b0.length : Int))] [] (fun bb S => (7, int bb) :: S) (fun bb M => M) (fun n bb => 0 ≤ bb ∧ bb + n = (b0.length : Int) ∧ i_StepsOk_L1 b0 (b0.drop bb.toNat) bb = some o1) b0.length (0 : Int) ⟨Int.le_refl _, by simp, h⟩ ?_
  clear h
  rintro JJ7 n7 z8 hag7 ⟨hza7, hzb7, h⟩
  refine Run.sr ?_
  refine X.bi ?_
  refine X.nil ?_
  refine Run.seq ?_
  refine R.cd (fun hc11 => ?_) (fun hc11 => ?_)
  ·obtain ⟨x9, xs10, hd7, hx7, hds7, hlt7⟩ := drop_atI hza7 hc11
   rw [hd7] at h
   rw [i_StepsOk_L1] at h
   refine Run.skip ?_
   refine Run.seq ?_
   refine Run.block ?_
   refine Run.sr ?_
   refine X.mv ?_
   refine X.ix elt84 (idxL_spec hx7).1 (idxL_map eTStep hx7) ?_
   refine X.lc shp88 ?_
   refine X.alloc zer88 (by rfl) (by rfl) (by rfl) ?_
   refine X.as ?_
   refine X.sl shp88 ?_
   refine X.nil ?_
   refine Run.seq ?_
   obtain ⟨v12, hv12, h⟩ := bindE h
   obtain ⟨e13, he13, h2⟩ := bindE h
   refine R.drawG [(0, .slice (b0.map eTStep)), (5, .slice (b0.map eTStep)), (6, int (b0.length : Int)), (7, int z8), (45, bool e13)] [] (footOf [(1, ([256], [], [], [])), (6, ([256], [], [], [])), (15, ([256], [], [], [])), (24, ([256], [], [], []))]) mixed (by kernel_rfl) (by kernel_rfl) ?_ ?_
   ·clear h; have h := he13; clear he13 h2
    refine X.fl fld88_0 ?_
    refine X.ld shp3 ?_
    refine X.cp (i_isTime_pc _ _ hv12) ?_
    refine X.un (by rfl) (by rfl) (by rfl) ?_
    refine X.mv ?_
    refine X.iG (fun hb14 => ?_) (fun hb14 => ?_)
    ·replace h := condF hb14 h
     refine X.fl fld88_1 ?_
     refine X.gy ?_
     refine X.ld shp3 ?_
     refine X.gy ?_
     obtain ⟨v15, hv15, h⟩ := bindE h
     refine X.cp (i_isAmount_pc _ _ hv15) ?_
     refine X.gy ?_
     refine X.un (by rfl) (by rfl) (by rfl) ?_
     refine X.pF ?_
     refine X.mv ?_
     refine X.iG (fun hb16 => ?_) (fun hb16 => ?_)
     ·replace h := condF hb16 h
      refine X.mv ?_
      refine X.gy ?_
      refine X.bi ?_
      refine X.gy ?_
      refine X.mv ?_
      refine X.iG (fun hb17 => ?_) (fun hb17 => ?_)
      ·replace h := condT hb17 h
       refine X.fl fld88_0 ?_
       refine X.gy ?_
       refine X.ld shp3 ?_
       refine X.gy ?_
       refine X.bi ?_
       refine X.gy ?_
       refine X.pT ?_
       refine X.pF ?_
       refine X.mv ?_
       refine X.iG (fun hb18 => ?_) (fun hb18 => ?_)
       ·replace h := condF hb18 h
        refine X.mv ?_
        refine X.gy ?_
        refine X.bi ?_
        refine X.gy ?_
        refine X.mv ?_
        refine X.iG (fun hb19 => ?_) (fun hb19 => ?_)
        ·replace h := condT hb19 h
         refine X.fl fld88_0 ?_
         refine X.gy ?_
         refine X.ld shp3 ?_
         refine X.gy ?_
         refine X.mv ?_
         refine X.gy ?_
         refine X.mv ?_
         refine X.gy ?_
         refine X.sub (by rfl) (by rfl) (by omega) (by rfl) ?_
         refine X.gy ?_
         obtain ⟨v20, hv20, h⟩ := bindE h
         refine X.ix elt84 (idxL_spec hv20).1 (idxL_map eTStep hv20) ?_
         refine X.gy ?_
         refine X.fieldAddr_c fld88_0 (by rfl) (by rfl) ?_
         refine X.gy ?_
         refine X.lc shp3 ?_
         refine X.gy ?_
         refine X.bi ?_
         refine X.gy ?_
         refine X.pT ?_
         refine X.pF ?_
         cases h
         exact X.eG
        ·replace h := condF hb19 h
         refine X.gn ?_
         refine X.gn ?_
         refine X.gn ?_
         refine X.gn ?_
         refine X.gn ?_
         refine X.gn ?_
         refine X.gn ?_
         refine X.gn ?_
         refine X.gy ?_
         refine X.pF ?_
         refine X.pF ?_
         cases h
         exact X.eG
       ·replace h := condT hb18 h
        refine X.gn ?_
        refine X.gn ?_
        refine X.gU (by rfl) (by rfl) (by rfl) ?_
        refine X.gU (by rfl) (by rfl) (by rfl) ?_
        refine X.gU (by rfl) (by rfl) (by rfl) ?_
        refine X.gU (by rfl) (by rfl) (by rfl) ?_
        refine X.gU (by rfl) (by rfl) (by rfl) ?_
        refine X.gU (by rfl) (by rfl) (by rfl) ?_
        refine X.gU (by rfl) (by rfl) (by rfl) ?_
        refine X.gU (by rfl) (by rfl) (by rfl) ?_
        refine X.gU (by rfl) (by rfl) (by rfl) ?_
        refine X.gn ?_
        refine X.pT ?_
        cases h
        exact X.eG
      ·replace h := condF hb17 h
       refine X.gn ?_
       refine X.gn ?_
       refine X.gy ?_
       refine X.pF ?_
       refine X.pF ?_
       refine X.mv ?_
       refine X.gy ?_
       refine X.mv ?_
       refine X.gy ?_
       refine X.bi ?_
       refine X.gy ?_
       refine X.mv ?_
       refine X.iG (fun hb21 => ?_) (fun hb21 => ?_)
       ·replace h := condT hb21 h
        refine X.fl fld88_0 ?_
        refine X.gy ?_
        refine X.ld shp3 ?_
        refine X.gy ?_
        refine X.mv ?_
        refine X.gy ?_
        refine X.mv ?_
        refine X.gy ?_
        refine X.sub (by rfl) (by rfl) (by omega) (by rfl) ?_
        refine X.gy ?_
        obtain ⟨v22, hv22, h⟩ := bindE h
        refine X.ix elt84 (idxL_spec hv22).1 (idxL_map eTStep hv22) ?_
        refine X.gy ?_
        refine X.fieldAddr_c fld88_0 (by rfl) (by rfl) ?_
        refine X.gy ?_
        refine X.lc shp3 ?_
        refine X.gy ?_
        refine X.bi ?_
        refine X.gy ?_
        refine X.pT ?_
        refine X.pF ?_
        cases h
        exact X.eG
       ·replace h := condF hb21 h
        refine X.gn ?_
        refine X.gn ?_
        refine X.gn ?_
        refine X.gn ?_
        refine X.gn ?_
        refine X.gn ?_
        refine X.gn ?_
        refine X.gn ?_
        refine X.gy ?_
        refine X.pF ?_
        refine X.pF ?_
        cases h
        exact X.eG
     ·replace h := condT hb16 h
      refine X.gn ?_
      refine X.gn ?_
      refine X.gU (by rfl) (by rfl) (by rfl) ?_
      refine X.gU (by rfl) (by rfl) (by rfl) ?_
      refine X.gU (by rfl) (by rfl) (by rfl) ?_
      refine X.gn ?_
      refine X.pT ?_
      refine X.mv ?_
      refine X.gn ?_
      refine X.gn ?_
      refine X.gn ?_
      refine X.gU (by rfl) (by rfl) (by rfl) ?_
      refine X.gU (by rfl) (by rfl) (by rfl) ?_
      refine X.gU (by rfl) (by rfl) (by rfl) ?_
      refine X.gU (by rfl) (by rfl) (by rfl) ?_
      refine X.gU (by rfl) (by rfl) (by rfl) ?_
      refine X.gU (by rfl) (by rfl) (by rfl) ?_
      refine X.gU (by rfl) (by rfl) (by rfl) ?_
      refine X.gU (by rfl) (by rfl) (by rfl) ?_
      refine X.gU (by rfl) (by rfl) (by rfl) ?_
      refine X.gn ?_
      refine X.pT ?_
      cases h
      exact X.eG
    ·replace h := condT hb14 h
     refine X.gn ?_
     refine X.gn ?_
     refine X.gn ?_
     refine X.pT ?_
     refine X.mv ?_
     refine X.gn ?_
     refine X.gn ?_
     refine X.gn ?_
     refine X.gU (by rfl) (by rfl) (by rfl) ?_
     refine X.gU (by rfl) (by rfl) (by rfl) ?_
     refine X.gU (by rfl) (by rfl) (by rfl) ?_
     refine X.gn ?_
     refine X.pT ?_
     refine X.mv ?_
     refine X.gn ?_
     refine X.gn ?_
     refine X.gn ?_
     refine X.gU (by rfl) (by rfl) (by rfl) ?_
     refine X.gU (by rfl) (by rfl) (by rfl) ?_
     refine X.gU (by rfl) (by rfl) (by rfl) ?_
     refine X.gU (by rfl) (by rfl) (by rfl) ?_
     refine X.gU (by rfl) (by rfl) (by rfl) ?_
     refine X.gU (by rfl) (by rfl) (by rfl) ?_
     refine X.gU (by rfl) (by rfl) (by rfl) ?_
     refine X.gU (by rfl) (by rfl) (by rfl) ?_
     refine X.gU (by rfl) (by rfl) (by rfl) ?_
     refine X.gn ?_
     refine X.pT ?_
     cases h
     exact X.eG
   replace h := h2; clear h2
   refine R.cd (fun hc23 => ?_) (fun hc23 => ?_)
   ·replace h := condT hc23 h
    refine Run.sr ?_
    refine X.an ?_
    cases h
    have h := hup2
    replace h := elimR h
    cases h
    refine R.f1 Tryz.results168 ?_
    rfl
   ·replace h := condF hc23 h
    refine Run.skip ?_
    refine Run.blk ?_
    refine Run.reg ?_
    refine X.ad ?_
    refine X.mn ?_
    exact R.ag hag7 (n7 - 1) (z8 + 1) (R.n3 (by first | (rw [hds7]; exact h) | (dsimp only; rw [hds7]; exact h)))
  ·rw [drop_endI hza7 hc11] at h
   rw [i_StepsOk_L1] at h
   refine Run.exit (by rfl) ?_
   exact R.mt hmeet3 () (Option.some.inj h)
 rintro p24 rfl
 replace h := elimL h
 refine Run.sr ?_
 refine X.mv ?_
 refine X.ls elt84 ?_
 obtain ⟨v26, hv26, h⟩ := bindE h
 refine X.cp (i_within_pc _ _ _ _ hv26) ?_
 refine X.an ?_
 cases h
 refine R.f1 Tryz.results168 ?_
 rfl
theorem i_ResourceOk_pc (b0 : TResource) (r : Bool) (h : i_ResourceOk b0 = some r) : PC Tryz.prog 131 [eTResource b0] (bool r) := by
 unfold i_ResourceOk at h
 refine PC.start Tryz.func131 Tryz.ntmps131 rfl ok131 rfl ?_
 refine Run.sr ?_
 refine X.bx ?_
 refine X.an ?_
 refine Run.seq ?_
 refine Run.sr ?_
 refine X.fl fld86_1 ?_
 refine X.ld shp45 ?_
 refine X.ls elt45 ?_
 refine X.mn ?_
 obtain ⟨o1, ho1, h⟩ := bindE h
 refine R.join2 (β := Unit) [(1, .lptr 64 0)] [(64, .blk true [.slice (b0.Steps.map eTStep), .slice (b0.Setup.map l_int)])] (fun p28 S => S) (fun p28 M => M) (fun p28 => (Sum.inl p28) = o1) ?_ ?_
 ·intro JJ4 hmeet3
  have hup2 := h; clear h; have h := ho1; clear ho1
  refine Run.block ?_
  refine R.bndS (t := 8) (by rfl) (fun hbd7 => ?_)
  replace hbd7 : b0.Setup.length ≤ 9223372036854775807 := by first | (rw [List.length_map] at hbd7; exact hbd7) | simp
  refine R.lp (β := Int) [(1, .lptr 64 0), (8, .slice (b0.Setup.map l_int)), (9, int (b0.Setup.length : Int))] [(64, .blk true [.slice (b0.Steps.map eTStep), .slice (b0.Setup.map l_int)])] (fun bb S => (10, int bb) :: S) (fun bb M => M) (fun n bb => 0 ≤ bb ∧ bb + n = (b0.Setup.length : Int) ∧ i_ResourceOk_L1 (b0.Setup.drop bb.toNat) bb = some o1) b0.Setup.length (0 : Int) ⟨Int.le_refl _, by simp, h⟩ ?_
  clear h
  rintro JJ7 n7 z8 hag7 ⟨hza7, hzb7, h⟩
  refine Run.sr ?_
  refine X.bi ?_
  refine X.nil ?_
  refine Run.seq ?_
  refine R.cd (fun hc11 => ?_) (fun hc11 => ?_)
  ·obtain ⟨x9, xs10, hd7, hx7, hds7, hlt7⟩ := drop_atI hza7 hc11
   rw [hd7] at h
   rw [i_ResourceOk_L1] at h
   refine Run.skip ?_
   refine Run.seq ?_
   refine Run.block ?_
   refine Run.sr ?_
   refine X.ix elt45 (idxL_spec hx7).1 (idxL_map l_int hx7) ?_
   refine X.lc shp25 ?_
   refine X.an ?_
   refine Run.seq ?_
   refine Run.sr ?_
   refine X.mv ?_
   refine X.ls elt25 ?_
   refine X.bi ?_
   refine X.nil ?_
   refine R.cd (fun hc12 => ?_) (fun hc12 => ?_)
   ·replace h := condT hc12 h
    refine Run.sr ?_
    refine X.an ?_
    cases h
    have h := hup2
    replace h := elimR h
    cases h
    refine R.f1 Tryz.results131 ?_
    rfl
   ·replace h := condF hc12 h
    refine Run.skip ?_
    refine Run.sr ?_
    refine X.mv ?_
    refine X.ls elt25 ?_
    refine X.mn ?_
    obtain ⟨o13, ho13, h⟩ := bindE h
    refine R.join2 (β := Unit) [(1, .lptr 64 0), (8, .slice (b0.Setup.map l_int)), (9, int (b0.Setup.length : Int)), (10, int z8)] [(64, .blk true [.slice (b0.Steps.map eTStep), .slice (b0.Setup.map l_int)])] (fun p26 S => S) (fun p26 M => M) (fun p26 => (Sum.inl p26) = o13) ?_ ?_
    ·intro JJ16 hmeet15
     have hup14 := h; clear h; have h := ho13; clear ho13
     refine Run.block ?_
     refine R.bndS (t := 4) (by rfl) (fun hbd19 => ?_)
     replace hbd19 : x9.length ≤ 9223372036854775807 := by first | (rw [List.length_map] at hbd19; exact hbd19) | simp
     refine R.lp (β := Int) [(1, .lptr 64 0), (8, .slice (b0.Setup.map l_int)), (9, int (b0.Setup.length : Int)), (10, int z8), (17, .slice (x9.map int)), (18, int (x9.length : Int))] [(64, .blk true [.slice (b0.Steps.map eTStep), .slice (b0.Setup.map l_int)])] (fun bb S => (19, int bb) :: S) (fun bb M => M) (fun n bb => 0 ≤ bb ∧ bb + n = (x9.length : Int) ∧ i_ResourceOk_L2 (x9.drop bb.toNat) bb = some o13) x9.length (0 : Int) ⟨Int.le_refl _, by simp, h⟩ ?_
     clear h
     rintro JJ19 n19 z20 hag19 ⟨hza19, hzb19, h⟩
     refine Run.sr ?_
     refine X.bi ?_
     refine X.nil ?_
     refine Run.seq ?_
     refine R.cd (fun hc23 => ?_) (fun hc23 => ?_)
     ·obtain ⟨x21, xs22, hd19, hx19, hds19, hlt19⟩ := drop_atI hza19 hc23
      rw [hd19] at h
      rw [i_ResourceOk_L2] at h
      refine Run.skip ?_
      refine Run.seq ?_
      refine Run.block ?_
      refine Run.sr ?_
      refine X.ix elt25 (idxL_spec hx19).1 (idxL_map int hx19) ?_
      refine X.lc shp3 ?_
      refine X.an ?_
      refine Run.sr ?_
      refine X.mv ?_
      obtain ⟨v24, hv24, h⟩ := bindE h
      refine X.cp (i_within_pc _ _ _ _ hv24) ?_
      refine X.un (by rfl) (by rfl) (by rfl) ?_
      refine X.nil ?_
      refine R.cd (fun hc25 => ?_) (fun hc25 => ?_)
      ·replace h := condT hc25 h
       refine Run.sr ?_
       refine X.an ?_
       cases h
       have h := hup14
       replace h := elimR h
       cases h
       have h := hup2
       replace h := elimR h
       cases h
       refine R.f1 Tryz.results131 ?_
       rfl
      ·replace h := condF hc25 h
       refine Run.skip ?_
       refine Run.blk ?_
       refine Run.reg ?_
       refine X.ad ?_
       refine X.mn ?_
       exact R.ag hag19 (n19 - 1) (z20 + 1) (R.n3 (by first | (rw [hds19]; exact h) | (dsimp only; rw [hds19]; exact h)))
     ·rw [drop_endI hza19 hc23] at h
      rw [i_ResourceOk_L2] at h
      refine Run.exit (by rfl) ?_
      exact R.mt hmeet15 () (Option.some.inj h)
    rintro p26 rfl
    replace h := elimL h
    refine Run.blk ?_
    refine Run.reg ?_
    refine X.ad ?_
    refine X.mn ?_
    exact R.ag hag7 (n7 - 1) (z8 + 1) (R.n3 (by first | (rw [hds7]; exact h) | (dsimp only; rw [hds7]; exact h)))
  ·rw [drop_endI hza7 hc11] at h
   rw [i_ResourceOk_L1] at h
   refine Run.exit (by rfl) ?_
   exact R.mt hmeet3 () (Option.some.inj h)
 rintro p28 rfl
 replace h := elimL h
 refine Run.seq ?_
 obtain ⟨v30, hv30, h⟩ := bindE h
 obtain ⟨e31, he31, h2⟩ := bindE h
 refine R.regG [(2, bool e31)] [] ?_ ?_
 ·clear h; have h := he31; clear he31 h2
  refine X.fl fld86_0 ?_
  refine X.ld shp84 ?_
  refine X.cp (i_StepsOk_pc _ _ hv30) ?_
  refine X.mv ?_
  refine X.iG (fun hb32 => ?_) (fun hb32 => ?_)
  ·replace h := condT hb32 h
   refine X.fl fld86_1 ?_
   refine X.gy ?_
   refine X.ld shp45 ?_
   refine X.gy ?_
   refine X.ls elt45 ?_
   refine X.gy ?_
   refine X.bi ?_
   refine X.gy ?_
   refine X.mv ?_
   refine X.iG (fun hb33 => ?_) (fun hb33 => ?_)
   ·replace h := condF hb33 h
    refine X.fl fld86_1 ?_
    refine X.gy ?_
    refine X.ld shp45 ?_
    refine X.gy ?_
    refine X.ls elt45 ?_
    refine X.gy ?_
    refine X.bi ?_
    refine X.gy ?_
    refine X.pF ?_
    refine X.pT ?_
    refine X.as ?_
    cases h
    exact X.eG
   ·replace h := condT hb33 h
    refine X.gn ?_
    refine X.gn ?_
    refine X.gn ?_
    refine X.gy ?_
    refine X.pT ?_
    refine X.pT ?_
    refine X.as ?_
    cases h
    exact X.eG
  ·replace h := condF hb32 h
   refine X.gn ?_
   refine X.gn ?_
   refine X.gn ?_
   refine X.gn ?_
   refine X.gU (by rfl) (by rfl) (by rfl) ?_
   refine X.gU (by rfl) (by rfl) (by rfl) ?_
   refine X.gU (by rfl) (by rfl) (by rfl) ?_
   refine X.gU (by rfl) (by rfl) (by rfl) ?_
   refine X.gn ?_
   refine X.pF ?_
   refine X.as ?_
   cases h
   exact X.eG
 replace h := h2; clear h2
 cases h
 refine R.f1 Tryz.results131 ?_
 rfl
theorem i_Project_hasActivity_pc (b0 : TProject) (b1 : Int) (r : Bool) (h : i_Project_hasActivity b0 b1 = some r) : PC Tryz.prog 82 [eTProject b0, int b1] (bool r) := by
 unfold i_Project_hasActivity at h
 refine PC.start Tryz.func82 Tryz.ntmps82 rfl ok82 rfl ?_
 refine Run.sr ?_
 refine X.bx ?_
 refine X.an ?_
 refine Run.sr ?_
 refine X.mv ?_
 refine X.fl fld36_1 ?_
 refine X.ld shp32 ?_
 refine X.ls elt32 ?_
 refine X.subW (by rfl) (by rfl) (by rfl) ?_
 obtain ⟨v1, hv1, h⟩ := bindE h
 refine X.cp (i_within_pc _ _ _ _ hv1) ?_
 refine X.an ?_
 cases h
 refine R.f1 Tryz.results82 ?_
 rfl
theorem i_Project_linkOk_pc (b0 : TProject) (b1 : TLink) (r : Bool) (h : i_Project_linkOk b0 b1 = some r) : PC Tryz.prog 134 [eTProject b0, eTLink b1] (bool r) := by
 unfold i_Project_linkOk at h
 refine PC.start Tryz.func134 Tryz.ntmps134 rfl ok134 rfl ?_
 refine Run.sr ?_
 refine X.bx ?_
 refine X.bx ?_
 refine X.an ?_
 refine Run.seq ?_
 obtain ⟨v1, hv1, h⟩ := bindE h
 obtain ⟨e2, he2, h2⟩ := bindE h
 refine R.regG [(4, bool e2)] [] ?_ ?_
 ·clear h; have h := he2; clear he2 h2
  refine X.ld shp36 ?_
  refine X.fl fld68_0 ?_
  refine X.ld shp3 ?_
  refine X.cp (i_Project_hasActivity_pc _ _ _ hv1) ?_
  refine X.mv ?_
  refine X.iG (fun hb3 => ?_) (fun hb3 => ?_)
  ·replace h := condT hb3 h
   refine X.ld shp36 ?_
   refine X.gy ?_
   refine X.fl fld68_1 ?_
   refine X.gy ?_
   refine X.ld shp3 ?_
   refine X.gy ?_
   obtain ⟨v4, hv4, h⟩ := bindE h
   refine X.cp (i_Project_hasActivity_pc _ _ _ hv4) ?_
   refine X.pT ?_
   refine X.mv ?_
   refine X.iG (fun hb5 => ?_) (fun hb5 => ?_)
   ·replace h := condT hb5 h
    refine X.fl fld68_0 ?_
    refine X.gy ?_
    refine X.ld shp3 ?_
    refine X.gy ?_
    refine X.fl fld68_1 ?_
    refine X.gy ?_
    refine X.ld shp3 ?_
    refine X.gy ?_
    refine X.bi ?_
    refine X.pT ?_
    refine X.mv ?_
    refine X.iG (fun hb6 => ?_) (fun hb6 => ?_)
    ·replace h := condT hb6 h
     refine X.fl fld68_3 ?_
     refine X.gy ?_
     refine X.ld shp3 ?_
     refine X.gy ?_
     obtain ⟨v7, hv7, h⟩ := bindE h
     refine X.cp (i_within_pc _ _ _ _ hv7) ?_
     refine X.pT ?_
     refine X.as ?_
     cases h
     exact X.eG
    ·replace h := condF hb6 h
     refine X.gn ?_
     refine X.gn ?_
     refine X.pF ?_
     refine X.as ?_
     cases h
     exact X.eG
   ·replace h := condF hb5 h
    refine X.gn ?_
    refine X.gn ?_
    refine X.gn ?_
    refine X.gn ?_
    refine X.pF ?_
    refine X.mv ?_
    refine X.gn ?_
    refine X.gn ?_
    refine X.gn ?_
    refine X.pF ?_
    refine X.as ?_
    cases h
    exact X.eG
  ·replace h := condF hb3 h
   refine X.gn ?_
   refine X.gn ?_
   refine X.gn ?_
   refine X.pF ?_
   refine X.mv ?_
   refine X.gn ?_
   refine X.gn ?_
   refine X.gn ?_
   refine X.gn ?_
   refine X.gn ?_
   refine X.pF ?_
   refine X.mv ?_
   refine X.gn ?_
   refine X.gn ?_
   refine X.gn ?_
   refine X.pF ?_
   refine X.as ?_
   cases h
   exact X.eG
 replace h := h2; clear h2
 cases h
 refine R.f1 Tryz.results134 ?_
 rfl
theorem i_ProjectOk_c1_pc (b0 : TLink) (c1 : TProject) (r : Bool) (h : i_ProjectOk_c1 b0 c1 = some r) : PC Tryz.prog 133 [eTLink b0, .cptr (eTProject c1 : PV).cells 0] (bool r) := by
 unfold i_ProjectOk_c1 at h
 refine PC.start Tryz.func133 Tryz.ntmps133 rfl ok133 rfl ?_
 refine Run.sr ?_
 refine X.bx ?_
 refine X.an ?_
 refine Run.sr ?_
 refine X.lc shp36 ?_
 refine X.ld shp68 ?_
 obtain ⟨v1, hv1, h⟩ := bindE h
 refine X.cp (i_Project_linkOk_pc _ _ _ hv1) ?_
 refine X.un (by rfl) (by rfl) (by rfl) ?_
 refine X.an ?_
 cases h
 refine R.f1 Tryz.results133 ?_
 rfl
theorem slices_IndexFunc_Link_pc (b0 : List TLink) (g1 : TLink → Option Bool) (g1id : Nat) (g1c : List PV) (hg1 : ∀ (x0 : TLink) v, g1 x0 = some v → PC Tryz.prog g1id ([eTLink x0] ++ g1c) (bool v)) (r : Int) (h : slices_IndexFunc_Link b0 g1 = some r) : PC Tryz.prog 169 [.slice (b0.map eTLink), .fn g1id g1c] (int r) := by
 unfold slices_IndexFunc_Link at h
 refine PC.start Tryz.func169 Tryz.ntmps169 rfl ok169 rfl ?_
 refine Run.sr ?_
 refine X.an ?_
 refine Run.seq ?_
 refine Run.sr ?_
 refine X.mv ?_
 refine X.ls elt33 ?_
 refine X.mn ?_
 obtain ⟨o1, ho1, h⟩ := bindE h
 refine R.join2 (β := Unit) [] [] (fun p14 S => S) (fun p14 M => M) (fun p14 => (Sum.inl p14) = o1) ?_ ?_
 ·intro JJ4 hmeet3
  have hup2 := h; clear h; have h := ho1; clear ho1
  refine Run.block ?_
  refine R.bndS (t := 0) (by rfl) (fun hbd7 => ?_)
  replace hbd7 : b0.length ≤ 9223372036854775807 := by first | (rw [List.length_map] at hbd7; exact hbd7) | simp
  refine R.lp (β := Int) [(0, .slice (b0.map eTLink)), (1, .fn g1id g1c), (7, int (b0.length : Int))] [] (fun bb S => (8, int bb) :: S) (fun bb M => M) (fun n bb => 0 ≤ bb ∧ bb + n = (b0.length : Int) ∧ slices_IndexFunc_Link_L1 g1 (b0.drop bb.toNat) bb = some o1) b0.length (0 : Int) ⟨Int.le_refl _, by simp, h⟩ ?_
  clear h
  rintro JJ7 n7 z8 hag7 ⟨hza7, hzb7, h⟩
  refine Run.sr ?_
  refine X.bi ?_
  refine X.nil ?_
  refine Run.seq ?_
  refine R.cd (fun hc11 => ?_) (fun hc11 => ?_)
  ·obtain ⟨x9, xs10, hd7, hx7, hds7, hlt7⟩ := drop_atI hza7 hc11
   rw [hd7] at h
   rw [slices_IndexFunc_Link_L1] at h
   refine Run.skip ?_
   refine Run.seq ?_
   refine Run.block ?_
   refine Run.sr ?_
   refine X.mv ?_
   refine X.an ?_
   refine Run.sr ?_
   refine X.mv ?_
   refine X.mv ?_
   refine X.mv ?_
   refine X.ix elt33 (idxL_spec hx7).1 (idxL_map eTLink hx7) ?_
   refine X.lc shp68 ?_
   obtain ⟨v12, hv12, h⟩ := bindE h
   refine X.cp (hg1 _ _ hv12) ?_
   refine X.nil ?_
   refine R.cd (fun hc13 => ?_) (fun hc13 => ?_)
   ·replace h := condT hc13 h
    refine Run.sr ?_
    refine X.mv ?_
    refine X.an ?_
    cases h
    have h := hup2
    replace h := elimR h
    cases h
    refine R.f1 Tryz.results169 ?_
    rfl
   ·replace h := condF hc13 h
    refine Run.skip ?_
    refine Run.blk ?_
    refine Run.reg ?_
    refine X.ad ?_
    refine X.mn ?_
    exact R.ag hag7 (n7 - 1) (z8 + 1) (R.n3 (by first | (rw [hds7]; exact h) | (dsimp only; rw [hds7]; exact h)))
  ·rw [drop_endI hza7 hc11] at h
   rw [slices_IndexFunc_Link_L1] at h
   refine Run.exit (by rfl) ?_
   exact R.mt hmeet3 () (Option.some.inj h)
 rintro p14 rfl
 replace h := elimL h
 refine Run.sr ?_
 refine X.an ?_
 cases h
 refine R.f1 Tryz.results169 ?_
 rfl
theorem slices_ContainsFunc_Link_pc (b0 : List TLink) (g1 : TLink → Option Bool) (g1id : Nat) (g1c : List PV) (hg1 : ∀ (x0 : TLink) v, g1 x0 = some v → PC Tryz.prog g1id ([eTLink x0] ++ g1c) (bool v)) (r : Bool) (h : slices_ContainsFunc_Link b0 g1 = some r) : PC Tryz.prog 132 [.slice (b0.map eTLink), .fn g1id g1c] (bool r) := by
 unfold slices_ContainsFunc_Link at h
 refine PC.start Tryz.func132 Tryz.ntmps132 rfl ok132 rfl ?_
 refine Run.sr ?_
 refine X.an ?_
 refine Run.sr ?_
 refine X.mv ?_
 refine X.mv ?_
 obtain ⟨v1, hv1, h⟩ := bindE h
 refine X.cp (slices_IndexFunc_Link_pc _ g1 _ _ hg1 _ hv1) ?_
 refine X.bi ?_
 refine X.an ?_
 cases h
 refine R.f1 Tryz.results132 ?_
 rfl
theorem i_ProjectOk_pc (b0 : TProject) (r : Bool) (h : i_ProjectOk b0 = some r) : PC Tryz.prog 80 [eTProject b0] (bool r) := by
 unfold i_ProjectOk at h
 refine PC.start Tryz.func80 Tryz.ntmps80 rfl ok80 rfl ?_
 refine Run.sr ?_
 refine X.bx ?_
 refine X.an ?_
 refine Run.seq ?_
 refine Run.seq ?_
 obtain ⟨v1, hv1, h⟩ := bindE h
 obtain ⟨e2, he2, h2⟩ := bindE h
 refine R.regG [(1, .lptr 64 0), (37, bool e2)] [(64, .blk true [int b0.Deadline, .slice (b0.Activities.map eTActivity), .slice (b0.Links.map eTLink), .slice (b0.Resources.map eTResource), .slice (b0.Stocks.map int)])] ?_ ?_
 ·clear h; have h := he2; clear he2 h2
  refine X.fl fld36_0 ?_
  refine X.ld shp3 ?_
  refine X.cp (i_within_pc _ _ _ _ hv1) ?_
  refine X.un (by rfl) (by rfl) (by rfl) ?_
  refine X.mv ?_
  refine X.iG (fun hb3 => ?_) (fun hb3 => ?_)
  ·replace h := condF hb3 h
   refine X.fl fld36_1 ?_
   refine X.gy ?_
   refine X.ld shp32 ?_
   refine X.gy ?_
   refine X.ls elt32 ?_
   refine X.gy ?_
   obtain ⟨v4, hv4, h⟩ := bindE h
   refine X.cp (i_within_pc _ _ _ _ hv4) ?_
   refine X.gy ?_
   refine X.un (by rfl) (by rfl) (by rfl) ?_
   refine X.pF ?_
   refine X.mv ?_
   refine X.iG (fun hb5 => ?_) (fun hb5 => ?_)
   ·replace h := condF hb5 h
    refine X.fl fld36_3 ?_
    refine X.gy ?_
    refine X.ld shp34 ?_
    refine X.gy ?_
    refine X.ls elt34 ?_
    refine X.gy ?_
    refine X.bi ?_
    refine X.pF ?_
    refine X.mv ?_
    refine X.iG (fun hb6 => ?_) (fun hb6 => ?_)
    ·replace h := condF hb6 h
     refine X.fl fld36_4 ?_
     refine X.gy ?_
     refine X.ld shp25 ?_
     refine X.gy ?_
     refine X.ls elt25 ?_
     refine X.gy ?_
     refine X.bi ?_
     refine X.pF ?_
     refine X.mv ?_
     refine X.iG (fun hb7 => ?_) (fun hb7 => ?_)
     ·replace h := condF hb7 h
      refine X.fl fld36_2 ?_
      refine X.gy ?_
      refine X.ld shp33 ?_
      refine X.gy ?_
      refine X.ls elt33 ?_
      refine X.gy ?_
      refine X.bi ?_
      refine X.pF ?_
      cases h
      exact X.eG
     ·replace h := condT hb7 h
      refine X.gn ?_
      refine X.gn ?_
      refine X.gn ?_
      refine X.pT ?_
      cases h
      exact X.eG
    ·replace h := condT hb6 h
     refine X.gn ?_
     refine X.gn ?_
     refine X.gn ?_
     refine X.pT ?_
     refine X.mv ?_
     refine X.gn ?_
     refine X.gn ?_
     refine X.gn ?_
     refine X.gn ?_
     refine X.pT ?_
     cases h
     exact X.eG
   ·replace h := condT hb5 h
    refine X.gn ?_
    refine X.gn ?_
    refine X.gn ?_
    refine X.pT ?_
    refine X.mv ?_
    refine X.gn ?_
    refine X.gn ?_
    refine X.gn ?_
    refine X.gn ?_
    refine X.pT ?_
    refine X.mv ?_
    refine X.gn ?_
    refine X.gn ?_
    refine X.gn ?_
    refine X.gn ?_
    refine X.pT ?_
    cases h
    exact X.eG
  ·replace h := condT hb3 h
   refine X.gn ?_
   refine X.gn ?_
   refine X.gn ?_
   refine X.gn ?_
   refine X.pT ?_
   refine X.mv ?_
   refine X.gn ?_
   refine X.gn ?_
   refine X.gn ?_
   refine X.gn ?_
   refine X.pT ?_
   refine X.mv ?_
   refine X.gn ?_
   refine X.gn ?_
   refine X.gn ?_
   refine X.gn ?_
   refine X.pT ?_
   refine X.mv ?_
   refine X.gn ?_
   refine X.gn ?_
   refine X.gn ?_
   refine X.gn ?_
   refine X.pT ?_
   cases h
   exact X.eG
 replace h := h2; clear h2
 refine R.cd (fun hc8 => ?_) (fun hc8 => ?_)
 ·replace h := condT hc8 h
  refine Run.sr ?_
  refine X.an ?_
  cases h
  refine R.f1 Tryz.results80 ?_
  rfl
 ·replace h := condF hc8 h
  refine Run.skip ?_
  refine Run.seq ?_
  refine Run.sr ?_
  refine X.fl fld36_1 ?_
  refine X.ld shp32 ?_
  refine X.ls elt32 ?_
  refine X.mn ?_
  obtain ⟨o9, ho9, h⟩ := bindE h
  refine R.join2 (β := Unit) [(1, .lptr 64 0)] [(64, .blk true [int b0.Deadline, .slice (b0.Activities.map eTActivity), .slice (b0.Links.map eTLink), .slice (b0.Resources.map eTResource), .slice (b0.Stocks.map int)])] (fun p25 S => S) (fun p25 M => M) (fun p25 => (Sum.inl p25) = o9) ?_ ?_
  ·intro JJ12 hmeet11
   have hup10 := h; clear h; have h := ho9; clear ho9
   refine Run.block ?_
   refine R.bndS (t := 39) (by rfl) (fun hbd15 => ?_)
   replace hbd15 : b0.Activities.length ≤ 9223372036854775807 := by first | (rw [List.length_map] at hbd15; exact hbd15) | simp
   refine R.lp (β := Int) [(1, .lptr 64 0), (39, .slice (b0.Activities.map eTActivity)), (40, int (b0.Activities.length : Int))] [(64, .blk true [int b0.Deadline, .slice (b0.Activities.map eTActivity), .slice (b0.Links.map eTLink), .slice (b0.Resources.map eTResource), .slice (b0.Stocks.map int)])] (fun bb S => (41, int bb) :: S) (fun bb M => M) (fun n bb => 0 ≤ bb ∧ bb + n = (b0.Activities.length : Int) ∧ i_ProjectOk_L1 b0 (b0.Activities.drop bb.toNat) bb = some o9) b0.Activities.length (0 : Int) ⟨Int.le_refl _, by simp, h⟩ ?_
   clear h
   rintro JJ15 n15 z16 hag15 ⟨hza15, hzb15, h⟩
   refine Run.sr ?_
   refine X.bi ?_
   refine X.nil ?_
   refine Run.seq ?_
   refine R.cd (fun hc19 => ?_) (fun hc19 => ?_)
   ·obtain ⟨x17, xs18, hd15, hx15, hds15, hlt15⟩ := drop_atI hza15 hc19
    rw [hd15] at h
    rw [i_ProjectOk_L1] at h
    refine Run.skip ?_
    refine Run.seq ?_
    refine Run.block ?_
    refine Run.sr ?_
    refine X.mv ?_
    refine X.ix elt32 (idxL_spec hx15).1 (idxL_map eTActivity hx15) ?_
    refine X.lc shp108 ?_
    refine X.alloc zer108 (by rfl) (by rfl) (by rfl) ?_
    refine X.as ?_
    refine X.sl shp108 ?_
    refine X.nil ?_
    refine Run.seq ?_
    obtain ⟨v20, hv20, h⟩ := bindE h
    obtain ⟨e21, he21, h2⟩ := bindE h
    refine R.regG [(1, .lptr 64 0), (39, .slice (b0.Activities.map eTActivity)), (40, int (b0.Activities.length : Int)), (41, int z16), (62, bool e21)] [(64, .blk true [int b0.Deadline, .slice (b0.Activities.map eTActivity), .slice (b0.Links.map eTLink), .slice (b0.Resources.map eTResource), .slice (b0.Stocks.map int)])] ?_ ?_
    ·clear h; have h := he21; clear he21 h2
     refine X.ld shp108 ?_
     refine X.fl fld36_3 ?_
     refine X.ld shp34 ?_
     refine X.ls elt34 ?_
     refine X.fl fld36_4 ?_
     refine X.ld shp25 ?_
     refine X.ls elt25 ?_
     refine X.cp (i_ActivityOk_pc _ _ _ _ hv20) ?_
     refine X.un (by rfl) (by rfl) (by rfl) ?_
     refine X.mv ?_
     refine X.iG (fun hb22 => ?_) (fun hb22 => ?_)
     ·replace h := condF hb22 h
      refine X.ld shp36 ?_
      refine X.gy ?_
      refine X.fl fld108_0 ?_
      refine X.gy ?_
      refine X.ld shp9 ?_
      refine X.gy ?_
      obtain ⟨v23, hv23, h⟩ := bindE h
      refine X.cp (i_ActivityIndex_pc _ _ _ hv23) ?_
      refine X.gy ?_
      refine X.mv ?_
      refine X.gy ?_
      refine X.bi ?_
      refine X.pF ?_
      cases h
      exact X.eG
     ·replace h := condT hb22 h
      refine X.gn ?_
      refine X.gn ?_
      refine X.gn ?_
      refine X.gn ?_
      refine X.gn ?_
      refine X.pT ?_
      cases h
      exact X.eG
    replace h := h2; clear h2
    refine R.cd (fun hc24 => ?_) (fun hc24 => ?_)
    ·replace h := condT hc24 h
     refine Run.sr ?_
     refine X.an ?_
     cases h
     have h := hup10
     replace h := elimR h
     cases h
     refine R.f1 Tryz.results80 ?_
     rfl
    ·replace h := condF hc24 h
     refine Run.skip ?_
     refine Run.blk ?_
     refine Run.reg ?_
     refine X.ad ?_
     refine X.mn ?_
     exact R.ag hag15 (n15 - 1) (z16 + 1) (R.n3 (by first | (rw [hds15]; exact h) | (dsimp only; rw [hds15]; exact h)))
   ·rw [drop_endI hza15 hc19] at h
    rw [i_ProjectOk_L1] at h
    refine Run.exit (by rfl) ?_
    exact R.mt hmeet11 () (Option.some.inj h)
  rintro p25 rfl
  replace h := elimL h
  refine Run.seq ?_
  refine Run.sr ?_
  refine X.fl fld36_3 ?_
  refine X.ld shp34 ?_
  refine X.ls elt34 ?_
  refine X.mn ?_
  obtain ⟨o27, ho27, h⟩ := bindE h
  refine R.join2 (β := Unit) [(1, .lptr 64 0)] [(64, .blk true [int b0.Deadline, .slice (b0.Activities.map eTActivity), .slice (b0.Links.map eTLink), .slice (b0.Resources.map eTResource), .slice (b0.Stocks.map int)])] (fun p40 S => S) (fun p40 M => M) (fun p40 => (Sum.inl p40) = o27) ?_ ?_
  ·intro JJ30 hmeet29
   have hup28 := h; clear h; have h := ho27; clear ho27
   refine Run.block ?_
   refine R.bndS (t := 65) (by rfl) (fun hbd33 => ?_)
   replace hbd33 : b0.Resources.length ≤ 9223372036854775807 := by first | (rw [List.length_map] at hbd33; exact hbd33) | simp
   refine R.lp (β := Int) [(1, .lptr 64 0), (65, .slice (b0.Resources.map eTResource)), (66, int (b0.Resources.length : Int))] [(64, .blk true [int b0.Deadline, .slice (b0.Activities.map eTActivity), .slice (b0.Links.map eTLink), .slice (b0.Resources.map eTResource), .slice (b0.Stocks.map int)])] (fun bb S => (67, int bb) :: S) (fun bb M => M) (fun n bb => 0 ≤ bb ∧ bb + n = (b0.Resources.length : Int) ∧ i_ProjectOk_L2 (b0.Resources.drop bb.toNat) bb = some o27) b0.Resources.length (0 : Int) ⟨Int.le_refl _, by simp, h⟩ ?_
   clear h
   rintro JJ33 n33 z34 hag33 ⟨hza33, hzb33, h⟩
   refine Run.sr ?_
   refine X.bi ?_
   refine X.nil ?_
   refine Run.seq ?_
   refine R.cd (fun hc37 => ?_) (fun hc37 => ?_)
   ·obtain ⟨x35, xs36, hd33, hx33, hds33, hlt33⟩ := drop_atI hza33 hc37
    rw [hd33] at h
    rw [i_ProjectOk_L2] at h
    refine Run.skip ?_
    refine Run.seq ?_
    refine Run.block ?_
    refine Run.sr ?_
    refine X.ix elt34 (idxL_spec hx33).1 (idxL_map eTResource hx33) ?_
    refine X.lc shp86 ?_
    refine X.alloc zer86 (by rfl) (by rfl) (by rfl) ?_
    refine X.sl shp86 ?_
    refine X.nil ?_
    refine Run.sr ?_
    refine X.ld shp86 ?_
    obtain ⟨v38, hv38, h⟩ := bindE h
    refine X.cp (i_ResourceOk_pc _ _ hv38) ?_
    refine X.un (by rfl) (by rfl) (by rfl) ?_
    refine X.nil ?_
    refine R.cd (fun hc39 => ?_) (fun hc39 => ?_)
    ·replace h := condT hc39 h
     refine Run.sr ?_
     refine X.an ?_
     cases h
     have h := hup28
     replace h := elimR h
     cases h
     refine R.f1 Tryz.results80 ?_
     rfl
    ·replace h := condF hc39 h
     refine Run.skip ?_
     refine Run.blk ?_
     refine Run.reg ?_
     refine X.ad ?_
     refine X.mn ?_
     exact R.ag hag33 (n33 - 1) (z34 + 1) (R.n3 (by first | (rw [hds33]; exact h) | (dsimp only; rw [hds33]; exact h)))
   ·rw [drop_endI hza33 hc37] at h
    rw [i_ProjectOk_L2] at h
    refine Run.exit (by rfl) ?_
    exact R.mt hmeet29 () (Option.some.inj h)
  rintro p40 rfl
  replace h := elimL h
  refine Run.seq ?_
  refine Run.sr ?_
  refine X.fl fld36_4 ?_
  refine X.ld shp25 ?_
  refine X.ls elt25 ?_
  refine X.mn ?_
  obtain ⟨o42, ho42, h⟩ := bindE h
  refine R.join2 (β := Unit) [(1, .lptr 64 0)] [(64, .blk true [int b0.Deadline, .slice (b0.Activities.map eTActivity), .slice (b0.Links.map eTLink), .slice (b0.Resources.map eTResource), .slice (b0.Stocks.map int)])] (fun p55 S => S) (fun p55 M => M) (fun p55 => (Sum.inl p55) = o42) ?_ ?_
  ·intro JJ45 hmeet44
   have hup43 := h; clear h; have h := ho42; clear ho42
   refine Run.block ?_
   refine R.bndS (t := 76) (by rfl) (fun hbd48 => ?_)
   replace hbd48 : b0.Stocks.length ≤ 9223372036854775807 := by first | (rw [List.length_map] at hbd48; exact hbd48) | simp
   refine R.lp (β := Int) [(1, .lptr 64 0), (76, .slice (b0.Stocks.map int)), (77, int (b0.Stocks.length : Int))] [(64, .blk true [int b0.Deadline, .slice (b0.Activities.map eTActivity), .slice (b0.Links.map eTLink), .slice (b0.Resources.map eTResource), .slice (b0.Stocks.map int)])] (fun bb S => (78, int bb) :: S) (fun bb M => M) (fun n bb => 0 ≤ bb ∧ bb + n = (b0.Stocks.length : Int) ∧ i_ProjectOk_L3 (b0.Stocks.drop bb.toNat) bb = some o42) b0.Stocks.length (0 : Int) ⟨Int.le_refl _, by simp, h⟩ ?_
   clear h
   rintro JJ48 n48 z49 hag48 ⟨hza48, hzb48, h⟩
   refine Run.sr ?_
   refine X.bi ?_
   refine X.nil ?_
   refine Run.seq ?_
   refine R.cd (fun hc52 => ?_) (fun hc52 => ?_)
   ·obtain ⟨x50, xs51, hd48, hx48, hds48, hlt48⟩ := drop_atI hza48 hc52
    rw [hd48] at h
    rw [i_ProjectOk_L3] at h
    refine Run.skip ?_
    refine Run.seq ?_
    refine Run.block ?_
    refine Run.sr ?_
    refine X.ix elt25 (idxL_spec hx48).1 (idxL_map int hx48) ?_
    refine X.lc shp3 ?_
    refine X.an ?_
    refine Run.sr ?_
    refine X.mv ?_
    obtain ⟨v53, hv53, h⟩ := bindE h
    refine X.cp (i_within_pc _ _ _ _ hv53) ?_
    refine X.un (by rfl) (by rfl) (by rfl) ?_
    refine X.nil ?_
    refine R.cd (fun hc54 => ?_) (fun hc54 => ?_)
    ·replace h := condT hc54 h
     refine Run.sr ?_
     refine X.an ?_
     cases h
     have h := hup43
     replace h := elimR h
     cases h
     refine R.f1 Tryz.results80 ?_
     rfl
    ·replace h := condF hc54 h
     refine Run.skip ?_
     refine Run.blk ?_
     refine Run.reg ?_
     refine X.ad ?_
     refine X.mn ?_
     exact R.ag hag48 (n48 - 1) (z49 + 1) (R.n3 (by first | (rw [hds48]; exact h) | (dsimp only; rw [hds48]; exact h)))
   ·rw [drop_endI hza48 hc52] at h
    rw [i_ProjectOk_L3] at h
    refine Run.exit (by rfl) ?_
    exact R.mt hmeet44 () (Option.some.inj h)
  rintro p55 rfl
  replace h := elimL h
  refine Run.seq ?_
  refine R.pubBlk (n := 64) (by rfl) (by rfl) (by repeat (first | trivial | refine ⟨by first | rfl | simp [setL], ?_⟩)) ?_
  refine Run.reg ?_
  refine X.fl fld36_2 ?_
  refine X.ld shp33 ?_
  refine X.makeFunc (by rfl) (by rfl) (by repeat (first | trivial | refine ⟨by first | rfl | simp [setL], ?_⟩)) (by rfl) (by rfl) ?_
  obtain ⟨v57, hv57, h⟩ := bindE h
  refine X.cp (slices_ContainsFunc_Link_pc _ (fun x0 => i_ProjectOk_c1 x0 b0) _ _ (fun x0 v hv => i_ProjectOk_c1_pc _ _ _ hv) _ hv57) ?_
  refine X.un (by rfl) (by rfl) (by rfl) ?_
  refine X.an ?_
  cases h
  refine R.f1 Tryz.results80 ?_
  rfl
theorem i_Project_hasResource_pc (b0 : TProject) (b1 : Int) (r : Bool) (h : i_Project_hasResource b0 b1 = some r) : PC Tryz.prog 83 [eTProject b0, int b1] (bool r) := by
 unfold i_Project_hasResource at h
 refine PC.start Tryz.func83 Tryz.ntmps83 rfl ok83 rfl ?_
 refine Run.sr ?_
 refine X.bx ?_
 refine X.an ?_
 refine Run.sr ?_
 refine X.mv ?_
 refine X.fl fld36_3 ?_
 refine X.ld shp34 ?_
 refine X.ls elt34 ?_
 refine X.subW (by rfl) (by rfl) (by rfl) ?_
 obtain ⟨v1, hv1, h⟩ := bindE h
 refine X.cp (i_within_pc _ _ _ _ hv1) ?_
 refine X.an ?_
 cases h
 refine R.f1 Tryz.results83 ?_
 rfl
theorem i_IsMachine_pc (b0 : TProject) (b1 : Int) (r : Bool) (h : i_IsMachine b0 b1 = some r) : PC Tryz.prog 84 [eTProject b0, int b1] (bool r) := by
 unfold i_IsMachine at h
 refine PC.start Tryz.func84 Tryz.ntmps84 rfl ok84 rfl ?_
 refine Run.sr ?_
 refine X.bx ?_
 refine X.an ?_
 refine Run.seq ?_
 obtain ⟨v1, hv1, h⟩ := bindE h
 obtain ⟨e2, he2, h2⟩ := bindE h
 refine R.regG [(4, bool e2)] [] ?_ ?_
 ·clear h; have h := he2; clear he2 h2
  refine X.ld shp36 ?_
  refine X.mv ?_
  refine X.cp (i_Project_hasResource_pc _ _ _ hv1) ?_
  refine X.mv ?_
  refine X.iG (fun hb3 => ?_) (fun hb3 => ?_)
  ·replace h := condT hb3 h
   refine X.fl fld36_3 ?_
   refine X.gy ?_
   refine X.ld shp34 ?_
   refine X.gy ?_
   refine X.mv ?_
   refine X.gy ?_
   obtain ⟨v4, hv4, h⟩ := bindE h
   refine X.ix elt34 (idxL_spec hv4).1 (idxL_map eTResource hv4) ?_
   refine X.gy ?_
   refine X.fieldAddr_c fld86_1 (by rfl) (by rfl) ?_
   refine X.gy ?_
   refine X.lc shp45 ?_
   refine X.gy ?_
   refine X.ls elt45 ?_
   refine X.gy ?_
   refine X.bi ?_
   refine X.pT ?_
   refine X.as ?_
   cases h
   exact X.eG
  ·replace h := condF hb3 h
   refine X.gn ?_
   refine X.gn ?_
   refine X.gn ?_
   refine X.gn ?_
   refine X.gn ?_
   refine X.gn ?_
   refine X.gn ?_
   refine X.pF ?_
   refine X.as ?_
   cases h
   exact X.eG
 replace h := h2; clear h2
 cases h
 refine R.f1 Tryz.results84 ?_
 rfl
theorem i_Project_hasStock_pc (b0 : TProject) (b1 : Int) (r : Bool) (h : i_Project_hasStock b0 b1 = some r) : PC Tryz.prog 85 [eTProject b0, int b1] (bool r) := by
 unfold i_Project_hasStock at h
 refine PC.start Tryz.func85 Tryz.ntmps85 rfl ok85 rfl ?_
 refine Run.sr ?_
 refine X.bx ?_
 refine X.an ?_
 refine Run.sr ?_
 refine X.mv ?_
 refine X.fl fld36_4 ?_
 refine X.ld shp25 ?_
 refine X.ls elt25 ?_
 refine X.subW (by rfl) (by rfl) (by rfl) ?_
 obtain ⟨v1, hv1, h⟩ := bindE h
 refine X.cp (i_within_pc _ _ _ _ hv1) ?_
 refine X.an ?_
 cases h
 refine R.f1 Tryz.results85 ?_
 rfl
theorem i_RuleOk_pc (b0 : TProject) (b1 : TRule) (r : Bool) (h : i_RuleOk b0 b1 = some r) : PC Tryz.prog 43 [eTProject b0, eTRule b1] (bool r) := by
 unfold i_RuleOk at h
 refine PC.start Tryz.func43 Tryz.ntmps43 rfl ok43 rfl ?_
 refine Run.sr ?_
 refine X.bx ?_
 refine X.bx ?_
 refine X.an ?_
 refine Run.seq ?_
 refine Run.sr ?_
 refine X.ld shp36 ?_
 obtain ⟨v1, hv1, h⟩ := bindE h
 refine X.cp (i_ProjectOk_pc _ _ hv1) ?_
 refine X.un (by rfl) (by rfl) (by rfl) ?_
 refine X.nil ?_
 refine R.cd (fun hc2 => ?_) (fun hc2 => ?_)
 ·replace h := condT hc2 h
  refine Run.sr ?_
  refine X.an ?_
  cases h
  refine R.f1 Tryz.results43 ?_
  rfl
 ·replace h := condF hc2 h
  refine Run.skip ?_
  refine Run.seq ?_
  refine Run.sr ?_
  refine X.fl fld38_0 ?_
  refine X.ld shp3 ?_
  refine X.nil ?_
  refine Run.block ?_
  refine Run.sr ?_
  refine X.bi ?_
  refine X.an ?_
  refine R.cd (fun hc3 => ?_) (fun hc3 => ?_)
  ·replace h := condT hc3 h
   refine Run.seq ?_
   obtain ⟨v4, hv4, h⟩ := bindE h
   obtain ⟨e5, he5, h2⟩ := bindE h
   refine R.regG [(4, bool e5)] [] ?_ ?_
   ·clear h; have h := he5; clear he5 h2
    refine X.fl fld38_1 ?_
    refine X.ld shp3 ?_
    refine X.fl fld36_2 ?_
    refine X.ld shp33 ?_
    refine X.ls elt33 ?_
    refine X.subW (by rfl) (by rfl) (by rfl) ?_
    refine X.cp (i_within_pc _ _ _ _ hv4) ?_
    refine X.mv ?_
    refine X.iG (fun hb6 => ?_) (fun hb6 => ?_)
    ·replace h := condT hb6 h
     refine X.fl fld38_2 ?_
     refine X.gy ?_
     refine X.ld shp3 ?_
     refine X.gy ?_
     refine X.bi ?_
     refine X.pT ?_
     refine X.mv ?_
     refine X.iG (fun hb7 => ?_) (fun hb7 => ?_)
     ·replace h := condT hb7 h
      refine X.fl fld38_3 ?_
      refine X.gy ?_
      refine X.ld shp3 ?_
      refine X.gy ?_
      refine X.bi ?_
      refine X.pT ?_
      refine X.as ?_
      cases h
      exact X.eG
     ·replace h := condF hb7 h
      refine X.gn ?_
      refine X.gn ?_
      refine X.pF ?_
      refine X.as ?_
      cases h
      exact X.eG
    ·replace h := condF hb6 h
     refine X.gn ?_
     refine X.gn ?_
     refine X.pF ?_
     refine X.mv ?_
     refine X.gn ?_
     refine X.gn ?_
     refine X.gn ?_
     refine X.pF ?_
     refine X.as ?_
     cases h
     exact X.eG
   replace h := h2; clear h2
   cases h
   refine R.f1 Tryz.results43 ?_
   rfl
  ·replace h := condF hc3 h
   refine Run.sr ?_
   refine X.bi ?_
   refine X.an ?_
   refine R.cd (fun hc8 => ?_) (fun hc8 => ?_)
   ·replace h := condT hc8 h
    refine Run.seq ?_
    obtain ⟨v9, hv9, h⟩ := bindE h
    obtain ⟨e10, he10, h2⟩ := bindE h
    refine R.regG [(4, bool e10)] [] ?_ ?_
    ·clear h; have h := he10; clear he10 h2
     refine X.ld shp36 ?_
     refine X.fl fld38_1 ?_
     refine X.ld shp3 ?_
     refine X.cp (i_Project_hasActivity_pc _ _ _ hv9) ?_
     refine X.mv ?_
     refine X.iG (fun hb11 => ?_) (fun hb11 => ?_)
     ·replace h := condT hb11 h
      refine X.fl fld38_2 ?_
      refine X.gy ?_
      refine X.ld shp3 ?_
      refine X.gy ?_
      refine X.bi ?_
      refine X.pT ?_
      refine X.mv ?_
      refine X.iG (fun hb12 => ?_) (fun hb12 => ?_)
      ·replace h := condT hb12 h
       refine X.fl fld38_3 ?_
       refine X.gy ?_
       refine X.ld shp3 ?_
       refine X.gy ?_
       refine X.bi ?_
       refine X.pT ?_
       refine X.as ?_
       cases h
       exact X.eG
      ·replace h := condF hb12 h
       refine X.gn ?_
       refine X.gn ?_
       refine X.pF ?_
       refine X.as ?_
       cases h
       exact X.eG
     ·replace h := condF hb11 h
      refine X.gn ?_
      refine X.gn ?_
      refine X.pF ?_
      refine X.mv ?_
      refine X.gn ?_
      refine X.gn ?_
      refine X.gn ?_
      refine X.pF ?_
      refine X.as ?_
      cases h
      exact X.eG
    replace h := h2; clear h2
    cases h
    refine R.f1 Tryz.results43 ?_
    rfl
   ·replace h := condF hc8 h
    refine Run.sr ?_
    refine X.bi ?_
    refine X.an ?_
    refine R.cd (fun hc13 => ?_) (fun hc13 => ?_)
    ·replace h := condT hc13 h
     refine Run.seq ?_
     obtain ⟨v14, hv14, h⟩ := bindE h
     obtain ⟨e15, he15, h2⟩ := bindE h
     refine R.regG [(4, bool e15)] [] ?_ ?_
     ·clear h; have h := he15; clear he15 h2
      refine X.ld shp36 ?_
      refine X.fl fld38_1 ?_
      refine X.ld shp3 ?_
      refine X.cp (i_Project_hasResource_pc _ _ _ hv14) ?_
      refine X.mv ?_
      refine X.iG (fun hb16 => ?_) (fun hb16 => ?_)
      ·replace h := condT hb16 h
       refine X.fl fld38_2 ?_
       refine X.gy ?_
       refine X.ld shp3 ?_
       refine X.gy ?_
       obtain ⟨v17, hv17, h⟩ := bindE h
       refine X.cp (i_isTime_pc _ _ hv17) ?_
       refine X.pT ?_
       refine X.mv ?_
       refine X.iG (fun hb18 => ?_) (fun hb18 => ?_)
       ·replace h := condT hb18 h
        refine X.fl fld38_3 ?_
        refine X.gy ?_
        refine X.ld shp3 ?_
        refine X.gy ?_
        refine X.bi ?_
        refine X.pT ?_
        refine X.as ?_
        cases h
        exact X.eG
       ·replace h := condF hb18 h
        refine X.gn ?_
        refine X.gn ?_
        refine X.pF ?_
        refine X.as ?_
        cases h
        exact X.eG
      ·replace h := condF hb16 h
       refine X.gn ?_
       refine X.gn ?_
       refine X.pF ?_
       refine X.mv ?_
       refine X.gn ?_
       refine X.gn ?_
       refine X.gn ?_
       refine X.pF ?_
       refine X.as ?_
       cases h
       exact X.eG
     replace h := h2; clear h2
     cases h
     refine R.f1 Tryz.results43 ?_
     rfl
    ·replace h := condF hc13 h
     refine Run.sr ?_
     refine X.bi ?_
     refine X.an ?_
     refine R.cd (fun hc19 => ?_) (fun hc19 => ?_)
     ·replace h := condT hc19 h
      refine Run.seq ?_
      obtain ⟨v20, hv20, h⟩ := bindE h
      obtain ⟨e21, he21, h2⟩ := bindE h
      refine R.regG [(4, bool e21)] [] ?_ ?_
      ·clear h; have h := he21; clear he21 h2
       refine X.ld shp36 ?_
       refine X.fl fld38_1 ?_
       refine X.ld shp3 ?_
       refine X.cp (i_Project_hasResource_pc _ _ _ hv20) ?_
       refine X.mv ?_
       refine X.iG (fun hb22 => ?_) (fun hb22 => ?_)
       ·replace h := condT hb22 h
        refine X.fl fld38_2 ?_
        refine X.gy ?_
        refine X.ld shp3 ?_
        refine X.gy ?_
        obtain ⟨v23, hv23, h⟩ := bindE h
        refine X.cp (i_isTime_pc _ _ hv23) ?_
        refine X.pT ?_
        refine X.mv ?_
        refine X.iG (fun hb24 => ?_) (fun hb24 => ?_)
        ·replace h := condT hb24 h
         refine X.fl fld38_3 ?_
         refine X.gy ?_
         refine X.ld shp3 ?_
         refine X.gy ?_
         obtain ⟨v25, hv25, h⟩ := bindE h
         refine X.cp (i_isTime_pc _ _ hv25) ?_
         refine X.pT ?_
         refine X.mv ?_
         refine X.iG (fun hb26 => ?_) (fun hb26 => ?_)
         ·replace h := condT hb26 h
          refine X.fl fld38_2 ?_
          refine X.gy ?_
          refine X.ld shp3 ?_
          refine X.gy ?_
          refine X.fl fld38_3 ?_
          refine X.gy ?_
          refine X.ld shp3 ?_
          refine X.gy ?_
          refine X.bi ?_
          refine X.pT ?_
          refine X.as ?_
          cases h
          exact X.eG
         ·replace h := condF hb26 h
          refine X.gn ?_
          refine X.gn ?_
          refine X.gn ?_
          refine X.gn ?_
          refine X.pF ?_
          refine X.as ?_
          cases h
          exact X.eG
        ·replace h := condF hb24 h
         refine X.gn ?_
         refine X.gn ?_
         refine X.pF ?_
         refine X.mv ?_
         refine X.gn ?_
         refine X.gn ?_
         refine X.gn ?_
         refine X.gn ?_
         refine X.gn ?_
         refine X.pF ?_
         refine X.as ?_
         cases h
         exact X.eG
       ·replace h := condF hb22 h
        refine X.gn ?_
        refine X.gn ?_
        refine X.pF ?_
        refine X.mv ?_
        refine X.gn ?_
        refine X.gn ?_
        refine X.gn ?_
        refine X.pF ?_
        refine X.mv ?_
        refine X.gn ?_
        refine X.gn ?_
        refine X.gn ?_
        refine X.gn ?_
        refine X.gn ?_
        refine X.pF ?_
        refine X.as ?_
        cases h
        exact X.eG
      replace h := h2; clear h2
      cases h
      refine R.f1 Tryz.results43 ?_
      rfl
     ·replace h := condF hc19 h
      refine Run.sr ?_
      refine X.bi ?_
      refine X.an ?_
      refine R.cd (fun hc27 => ?_) (fun hc27 => ?_)
      ·replace h := condT hc27 h
       refine Run.seq ?_
       obtain ⟨v28, hv28, h⟩ := bindE h
       obtain ⟨e29, he29, h2⟩ := bindE h
       refine R.regG [(4, bool e29)] [] ?_ ?_
       ·clear h; have h := he29; clear he29 h2
        refine X.ld shp36 ?_
        refine X.fl fld38_1 ?_
        refine X.ld shp3 ?_
        refine X.cp (i_IsMachine_pc _ _ _ hv28) ?_
        refine X.mv ?_
        refine X.iG (fun hb30 => ?_) (fun hb30 => ?_)
        ·replace h := condT hb30 h
         refine X.ld shp36 ?_
         refine X.gy ?_
         refine X.fl fld38_2 ?_
         refine X.gy ?_
         refine X.ld shp3 ?_
         refine X.gy ?_
         obtain ⟨v31, hv31, h⟩ := bindE h
         refine X.cp (i_Project_hasActivity_pc _ _ _ hv31) ?_
         refine X.pT ?_
         refine X.mv ?_
         refine X.iG (fun hb32 => ?_) (fun hb32 => ?_)
         ·replace h := condT hb32 h
          refine X.ld shp36 ?_
          refine X.gy ?_
          refine X.fl fld38_3 ?_
          refine X.gy ?_
          refine X.ld shp3 ?_
          refine X.gy ?_
          obtain ⟨v33, hv33, h⟩ := bindE h
          refine X.cp (i_Project_hasActivity_pc _ _ _ hv33) ?_
          refine X.pT ?_
          refine X.mv ?_
          refine X.iG (fun hb34 => ?_) (fun hb34 => ?_)
          ·replace h := condT hb34 h
           refine X.fl fld38_2 ?_
           refine X.gy ?_
           refine X.ld shp3 ?_
           refine X.gy ?_
           refine X.fl fld38_3 ?_
           refine X.gy ?_
           refine X.ld shp3 ?_
           refine X.gy ?_
           refine X.bi ?_
           refine X.pT ?_
           refine X.as ?_
           cases h
           exact X.eG
          ·replace h := condF hb34 h
           refine X.gn ?_
           refine X.gn ?_
           refine X.gn ?_
           refine X.gn ?_
           refine X.pF ?_
           refine X.as ?_
           cases h
           exact X.eG
         ·replace h := condF hb32 h
          refine X.gn ?_
          refine X.gn ?_
          refine X.gn ?_
          refine X.pF ?_
          refine X.mv ?_
          refine X.gn ?_
          refine X.gn ?_
          refine X.gn ?_
          refine X.gn ?_
          refine X.gn ?_
          refine X.pF ?_
          refine X.as ?_
          cases h
          exact X.eG
        ·replace h := condF hb30 h
         refine X.gn ?_
         refine X.gn ?_
         refine X.gn ?_
         refine X.pF ?_
         refine X.mv ?_
         refine X.gn ?_
         refine X.gn ?_
         refine X.gn ?_
         refine X.gn ?_
         refine X.pF ?_
         refine X.mv ?_
         refine X.gn ?_
         refine X.gn ?_
         refine X.gn ?_
         refine X.gn ?_
         refine X.gn ?_
         refine X.pF ?_
         refine X.as ?_
         cases h
         exact X.eG
       replace h := h2; clear h2
       cases h
       refine R.f1 Tryz.results43 ?_
       rfl
      ·replace h := condF hc27 h
       refine Run.sr ?_
       refine X.bi ?_
       refine X.an ?_
       refine R.cd (fun hc35 => ?_) (fun hc35 => ?_)
       ·replace h := condT hc35 h
        refine Run.seq ?_
        obtain ⟨v36, hv36, h⟩ := bindE h
        obtain ⟨e37, he37, h2⟩ := bindE h
        refine R.regG [(4, bool e37)] [] ?_ ?_
        ·clear h; have h := he37; clear he37 h2
         refine X.ld shp36 ?_
         refine X.fl fld38_1 ?_
         refine X.ld shp3 ?_
         refine X.cp (i_Project_hasStock_pc _ _ _ hv36) ?_
         refine X.mv ?_
         refine X.iG (fun hb38 => ?_) (fun hb38 => ?_)
         ·replace h := condT hb38 h
          refine X.fl fld38_2 ?_
          refine X.gy ?_
          refine X.ld shp3 ?_
          refine X.gy ?_
          refine X.bi ?_
          refine X.pT ?_
          refine X.mv ?_
          refine X.iG (fun hb39 => ?_) (fun hb39 => ?_)
          ·replace h := condT hb39 h
           refine X.fl fld38_3 ?_
           refine X.gy ?_
           refine X.ld shp3 ?_
           refine X.gy ?_
           refine X.bi ?_
           refine X.pT ?_
           refine X.as ?_
           cases h
           exact X.eG
          ·replace h := condF hb39 h
           refine X.gn ?_
           refine X.gn ?_
           refine X.pF ?_
           refine X.as ?_
           cases h
           exact X.eG
         ·replace h := condF hb38 h
          refine X.gn ?_
          refine X.gn ?_
          refine X.pF ?_
          refine X.mv ?_
          refine X.gn ?_
          refine X.gn ?_
          refine X.gn ?_
          refine X.pF ?_
          refine X.as ?_
          cases h
          exact X.eG
        replace h := h2; clear h2
        cases h
        refine R.f1 Tryz.results43 ?_
        rfl
       ·replace h := condF hc35 h
        refine Run.skip ?_
        refine Run.blk ?_
        refine Run.sr ?_
        refine X.an ?_
        cases h
        refine R.f1 Tryz.results43 ?_
        rfl
theorem slices_Clone_int_pc (b0 : List Int) (r : List Int) (h : slices_Clone_int b0 = some r) : PC Tryz.prog 86 [.slice (b0.map int)] (.fresh true 3 1 (r.map int)) := by
 unfold slices_Clone_int at h
 refine PC.split (fun hl ad cap => ?_) (fun hl => ?_)
 ·refine PC.start Tryz.func86 Tryz.ntmps86 rfl ok86 rfl ?_
  refine Run.sr ?_
  refine X.an ?_
  refine Run.seq ?_
  refine Run.sr ?_
  refine X.mv ?_
  refine X.eqlNilL elt25 (by rfl) (by rfl) (by rfl) ?_
  refine X.nil ?_
  refine R.cd (fun hc => ?_) (fun hc => ?_)
  ·refine Run.sr ?_
   refine X.an ?_
   refine R.fin1n (x := true) (e := 3) (sz := 1) Tryz.results86 (by rfl) (by decide) ?_
   obtain ⟨q, hq, h⟩ := bindE h
   have hqr := Option.some.inj h
   have hz : r = [] := by rw [← hqr, (appL_spec hq).2, List.map_eq_nil_iff.1 hl]; rfl
   rw [hz]; rfl
  ·refine Run.skip ?_
   refine R.slice0 (t := 0) (l := b0.map int) hl (by rfl) ?_
   refine Run.sr ?_
   refine X.buildSlice true elt25 zer3 (by rfl) (by rfl) (by rfl) (by rfl) (by rfl) (by rfl) (by repeat (first | trivial | refine ⟨by first | rfl | simp [setL], ?_⟩)) (allSz_spec (by rfl)) (by rfl) (by rfl) (by rfl) ?_
   refine X.mv ?_
   obtain ⟨v1, hv1, h⟩ := bindE h
   refine X.append elt25 zer3 (by rfl) (by rfl) (by first | rfl | simp [setL] | omega) (by rfl) (.pure _) (by exact cells_map (f := int) (fun _ => rfl)) (appL_len int hv1) (appL_map int hv1) (by rfl) (by rfl) (by rfl) (by rfl) ?_
   refine X.an ?_
   cases h
   refine R.fin1o Tryz.results86 (by rfl) (by rfl) (by first | rfl | simp [setL] | omega) ?_
   rfl
 ·refine PC.start Tryz.func86 Tryz.ntmps86 rfl ok86 rfl ?_
  refine Run.sr ?_
  refine X.an ?_
  refine Run.seq ?_
  refine Run.sr ?_
  refine X.mv ?_
  refine X.eqlNilS elt25 (by rfl) (.pure _) (.inl hl) (by rfl) (by rfl) ?_
  refine X.nil ?_
  refine R.condF (b := (b0.map int).isEmpty) (by simpa using hl) (by rfl) ?_
  refine Run.skip ?_
  refine Run.sr ?_
  refine X.buildSlice true elt25 zer3 (by rfl) (by rfl) (by rfl) (by rfl) (by rfl) (by rfl) (by repeat (first | trivial | refine ⟨by first | rfl | simp [setL], ?_⟩)) (allSz_spec (by rfl)) (by rfl) (by rfl) (by rfl) ?_
  refine X.mv ?_
  obtain ⟨v1, hv1, h⟩ := bindE h
  refine X.append elt25 zer3 (by rfl) (by rfl) (by first | rfl | simp [setL] | omega) (by rfl) (.pure _) (by exact cells_map (f := int) (fun _ => rfl)) (appL_len int hv1) (appL_map int hv1) (by rfl) (by rfl) (by rfl) (by rfl) ?_
  refine X.an ?_
  cases h
  refine R.fin1o Tryz.results86 (by rfl) (by rfl) (by first | rfl | simp [setL] | omega) ?_
  rfl
theorem slices_Sort_int_pc (b0 : List Int) (r : List Int) (h : slices_Sort_int b0 = some r) : PCM Tryz.prog 87 [.own 63 (b0.map int).length] [(63, .obj true 3 1 (b0.map int))] (.tuple []) [(63, .obj true 3 1 (r.map int))] := PCM.sortInt (by decide) ok87 (fun blk off cap zs w h1 h2 h3 => Tryz.slices_Sort_int blk off cap zs w h1 h2 h3) (fun a cap w => Tryz.slices_Sort_int_none a cap w) b0 r h
theorem i_SetOf_pc (b0 : List Int) (r : List Int) (h : i_SetOf b0 = some r) : PC Tryz.prog 44 [.slice (b0.map int)] (.fresh true 3 1 (r.map int)) := by
 unfold i_SetOf at h
 refine PC.start Tryz.func44 Tryz.ntmps44 rfl ok44 rfl ?_
 refine Run.sr ?_
 refine X.an ?_
 refine Run.sr ?_
 refine X.mv ?_
 obtain ⟨v1, hv1, h⟩ := bindE h
 refine X.callF (slices_Clone_int_pc _ _ hv1) (by rfl) (by rfl) (by rfl) (by trivial) (by rfl) (by rfl) (by rfl) (by rfl) ?_
 refine X.an ?_
 refine Run.sr ?_
 refine X.mv ?_
 obtain ⟨v2, hv2, h⟩ := bindE h
 refine X.callR [(63, 320)] [(320, (v1.map int).length)] [(320, (v2.map int).length)] (slices_Sort_int_pc _ _ hv2) (by rfl) (by rfl) (.ownB 63 (by rfl) (by first | rfl | simp [setL] | omega) (by rfl) .nil) (by rfl) ⟨rfl, rfl, ⟨_, by rfl, by constructor⟩, by constructor, trivial⟩ (by rfl) (by rfl) (by rfl) (by rfl) ⟨rfl, ⟨_, _, _, _, by rfl, by rfl⟩, ⟨_, _, _, _, by rfl, by rfl⟩, trivial⟩ (by rfl) (by repeat (first | trivial | refine ⟨by first | rfl | simp [setL], ?_⟩)) (by rfl) (by rfl) (by rfl) (by rfl) (by rfl) ?_
 refine X.nil ?_
 refine Run.seq ?_
 refine Run.region ?_
 refine Run.mvo ?_
 obtain ⟨v3, hv3, h⟩ := bindE h
 refine Run.callCut (S' := []) (M' := []) (cut88 _ _ hv3) (by rfl) (by rfl) (by rfl) (by first | rfl | simp [setL] | omega) trivial trivial (by rfl) (by rfl) (by rfl) (by rfl) (by rfl) ?_
 refine Run.aso ?_
 refine Run.nil ?_
 cases h
 refine R.fin1o Tryz.results44 (by rfl) (by rfl) (by first | rfl | simp [setL] | omega) ?_
 rfl
theorem i_IntRange_pc (b0 : Int) (r : List Int) (h : i_IntRange b0 = some r) : PC Tryz.prog 46 [int b0] (.fresh true 3 1 (r.map int)) := by
 unfold i_IntRange at h
 refine PC.start Tryz.func46 Tryz.ntmps46 rfl ok46 rfl ?_
 refine Run.sr ?_
 refine X.an ?_
 refine Run.seq ?_
 refine Run.sr ?_
 refine X.mv ?_
 obtain ⟨v1, hv1, h⟩ := bindE h
 refine X.cp (i_within_pc _ _ _ _ hv1) ?_
 refine X.un (by rfl) (by rfl) (by rfl) ?_
 refine X.nil ?_
 refine R.cd (fun hc2 => ?_) (fun hc2 => ?_)
 ·replace h := condT hc2 h
  refine Run.sr ?_
  refine X.an ?_
  cases h
  refine R.fin1n (x := true) (e := 3) (sz := 1) Tryz.results46 (by rfl) (by decide) ?_
  rfl
 ·replace h := condF hc2 h
  refine Run.skip ?_
  refine Run.sr ?_
  refine X.buildSlice true elt25 zer3 (by rfl) (by rfl) (by rfl) (by rfl) (by rfl) (by rfl) (by repeat (first | trivial | refine ⟨by first | rfl | simp [setL], ?_⟩)) (allSz_spec (by rfl)) (by rfl) (by rfl) (by rfl) ?_
  refine X.an ?_
  refine Run.seq ?_
  refine Run.sr ?_
  refine X.mv ?_
  refine X.mn ?_
  obtain ⟨o3, ho3, h⟩ := bindE h
  refine R.join2 (β := (List Int)) [] [] (fun p15 S => (3, .own 512 (p15.map int).length) :: S) (fun p15 M => (512, .obj true 3 1 (p15.map int)) :: M) (fun p15 => p15 = o3) ?_ ?_
  ·intro JJ6 hmeet5
   have hup4 := h; clear h; have h := ho3; clear ho3
   refine Run.block ?_
   refine R.lp (β := Int × (List Int)) [(9, int b0)] [] (fun bb S => (3, .own 512 (bb.2.map int).length) :: (10, int bb.1) :: S) (fun bb M => (512, .obj true 3 1 (bb.2.map int)) :: M) (fun n bb => i_IntRange_L1 b0 n bb.1 bb.2 = some o3) F0 (0, ([] : List Int)) h ?_
   clear h
   rintro JJ7 n7 ⟨a9, a10⟩ hag7 h
   dsimp only at h
   obtain _ | n7 := n7
   ·exact absurd h (by simp [i_IntRange_L1])
   rw [i_IntRange_L1] at h
   refine Run.sr ?_
   refine X.bi ?_
   refine X.nil ?_
   refine Run.seq ?_
   refine R.cd (fun hc13 => ?_) (fun hc13 => ?_)
   ·replace h := condT hc13 h
    refine Run.skip ?_
    refine Run.seq ?_
    refine Run.block ?_
    refine Run.sr ?_
    refine X.mv ?_
    refine X.an ?_
    refine Run.reg ?_
    refine X.mv ?_
    refine X.mv ?_
    refine X.buildSlice true elt25 zer3 (by rfl) (by rfl) (by rfl) (by rfl) (by rfl) (by rfl) (by repeat (first | trivial | refine ⟨by first | rfl | simp [setL], ?_⟩)) (allSz_spec (by rfl)) (by rfl) (by rfl) (by rfl) ?_
    obtain ⟨v14, hv14, h⟩ := bindE h
    refine X.append elt25 zer3 (by rfl) (by rfl) (by first | rfl | simp [setL] | omega) (by rfl) (.own _ _ _ _ _ _ (look_mem (by rfl)) (by first | rfl | simp [setL] | omega)) (allSz_spec (by rfl)) (appL_len int hv14) (appL_map int hv14) (by rfl) (by rfl) (by rfl) (by rfl) ?_
    refine X.an ?_
    refine Run.blk ?_
    refine Run.reg ?_
    refine X.addW (by rfl) (by rfl) (by rfl) ?_
    refine X.mn ?_
    exact hag7 n7 ((W (a9 + 1)), v14) _ _ (by omega) h (by repeat (first | trivial | refine ⟨by first | rfl | simp [setL], ?_⟩)) (by repeat (first | trivial | refine ⟨by first | rfl | simp [setL], ?_⟩)) (by rfl) (by rfl)
   ·replace h := condF hc13 h
    refine Run.exit (by rfl) ?_
    exact R.mt hmeet5 a10 (Option.some.inj h)
  rintro p15 rfl
  refine Run.sr ?_
  refine X.mv ?_
  refine X.an ?_
  cases h
  refine R.fin1o Tryz.results46 (by rfl) (by rfl) (by first | rfl | simp [setL] | omega) ?_
  rfl
theorem w_eqIntS_pc (b0 : List Int) (b1 : List Int) (r : Bool) (h : w_eqIntS b0 b1 = some r) : PC Tryz.prog 12 [.slice (b0.map int), .slice (b1.map int)] (bool r) := by
 unfold w_eqIntS at h
 refine PC.start Tryz.func12 Tryz.ntmps12 rfl ok12 rfl ?_
 refine Run.sr ?_
 refine X.an ?_
 refine Run.seq ?_
 refine Run.sr ?_
 refine X.mv ?_
 refine X.ls elt25 ?_
 refine X.mv ?_
 refine X.ls elt25 ?_
 refine X.bi ?_
 refine X.nil ?_
 refine R.cd (fun hc1 => ?_) (fun hc1 => ?_)
 ·replace h := condT hc1 h
  refine Run.sr ?_
  refine X.an ?_
  cases h
  refine R.f1 Tryz.results12 ?_
  rfl
 ·replace h := condF hc1 h
  refine Run.skip ?_
  refine Run.seq ?_
  refine Run.sr ?_
  refine X.an ?_
  obtain ⟨o2, ho2, h⟩ := bindE h
  refine R.join2 (β := Unit) [] [] (fun p15 S => S) (fun p15 M => M) (fun p15 => (Sum.inl p15) = o2) ?_ ?_
  ·intro JJ5 hmeet4
   have hup3 := h; clear h; have h := ho2; clear ho2
   refine Run.block ?_
   refine R.bndS (t := 0) (by rfl) (fun hbd8 => ?_)
   replace hbd8 : b0.length ≤ 9223372036854775807 := by first | (rw [List.length_map] at hbd8; exact hbd8) | simp
   refine R.lp (β := Int) [(0, .slice (b0.map int)), (1, .slice (b1.map int))] [] (fun bb S => (5, int bb) :: S) (fun bb M => M) (fun n bb => 0 ≤ bb ∧ bb + n = (b0.length : Int) ∧ w_eqIntS_L1 b1 (b0.drop bb.toNat) bb = some o2) b0.length (0 : Int) ⟨Int.le_refl _, by simp, h⟩ ?_
   clear h
   rintro JJ8 n8 z9 hag8 ⟨hza8, hzb8, h⟩
   refine Run.seq ?_
   refine Run.sr ?_
   refine X.mv ?_
   refine X.mv ?_
   refine X.ls elt25 ?_
   refine X.bi ?_
   refine X.nil ?_
   refine R.cd (fun hc12 => ?_) (fun hc12 => ?_)
   ·obtain ⟨x10, xs11, hd8, hx8, hds8, hlt8⟩ := drop_atI hza8 hc12
    rw [hd8] at h
    rw [w_eqIntS_L1] at h
    refine Run.skip ?_
    refine Run.seq ?_
    refine Run.block ?_
    refine Run.seq ?_
    refine Run.draw (footOf []) mixed (by kernel_rfl) (by kernel_rfl) ?_
    refine X.mv ?_
    refine X.mv ?_
    refine X.ix elt25 (idxL_spec hx8).1 (idxL_map int hx8) ?_
    refine X.lc shp3 ?_
    refine X.mv ?_
    refine X.mv ?_
    obtain ⟨v13, hv13, h⟩ := bindE h
    refine X.ix elt25 (idxL_spec hv13).1 (idxL_map int hv13) ?_
    refine X.lc shp3 ?_
    refine X.bi ?_
    refine X.nil ?_
    refine R.cd (fun hc14 => ?_) (fun hc14 => ?_)
    ·replace h := condT hc14 h
     refine Run.sr ?_
     refine X.an ?_
     cases h
     have h := hup3
     replace h := elimR h
     cases h
     refine R.f1 Tryz.results12 ?_
     rfl
    ·replace h := condF hc14 h
     refine Run.skip ?_
     refine Run.blk ?_
     refine Run.reg ?_
     refine X.mv ?_
     refine X.ad ?_
     refine X.an ?_
     exact R.ag hag8 (n8 - 1) (z9 + 1) (R.n3 (by first | (rw [hds8]; exact h) | (dsimp only; rw [hds8]; exact h)))
   ·rw [drop_endI hza8 hc12] at h
    rw [w_eqIntS_L1] at h
    refine Run.exit (by rfl) ?_
    exact R.mt hmeet4 () (Option.some.inj h)
  rintro p15 rfl
  replace h := elimL h
  refine Run.sr ?_
  refine X.an ?_
  cases h
  refine R.f1 Tryz.results12 ?_
  rfl
theorem w_eqMode_pc (b0 : TMode) (b1 : TMode) (r : Bool) (h : w_eqMode b0 b1 = some r) : PC Tryz.prog 181 [eTMode b0, eTMode b1] (bool r) := by
 unfold w_eqMode at h
 refine PC.start Tryz.func181 Tryz.ntmps181 rfl ok181 rfl ?_
 refine Run.sr ?_
 refine X.bx ?_
 refine X.bx ?_
 refine X.an ?_
 refine Run.seq ?_
 refine Run.sr ?_
 refine X.fl fld110_0 ?_
 refine X.ld shp3 ?_
 refine X.fl fld110_0 ?_
 refine X.ld shp3 ?_
 refine X.bi ?_
 refine X.nil ?_
 refine R.cd (fun hc1 => ?_) (fun hc1 => ?_)
 ·replace h := condT hc1 h
  refine Run.sr ?_
  refine X.an ?_
  cases h
  refine R.f1 Tryz.results181 ?_
  rfl
 ·replace h := condF hc1 h
  refine Run.skip ?_
  refine Run.seq ?_
  refine Run.sr ?_
  refine X.fl fld110_1 ?_
  refine X.ld shp25 ?_
  refine X.fl fld110_1 ?_
  refine X.ld shp25 ?_
  obtain ⟨v2, hv2, h⟩ := bindE h
  refine X.cp (w_eqIntS_pc _ _ _ hv2) ?_
  refine X.un (by rfl) (by rfl) (by rfl) ?_
  refine X.nil ?_
  refine R.cd (fun hc3 => ?_) (fun hc3 => ?_)
  ·replace h := condT hc3 h
   refine Run.sr ?_
   refine X.an ?_
   cases h
   refine R.f1 Tryz.results181 ?_
   rfl
  ·replace h := condF hc3 h
   refine Run.skip ?_
   refine Run.seq ?_
   refine Run.sr ?_
   refine X.fl fld110_2 ?_
   refine X.ld shp25 ?_
   refine X.fl fld110_2 ?_
   refine X.ld shp25 ?_
   obtain ⟨v4, hv4, h⟩ := bindE h
   refine X.cp (w_eqIntS_pc _ _ _ hv4) ?_
   refine X.un (by rfl) (by rfl) (by rfl) ?_
   refine X.nil ?_
   refine R.cd (fun hc5 => ?_) (fun hc5 => ?_)
   ·replace h := condT hc5 h
    refine Run.sr ?_
    refine X.an ?_
    cases h
    refine R.f1 Tryz.results181 ?_
    rfl
   ·replace h := condF hc5 h
    refine Run.skip ?_
    refine Run.sr ?_
    refine X.an ?_
    cases h
    refine R.f1 Tryz.results181 ?_
    rfl
theorem w_eqModeS_pc (b0 : List TMode) (b1 : List TMode) (r : Bool) (h : w_eqModeS b0 b1 = some r) : PC Tryz.prog 138 [.slice (b0.map eTMode), .slice (b1.map eTMode)] (bool r) := by
 unfold w_eqModeS at h
 refine PC.start Tryz.func138 Tryz.ntmps138 rfl ok138 rfl ?_
 refine Run.sr ?_
 refine X.an ?_
 refine Run.seq ?_
 refine Run.sr ?_
 refine X.mv ?_
 refine X.ls elt106 ?_
 refine X.mv ?_
 refine X.ls elt106 ?_
 refine X.bi ?_
 refine X.nil ?_
 refine R.cd (fun hc1 => ?_) (fun hc1 => ?_)
 ·replace h := condT hc1 h
  refine Run.sr ?_
  refine X.an ?_
  cases h
  refine R.f1 Tryz.results138 ?_
  rfl
 ·replace h := condF hc1 h
  refine Run.skip ?_
  refine Run.seq ?_
  refine Run.sr ?_
  refine X.an ?_
  obtain ⟨o2, ho2, h⟩ := bindE h
  refine R.join2 (β := Unit) [] [] (fun p16 S => S) (fun p16 M => M) (fun p16 => (Sum.inl p16) = o2) ?_ ?_
  ·intro JJ5 hmeet4
   have hup3 := h; clear h; have h := ho2; clear ho2
   refine Run.block ?_
   refine R.bndS (t := 0) (by rfl) (fun hbd8 => ?_)
   replace hbd8 : b0.length ≤ 9223372036854775807 := by first | (rw [List.length_map] at hbd8; exact hbd8) | simp
   refine R.lp (β := Int) [(0, .slice (b0.map eTMode)), (1, .slice (b1.map eTMode))] [] (fun bb S => (5, int bb) :: S) (fun bb M => M) (fun n bb => 0 ≤ bb ∧ bb + n = (b0.length : Int) ∧ w_eqModeS_L1 b1 (b0.drop bb.toNat) bb = some o2) b0.length (0 : Int) ⟨Int.le_refl _, by simp, h⟩ ?_
   clear h
   rintro JJ8 n8 z9 hag8 ⟨hza8, hzb8, h⟩
   refine Run.seq ?_
   refine Run.sr ?_
   refine X.mv ?_
   refine X.mv ?_
   refine X.ls elt106 ?_
   refine X.bi ?_
   refine X.nil ?_
   refine R.cd (fun hc12 => ?_) (fun hc12 => ?_)
   ·obtain ⟨x10, xs11, hd8, hx8, hds8, hlt8⟩ := drop_atI hza8 hc12
    rw [hd8] at h
    rw [w_eqModeS_L1] at h
    refine Run.skip ?_
    refine Run.seq ?_
    refine Run.block ?_
    refine Run.seq ?_
    refine Run.draw (footOf []) mixed (by kernel_rfl) (by kernel_rfl) ?_
    refine X.mv ?_
    refine X.mv ?_
    refine X.ix elt106 (idxL_spec hx8).1 (idxL_map eTMode hx8) ?_
    refine X.lc shp110 ?_
    refine X.mv ?_
    refine X.mv ?_
    obtain ⟨v13, hv13, h⟩ := bindE h
    refine X.ix elt106 (idxL_spec hv13).1 (idxL_map eTMode hv13) ?_
    refine X.lc shp110 ?_
    obtain ⟨v14, hv14, h⟩ := bindE h
    refine X.cp (w_eqMode_pc _ _ _ hv14) ?_
    refine X.un (by rfl) (by rfl) (by rfl) ?_
    refine X.nil ?_
    refine R.cd (fun hc15 => ?_) (fun hc15 => ?_)
    ·replace h := condT hc15 h
     refine Run.sr ?_
     refine X.an ?_
     cases h
     have h := hup3
     replace h := elimR h
     cases h
     refine R.f1 Tryz.results138 ?_
     rfl
    ·replace h := condF hc15 h
     refine Run.skip ?_
     refine Run.blk ?_
     refine Run.reg ?_
     refine X.mv ?_
     refine X.ad ?_
     refine X.an ?_
     exact R.ag hag8 (n8 - 1) (z9 + 1) (R.n3 (by first | (rw [hds8]; exact h) | (dsimp only; rw [hds8]; exact h)))
   ·rw [drop_endI hza8 hc12] at h
    rw [w_eqModeS_L1] at h
    refine Run.exit (by rfl) ?_
    exact R.mt hmeet4 () (Option.some.inj h)
  rintro p16 rfl
  replace h := elimL h
  refine Run.sr ?_
  refine X.an ?_
  cases h
  refine R.f1 Tryz.results138 ?_
  rfl
theorem w_eqActivity_pc (b0 : TActivity) (b1 : TActivity) (r : Bool) (h : w_eqActivity b0 b1 = some r) : PC Tryz.prog 91 [eTActivity b0, eTActivity b1] (bool r) := by
 unfold w_eqActivity at h
 refine PC.start Tryz.func91 Tryz.ntmps91 rfl ok91 rfl ?_
 refine Run.sr ?_
 refine X.bx ?_
 refine X.bx ?_
 refine X.an ?_
 refine Run.seq ?_
 refine Run.sr ?_
 refine X.fl fld108_0 ?_
 refine X.ld shp9 ?_
 refine X.fl fld108_0 ?_
 refine X.ld shp9 ?_
 refine X.bi ?_
 refine X.nil ?_
 refine R.cd (fun hc1 => ?_) (fun hc1 => ?_)
 ·replace h := condT hc1 h
  refine Run.sr ?_
  refine X.an ?_
  cases h
  refine R.f1 Tryz.results91 ?_
  rfl
 ·replace h := condF hc1 h
  refine Run.skip ?_
  refine Run.seq ?_
  refine Run.sr ?_
  refine X.fl fld108_1 ?_
  refine X.ld shp3 ?_
  refine X.fl fld108_1 ?_
  refine X.ld shp3 ?_
  refine X.bi ?_
  refine X.nil ?_
  refine R.cd (fun hc2 => ?_) (fun hc2 => ?_)
  ·replace h := condT hc2 h
   refine Run.sr ?_
   refine X.an ?_
   cases h
   refine R.f1 Tryz.results91 ?_
   rfl
  ·replace h := condF hc2 h
   refine Run.skip ?_
   refine Run.seq ?_
   refine Run.sr ?_
   refine X.fl fld108_2 ?_
   refine X.ld shp106 ?_
   refine X.fl fld108_2 ?_
   refine X.ld shp106 ?_
   obtain ⟨v3, hv3, h⟩ := bindE h
   refine X.cp (w_eqModeS_pc _ _ _ hv3) ?_
   refine X.un (by rfl) (by rfl) (by rfl) ?_
   refine X.nil ?_
   refine R.cd (fun hc4 => ?_) (fun hc4 => ?_)
   ·replace h := condT hc4 h
    refine Run.sr ?_
    refine X.an ?_
    cases h
    refine R.f1 Tryz.results91 ?_
    rfl
   ·replace h := condF hc4 h
    refine Run.skip ?_
    refine Run.sr ?_
    refine X.an ?_
    cases h
    refine R.f1 Tryz.results91 ?_
    rfl
theorem w_eqActivityS_pc (b0 : List TActivity) (b1 : List TActivity) (r : Bool) (h : w_eqActivityS b0 b1 = some r) : PC Tryz.prog 47 [.slice (b0.map eTActivity), .slice (b1.map eTActivity)] (bool r) := by
 unfold w_eqActivityS at h
 refine PC.start Tryz.func47 Tryz.ntmps47 rfl ok47 rfl ?_
 refine Run.sr ?_
 refine X.an ?_
 refine Run.seq ?_
 refine Run.sr ?_
 refine X.mv ?_
 refine X.ls elt32 ?_
 refine X.mv ?_
 refine X.ls elt32 ?_
 refine X.bi ?_
 refine X.nil ?_
 refine R.cd (fun hc1 => ?_) (fun hc1 => ?_)
 ·replace h := condT hc1 h
  refine Run.sr ?_
  refine X.an ?_
  cases h
  refine R.f1 Tryz.results47 ?_
  rfl
 ·replace h := condF hc1 h
  refine Run.skip ?_
  refine Run.seq ?_
  refine Run.sr ?_
  refine X.an ?_
  obtain ⟨o2, ho2, h⟩ := bindE h
  refine R.join2 (β := Unit) [] [] (fun p16 S => S) (fun p16 M => M) (fun p16 => (Sum.inl p16) = o2) ?_ ?_
  ·intro JJ5 hmeet4
   have hup3 := h; clear h; have h := ho2; clear ho2
   refine Run.block ?_
   refine R.bndS (t := 0) (by rfl) (fun hbd8 => ?_)
   replace hbd8 : b0.length ≤ 9223372036854775807 := by first | (rw [List.length_map] at hbd8; exact hbd8) | simp
   refine R.lp (β := Int) [(0, .slice (b0.map eTActivity)), (1, .slice (b1.map eTActivity))] [] (fun bb S => (5, int bb) :: S) (fun bb M => M) (fun n bb => 0 ≤ bb ∧ bb + n = (b0.length : Int) ∧ w_eqActivityS_L1 b1 (b0.drop bb.toNat) bb = some o2) b0.length (0 : Int) ⟨Int.le_refl _, by simp, h⟩ ?_
   clear h
   rintro JJ8 n8 z9 hag8 ⟨hza8, hzb8, h⟩
   refine Run.seq ?_
   refine Run.sr ?_
   refine X.mv ?_
   refine X.mv ?_
   refine X.ls elt32 ?_
   refine X.bi ?_
   refine X.nil ?_
   refine R.cd (fun hc12 => ?_) (fun hc12 => ?_)
   ·obtain ⟨x10, xs11, hd8, hx8, hds8, hlt8⟩ := drop_atI hza8 hc12
    rw [hd8] at h
    rw [w_eqActivityS_L1] at h
    refine Run.skip ?_
    refine Run.seq ?_
    refine Run.block ?_
    refine Run.seq ?_
    refine Run.draw (footOf []) mixed (by kernel_rfl) (by kernel_rfl) ?_
    refine X.mv ?_
    refine X.mv ?_
    refine X.ix elt32 (idxL_spec hx8).1 (idxL_map eTActivity hx8) ?_
    refine X.lc shp108 ?_
    refine X.mv ?_
    refine X.mv ?_
    obtain ⟨v13, hv13, h⟩ := bindE h
    refine X.ix elt32 (idxL_spec hv13).1 (idxL_map eTActivity hv13) ?_
    refine X.lc shp108 ?_
    obtain ⟨v14, hv14, h⟩ := bindE h
    refine X.cp (w_eqActivity_pc _ _ _ hv14) ?_
    refine X.un (by rfl) (by rfl) (by rfl) ?_
    refine X.nil ?_
    refine R.cd (fun hc15 => ?_) (fun hc15 => ?_)
    ·replace h := condT hc15 h
     refine Run.sr ?_
     refine X.an ?_
     cases h
     have h := hup3
     replace h := elimR h
     cases h
     refine R.f1 Tryz.results47 ?_
     rfl
    ·replace h := condF hc15 h
     refine Run.skip ?_
     refine Run.blk ?_
     refine Run.reg ?_
     refine X.mv ?_
     refine X.ad ?_
     refine X.an ?_
     exact R.ag hag8 (n8 - 1) (z9 + 1) (R.n3 (by first | (rw [hds8]; exact h) | (dsimp only; rw [hds8]; exact h)))
   ·rw [drop_endI hza8 hc12] at h
    rw [w_eqActivityS_L1] at h
    refine Run.exit (by rfl) ?_
    exact R.mt hmeet4 () (Option.some.inj h)
  rintro p16 rfl
  replace h := elimL h
  refine Run.sr ?_
  refine X.an ?_
  cases h
  refine R.f1 Tryz.results47 ?_
  rfl
theorem w_eqLink_pc (b0 : TLink) (b1 : TLink) (r : Bool) (h : w_eqLink b0 b1 = some r) : PC Tryz.prog 92 [eTLink b0, eTLink b1] (bool r) := by
 unfold w_eqLink at h
 refine PC.start Tryz.func92 Tryz.ntmps92 rfl ok92 rfl ?_
 refine Run.sr ?_
 refine X.bx ?_
 refine X.bx ?_
 refine X.an ?_
 refine Run.seq ?_
 refine Run.sr ?_
 refine X.fl fld68_0 ?_
 refine X.ld shp3 ?_
 refine X.fl fld68_0 ?_
 refine X.ld shp3 ?_
 refine X.bi ?_
 refine X.nil ?_
 refine R.cd (fun hc1 => ?_) (fun hc1 => ?_)
 ·replace h := condT hc1 h
  refine Run.sr ?_
  refine X.an ?_
  cases h
  refine R.f1 Tryz.results92 ?_
  rfl
 ·replace h := condF hc1 h
  refine Run.skip ?_
  refine Run.seq ?_
  refine Run.sr ?_
  refine X.fl fld68_1 ?_
  refine X.ld shp3 ?_
  refine X.fl fld68_1 ?_
  refine X.ld shp3 ?_
  refine X.bi ?_
  refine X.nil ?_
  refine R.cd (fun hc2 => ?_) (fun hc2 => ?_)
  ·replace h := condT hc2 h
   refine Run.sr ?_
   refine X.an ?_
   cases h
   refine R.f1 Tryz.results92 ?_
   rfl
  ·replace h := condF hc2 h
   refine Run.skip ?_
   refine Run.seq ?_
   refine Run.sr ?_
   refine X.fl fld68_2 ?_
   refine X.ld shp4 ?_
   refine X.fl fld68_2 ?_
   refine X.ld shp4 ?_
   refine X.neqBool Tryz.underlying4 (by rfl) (by rfl) (by rfl) ?_
   refine X.nil ?_
   refine R.cd (fun hc3 => ?_) (fun hc3 => ?_)
   ·replace h := condT hc3 h
    refine Run.sr ?_
    refine X.an ?_
    cases h
    refine R.f1 Tryz.results92 ?_
    rfl
   ·replace h := condF hc3 h
    refine Run.skip ?_
    refine Run.seq ?_
    refine Run.sr ?_
    refine X.fl fld68_3 ?_
    refine X.ld shp3 ?_
    refine X.fl fld68_3 ?_
    refine X.ld shp3 ?_
    refine X.bi ?_
    refine X.nil ?_
    refine R.cd (fun hc4 => ?_) (fun hc4 => ?_)
    ·replace h := condT hc4 h
     refine Run.sr ?_
     refine X.an ?_
     cases h
     refine R.f1 Tryz.results92 ?_
     rfl
    ·replace h := condF hc4 h
     refine Run.skip ?_
     refine Run.sr ?_
     refine X.an ?_
     cases h
     refine R.f1 Tryz.results92 ?_
     rfl
theorem w_eqLinkS_pc (b0 : List TLink) (b1 : List TLink) (r : Bool) (h : w_eqLinkS b0 b1 = some r) : PC Tryz.prog 48 [.slice (b0.map eTLink), .slice (b1.map eTLink)] (bool r) := by
 unfold w_eqLinkS at h
 refine PC.start Tryz.func48 Tryz.ntmps48 rfl ok48 rfl ?_
 refine Run.sr ?_
 refine X.an ?_
 refine Run.seq ?_
 refine Run.sr ?_
 refine X.mv ?_
 refine X.ls elt33 ?_
 refine X.mv ?_
 refine X.ls elt33 ?_
 refine X.bi ?_
 refine X.nil ?_
 refine R.cd (fun hc1 => ?_) (fun hc1 => ?_)
 ·replace h := condT hc1 h
  refine Run.sr ?_
  refine X.an ?_
  cases h
  refine R.f1 Tryz.results48 ?_
  rfl
 ·replace h := condF hc1 h
  refine Run.skip ?_
  refine Run.seq ?_
  refine Run.sr ?_
  refine X.an ?_
  obtain ⟨o2, ho2, h⟩ := bindE h
  refine R.join2 (β := Unit) [] [] (fun p16 S => S) (fun p16 M => M) (fun p16 => (Sum.inl p16) = o2) ?_ ?_
  ·intro JJ5 hmeet4
   have hup3 := h; clear h; have h := ho2; clear ho2
   refine Run.block ?_
   refine R.bndS (t := 0) (by rfl) (fun hbd8 => ?_)
   replace hbd8 : b0.length ≤ 9223372036854775807 := by first | (rw [List.length_map] at hbd8; exact hbd8) | simp
   refine R.lp (β := Int) [(0, .slice (b0.map eTLink)), (1, .slice (b1.map eTLink))] [] (fun bb S => (5, int bb) :: S) (fun bb M => M) (fun n bb => 0 ≤ bb ∧ bb + n = (b0.length : Int) ∧ w_eqLinkS_L1 b1 (b0.drop bb.toNat) bb = some o2) b0.length (0 : Int) ⟨Int.le_refl _, by simp, h⟩ ?_
   clear h
   rintro JJ8 n8 z9 hag8 ⟨hza8, hzb8, h⟩
   refine Run.seq ?_
   refine Run.sr ?_
   refine X.mv ?_
   refine X.mv ?_
   refine X.ls elt33 ?_
   refine X.bi ?_
   refine X.nil ?_
   refine R.cd (fun hc12 => ?_) (fun hc12 => ?_)
   ·obtain ⟨x10, xs11, hd8, hx8, hds8, hlt8⟩ := drop_atI hza8 hc12
    rw [hd8] at h
    rw [w_eqLinkS_L1] at h
    refine Run.skip ?_
    refine Run.seq ?_
    refine Run.block ?_
    refine Run.seq ?_
    refine Run.draw (footOf []) mixed (by kernel_rfl) (by kernel_rfl) ?_
    refine X.mv ?_
    refine X.mv ?_
    refine X.ix elt33 (idxL_spec hx8).1 (idxL_map eTLink hx8) ?_
    refine X.lc shp68 ?_
    refine X.mv ?_
    refine X.mv ?_
    obtain ⟨v13, hv13, h⟩ := bindE h
    refine X.ix elt33 (idxL_spec hv13).1 (idxL_map eTLink hv13) ?_
    refine X.lc shp68 ?_
    obtain ⟨v14, hv14, h⟩ := bindE h
    refine X.cp (w_eqLink_pc _ _ _ hv14) ?_
    refine X.un (by rfl) (by rfl) (by rfl) ?_
    refine X.nil ?_
    refine R.cd (fun hc15 => ?_) (fun hc15 => ?_)
    ·replace h := condT hc15 h
     refine Run.sr ?_
     refine X.an ?_
     cases h
     have h := hup3
     replace h := elimR h
     cases h
     refine R.f1 Tryz.results48 ?_
     rfl
    ·replace h := condF hc15 h
     refine Run.skip ?_
     refine Run.blk ?_
     refine Run.reg ?_
     refine X.mv ?_
     refine X.ad ?_
     refine X.an ?_
     exact R.ag hag8 (n8 - 1) (z9 + 1) (R.n3 (by first | (rw [hds8]; exact h) | (dsimp only; rw [hds8]; exact h)))
   ·rw [drop_endI hza8 hc12] at h
    rw [w_eqLinkS_L1] at h
    refine Run.exit (by rfl) ?_
    exact R.mt hmeet4 () (Option.some.inj h)
  rintro p16 rfl
  replace h := elimL h
  refine Run.sr ?_
  refine X.an ?_
  cases h
  refine R.f1 Tryz.results48 ?_
  rfl
theorem w_eqStep_pc (b0 : TStep) (b1 : TStep) (r : Bool) (h : w_eqStep b0 b1 = some r) : PC Tryz.prog 182 [eTStep b0, eTStep b1] (bool r) := by
 unfold w_eqStep at h
 refine PC.start Tryz.func182 Tryz.ntmps182 rfl ok182 rfl ?_
 refine Run.sr ?_
 refine X.bx ?_
 refine X.bx ?_
 refine X.an ?_
 refine Run.seq ?_
 refine Run.sr ?_
 refine X.fl fld88_0 ?_
 refine X.ld shp3 ?_
 refine X.fl fld88_0 ?_
 refine X.ld shp3 ?_
 refine X.bi ?_
 refine X.nil ?_
 refine R.cd (fun hc1 => ?_) (fun hc1 => ?_)
 ·replace h := condT hc1 h
  refine Run.sr ?_
  refine X.an ?_
  cases h
  refine R.f1 Tryz.results182 ?_
  rfl
 ·replace h := condF hc1 h
  refine Run.skip ?_
  refine Run.seq ?_
  refine Run.sr ?_
  refine X.fl fld88_1 ?_
  refine X.ld shp3 ?_
  refine X.fl fld88_1 ?_
  refine X.ld shp3 ?_
  refine X.bi ?_
  refine X.nil ?_
  refine R.cd (fun hc2 => ?_) (fun hc2 => ?_)
  ·replace h := condT hc2 h
   refine Run.sr ?_
   refine X.an ?_
   cases h
   refine R.f1 Tryz.results182 ?_
   rfl
  ·replace h := condF hc2 h
   refine Run.skip ?_
   refine Run.sr ?_
   refine X.an ?_
   cases h
   refine R.f1 Tryz.results182 ?_
   rfl
theorem w_eqStepS_pc (b0 : List TStep) (b1 : List TStep) (r : Bool) (h : w_eqStepS b0 b1 = some r) : PC Tryz.prog 139 [.slice (b0.map eTStep), .slice (b1.map eTStep)] (bool r) := by
 unfold w_eqStepS at h
 refine PC.start Tryz.func139 Tryz.ntmps139 rfl ok139 rfl ?_
 refine Run.sr ?_
 refine X.an ?_
 refine Run.seq ?_
 refine Run.sr ?_
 refine X.mv ?_
 refine X.ls elt84 ?_
 refine X.mv ?_
 refine X.ls elt84 ?_
 refine X.bi ?_
 refine X.nil ?_
 refine R.cd (fun hc1 => ?_) (fun hc1 => ?_)
 ·replace h := condT hc1 h
  refine Run.sr ?_
  refine X.an ?_
  cases h
  refine R.f1 Tryz.results139 ?_
  rfl
 ·replace h := condF hc1 h
  refine Run.skip ?_
  refine Run.seq ?_
  refine Run.sr ?_
  refine X.an ?_
  obtain ⟨o2, ho2, h⟩ := bindE h
  refine R.join2 (β := Unit) [] [] (fun p16 S => S) (fun p16 M => M) (fun p16 => (Sum.inl p16) = o2) ?_ ?_
  ·intro JJ5 hmeet4
   have hup3 := h; clear h; have h := ho2; clear ho2
   refine Run.block ?_
   refine R.bndS (t := 0) (by rfl) (fun hbd8 => ?_)
   replace hbd8 : b0.length ≤ 9223372036854775807 := by first | (rw [List.length_map] at hbd8; exact hbd8) | simp
   refine R.lp (β := Int) [(0, .slice (b0.map eTStep)), (1, .slice (b1.map eTStep))] [] (fun bb S => (5, int bb) :: S) (fun bb M => M) (fun n bb => 0 ≤ bb ∧ bb + n = (b0.length : Int) ∧ w_eqStepS_L1 b1 (b0.drop bb.toNat) bb = some o2) b0.length (0 : Int) ⟨Int.le_refl _, by simp, h⟩ ?_
   clear h
   rintro JJ8 n8 z9 hag8 ⟨hza8, hzb8, h⟩
   refine Run.seq ?_
   refine Run.sr ?_
   refine X.mv ?_
   refine X.mv ?_
   refine X.ls elt84 ?_
   refine X.bi ?_
   refine X.nil ?_
   refine R.cd (fun hc12 => ?_) (fun hc12 => ?_)
   ·obtain ⟨x10, xs11, hd8, hx8, hds8, hlt8⟩ := drop_atI hza8 hc12
    rw [hd8] at h
    rw [w_eqStepS_L1] at h
    refine Run.skip ?_
    refine Run.seq ?_
    refine Run.block ?_
    refine Run.seq ?_
    refine Run.draw (footOf []) mixed (by kernel_rfl) (by kernel_rfl) ?_
    refine X.mv ?_
    refine X.mv ?_
    refine X.ix elt84 (idxL_spec hx8).1 (idxL_map eTStep hx8) ?_
    refine X.lc shp88 ?_
    refine X.mv ?_
    refine X.mv ?_
    obtain ⟨v13, hv13, h⟩ := bindE h
    refine X.ix elt84 (idxL_spec hv13).1 (idxL_map eTStep hv13) ?_
    refine X.lc shp88 ?_
    obtain ⟨v14, hv14, h⟩ := bindE h
    refine X.cp (w_eqStep_pc _ _ _ hv14) ?_
    refine X.un (by rfl) (by rfl) (by rfl) ?_
    refine X.nil ?_
    refine R.cd (fun hc15 => ?_) (fun hc15 => ?_)
    ·replace h := condT hc15 h
     refine Run.sr ?_
     refine X.an ?_
     cases h
     have h := hup3
     replace h := elimR h
     cases h
     refine R.f1 Tryz.results139 ?_
     rfl
    ·replace h := condF hc15 h
     refine Run.skip ?_
     refine Run.blk ?_
     refine Run.reg ?_
     refine X.mv ?_
     refine X.ad ?_
     refine X.an ?_
     exact R.ag hag8 (n8 - 1) (z9 + 1) (R.n3 (by first | (rw [hds8]; exact h) | (dsimp only; rw [hds8]; exact h)))
   ·rw [drop_endI hza8 hc12] at h
    rw [w_eqStepS_L1] at h
    refine Run.exit (by rfl) ?_
    exact R.mt hmeet4 () (Option.some.inj h)
  rintro p16 rfl
  replace h := elimL h
  refine Run.sr ?_
  refine X.an ?_
  cases h
  refine R.f1 Tryz.results139 ?_
  rfl
theorem w_eqIntSS_pc (b0 : List (List Int)) (b1 : List (List Int)) (r : Bool) (h : w_eqIntSS b0 b1 = some r) : PC Tryz.prog 62 [.slice (b0.map l_int), .slice (b1.map l_int)] (bool r) := by
 unfold w_eqIntSS at h
 refine PC.start Tryz.func62 Tryz.ntmps62 rfl ok62 rfl ?_
 refine Run.sr ?_
 refine X.an ?_
 refine Run.seq ?_
 refine Run.sr ?_
 refine X.mv ?_
 refine X.ls elt45 ?_
 refine X.mv ?_
 refine X.ls elt45 ?_
 refine X.bi ?_
 refine X.nil ?_
 refine R.cd (fun hc1 => ?_) (fun hc1 => ?_)
 ·replace h := condT hc1 h
  refine Run.sr ?_
  refine X.an ?_
  cases h
  refine R.f1 Tryz.results62 ?_
  rfl
 ·replace h := condF hc1 h
  refine Run.skip ?_
  refine Run.seq ?_
  refine Run.sr ?_
  refine X.an ?_
  obtain ⟨o2, ho2, h⟩ := bindE h
  refine R.join2 (β := Unit) [] [] (fun p16 S => S) (fun p16 M => M) (fun p16 => (Sum.inl p16) = o2) ?_ ?_
  ·intro JJ5 hmeet4
   have hup3 := h; clear h; have h := ho2; clear ho2
   refine Run.block ?_
   refine R.bndS (t := 0) (by rfl) (fun hbd8 => ?_)
   replace hbd8 : b0.length ≤ 9223372036854775807 := by first | (rw [List.length_map] at hbd8; exact hbd8) | simp
   refine R.lp (β := Int) [(0, .slice (b0.map l_int)), (1, .slice (b1.map l_int))] [] (fun bb S => (5, int bb) :: S) (fun bb M => M) (fun n bb => 0 ≤ bb ∧ bb + n = (b0.length : Int) ∧ w_eqIntSS_L1 b1 (b0.drop bb.toNat) bb = some o2) b0.length (0 : Int) ⟨Int.le_refl _, by simp, h⟩ ?_
   clear h
   rintro JJ8 n8 z9 hag8 ⟨hza8, hzb8, h⟩
   refine Run.seq ?_
   refine Run.sr ?_
   refine X.mv ?_
   refine X.mv ?_
   refine X.ls elt45 ?_
   refine X.bi ?_
   refine X.nil ?_
   refine R.cd (fun hc12 => ?_) (fun hc12 => ?_)
   ·obtain ⟨x10, xs11, hd8, hx8, hds8, hlt8⟩ := drop_atI hza8 hc12
    rw [hd8] at h
    rw [w_eqIntSS_L1] at h
    refine Run.skip ?_
    refine Run.seq ?_
    refine Run.block ?_
    refine Run.seq ?_
    refine Run.draw (footOf []) mixed (by kernel_rfl) (by kernel_rfl) ?_
    refine X.mv ?_
    refine X.mv ?_
    refine X.ix elt45 (idxL_spec hx8).1 (idxL_map l_int hx8) ?_
    refine X.lc shp25 ?_
    refine X.mv ?_
    refine X.mv ?_
    obtain ⟨v13, hv13, h⟩ := bindE h
    refine X.ix elt45 (idxL_spec hv13).1 (idxL_map l_int hv13) ?_
    refine X.lc shp25 ?_
    obtain ⟨v14, hv14, h⟩ := bindE h
    refine X.cp (w_eqIntS_pc _ _ _ hv14) ?_
    refine X.un (by rfl) (by rfl) (by rfl) ?_
    refine X.nil ?_
    refine R.cd (fun hc15 => ?_) (fun hc15 => ?_)
    ·replace h := condT hc15 h
     refine Run.sr ?_
     refine X.an ?_
     cases h
     have h := hup3
     replace h := elimR h
     cases h
     refine R.f1 Tryz.results62 ?_
     rfl
    ·replace h := condF hc15 h
     refine Run.skip ?_
     refine Run.blk ?_
     refine Run.reg ?_
     refine X.mv ?_
     refine X.ad ?_
     refine X.an ?_
     exact R.ag hag8 (n8 - 1) (z9 + 1) (R.n3 (by first | (rw [hds8]; exact h) | (dsimp only; rw [hds8]; exact h)))
   ·rw [drop_endI hza8 hc12] at h
    rw [w_eqIntSS_L1] at h
    refine Run.exit (by rfl) ?_
    exact R.mt hmeet4 () (Option.some.inj h)
  rintro p16 rfl
  replace h := elimL h
  refine Run.sr ?_
  refine X.an ?_
  cases h
  refine R.f1 Tryz.results62 ?_
  rfl
theorem w_eqResource_pc (b0 : TResource) (b1 : TResource) (r : Bool) (h : w_eqResource b0 b1 = some r) : PC Tryz.prog 93 [eTResource b0, eTResource b1] (bool r) := by
 unfold w_eqResource at h
 refine PC.start Tryz.func93 Tryz.ntmps93 rfl ok93 rfl ?_
 refine Run.sr ?_
 refine X.bx ?_
 refine X.bx ?_
 refine X.an ?_
 refine Run.seq ?_
 refine Run.sr ?_
 refine X.fl fld86_0 ?_
 refine X.ld shp84 ?_
 refine X.fl fld86_0 ?_
 refine X.ld shp84 ?_
 obtain ⟨v1, hv1, h⟩ := bindE h
 refine X.cp (w_eqStepS_pc _ _ _ hv1) ?_
 refine X.un (by rfl) (by rfl) (by rfl) ?_
 refine X.nil ?_
 refine R.cd (fun hc2 => ?_) (fun hc2 => ?_)
 ·replace h := condT hc2 h
  refine Run.sr ?_
  refine X.an ?_
  cases h
  refine R.f1 Tryz.results93 ?_
  rfl
 ·replace h := condF hc2 h
  refine Run.skip ?_
  refine Run.seq ?_
  refine Run.sr ?_
  refine X.fl fld86_1 ?_
  refine X.ld shp45 ?_
  refine X.fl fld86_1 ?_
  refine X.ld shp45 ?_
  obtain ⟨v3, hv3, h⟩ := bindE h
  refine X.cp (w_eqIntSS_pc _ _ _ hv3) ?_
  refine X.un (by rfl) (by rfl) (by rfl) ?_
  refine X.nil ?_
  refine R.cd (fun hc4 => ?_) (fun hc4 => ?_)
  ·replace h := condT hc4 h
   refine Run.sr ?_
   refine X.an ?_
   cases h
   refine R.f1 Tryz.results93 ?_
   rfl
  ·replace h := condF hc4 h
   refine Run.skip ?_
   refine Run.sr ?_
   refine X.an ?_
   cases h
   refine R.f1 Tryz.results93 ?_
   rfl
theorem w_eqResourceS_pc (b0 : List TResource) (b1 : List TResource) (r : Bool) (h : w_eqResourceS b0 b1 = some r) : PC Tryz.prog 49 [.slice (b0.map eTResource), .slice (b1.map eTResource)] (bool r) := by
 unfold w_eqResourceS at h
 refine PC.start Tryz.func49 Tryz.ntmps49 rfl ok49 rfl ?_
 refine Run.sr ?_
 refine X.an ?_
 refine Run.seq ?_
 refine Run.sr ?_
 refine X.mv ?_
 refine X.ls elt34 ?_
 refine X.mv ?_
 refine X.ls elt34 ?_
 refine X.bi ?_
 refine X.nil ?_
 refine R.cd (fun hc1 => ?_) (fun hc1 => ?_)
 ·replace h := condT hc1 h
  refine Run.sr ?_
  refine X.an ?_
  cases h
  refine R.f1 Tryz.results49 ?_
  rfl
 ·replace h := condF hc1 h
  refine Run.skip ?_
  refine Run.seq ?_
  refine Run.sr ?_
  refine X.an ?_
  obtain ⟨o2, ho2, h⟩ := bindE h
  refine R.join2 (β := Unit) [] [] (fun p16 S => S) (fun p16 M => M) (fun p16 => (Sum.inl p16) = o2) ?_ ?_
  ·intro JJ5 hmeet4
   have hup3 := h; clear h; have h := ho2; clear ho2
   refine Run.block ?_
   refine R.bndS (t := 0) (by rfl) (fun hbd8 => ?_)
   replace hbd8 : b0.length ≤ 9223372036854775807 := by first | (rw [List.length_map] at hbd8; exact hbd8) | simp
   refine R.lp (β := Int) [(0, .slice (b0.map eTResource)), (1, .slice (b1.map eTResource))] [] (fun bb S => (5, int bb) :: S) (fun bb M => M) (fun n bb => 0 ≤ bb ∧ bb + n = (b0.length : Int) ∧ w_eqResourceS_L1 b1 (b0.drop bb.toNat) bb = some o2) b0.length (0 : Int) ⟨Int.le_refl _, by simp, h⟩ ?_
   clear h
   rintro JJ8 n8 z9 hag8 ⟨hza8, hzb8, h⟩
   refine Run.seq ?_
   refine Run.sr ?_
   refine X.mv ?_
   refine X.mv ?_
   refine X.ls elt34 ?_
   refine X.bi ?_
   refine X.nil ?_
   refine R.cd (fun hc12 => ?_) (fun hc12 => ?_)
   ·obtain ⟨x10, xs11, hd8, hx8, hds8, hlt8⟩ := drop_atI hza8 hc12
    rw [hd8] at h
    rw [w_eqResourceS_L1] at h
    refine Run.skip ?_
    refine Run.seq ?_
    refine Run.block ?_
    refine Run.seq ?_
    refine Run.draw (footOf []) mixed (by kernel_rfl) (by kernel_rfl) ?_
    refine X.mv ?_
    refine X.mv ?_
    refine X.ix elt34 (idxL_spec hx8).1 (idxL_map eTResource hx8) ?_
    refine X.lc shp86 ?_
    refine X.mv ?_
    refine X.mv ?_
    obtain ⟨v13, hv13, h⟩ := bindE h
    refine X.ix elt34 (idxL_spec hv13).1 (idxL_map eTResource hv13) ?_
    refine X.lc shp86 ?_
    obtain ⟨v14, hv14, h⟩ := bindE h
    refine X.cp (w_eqResource_pc _ _ _ hv14) ?_
    refine X.un (by rfl) (by rfl) (by rfl) ?_
    refine X.nil ?_
    refine R.cd (fun hc15 => ?_) (fun hc15 => ?_)
    ·replace h := condT hc15 h
     refine Run.sr ?_
     refine X.an ?_
     cases h
     have h := hup3
     replace h := elimR h
     cases h
     refine R.f1 Tryz.results49 ?_
     rfl
    ·replace h := condF hc15 h
     refine Run.skip ?_
     refine Run.blk ?_
     refine Run.reg ?_
     refine X.mv ?_
     refine X.ad ?_
     refine X.an ?_
     exact R.ag hag8 (n8 - 1) (z9 + 1) (R.n3 (by first | (rw [hds8]; exact h) | (dsimp only; rw [hds8]; exact h)))
   ·rw [drop_endI hza8 hc12] at h
    rw [w_eqResourceS_L1] at h
    refine Run.exit (by rfl) ?_
    exact R.mt hmeet4 () (Option.some.inj h)
  rintro p16 rfl
  replace h := elimL h
  refine Run.sr ?_
  refine X.an ?_
  cases h
  refine R.f1 Tryz.results49 ?_
  rfl
theorem w_eqProject_pc (b0 : TProject) (b1 : TProject) (r : Bool) (h : w_eqProject b0 b1 = some r) : PC Tryz.prog 13 [eTProject b0, eTProject b1] (bool r) := by
 unfold w_eqProject at h
 refine PC.start Tryz.func13 Tryz.ntmps13 rfl ok13 rfl ?_
 refine Run.sr ?_
 refine X.bx ?_
 refine X.bx ?_
 refine X.an ?_
 refine Run.seq ?_
 refine Run.sr ?_
 refine X.fl fld36_0 ?_
 refine X.ld shp3 ?_
 refine X.fl fld36_0 ?_
 refine X.ld shp3 ?_
 refine X.bi ?_
 refine X.nil ?_
 refine R.cd (fun hc1 => ?_) (fun hc1 => ?_)
 ·replace h := condT hc1 h
  refine Run.sr ?_
  refine X.an ?_
  cases h
  refine R.f1 Tryz.results13 ?_
  rfl
 ·replace h := condF hc1 h
  refine Run.skip ?_
  refine Run.seq ?_
  refine Run.sr ?_
  refine X.fl fld36_1 ?_
  refine X.ld shp32 ?_
  refine X.fl fld36_1 ?_
  refine X.ld shp32 ?_
  obtain ⟨v2, hv2, h⟩ := bindE h
  refine X.cp (w_eqActivityS_pc _ _ _ hv2) ?_
  refine X.un (by rfl) (by rfl) (by rfl) ?_
  refine X.nil ?_
  refine R.cd (fun hc3 => ?_) (fun hc3 => ?_)
  ·replace h := condT hc3 h
   refine Run.sr ?_
   refine X.an ?_
   cases h
   refine R.f1 Tryz.results13 ?_
   rfl
  ·replace h := condF hc3 h
   refine Run.skip ?_
   refine Run.seq ?_
   refine Run.sr ?_
   refine X.fl fld36_2 ?_
   refine X.ld shp33 ?_
   refine X.fl fld36_2 ?_
   refine X.ld shp33 ?_
   obtain ⟨v4, hv4, h⟩ := bindE h
   refine X.cp (w_eqLinkS_pc _ _ _ hv4) ?_
   refine X.un (by rfl) (by rfl) (by rfl) ?_
   refine X.nil ?_
   refine R.cd (fun hc5 => ?_) (fun hc5 => ?_)
   ·replace h := condT hc5 h
    refine Run.sr ?_
    refine X.an ?_
    cases h
    refine R.f1 Tryz.results13 ?_
    rfl
   ·replace h := condF hc5 h
    refine Run.skip ?_
    refine Run.seq ?_
    refine Run.sr ?_
    refine X.fl fld36_3 ?_
    refine X.ld shp34 ?_
    refine X.fl fld36_3 ?_
    refine X.ld shp34 ?_
    obtain ⟨v6, hv6, h⟩ := bindE h
    refine X.cp (w_eqResourceS_pc _ _ _ hv6) ?_
    refine X.un (by rfl) (by rfl) (by rfl) ?_
    refine X.nil ?_
    refine R.cd (fun hc7 => ?_) (fun hc7 => ?_)
    ·replace h := condT hc7 h
     refine Run.sr ?_
     refine X.an ?_
     cases h
     refine R.f1 Tryz.results13 ?_
     rfl
    ·replace h := condF hc7 h
     refine Run.skip ?_
     refine Run.seq ?_
     refine Run.sr ?_
     refine X.fl fld36_4 ?_
     refine X.ld shp25 ?_
     refine X.fl fld36_4 ?_
     refine X.ld shp25 ?_
     obtain ⟨v8, hv8, h⟩ := bindE h
     refine X.cp (w_eqIntS_pc _ _ _ hv8) ?_
     refine X.un (by rfl) (by rfl) (by rfl) ?_
     refine X.nil ?_
     refine R.cd (fun hc9 => ?_) (fun hc9 => ?_)
     ·replace h := condT hc9 h
      refine Run.sr ?_
      refine X.an ?_
      cases h
      refine R.f1 Tryz.results13 ?_
      rfl
     ·replace h := condF hc9 h
      refine Run.skip ?_
      refine Run.sr ?_
      refine X.an ?_
      cases h
      refine R.f1 Tryz.results13 ?_
      rfl
theorem w_szDomain_pc (b0 : TDomain) (b1 : Int) (r : Int) (h : w_szDomain b0 b1 = some r) : PC Tryz.prog 17 [eTDomain b0, int b1] (int r) := by
 unfold w_szDomain at h
 refine PC.start Tryz.func17 Tryz.ntmps17 rfl ok17 rfl ?_
 refine Run.sr ?_
 refine X.bx ?_
 refine X.an ?_
 refine Run.sr ?_
 refine X.fl fld47_0 ?_
 refine X.ld shp25 ?_
 refine X.mv ?_
 obtain ⟨v1, hv1, h⟩ := bindE h
 refine X.cp (w_szIntS_pc _ _ _ hv1) ?_
 refine X.an ?_
 refine Run.seq ?_
 refine Run.sr ?_
 refine X.mv ?_
 refine X.bi ?_
 refine X.nil ?_
 refine R.cd (fun hc2 => ?_) (fun hc2 => ?_)
 ·replace h := condT hc2 h
  refine Run.sr ?_
  refine X.an ?_
  cases h
  refine R.f1 Tryz.results17 ?_
  rfl
 ·replace h := condF hc2 h
  refine Run.skip ?_
  refine Run.sr ?_
  refine X.fl fld47_1 ?_
  refine X.ld shp25 ?_
  refine X.mv ?_
  obtain ⟨v3, hv3, h⟩ := bindE h
  refine X.cp (w_szIntS_pc _ _ _ hv3) ?_
  refine X.an ?_
  refine Run.seq ?_
  refine Run.sr ?_
  refine X.mv ?_
  refine X.bi ?_
  refine X.nil ?_
  refine R.cd (fun hc4 => ?_) (fun hc4 => ?_)
  ·replace h := condT hc4 h
   refine Run.sr ?_
   refine X.an ?_
   cases h
   refine R.f1 Tryz.results17 ?_
   rfl
  ·replace h := condF hc4 h
   refine Run.skip ?_
   refine Run.sr ?_
   refine X.fl fld47_2 ?_
   refine X.ld shp45 ?_
   refine X.mv ?_
   obtain ⟨v5, hv5, h⟩ := bindE h
   refine X.cp (w_szIntSS_pc _ _ _ hv5) ?_
   refine X.an ?_
   refine Run.seq ?_
   refine Run.sr ?_
   refine X.mv ?_
   refine X.bi ?_
   refine X.nil ?_
   refine R.cd (fun hc6 => ?_) (fun hc6 => ?_)
   ·replace h := condT hc6 h
    refine Run.sr ?_
    refine X.an ?_
    cases h
    refine R.f1 Tryz.results17 ?_
    rfl
   ·replace h := condF hc6 h
    refine Run.skip ?_
    refine Run.sr ?_
    refine X.mv ?_
    refine X.an ?_
    cases h
    refine R.f1 Tryz.results17 ?_
    rfl
theorem w_toDomain_pc (b0 : TDomain) (r : TDomain) (h : w_toDomain b0 = some r) : PCM Tryz.prog 19 [.agg [.yng 63 (.slice (b0.MinStart.map int)), .yng 63 (.slice (b0.MaxStart.map int)), .yng 63 (.slice (b0.Modes.map l_int))]] [(63, .yreg false false)] (.agg [.fresh false 3 1 (r.MinStart.map int), .fresh false 3 1 (r.MaxStart.map int), .fresh false 25 1 (r.Modes.map l_int)]) [(63, .yreg false false)] := by
 unfold w_toDomain at h
 refine PCM.start Tryz.func19 Tryz.ntmps19 rfl ok19 rfl (by rfl) (by rfl) (by rfl) (by rfl) (by rfl) ?_
 refine Run.sr ?_
 refine X.bx ?_
 refine X.alloc zer51 (by rfl) (by rfl) (by rfl) ?_
 refine X.nil ?_
 refine Run.sr ?_
 refine X.alloc zer51 (by rfl) (by rfl) (by rfl) ?_
 refine X.nil ?_
 refine Run.sr ?_
 refine X.fl fld47_0 ?_
 refine X.ld shp25 ?_
 obtain ⟨v1, hv1, h⟩ := bindE h
 refine X.callM [(63, 63)] (w_toIntS_pc _ _ hv1) (by rfl) (by rfl) (.yngB 63 (by rfl) (by rfl) .nil) (by rfl) ⟨rfl, rfl, ⟨_, by rfl, by constructor⟩, by constructor, trivial⟩ (by rfl) (by rfl) (by rfl) (by rfl) (by rfl) (by rfl) (by rfl) (by rfl) (by rfl) ?_
 refine X.fl fld51_0 ?_
 refine X.sl shp25 ?_
 refine X.nil ?_
 refine Run.sr ?_
 refine X.fl fld47_1 ?_
 refine X.ld shp25 ?_
 obtain ⟨v2, hv2, h⟩ := bindE h
 refine X.callM [(63, 63)] (w_toIntS_pc _ _ hv2) (by rfl) (by rfl) (.yngB 63 (by rfl) (by rfl) .nil) (by rfl) ⟨rfl, rfl, ⟨_, by rfl, by constructor⟩, by constructor, trivial⟩ (by rfl) (by rfl) (by rfl) (by rfl) (by rfl) (by rfl) (by rfl) (by rfl) (by rfl) ?_
 refine X.fl fld51_1 ?_
 refine X.sl shp25 ?_
 refine X.nil ?_
 refine Run.sr ?_
 refine X.fl fld47_2 ?_
 refine X.ld shp45 ?_
 obtain ⟨v3, hv3, h⟩ := bindE h
 refine X.callM [(63, 63)] (w_toIntSS_pc _ _ hv3) (by rfl) (by rfl) (.yngB 63 (by rfl) (by rfl) .nil) (by rfl) ⟨rfl, rfl, ⟨_, by rfl, by constructor⟩, by constructor, trivial⟩ (by rfl) (by rfl) (by rfl) (by rfl) (by rfl) (by rfl) (by rfl) (by rfl) (by rfl) ?_
 refine X.fl fld51_2 ?_
 refine X.sl shp45 ?_
 refine X.nil ?_
 refine Run.sr ?_
 refine X.ld shp51 ?_
 refine X.sl shp51 ?_
 refine X.nil ?_
 cases h
 exact R.finMC Tryz.results19 shp51 (by rfl) (by rfl) (by rfl) (by rfl) (by repeat (first | trivial | refine ⟨by first | rfl | simp [setL], ?_⟩)) (by rfl) (by repeat (first | exact trivial | refine ⟨by rfl, ?_⟩)) rfl
theorem s_SetOk_pc (b0 : List Int) (r : Bool) (h : s_SetOk b0 = some r) : PC Tryz.prog 99 [.slice (b0.map int)] (bool r) := by
 unfold s_SetOk at h
 refine PC.start Tryz.func99 Tryz.ntmps99 rfl ok99 rfl ?_
 refine Run.sr ?_
 refine X.an ?_
 refine Run.seq ?_
 refine Run.sr ?_
 refine X.mv ?_
 refine X.ls elt25 ?_
 refine X.mn ?_
 obtain ⟨o1, ho1, h⟩ := bindE h
 refine R.join2 (β := Unit) [] [] (fun p16 S => S) (fun p16 M => M) (fun p16 => (Sum.inl p16) = o1) ?_ ?_
 ·intro JJ4 hmeet3
  have hup2 := h; clear h; have h := ho1; clear ho1
  refine Run.block ?_
  refine R.bndS (t := 0) (by rfl) (fun hbd7 => ?_)
  replace hbd7 : b0.length ≤ 9223372036854775807 := by first | (rw [List.length_map] at hbd7; exact hbd7) | simp
  refine R.lp (β := Int) [(0, .slice (b0.map int)), (5, int (b0.length : Int))] [] (fun bb S => (6, int bb) :: S) (fun bb M => M) (fun n bb => 0 ≤ bb ∧ bb + n = (b0.length : Int) ∧ s_SetOk_L1 b0 (b0.drop bb.toNat) bb = some o1) b0.length (0 : Int) ⟨Int.le_refl _, by simp, h⟩ ?_
  clear h
  rintro JJ7 n7 z8 hag7 ⟨hza7, hzb7, h⟩
  refine Run.sr ?_
  refine X.bi ?_
  refine X.nil ?_
  refine Run.seq ?_
  refine R.cd (fun hc11 => ?_) (fun hc11 => ?_)
  ·obtain ⟨x9, xs10, hd7, hx7, hds7, hlt7⟩ := drop_atI hza7 hc11
   rw [hd7] at h
   rw [s_SetOk_L1] at h
   refine Run.skip ?_
   refine Run.seq ?_
   refine Run.block ?_
   refine Run.sr ?_
   refine X.mv ?_
   refine X.an ?_
   refine Run.seq ?_
   obtain ⟨e12, he12, h2⟩ := bindE h
   refine R.drawG [(0, .slice (b0.map int)), (5, int (b0.length : Int)), (6, int z8), (22, bool e12)] [] (footOf []) mixed (by kernel_rfl) (by kernel_rfl) ?_ ?_
   ·clear h; have h := he12; clear he12 h2
    refine X.mv ?_
    refine X.bi ?_
    refine X.mv ?_
    refine X.iG (fun hb13 => ?_) (fun hb13 => ?_)
    ·replace h := condT hb13 h
     refine X.mv ?_
     refine X.gy ?_
     refine X.mv ?_
     refine X.gy ?_
     refine X.sub (by rfl) (by rfl) (by omega) (by rfl) ?_
     refine X.gy ?_
     obtain ⟨v14, hv14, h⟩ := bindE h
     refine X.ix elt25 (idxL_spec hv14).1 (idxL_map int hv14) ?_
     refine X.gy ?_
     refine X.lc shp3 ?_
     refine X.gy ?_
     refine X.mv ?_
     refine X.gy ?_
     refine X.mv ?_
     refine X.gy ?_
     refine X.ix elt25 (idxL_spec hx7).1 (idxL_map int hx7) ?_
     refine X.gy ?_
     refine X.lc shp3 ?_
     refine X.gy ?_
     refine X.bi ?_
     refine X.pT ?_
     cases h
     exact X.eG
    ·replace h := condF hb13 h
     refine X.gn ?_
     refine X.gn ?_
     refine X.gn ?_
     refine X.gn ?_
     refine X.gn ?_
     refine X.gn ?_
     refine X.gn ?_
     refine X.gn ?_
     refine X.gn ?_
     refine X.pF ?_
     cases h
     exact X.eG
   replace h := h2; clear h2
   refine R.cd (fun hc15 => ?_) (fun hc15 => ?_)
   ·replace h := condT hc15 h
    refine Run.sr ?_
    refine X.an ?_
    cases h
    have h := hup2
    replace h := elimR h
    cases h
    refine R.f1 Tryz.results99 ?_
    rfl
   ·replace h := condF hc15 h
    refine Run.skip ?_
    refine Run.blk ?_
    refine Run.reg ?_
    refine X.ad ?_
    refine X.mn ?_
    exact R.ag hag7 (n7 - 1) (z8 + 1) (R.n3 (by first | (rw [hds7]; exact h) | (dsimp only; rw [hds7]; exact h)))
  ·rw [drop_endI hza7 hc11] at h
   rw [s_SetOk_L1] at h
   refine Run.exit (by rfl) ?_
   exact R.mt hmeet3 () (Option.some.inj h)
 rintro p16 rfl
 replace h := elimL h
 refine Run.sr ?_
 refine X.an ?_
 cases h
 refine R.f1 Tryz.results99 ?_
 rfl
theorem s_ModeIndexes_pc (b0 : TActivity) (r : List Int) (h : s_ModeIndexes b0 = some r) : PC Tryz.prog 101 [eTActivity b0] (.fresh false 3 1 (r.map int)) := by
 unfold s_ModeIndexes at h
 refine PC.start Tryz.func101 Tryz.ntmps101 rfl ok101 rfl ?_
 refine Run.sr ?_
 refine X.bx ?_
 refine X.an ?_
 refine Run.sr ?_
 refine X.fl fld108_2 ?_
 refine X.ld shp106 ?_
 refine X.ls elt106 ?_
 obtain ⟨v1, hv1, h⟩ := bindE h
 refine X.callF (s_IntRange_pc _ _ hv1) (by rfl) (by rfl) (by rfl) (by trivial) (by rfl) (by rfl) (by rfl) (by rfl) ?_
 refine X.an ?_
 cases h
 refine R.fin1o Tryz.results101 (by rfl) (by rfl) (by first | rfl | simp [setL] | omega) ?_
 rfl
theorem s_SetSubset_pc (b0 : List Int) (b1 : List Int) (r : Bool) (h : s_SetSubset b0 b1 = some r) : PC Tryz.prog 100 [.slice (b0.map int), .slice (b1.map int)] (bool r) := by
 unfold s_SetSubset at h
 refine PC.start Tryz.func100 Tryz.ntmps100 rfl ok100 rfl ?_
 refine Run.sr ?_
 refine X.an ?_
 refine Run.seq ?_
 refine Run.sr ?_
 refine X.mv ?_
 refine X.ls elt25 ?_
 refine X.mn ?_
 obtain ⟨o1, ho1, h⟩ := bindE h
 refine R.join2 (β := Unit) [] [] (fun p14 S => S) (fun p14 M => M) (fun p14 => (Sum.inl p14) = o1) ?_ ?_
 ·intro JJ4 hmeet3
  have hup2 := h; clear h; have h := ho1; clear ho1
  refine Run.block ?_
  refine R.bndS (t := 0) (by rfl) (fun hbd7 => ?_)
  replace hbd7 : b0.length ≤ 9223372036854775807 := by first | (rw [List.length_map] at hbd7; exact hbd7) | simp
  refine R.lp (β := Int) [(1, .slice (b1.map int)), (7, .slice (b0.map int)), (8, int (b0.length : Int))] [] (fun bb S => (9, int bb) :: S) (fun bb M => M) (fun n bb => 0 ≤ bb ∧ bb + n = (b0.length : Int) ∧ s_SetSubset_L1 b1 (b0.drop bb.toNat) bb = some o1) b0.length (0 : Int) ⟨Int.le_refl _, by simp, h⟩ ?_
  clear h
  rintro JJ7 n7 z8 hag7 ⟨hza7, hzb7, h⟩
  refine Run.sr ?_
  refine X.bi ?_
  refine X.nil ?_
  refine Run.seq ?_
  refine R.cd (fun hc11 => ?_) (fun hc11 => ?_)
  ·obtain ⟨x9, xs10, hd7, hx7, hds7, hlt7⟩ := drop_atI hza7 hc11
   rw [hd7] at h
   rw [s_SetSubset_L1] at h
   refine Run.skip ?_
   refine Run.seq ?_
   refine Run.block ?_
   refine Run.sr ?_
   refine X.ix elt25 (idxL_spec hx7).1 (idxL_map int hx7) ?_
   refine X.lc shp3 ?_
   refine X.an ?_
   refine Run.sr ?_
   refine X.mv ?_
   refine X.mv ?_
   obtain ⟨v12, hv12, h⟩ := bindE h
   refine X.cp (s_SetHas_pc _ _ _ hv12) ?_
   refine X.un (by rfl) (by rfl) (by rfl) ?_
   refine X.nil ?_
   refine R.cd (fun hc13 => ?_) (fun hc13 => ?_)
   ·replace h := condT hc13 h
    refine Run.sr ?_
    refine X.an ?_
    cases h
    have h := hup2
    replace h := elimR h
    cases h
    refine R.f1 Tryz.results100 ?_
    rfl
   ·replace h := condF hc13 h
    refine Run.skip ?_
    refine Run.blk ?_
    refine Run.reg ?_
    refine X.ad ?_
    refine X.mn ?_
    exact R.ag hag7 (n7 - 1) (z8 + 1) (R.n3 (by first | (rw [hds7]; exact h) | (dsimp only; rw [hds7]; exact h)))
  ·rw [drop_endI hza7 hc11] at h
   rw [s_SetSubset_L1] at h
   refine Run.exit (by rfl) ?_
   exact R.mt hmeet3 () (Option.some.inj h)
 rintro p14 rfl
 replace h := elimL h
 refine Run.sr ?_
 refine X.an ?_
 cases h
 refine R.f1 Tryz.results100 ?_
 rfl
end Go.Px.YtiinfmdopfkefaaGreat
