/-
  PROVED: contracts of functions of the program over pure values. No condition beyond those that each theorem names.
-/
import Derived.Test.YtjncefleglnnjaaGreatProg
import Derived.Test.YtjncefleglnnjaaGreatD1
import Derived.Test.YtjncefleglnnjaaGreatS
namespace Go.Px.YtjncefleglnnjaaGreat
set_option linter.unusedSimpArgs false
set_option linter.unusedVariables false
open Go.Px Go.Proofs
theorem elt22 : eltOf Tryz.prog 22 = some (5, 1, 1) := by kernel_rfl
theorem zer28 : zeroPV Tryz.prog 28 = some [.lit (.int .i64 0), .nils, .nils, .nils, .nils] := by kernel_rfl
theorem shp69 : shp Tryz.prog 69 = some (true, 5) := by kernel_rfl
theorem fld69_1 : fldOff Tryz.prog 69 1 = some 1 := by kernel_rfl
theorem shp65 : shp Tryz.prog 65 = some (false, 1) := by kernel_rfl
theorem elt65 : eltOf Tryz.prog 65 = some (208, 3, 48) := by kernel_rfl
theorem shp208 : shp Tryz.prog 208 = some (true, 3) := by kernel_rfl
theorem fld208_0 : fldOff Tryz.prog 208 0 = some 0 := by kernel_rfl
theorem shp9 : shp Tryz.prog 9 = some (false, 1) := by kernel_rfl
theorem fld208_2 : fldOff Tryz.prog 208 2 = some 2 := by kernel_rfl
theorem shp206 : shp Tryz.prog 206 = some (false, 1) := by kernel_rfl
theorem elt206 : eltOf Tryz.prog 206 = some (257, 3, 56) := by kernel_rfl
theorem shp257 : shp Tryz.prog 257 = some (true, 3) := by kernel_rfl
theorem fld257_1 : fldOff Tryz.prog 257 1 = some 1 := by kernel_rfl
theorem shp26 : shp Tryz.prog 26 = some (false, 1) := by kernel_rfl
theorem elt26 : eltOf Tryz.prog 26 = some (3, 1, 8) := by kernel_rfl
theorem ok138 : okFn Tryz.prog 138 = true := by kernel_rfl
theorem fld257_2 : fldOff Tryz.prog 257 2 = some 2 := by kernel_rfl
theorem ok332 : okFn Tryz.prog 332 = true := by kernel_rfl
theorem ok308 : okFn Tryz.prog 308 = true := by kernel_rfl
theorem ok252 : okFn Tryz.prog 252 = true := by kernel_rfl
theorem ok135 : okFn Tryz.prog 135 = true := by kernel_rfl
theorem fld69_2 : fldOff Tryz.prog 69 2 = some 2 := by kernel_rfl
theorem shp66 : shp Tryz.prog 66 = some (false, 1) := by kernel_rfl
theorem elt66 : eltOf Tryz.prog 66 = some (215, 4, 32) := by kernel_rfl
theorem ok136 : okFn Tryz.prog 136 = true := by kernel_rfl
theorem fld69_3 : fldOff Tryz.prog 69 3 = some 3 := by kernel_rfl
theorem shp67 : shp Tryz.prog 67 = some (false, 1) := by kernel_rfl
theorem elt67 : eltOf Tryz.prog 67 = some (212, 2, 48) := by kernel_rfl
theorem shp212 : shp Tryz.prog 212 = some (true, 2) := by kernel_rfl
theorem fld212_0 : fldOff Tryz.prog 212 0 = some 0 := by kernel_rfl
theorem shp210 : shp Tryz.prog 210 = some (false, 1) := by kernel_rfl
theorem elt210 : eltOf Tryz.prog 210 = some (260, 2, 16) := by kernel_rfl
theorem ok309 : okFn Tryz.prog 309 = true := by kernel_rfl
theorem fld212_1 : fldOff Tryz.prog 212 1 = some 1 := by kernel_rfl
theorem shp30 : shp Tryz.prog 30 = some (false, 1) := by kernel_rfl
theorem elt30 : eltOf Tryz.prog 30 = some (26, 1, 24) := by kernel_rfl
theorem ok139 : okFn Tryz.prog 139 = true := by kernel_rfl
theorem ok253 : okFn Tryz.prog 253 = true := by kernel_rfl
theorem ok137 : okFn Tryz.prog 137 = true := by kernel_rfl
theorem fld69_4 : fldOff Tryz.prog 69 4 = some 4 := by kernel_rfl
theorem ok48 : okFn Tryz.prog 48 = true := by kernel_rfl
theorem fld69_0 : fldOff Tryz.prog 69 0 = some 0 := by kernel_rfl
theorem shp3 : shp Tryz.prog 3 = some (false, 1) := by kernel_rfl
theorem fld28_0 : fldOff Tryz.prog 28 0 = some 0 := by kernel_rfl
theorem elt23 : eltOf Tryz.prog 23 = some (50, 3, 48) := by kernel_rfl
theorem zer50 : zeroPV Tryz.prog 50 = some [.lit (.string ByteArray.empty), .lit (.int .i64 0), .nils] := by kernel_rfl
theorem fld50_0 : fldOff Tryz.prog 50 0 = some 0 := by kernel_rfl
theorem fld208_1 : fldOff Tryz.prog 208 1 = some 1 := by kernel_rfl
theorem fld50_1 : fldOff Tryz.prog 50 1 = some 1 := by kernel_rfl
theorem elt48 : eltOf Tryz.prog 48 = some (47, 3, 56) := by kernel_rfl
theorem zer47 : zeroPV Tryz.prog 47 = some [.lit (.int .i64 0), .nils, .nils] := by kernel_rfl
theorem fld257_0 : fldOff Tryz.prog 257 0 = some 0 := by kernel_rfl
theorem fld47_0 : fldOff Tryz.prog 47 0 = some 0 := by kernel_rfl
theorem zer3 : zeroPV Tryz.prog 3 = some [.lit (.int .i64 0)] := by kernel_rfl
theorem ok145 : okFn Tryz.prog 145 = true := by kernel_rfl
theorem fld47_1 : fldOff Tryz.prog 47 1 = some 1 := by kernel_rfl
theorem fld47_2 : fldOff Tryz.prog 47 2 = some 2 := by kernel_rfl
theorem shp47 : shp Tryz.prog 47 = some (true, 3) := by kernel_rfl
theorem ok333 : okFn Tryz.prog 333 = true := by kernel_rfl
theorem ok310 : okFn Tryz.prog 310 = true := by kernel_rfl
theorem fld50_2 : fldOff Tryz.prog 50 2 = some 2 := by kernel_rfl
theorem shp48 : shp Tryz.prog 48 = some (false, 1) := by kernel_rfl
theorem shp50 : shp Tryz.prog 50 = some (true, 3) := by kernel_rfl
theorem ok254 : okFn Tryz.prog 254 = true := by kernel_rfl
theorem ok142 : okFn Tryz.prog 142 = true := by kernel_rfl
theorem fld28_1 : fldOff Tryz.prog 28 1 = some 1 := by kernel_rfl
theorem shp23 : shp Tryz.prog 23 = some (false, 1) := by kernel_rfl
theorem elt24 : eltOf Tryz.prog 24 = some (167, 4, 32) := by kernel_rfl
theorem zer167 : zeroPV Tryz.prog 167 = some [.lit (.int .i64 0), .lit (.int .i64 0), .lit (.bool false), .lit (.int .i64 0)] := by kernel_rfl
theorem shp215 : shp Tryz.prog 215 = some (true, 4) := by kernel_rfl
theorem fld215_0 : fldOff Tryz.prog 215 0 = some 0 := by kernel_rfl
theorem fld167_0 : fldOff Tryz.prog 167 0 = some 0 := by kernel_rfl
theorem fld215_1 : fldOff Tryz.prog 215 1 = some 1 := by kernel_rfl
theorem fld167_1 : fldOff Tryz.prog 167 1 = some 1 := by kernel_rfl
theorem fld215_2 : fldOff Tryz.prog 215 2 = some 2 := by kernel_rfl
theorem shp4 : shp Tryz.prog 4 = some (false, 1) := by kernel_rfl
theorem fld167_2 : fldOff Tryz.prog 167 2 = some 2 := by kernel_rfl
theorem fld215_3 : fldOff Tryz.prog 215 3 = some 3 := by kernel_rfl
theorem fld167_3 : fldOff Tryz.prog 167 3 = some 3 := by kernel_rfl
theorem shp167 : shp Tryz.prog 167 = some (true, 4) := by kernel_rfl
theorem ok255 : okFn Tryz.prog 255 = true := by kernel_rfl
theorem ok143 : okFn Tryz.prog 143 = true := by kernel_rfl
theorem fld28_2 : fldOff Tryz.prog 28 2 = some 2 := by kernel_rfl
theorem shp24 : shp Tryz.prog 24 = some (false, 1) := by kernel_rfl
theorem elt25 : eltOf Tryz.prog 25 = some (64, 2, 48) := by kernel_rfl
theorem zer64 : zeroPV Tryz.prog 64 = some [.nils, .nils] := by kernel_rfl
theorem elt62 : eltOf Tryz.prog 62 = some (183, 2, 16) := by kernel_rfl
theorem zer183 : zeroPV Tryz.prog 183 = some [.lit (.int .i64 0), .lit (.int .i64 0)] := by kernel_rfl
theorem shp260 : shp Tryz.prog 260 = some (true, 2) := by kernel_rfl
theorem fld260_0 : fldOff Tryz.prog 260 0 = some 0 := by kernel_rfl
theorem fld183_0 : fldOff Tryz.prog 183 0 = some 0 := by kernel_rfl
theorem fld260_1 : fldOff Tryz.prog 260 1 = some 1 := by kernel_rfl
theorem fld183_1 : fldOff Tryz.prog 183 1 = some 1 := by kernel_rfl
theorem shp183 : shp Tryz.prog 183 = some (true, 2) := by kernel_rfl
theorem ok334 : okFn Tryz.prog 334 = true := by kernel_rfl
theorem ok311 : okFn Tryz.prog 311 = true := by kernel_rfl
theorem fld64_0 : fldOff Tryz.prog 64 0 = some 0 := by kernel_rfl
theorem shp62 : shp Tryz.prog 62 = some (false, 1) := by kernel_rfl
theorem zer26 : zeroPV Tryz.prog 26 = some [.nils] := by kernel_rfl
theorem ok146 : okFn Tryz.prog 146 = true := by kernel_rfl
theorem fld64_1 : fldOff Tryz.prog 64 1 = some 1 := by kernel_rfl
theorem shp64 : shp Tryz.prog 64 = some (true, 2) := by kernel_rfl
theorem ok256 : okFn Tryz.prog 256 = true := by kernel_rfl
theorem ok144 : okFn Tryz.prog 144 = true := by kernel_rfl
theorem fld28_3 : fldOff Tryz.prog 28 3 = some 3 := by kernel_rfl
theorem shp25 : shp Tryz.prog 25 = some (false, 1) := by kernel_rfl
theorem fld28_4 : fldOff Tryz.prog 28 4 = some 4 := by kernel_rfl
theorem shp28 : shp Tryz.prog 28 = some (true, 5) := by kernel_rfl
theorem ok51 : okFn Tryz.prog 51 = true := by kernel_rfl
theorem ok153 : okFn Tryz.prog 153 = true := by kernel_rfl
theorem ok337 : okFn Tryz.prog 337 = true := by kernel_rfl
theorem ok316 : okFn Tryz.prog 316 = true := by kernel_rfl
theorem ok317 : okFn Tryz.prog 317 = true := by kernel_rfl
theorem ok263 : okFn Tryz.prog 263 = true := by kernel_rfl
theorem ok264 : okFn Tryz.prog 264 = true := by kernel_rfl
theorem mixed : Tryz.prog.follows .mixedOrders = true := by kernel_rfl
theorem ok318 : okFn Tryz.prog 318 = true := by kernel_rfl
theorem ok265 : okFn Tryz.prog 265 = true := by kernel_rfl
theorem ok158 : okFn Tryz.prog 158 = true := by kernel_rfl
theorem ok277 : okFn Tryz.prog 277 = true := by kernel_rfl
theorem ok191 : okFn Tryz.prog 191 = true := by kernel_rfl
theorem ok300 : okFn Tryz.prog 300 = true := by kernel_rfl
theorem ok278 : okFn Tryz.prog 278 = true := by kernel_rfl
theorem ok130 : okFn Tryz.prog 130 = true := by kernel_rfl
theorem ok251 : okFn Tryz.prog 251 = true := by kernel_rfl
theorem ok331 : okFn Tryz.prog 331 = true := by kernel_rfl
theorem ok303 : okFn Tryz.prog 303 = true := by kernel_rfl
theorem ok304 : okFn Tryz.prog 304 = true := by kernel_rfl
theorem ok245 : okFn Tryz.prog 245 = true := by kernel_rfl
theorem ok306 : okFn Tryz.prog 306 = true := by kernel_rfl
theorem ok305 : okFn Tryz.prog 305 = true := by kernel_rfl
theorem ok246 : okFn Tryz.prog 246 = true := by kernel_rfl
theorem ok131 : okFn Tryz.prog 131 = true := by kernel_rfl
theorem ok134 : okFn Tryz.prog 134 = true := by kernel_rfl
theorem ok247 : okFn Tryz.prog 247 = true := by kernel_rfl
theorem ok119 : okFn Tryz.prog 119 = true := by kernel_rfl
theorem ok250 : okFn Tryz.prog 250 = true := by kernel_rfl
theorem ok249 : okFn Tryz.prog 249 = true := by kernel_rfl
theorem ok307 : okFn Tryz.prog 307 = true := by kernel_rfl
theorem ok248 : okFn Tryz.prog 248 = true := by kernel_rfl
theorem ok133 : okFn Tryz.prog 133 = true := by kernel_rfl
theorem ok282 : okFn Tryz.prog 282 = true := by kernel_rfl
theorem ok175 : okFn Tryz.prog 175 = true := by kernel_rfl
theorem ok232 : okFn Tryz.prog 232 = true := by kernel_rfl
theorem ok121 : okFn Tryz.prog 121 = true := by kernel_rfl
theorem ok33 : okFn Tryz.prog 33 = true := by kernel_rfl
theorem ok283 : okFn Tryz.prog 283 = true := by kernel_rfl
theorem ok77 : okFn Tryz.prog 77 = true := by kernel_rfl
theorem ok335 : okFn Tryz.prog 335 = true := by kernel_rfl
theorem ok312 : okFn Tryz.prog 312 = true := by kernel_rfl
theorem ok257 : okFn Tryz.prog 257 = true := by kernel_rfl
theorem ok149 : okFn Tryz.prog 149 = true := by kernel_rfl
theorem ok258 : okFn Tryz.prog 258 = true := by kernel_rfl
theorem ok150 : okFn Tryz.prog 150 = true := by kernel_rfl
theorem ok336 : okFn Tryz.prog 336 = true := by kernel_rfl
theorem ok313 : okFn Tryz.prog 313 = true := by kernel_rfl
theorem ok97 : okFn Tryz.prog 97 = true := by kernel_rfl
theorem ok259 : okFn Tryz.prog 259 = true := by kernel_rfl
theorem ok151 : okFn Tryz.prog 151 = true := by kernel_rfl
theorem ok54 : okFn Tryz.prog 54 = true := by kernel_rfl
theorem ok174 : okFn Tryz.prog 174 = true := by kernel_rfl
theorem zer5 : zeroPV Tryz.prog 5 = some [.lit (.int .u8 0)] := by kernel_rfl
theorem ok274 : okFn Tryz.prog 274 = true := by kernel_rfl
theorem ok80 : okFn Tryz.prog 80 = true := by kernel_rfl
theorem ok275 : okFn Tryz.prog 275 = true := by kernel_rfl
theorem ok180 : okFn Tryz.prog 180 = true := by kernel_rfl
theorem ok181 : okFn Tryz.prog 181 = true := by kernel_rfl
theorem ok276 : okFn Tryz.prog 276 = true := by kernel_rfl
theorem ok98 : okFn Tryz.prog 98 = true := by kernel_rfl
theorem ok182 : okFn Tryz.prog 182 = true := by kernel_rfl
theorem ok78 : okFn Tryz.prog 78 = true := by kernel_rfl
theorem ok81 : okFn Tryz.prog 81 = true := by kernel_rfl
theorem ok287 : okFn Tryz.prog 287 = true := by kernel_rfl
theorem ok190 : okFn Tryz.prog 190 = true := by kernel_rfl
theorem ok288 : okFn Tryz.prog 288 = true := by kernel_rfl
theorem ok289 : okFn Tryz.prog 289 = true := by kernel_rfl
theorem ok193 : okFn Tryz.prog 193 = true := by kernel_rfl
theorem shp97 : shp Tryz.prog 97 = some (true, 3) := by kernel_rfl
theorem fld97_0 : fldOff Tryz.prog 97 0 = some 0 := by kernel_rfl
theorem shp95 : shp Tryz.prog 95 = some (true, 2) := by kernel_rfl
theorem fld95_0 : fldOff Tryz.prog 95 0 = some 0 := by kernel_rfl
theorem fld95_1 : fldOff Tryz.prog 95 1 = some 1 := by kernel_rfl
theorem ok206 : okFn Tryz.prog 206 = true := by kernel_rfl
theorem fld97_1 : fldOff Tryz.prog 97 1 = some 2 := by kernel_rfl
theorem ok89 : okFn Tryz.prog 89 = true := by kernel_rfl
theorem zer101 : zeroPV Tryz.prog 101 = some [.nils, .nils, .nils] := by kernel_rfl
theorem zer35 : zeroPV Tryz.prog 35 = some [.nils, .nils] := by kernel_rfl
theorem fld35_0 : fldOff Tryz.prog 35 0 = some 0 := by kernel_rfl
theorem fld35_1 : fldOff Tryz.prog 35 1 = some 1 := by kernel_rfl
theorem shp35 : shp Tryz.prog 35 = some (true, 2) := by kernel_rfl
theorem ok209 : okFn Tryz.prog 209 = true := by kernel_rfl
theorem fld101_0 : fldOff Tryz.prog 101 0 = some 0 := by kernel_rfl
theorem fld101_1 : fldOff Tryz.prog 101 1 = some 2 := by kernel_rfl
theorem shp101 : shp Tryz.prog 101 = some (true, 3) := by kernel_rfl
theorem ok91 : okFn Tryz.prog 91 = true := by kernel_rfl
theorem ok299 : okFn Tryz.prog 299 = true := by kernel_rfl
theorem ok207 : okFn Tryz.prog 207 = true := by kernel_rfl
theorem ok208 : okFn Tryz.prog 208 = true := by kernel_rfl
theorem ok90 : okFn Tryz.prog 90 = true := by kernel_rfl
theorem ok117 : okFn Tryz.prog 117 = true := by kernel_rfl
theorem ok210 : okFn Tryz.prog 210 = true := by kernel_rfl
theorem ok301 : okFn Tryz.prog 301 = true := by kernel_rfl
theorem ok211 : okFn Tryz.prog 211 = true := by kernel_rfl
theorem ok92 : okFn Tryz.prog 92 = true := by kernel_rfl
theorem ok212 : okFn Tryz.prog 212 = true := by kernel_rfl
theorem ok93 : okFn Tryz.prog 93 = true := by kernel_rfl
theorem ok213 : okFn Tryz.prog 213 = true := by kernel_rfl
theorem ok94 : okFn Tryz.prog 94 = true := by kernel_rfl
theorem ok22 : okFn Tryz.prog 22 = true := by kernel_rfl
theorem ok290 : okFn Tryz.prog 290 = true := by kernel_rfl
theorem cut290 (b0 r : List Int) (h : compactL b0 = some r) : CCut Tryz.prog 290 3 1 (b0.map int) (r.map int) := by
  cases h
  exact CCut.compactInt ok290 (fun blk off cap zs w h1 h2 h3 => Tryz.slices_Compact_int blk off cap zs w h1 h2 h3) (fun a cap w => Tryz.slices_Compact_int_empty a cap w) b0 (compactL_le b0) (compactL_nil b0)
theorem w_szIntS_pc (b0 : List Int) (b1 : Int) (r : Int) (h : w_szIntS b0 b1 = some r) : PC Tryz.prog 138 [.slice (b0.map int), int b1] (int r) := by
  unfold w_szIntS at h
  refine PC.start Tryz.func138 Tryz.ntmps138 rfl ok138 rfl ?_
  refine Run.sr ?_
  refine X.an ?_
  refine Run.sr ?_
  refine X.mv ?_
  refine X.mv ?_
  refine X.len_s elt26 (by rfl) (by exact List.length_map ..) (by rfl) ?_
  refine X.subW (by rfl) (by rfl) (by rfl) ?_
  refine X.an ?_
  refine Run.seq ?_
  refine Run.sr ?_
  refine X.mv ?_
  refine X.bi ?_
  refine X.nil ?_
  refine R.cond (by rfl) (fun hc1 => ?_) (fun hc1 => ?_)
  · replace h := condT hc1 h
    refine Run.sr ?_
    refine X.an ?_
    cases h
    refine R.fin1 Tryz.results138 (by rfl) (by rfl) ?_
    rfl
  · replace h := condF hc1 h
    refine Run.skip ?_
    refine Run.sr ?_
    refine X.mv ?_
    refine X.an ?_
    cases h
    refine R.fin1 Tryz.results138 (by rfl) (by rfl) ?_
    rfl
theorem w_szMode_pc (b0 : TMode) (b1 : Int) (r : Int) (h : w_szMode b0 b1 = some r) : PC Tryz.prog 332 [eTMode b0, int b1] (int r) := by
  unfold w_szMode at h
  refine PC.start Tryz.func332 Tryz.ntmps332 rfl ok332 rfl ?_
  refine Run.sr ?_
  refine X.box (by rfl) (by rfl) (by repeat (first | trivial | refine ⟨by first | rfl | simp [setL], ?_⟩)) (by rfl) (by rfl) (by rfl) (by rfl) ?_
  refine X.an ?_
  refine Run.sr ?_
  refine X.fieldAddr_l fld257_1 (by rfl) (by rfl) ?_
  refine X.ld shp26 ?_
  refine X.mv ?_
  obtain ⟨v1, hv1, h⟩ := bindE h
  refine X.callP (w_szIntS_pc _ _ _ hv1) (by rfl) (by rfl) (by rfl) (by trivial) (by rfl) (by rfl) (by rfl) (by rfl) ?_
  refine X.an ?_
  refine Run.seq ?_
  refine Run.sr ?_
  refine X.mv ?_
  refine X.bi ?_
  refine X.nil ?_
  refine R.cond (by rfl) (fun hc2 => ?_) (fun hc2 => ?_)
  · replace h := condT hc2 h
    refine Run.sr ?_
    refine X.an ?_
    cases h
    refine R.fin1 Tryz.results332 (by rfl) (by rfl) ?_
    rfl
  · replace h := condF hc2 h
    refine Run.skip ?_
    refine Run.sr ?_
    refine X.fieldAddr_l fld257_2 (by rfl) (by rfl) ?_
    refine X.ld shp26 ?_
    refine X.mv ?_
    obtain ⟨v3, hv3, h⟩ := bindE h
    refine X.callP (w_szIntS_pc _ _ _ hv3) (by rfl) (by rfl) (by rfl) (by trivial) (by rfl) (by rfl) (by rfl) (by rfl) ?_
    refine X.an ?_
    refine Run.seq ?_
    refine Run.sr ?_
    refine X.mv ?_
    refine X.bi ?_
    refine X.nil ?_
    refine R.cond (by rfl) (fun hc4 => ?_) (fun hc4 => ?_)
    · replace h := condT hc4 h
      refine Run.sr ?_
      refine X.an ?_
      cases h
      refine R.fin1 Tryz.results332 (by rfl) (by rfl) ?_
      rfl
    · replace h := condF hc4 h
      refine Run.skip ?_
      refine Run.sr ?_
      refine X.mv ?_
      refine X.an ?_
      cases h
      refine R.fin1 Tryz.results332 (by rfl) (by rfl) ?_
      rfl
theorem w_szModeS_pc (b0 : List TMode) (b1 : Int) (r : Int) (h : w_szModeS b0 b1 = some r) : PC Tryz.prog 308 [.slice (b0.map eTMode), int b1] (int r) := by
  unfold w_szModeS at h
  refine PC.start Tryz.func308 Tryz.ntmps308 rfl ok308 rfl ?_
  refine Run.sr ?_
  refine X.an ?_
  refine Run.sr ?_
  refine X.mv ?_
  refine X.mv ?_
  refine X.len_s elt206 (by rfl) (by exact List.length_map ..) (by rfl) ?_
  refine X.subW (by rfl) (by rfl) (by rfl) ?_
  refine X.an ?_
  refine Run.seq ?_
  refine Run.sr ?_
  refine X.mv ?_
  refine X.bi ?_
  refine X.nil ?_
  refine R.cond (by rfl) (fun hc1 => ?_) (fun hc1 => ?_)
  · replace h := condT hc1 h
    refine Run.sr ?_
    refine X.an ?_
    cases h
    refine R.fin1 Tryz.results308 (by rfl) (by rfl) ?_
    rfl
  · replace h := condF hc1 h
    refine Run.skip ?_
    refine Run.seq ?_
    refine Run.sr ?_
    refine X.an ?_
    obtain ⟨o2, ho2, h⟩ := bindE h
    refine R.join2 (β := Int) [] [] (fun p16 S => (1, int p16) :: S) (fun p16 M => M) (fun p16 => (Sum.inl p16) = o2) ?_ ?_
    · intro JJ5 hmeet4
      have hup3 := h; clear h; have h := ho2; clear ho2
      refine Run.block ?_
      refine R.bndS (t := 0) (by rfl) (fun hbd8 => ?_)
      replace hbd8 : b0.length ≤ 9223372036854775807 := by first | (rw [List.length_map] at hbd8; exact hbd8) | simp
      refine R.loop2 (β := Int × Int) [(0, .slice (b0.map eTMode))] [] (fun bb S => (1, int bb.2) :: (5, int bb.1) :: S) (fun bb M => M) (fun n bb => 0 ≤ bb.1 ∧ bb.1 + n = (b0.length : Int) ∧ w_szModeS_L1 (b0.drop bb.1.toNat) bb.1 bb.2 = some o2) b0.length (0, (W (b1 - (b0.length : Int)))) (by repeat (first | trivial | refine ⟨by first | rfl | simp [setL], ?_⟩)) (by repeat (first | trivial | refine ⟨by first | rfl | simp [setL], ?_⟩)) (by rfl) (by rfl) ⟨Int.le_refl _, by simp, h⟩ ?_
      clear h
      rintro JJ8 n8 ⟨z9, a10⟩ hag8 ⟨hza8, hzb8, h⟩
      dsimp only at hza8 hzb8 h
      refine Run.seq ?_
      refine Run.sr ?_
      refine X.mv ?_
      refine X.mv ?_
      refine X.len_s elt206 (by rfl) (by exact List.length_map ..) (by rfl) ?_
      refine X.bi ?_
      refine X.nil ?_
      refine R.cond (by rfl) (fun hc13 => ?_) (fun hc13 => ?_)
      · obtain ⟨x11, xs12, hd8, hx8, hds8, hlt8⟩ := drop_atI hza8 hc13
        rw [hd8] at h
        rw [w_szModeS_L1] at h
        refine Run.skip ?_
        refine Run.seq ?_
        refine Run.block ?_
        refine Run.sr ?_
        refine X.mv ?_
        refine X.mv ?_
        refine X.index_s elt206 (by rfl) (by rfl) (idxL_spec hx8).1 (idxL_map eTMode hx8) (by rfl) (by rfl) (by rfl) ?_
        refine X.load_c shp257 (by rfl) (by rfl) (by rfl) (by rfl) ?_
        refine X.mv ?_
        obtain ⟨v14, hv14, h⟩ := bindE h
        refine X.callP (w_szMode_pc _ _ _ hv14) (by rfl) (by rfl) (by rfl) (by trivial) (by rfl) (by rfl) (by rfl) (by rfl) ?_
        refine X.an ?_
        refine Run.sr ?_
        refine X.mv ?_
        refine X.bi ?_
        refine X.nil ?_
        refine R.cond (by rfl) (fun hc15 => ?_) (fun hc15 => ?_)
        · replace h := condT hc15 h
          refine Run.sr ?_
          refine X.an ?_
          cases h
          have h := hup3
          replace h := elimR h
          cases h
          refine R.fin1 Tryz.results308 (by rfl) (by rfl) ?_
          rfl
        · replace h := condF hc15 h
          refine Run.skip ?_
          refine Run.blk ?_
          refine Run.reg ?_
          refine X.mv ?_
          refine X.add (by rfl) (by rfl) (by omega) (by rfl) ?_
          refine X.an ?_
          exact hag8 (n8 - 1) (z9 + 1, v14) _ _ (by omega) ⟨by first | omega | (dsimp only; omega), by first | omega | (dsimp only; omega), by first | (rw [hds8]; exact h) | (dsimp only; rw [hds8]; exact h)⟩ (by trivial) (by trivial) (by rfl) (by rfl)
      · rw [drop_endI hza8 hc13] at h
        rw [w_szModeS_L1] at h
        refine Run.exit (by rfl) ?_
        exact hmeet4 a10 _ _ (Option.some.inj h) (by trivial) (by trivial) (by rfl) (by rfl)
    rintro p16 rfl
    replace h := elimL h
    refine Run.sr ?_
    refine X.mv ?_
    refine X.an ?_
    cases h
    refine R.fin1 Tryz.results308 (by rfl) (by rfl) ?_
    rfl
theorem w_szActivity_pc (b0 : TActivity) (b1 : Int) (r : Int) (h : w_szActivity b0 b1 = some r) : PC Tryz.prog 252 [eTActivity b0, int b1] (int r) := by
  unfold w_szActivity at h
  refine PC.start Tryz.func252 Tryz.ntmps252 rfl ok252 rfl ?_
  refine Run.sr ?_
  refine X.box (by rfl) (by rfl) (by repeat (first | trivial | refine ⟨by first | rfl | simp [setL], ?_⟩)) (by rfl) (by rfl) (by rfl) (by rfl) ?_
  refine X.an ?_
  refine Run.sr ?_
  refine X.mv ?_
  refine X.fieldAddr_l fld208_0 (by rfl) (by rfl) ?_
  refine X.ld shp9 ?_
  refine X.lenStr Tryz.underlying9 (by rfl) (by rfl) ?_
  refine X.subW (by rfl) (by rfl) (by rfl) ?_
  refine X.an ?_
  refine Run.seq ?_
  refine Run.sr ?_
  refine X.mv ?_
  refine X.bi ?_
  refine X.nil ?_
  refine R.cond (by rfl) (fun hc1 => ?_) (fun hc1 => ?_)
  · replace h := condT hc1 h
    refine Run.sr ?_
    refine X.an ?_
    cases h
    refine R.fin1 Tryz.results252 (by rfl) (by rfl) ?_
    rfl
  · replace h := condF hc1 h
    refine Run.skip ?_
    refine Run.sr ?_
    refine X.fieldAddr_l fld208_2 (by rfl) (by rfl) ?_
    refine X.ld shp206 ?_
    refine X.mv ?_
    obtain ⟨v2, hv2, h⟩ := bindE h
    refine X.callP (w_szModeS_pc _ _ _ hv2) (by rfl) (by rfl) (by rfl) (by trivial) (by rfl) (by rfl) (by rfl) (by rfl) ?_
    refine X.an ?_
    refine Run.seq ?_
    refine Run.sr ?_
    refine X.mv ?_
    refine X.bi ?_
    refine X.nil ?_
    refine R.cond (by rfl) (fun hc3 => ?_) (fun hc3 => ?_)
    · replace h := condT hc3 h
      refine Run.sr ?_
      refine X.an ?_
      cases h
      refine R.fin1 Tryz.results252 (by rfl) (by rfl) ?_
      rfl
    · replace h := condF hc3 h
      refine Run.skip ?_
      refine Run.sr ?_
      refine X.mv ?_
      refine X.an ?_
      cases h
      refine R.fin1 Tryz.results252 (by rfl) (by rfl) ?_
      rfl
theorem w_szActivityS_pc (b0 : List TActivity) (b1 : Int) (r : Int) (h : w_szActivityS b0 b1 = some r) : PC Tryz.prog 135 [.slice (b0.map eTActivity), int b1] (int r) := by
  unfold w_szActivityS at h
  refine PC.start Tryz.func135 Tryz.ntmps135 rfl ok135 rfl ?_
  refine Run.sr ?_
  refine X.an ?_
  refine Run.sr ?_
  refine X.mv ?_
  refine X.mv ?_
  refine X.len_s elt65 (by rfl) (by exact List.length_map ..) (by rfl) ?_
  refine X.subW (by rfl) (by rfl) (by rfl) ?_
  refine X.an ?_
  refine Run.seq ?_
  refine Run.sr ?_
  refine X.mv ?_
  refine X.bi ?_
  refine X.nil ?_
  refine R.cond (by rfl) (fun hc1 => ?_) (fun hc1 => ?_)
  · replace h := condT hc1 h
    refine Run.sr ?_
    refine X.an ?_
    cases h
    refine R.fin1 Tryz.results135 (by rfl) (by rfl) ?_
    rfl
  · replace h := condF hc1 h
    refine Run.skip ?_
    refine Run.seq ?_
    refine Run.sr ?_
    refine X.an ?_
    obtain ⟨o2, ho2, h⟩ := bindE h
    refine R.join2 (β := Int) [] [] (fun p16 S => (1, int p16) :: S) (fun p16 M => M) (fun p16 => (Sum.inl p16) = o2) ?_ ?_
    · intro JJ5 hmeet4
      have hup3 := h; clear h; have h := ho2; clear ho2
      refine Run.block ?_
      refine R.bndS (t := 0) (by rfl) (fun hbd8 => ?_)
      replace hbd8 : b0.length ≤ 9223372036854775807 := by first | (rw [List.length_map] at hbd8; exact hbd8) | simp
      refine R.loop2 (β := Int × Int) [(0, .slice (b0.map eTActivity))] [] (fun bb S => (1, int bb.2) :: (5, int bb.1) :: S) (fun bb M => M) (fun n bb => 0 ≤ bb.1 ∧ bb.1 + n = (b0.length : Int) ∧ w_szActivityS_L1 (b0.drop bb.1.toNat) bb.1 bb.2 = some o2) b0.length (0, (W (b1 - (b0.length : Int)))) (by repeat (first | trivial | refine ⟨by first | rfl | simp [setL], ?_⟩)) (by repeat (first | trivial | refine ⟨by first | rfl | simp [setL], ?_⟩)) (by rfl) (by rfl) ⟨Int.le_refl _, by simp, h⟩ ?_
      clear h
      rintro JJ8 n8 ⟨z9, a10⟩ hag8 ⟨hza8, hzb8, h⟩
      dsimp only at hza8 hzb8 h
      refine Run.seq ?_
      refine Run.sr ?_
      refine X.mv ?_
      refine X.mv ?_
      refine X.len_s elt65 (by rfl) (by exact List.length_map ..) (by rfl) ?_
      refine X.bi ?_
      refine X.nil ?_
      refine R.cond (by rfl) (fun hc13 => ?_) (fun hc13 => ?_)
      · obtain ⟨x11, xs12, hd8, hx8, hds8, hlt8⟩ := drop_atI hza8 hc13
        rw [hd8] at h
        rw [w_szActivityS_L1] at h
        refine Run.skip ?_
        refine Run.seq ?_
        refine Run.block ?_
        refine Run.sr ?_
        refine X.mv ?_
        refine X.mv ?_
        refine X.index_s elt65 (by rfl) (by rfl) (idxL_spec hx8).1 (idxL_map eTActivity hx8) (by rfl) (by rfl) (by rfl) ?_
        refine X.load_c shp208 (by rfl) (by rfl) (by rfl) (by rfl) ?_
        refine X.mv ?_
        obtain ⟨v14, hv14, h⟩ := bindE h
        refine X.callP (w_szActivity_pc _ _ _ hv14) (by rfl) (by rfl) (by rfl) (by trivial) (by rfl) (by rfl) (by rfl) (by rfl) ?_
        refine X.an ?_
        refine Run.sr ?_
        refine X.mv ?_
        refine X.bi ?_
        refine X.nil ?_
        refine R.cond (by rfl) (fun hc15 => ?_) (fun hc15 => ?_)
        · replace h := condT hc15 h
          refine Run.sr ?_
          refine X.an ?_
          cases h
          have h := hup3
          replace h := elimR h
          cases h
          refine R.fin1 Tryz.results135 (by rfl) (by rfl) ?_
          rfl
        · replace h := condF hc15 h
          refine Run.skip ?_
          refine Run.blk ?_
          refine Run.reg ?_
          refine X.mv ?_
          refine X.add (by rfl) (by rfl) (by omega) (by rfl) ?_
          refine X.an ?_
          exact hag8 (n8 - 1) (z9 + 1, v14) _ _ (by omega) ⟨by first | omega | (dsimp only; omega), by first | omega | (dsimp only; omega), by first | (rw [hds8]; exact h) | (dsimp only; rw [hds8]; exact h)⟩ (by trivial) (by trivial) (by rfl) (by rfl)
      · rw [drop_endI hza8 hc13] at h
        rw [w_szActivityS_L1] at h
        refine Run.exit (by rfl) ?_
        exact hmeet4 a10 _ _ (Option.some.inj h) (by trivial) (by trivial) (by rfl) (by rfl)
    rintro p16 rfl
    replace h := elimL h
    refine Run.sr ?_
    refine X.mv ?_
    refine X.an ?_
    cases h
    refine R.fin1 Tryz.results135 (by rfl) (by rfl) ?_
    rfl
theorem w_szLinkS_pc (b0 : List TLink) (b1 : Int) (r : Int) (h : w_szLinkS b0 b1 = some r) : PC Tryz.prog 136 [.slice (b0.map eTLink), int b1] (int r) := by
  unfold w_szLinkS at h
  refine PC.start Tryz.func136 Tryz.ntmps136 rfl ok136 rfl ?_
  refine Run.sr ?_
  refine X.an ?_
  refine Run.sr ?_
  refine X.mv ?_
  refine X.mv ?_
  refine X.len_s elt66 (by rfl) (by exact List.length_map ..) (by rfl) ?_
  refine X.subW (by rfl) (by rfl) (by rfl) ?_
  refine X.an ?_
  refine Run.seq ?_
  refine Run.sr ?_
  refine X.mv ?_
  refine X.bi ?_
  refine X.nil ?_
  refine R.cond (by rfl) (fun hc1 => ?_) (fun hc1 => ?_)
  · replace h := condT hc1 h
    refine Run.sr ?_
    refine X.an ?_
    cases h
    refine R.fin1 Tryz.results136 (by rfl) (by rfl) ?_
    rfl
  · replace h := condF hc1 h
    refine Run.skip ?_
    refine Run.sr ?_
    refine X.mv ?_
    refine X.an ?_
    cases h
    refine R.fin1 Tryz.results136 (by rfl) (by rfl) ?_
    rfl
theorem w_szStepS_pc (b0 : List TStep) (b1 : Int) (r : Int) (h : w_szStepS b0 b1 = some r) : PC Tryz.prog 309 [.slice (b0.map eTStep), int b1] (int r) := by
  unfold w_szStepS at h
  refine PC.start Tryz.func309 Tryz.ntmps309 rfl ok309 rfl ?_
  refine Run.sr ?_
  refine X.an ?_
  refine Run.sr ?_
  refine X.mv ?_
  refine X.mv ?_
  refine X.len_s elt210 (by rfl) (by exact List.length_map ..) (by rfl) ?_
  refine X.subW (by rfl) (by rfl) (by rfl) ?_
  refine X.an ?_
  refine Run.seq ?_
  refine Run.sr ?_
  refine X.mv ?_
  refine X.bi ?_
  refine X.nil ?_
  refine R.cond (by rfl) (fun hc1 => ?_) (fun hc1 => ?_)
  · replace h := condT hc1 h
    refine Run.sr ?_
    refine X.an ?_
    cases h
    refine R.fin1 Tryz.results309 (by rfl) (by rfl) ?_
    rfl
  · replace h := condF hc1 h
    refine Run.skip ?_
    refine Run.sr ?_
    refine X.mv ?_
    refine X.an ?_
    cases h
    refine R.fin1 Tryz.results309 (by rfl) (by rfl) ?_
    rfl
theorem w_szIntSS_pc (b0 : List (List Int)) (b1 : Int) (r : Int) (h : w_szIntSS b0 b1 = some r) : PC Tryz.prog 139 [.slice (b0.map l_int), int b1] (int r) := by
  unfold w_szIntSS at h
  refine PC.start Tryz.func139 Tryz.ntmps139 rfl ok139 rfl ?_
  refine Run.sr ?_
  refine X.an ?_
  refine Run.sr ?_
  refine X.mv ?_
  refine X.mv ?_
  refine X.len_s elt30 (by rfl) (by exact List.length_map ..) (by rfl) ?_
  refine X.subW (by rfl) (by rfl) (by rfl) ?_
  refine X.an ?_
  refine Run.seq ?_
  refine Run.sr ?_
  refine X.mv ?_
  refine X.bi ?_
  refine X.nil ?_
  refine R.cond (by rfl) (fun hc1 => ?_) (fun hc1 => ?_)
  · replace h := condT hc1 h
    refine Run.sr ?_
    refine X.an ?_
    cases h
    refine R.fin1 Tryz.results139 (by rfl) (by rfl) ?_
    rfl
  · replace h := condF hc1 h
    refine Run.skip ?_
    refine Run.seq ?_
    refine Run.sr ?_
    refine X.an ?_
    obtain ⟨o2, ho2, h⟩ := bindE h
    refine R.join2 (β := Int) [] [] (fun p16 S => (1, int p16) :: S) (fun p16 M => M) (fun p16 => (Sum.inl p16) = o2) ?_ ?_
    · intro JJ5 hmeet4
      have hup3 := h; clear h; have h := ho2; clear ho2
      refine Run.block ?_
      refine R.bndS (t := 0) (by rfl) (fun hbd8 => ?_)
      replace hbd8 : b0.length ≤ 9223372036854775807 := by first | (rw [List.length_map] at hbd8; exact hbd8) | simp
      refine R.loop2 (β := Int × Int) [(0, .slice (b0.map l_int))] [] (fun bb S => (1, int bb.2) :: (5, int bb.1) :: S) (fun bb M => M) (fun n bb => 0 ≤ bb.1 ∧ bb.1 + n = (b0.length : Int) ∧ w_szIntSS_L1 (b0.drop bb.1.toNat) bb.1 bb.2 = some o2) b0.length (0, (W (b1 - (b0.length : Int)))) (by repeat (first | trivial | refine ⟨by first | rfl | simp [setL], ?_⟩)) (by repeat (first | trivial | refine ⟨by first | rfl | simp [setL], ?_⟩)) (by rfl) (by rfl) ⟨Int.le_refl _, by simp, h⟩ ?_
      clear h
      rintro JJ8 n8 ⟨z9, a10⟩ hag8 ⟨hza8, hzb8, h⟩
      dsimp only at hza8 hzb8 h
      refine Run.seq ?_
      refine Run.sr ?_
      refine X.mv ?_
      refine X.mv ?_
      refine X.len_s elt30 (by rfl) (by exact List.length_map ..) (by rfl) ?_
      refine X.bi ?_
      refine X.nil ?_
      refine R.cond (by rfl) (fun hc13 => ?_) (fun hc13 => ?_)
      · obtain ⟨x11, xs12, hd8, hx8, hds8, hlt8⟩ := drop_atI hza8 hc13
        rw [hd8] at h
        rw [w_szIntSS_L1] at h
        refine Run.skip ?_
        refine Run.seq ?_
        refine Run.block ?_
        refine Run.sr ?_
        refine X.mv ?_
        refine X.mv ?_
        refine X.index_s elt30 (by rfl) (by rfl) (idxL_spec hx8).1 (idxL_map l_int hx8) (by rfl) (by rfl) (by rfl) ?_
        refine X.load_c shp26 (by rfl) (by rfl) (by rfl) (by rfl) ?_
        refine X.mv ?_
        obtain ⟨v14, hv14, h⟩ := bindE h
        refine X.callP (w_szIntS_pc _ _ _ hv14) (by rfl) (by rfl) (by rfl) (by trivial) (by rfl) (by rfl) (by rfl) (by rfl) ?_
        refine X.an ?_
        refine Run.sr ?_
        refine X.mv ?_
        refine X.bi ?_
        refine X.nil ?_
        refine R.cond (by rfl) (fun hc15 => ?_) (fun hc15 => ?_)
        · replace h := condT hc15 h
          refine Run.sr ?_
          refine X.an ?_
          cases h
          have h := hup3
          replace h := elimR h
          cases h
          refine R.fin1 Tryz.results139 (by rfl) (by rfl) ?_
          rfl
        · replace h := condF hc15 h
          refine Run.skip ?_
          refine Run.blk ?_
          refine Run.reg ?_
          refine X.mv ?_
          refine X.add (by rfl) (by rfl) (by omega) (by rfl) ?_
          refine X.an ?_
          exact hag8 (n8 - 1) (z9 + 1, v14) _ _ (by omega) ⟨by first | omega | (dsimp only; omega), by first | omega | (dsimp only; omega), by first | (rw [hds8]; exact h) | (dsimp only; rw [hds8]; exact h)⟩ (by trivial) (by trivial) (by rfl) (by rfl)
      · rw [drop_endI hza8 hc13] at h
        rw [w_szIntSS_L1] at h
        refine Run.exit (by rfl) ?_
        exact hmeet4 a10 _ _ (Option.some.inj h) (by trivial) (by trivial) (by rfl) (by rfl)
    rintro p16 rfl
    replace h := elimL h
    refine Run.sr ?_
    refine X.mv ?_
    refine X.an ?_
    cases h
    refine R.fin1 Tryz.results139 (by rfl) (by rfl) ?_
    rfl
theorem w_szResource_pc (b0 : TResource) (b1 : Int) (r : Int) (h : w_szResource b0 b1 = some r) : PC Tryz.prog 253 [eTResource b0, int b1] (int r) := by
  unfold w_szResource at h
  refine PC.start Tryz.func253 Tryz.ntmps253 rfl ok253 rfl ?_
  refine Run.sr ?_
  refine X.box (by rfl) (by rfl) (by repeat (first | trivial | refine ⟨by first | rfl | simp [setL], ?_⟩)) (by rfl) (by rfl) (by rfl) (by rfl) ?_
  refine X.an ?_
  refine Run.sr ?_
  refine X.fieldAddr_l fld212_0 (by rfl) (by rfl) ?_
  refine X.ld shp210 ?_
  refine X.mv ?_
  obtain ⟨v1, hv1, h⟩ := bindE h
  refine X.callP (w_szStepS_pc _ _ _ hv1) (by rfl) (by rfl) (by rfl) (by trivial) (by rfl) (by rfl) (by rfl) (by rfl) ?_
  refine X.an ?_
  refine Run.seq ?_
  refine Run.sr ?_
  refine X.mv ?_
  refine X.bi ?_
  refine X.nil ?_
  refine R.cond (by rfl) (fun hc2 => ?_) (fun hc2 => ?_)
  · replace h := condT hc2 h
    refine Run.sr ?_
    refine X.an ?_
    cases h
    refine R.fin1 Tryz.results253 (by rfl) (by rfl) ?_
    rfl
  · replace h := condF hc2 h
    refine Run.skip ?_
    refine Run.sr ?_
    refine X.fieldAddr_l fld212_1 (by rfl) (by rfl) ?_
    refine X.ld shp30 ?_
    refine X.mv ?_
    obtain ⟨v3, hv3, h⟩ := bindE h
    refine X.callP (w_szIntSS_pc _ _ _ hv3) (by rfl) (by rfl) (by rfl) (by trivial) (by rfl) (by rfl) (by rfl) (by rfl) ?_
    refine X.an ?_
    refine Run.seq ?_
    refine Run.sr ?_
    refine X.mv ?_
    refine X.bi ?_
    refine X.nil ?_
    refine R.cond (by rfl) (fun hc4 => ?_) (fun hc4 => ?_)
    · replace h := condT hc4 h
      refine Run.sr ?_
      refine X.an ?_
      cases h
      refine R.fin1 Tryz.results253 (by rfl) (by rfl) ?_
      rfl
    · replace h := condF hc4 h
      refine Run.skip ?_
      refine Run.sr ?_
      refine X.mv ?_
      refine X.an ?_
      cases h
      refine R.fin1 Tryz.results253 (by rfl) (by rfl) ?_
      rfl
theorem w_szResourceS_pc (b0 : List TResource) (b1 : Int) (r : Int) (h : w_szResourceS b0 b1 = some r) : PC Tryz.prog 137 [.slice (b0.map eTResource), int b1] (int r) := by
  unfold w_szResourceS at h
  refine PC.start Tryz.func137 Tryz.ntmps137 rfl ok137 rfl ?_
  refine Run.sr ?_
  refine X.an ?_
  refine Run.sr ?_
  refine X.mv ?_
  refine X.mv ?_
  refine X.len_s elt67 (by rfl) (by exact List.length_map ..) (by rfl) ?_
  refine X.subW (by rfl) (by rfl) (by rfl) ?_
  refine X.an ?_
  refine Run.seq ?_
  refine Run.sr ?_
  refine X.mv ?_
  refine X.bi ?_
  refine X.nil ?_
  refine R.cond (by rfl) (fun hc1 => ?_) (fun hc1 => ?_)
  · replace h := condT hc1 h
    refine Run.sr ?_
    refine X.an ?_
    cases h
    refine R.fin1 Tryz.results137 (by rfl) (by rfl) ?_
    rfl
  · replace h := condF hc1 h
    refine Run.skip ?_
    refine Run.seq ?_
    refine Run.sr ?_
    refine X.an ?_
    obtain ⟨o2, ho2, h⟩ := bindE h
    refine R.join2 (β := Int) [] [] (fun p16 S => (1, int p16) :: S) (fun p16 M => M) (fun p16 => (Sum.inl p16) = o2) ?_ ?_
    · intro JJ5 hmeet4
      have hup3 := h; clear h; have h := ho2; clear ho2
      refine Run.block ?_
      refine R.bndS (t := 0) (by rfl) (fun hbd8 => ?_)
      replace hbd8 : b0.length ≤ 9223372036854775807 := by first | (rw [List.length_map] at hbd8; exact hbd8) | simp
      refine R.loop2 (β := Int × Int) [(0, .slice (b0.map eTResource))] [] (fun bb S => (1, int bb.2) :: (5, int bb.1) :: S) (fun bb M => M) (fun n bb => 0 ≤ bb.1 ∧ bb.1 + n = (b0.length : Int) ∧ w_szResourceS_L1 (b0.drop bb.1.toNat) bb.1 bb.2 = some o2) b0.length (0, (W (b1 - (b0.length : Int)))) (by repeat (first | trivial | refine ⟨by first | rfl | simp [setL], ?_⟩)) (by repeat (first | trivial | refine ⟨by first | rfl | simp [setL], ?_⟩)) (by rfl) (by rfl) ⟨Int.le_refl _, by simp, h⟩ ?_
      clear h
      rintro JJ8 n8 ⟨z9, a10⟩ hag8 ⟨hza8, hzb8, h⟩
      dsimp only at hza8 hzb8 h
      refine Run.seq ?_
      refine Run.sr ?_
      refine X.mv ?_
      refine X.mv ?_
      refine X.len_s elt67 (by rfl) (by exact List.length_map ..) (by rfl) ?_
      refine X.bi ?_
      refine X.nil ?_
      refine R.cond (by rfl) (fun hc13 => ?_) (fun hc13 => ?_)
      · obtain ⟨x11, xs12, hd8, hx8, hds8, hlt8⟩ := drop_atI hza8 hc13
        rw [hd8] at h
        rw [w_szResourceS_L1] at h
        refine Run.skip ?_
        refine Run.seq ?_
        refine Run.block ?_
        refine Run.sr ?_
        refine X.mv ?_
        refine X.mv ?_
        refine X.index_s elt67 (by rfl) (by rfl) (idxL_spec hx8).1 (idxL_map eTResource hx8) (by rfl) (by rfl) (by rfl) ?_
        refine X.load_c shp212 (by rfl) (by rfl) (by rfl) (by rfl) ?_
        refine X.mv ?_
        obtain ⟨v14, hv14, h⟩ := bindE h
        refine X.callP (w_szResource_pc _ _ _ hv14) (by rfl) (by rfl) (by rfl) (by trivial) (by rfl) (by rfl) (by rfl) (by rfl) ?_
        refine X.an ?_
        refine Run.sr ?_
        refine X.mv ?_
        refine X.bi ?_
        refine X.nil ?_
        refine R.cond (by rfl) (fun hc15 => ?_) (fun hc15 => ?_)
        · replace h := condT hc15 h
          refine Run.sr ?_
          refine X.an ?_
          cases h
          have h := hup3
          replace h := elimR h
          cases h
          refine R.fin1 Tryz.results137 (by rfl) (by rfl) ?_
          rfl
        · replace h := condF hc15 h
          refine Run.skip ?_
          refine Run.blk ?_
          refine Run.reg ?_
          refine X.mv ?_
          refine X.add (by rfl) (by rfl) (by omega) (by rfl) ?_
          refine X.an ?_
          exact hag8 (n8 - 1) (z9 + 1, v14) _ _ (by omega) ⟨by first | omega | (dsimp only; omega), by first | omega | (dsimp only; omega), by first | (rw [hds8]; exact h) | (dsimp only; rw [hds8]; exact h)⟩ (by trivial) (by trivial) (by rfl) (by rfl)
      · rw [drop_endI hza8 hc13] at h
        rw [w_szResourceS_L1] at h
        refine Run.exit (by rfl) ?_
        exact hmeet4 a10 _ _ (Option.some.inj h) (by trivial) (by trivial) (by rfl) (by rfl)
    rintro p16 rfl
    replace h := elimL h
    refine Run.sr ?_
    refine X.mv ?_
    refine X.an ?_
    cases h
    refine R.fin1 Tryz.results137 (by rfl) (by rfl) ?_
    rfl
theorem w_szProject_pc (b0 : TProject) (b1 : Int) (r : Int) (h : w_szProject b0 b1 = some r) : PC Tryz.prog 48 [eTProject b0, int b1] (int r) := by
  unfold w_szProject at h
  refine PC.start Tryz.func48 Tryz.ntmps48 rfl ok48 rfl ?_
  refine Run.sr ?_
  refine X.box (by rfl) (by rfl) (by repeat (first | trivial | refine ⟨by first | rfl | simp [setL], ?_⟩)) (by rfl) (by rfl) (by rfl) (by rfl) ?_
  refine X.an ?_
  refine Run.sr ?_
  refine X.fieldAddr_l fld69_1 (by rfl) (by rfl) ?_
  refine X.ld shp65 ?_
  refine X.mv ?_
  obtain ⟨v1, hv1, h⟩ := bindE h
  refine X.callP (w_szActivityS_pc _ _ _ hv1) (by rfl) (by rfl) (by rfl) (by trivial) (by rfl) (by rfl) (by rfl) (by rfl) ?_
  refine X.an ?_
  refine Run.seq ?_
  refine Run.sr ?_
  refine X.mv ?_
  refine X.bi ?_
  refine X.nil ?_
  refine R.cond (by rfl) (fun hc2 => ?_) (fun hc2 => ?_)
  · replace h := condT hc2 h
    refine Run.sr ?_
    refine X.an ?_
    cases h
    refine R.fin1 Tryz.results48 (by rfl) (by rfl) ?_
    rfl
  · replace h := condF hc2 h
    refine Run.skip ?_
    refine Run.sr ?_
    refine X.fieldAddr_l fld69_2 (by rfl) (by rfl) ?_
    refine X.ld shp66 ?_
    refine X.mv ?_
    obtain ⟨v3, hv3, h⟩ := bindE h
    refine X.callP (w_szLinkS_pc _ _ _ hv3) (by rfl) (by rfl) (by rfl) (by trivial) (by rfl) (by rfl) (by rfl) (by rfl) ?_
    refine X.an ?_
    refine Run.seq ?_
    refine Run.sr ?_
    refine X.mv ?_
    refine X.bi ?_
    refine X.nil ?_
    refine R.cond (by rfl) (fun hc4 => ?_) (fun hc4 => ?_)
    · replace h := condT hc4 h
      refine Run.sr ?_
      refine X.an ?_
      cases h
      refine R.fin1 Tryz.results48 (by rfl) (by rfl) ?_
      rfl
    · replace h := condF hc4 h
      refine Run.skip ?_
      refine Run.sr ?_
      refine X.fieldAddr_l fld69_3 (by rfl) (by rfl) ?_
      refine X.ld shp67 ?_
      refine X.mv ?_
      obtain ⟨v5, hv5, h⟩ := bindE h
      refine X.callP (w_szResourceS_pc _ _ _ hv5) (by rfl) (by rfl) (by rfl) (by trivial) (by rfl) (by rfl) (by rfl) (by rfl) ?_
      refine X.an ?_
      refine Run.seq ?_
      refine Run.sr ?_
      refine X.mv ?_
      refine X.bi ?_
      refine X.nil ?_
      refine R.cond (by rfl) (fun hc6 => ?_) (fun hc6 => ?_)
      · replace h := condT hc6 h
        refine Run.sr ?_
        refine X.an ?_
        cases h
        refine R.fin1 Tryz.results48 (by rfl) (by rfl) ?_
        rfl
      · replace h := condF hc6 h
        refine Run.skip ?_
        refine Run.sr ?_
        refine X.fieldAddr_l fld69_4 (by rfl) (by rfl) ?_
        refine X.ld shp26 ?_
        refine X.mv ?_
        obtain ⟨v7, hv7, h⟩ := bindE h
        refine X.callP (w_szIntS_pc _ _ _ hv7) (by rfl) (by rfl) (by rfl) (by trivial) (by rfl) (by rfl) (by rfl) (by rfl) ?_
        refine X.an ?_
        refine Run.seq ?_
        refine Run.sr ?_
        refine X.mv ?_
        refine X.bi ?_
        refine X.nil ?_
        refine R.cond (by rfl) (fun hc8 => ?_) (fun hc8 => ?_)
        · replace h := condT hc8 h
          refine Run.sr ?_
          refine X.an ?_
          cases h
          refine R.fin1 Tryz.results48 (by rfl) (by rfl) ?_
          rfl
        · replace h := condF hc8 h
          refine Run.skip ?_
          refine Run.sr ?_
          refine X.mv ?_
          refine X.an ?_
          cases h
          refine R.fin1 Tryz.results48 (by rfl) (by rfl) ?_
          rfl
theorem w_toIntS_pc (b0 : List Int) (r : List Int) (h : w_toIntS b0 = some r) : PCM Tryz.prog 145 [.yng 63 (.slice (b0.map int))] [(63, .yreg false false)] (.fresh false 3 1 (r.map int)) [(63, .yreg false false)] := by
  unfold w_toIntS at h
  refine PCM.start Tryz.func145 Tryz.ntmps145 rfl ok145 rfl (by rfl) (by rfl) (by rfl) (by rfl) (by rfl) ?_
  refine Run.sr ?_
  refine X.an ?_
  refine Run.sr ?_
  refine X.mv ?_
  refine X.lenY false 63 elt26 (by rfl) (by exact List.length_map ..) (by rfl) ?_
  obtain ⟨v1, hv1, h⟩ := bindE h
  refine X.makeSlice2 int hv1 elt26 zer3 (by rfl) (by rfl) (by rfl) (by simp [PV.plain]) (by rfl) (by rfl) (by rfl) (by rfl) (by rfl) (by rfl) ?_
  refine X.an ?_
  refine Run.seq ?_
  refine Run.sr ?_
  refine X.an ?_
  obtain ⟨o2, ho2, h⟩ := bindE h
  refine R.join2 (β := (List Int)) [] [(63, .yreg false false)] (fun p15 S => (3, .own 448 (p15.map int).length) :: S) (fun p15 M => (448, .obj true 3 1 (p15.map int)) :: M) (fun p15 => p15 = o2) ?_ ?_
  · intro JJ5 hmeet4
    have hup3 := h; clear h; have h := ho2; clear ho2
    refine Run.block ?_
    refine R.bndY false 63 (t := 0) (by rfl) (fun hbd8 => ?_)
    replace hbd8 : b0.length ≤ 9223372036854775807 := by first | (rw [List.length_map] at hbd8; exact hbd8) | simp
    refine R.loop2 (β := Int × (List Int)) [(0, .yng 63 (.slice (b0.map int)))] [(63, .yreg false false)] (fun bb S => (3, .own 448 (bb.2.map int).length) :: (4, int bb.1) :: S) (fun bb M => (448, .obj true 3 1 (bb.2.map int)) :: M) (fun n bb => 0 ≤ bb.1 ∧ bb.1 + n = (b0.length : Int) ∧ w_toIntS_L1 (b0.drop bb.1.toNat) bb.1 bb.2 = some o2) b0.length (0, v1) (by repeat (first | trivial | refine ⟨by first | rfl | simp [setL], ?_⟩)) (by repeat (first | trivial | refine ⟨by first | rfl | simp [setL], ?_⟩)) (by rfl) (by rfl) ⟨Int.le_refl _, by simp, h⟩ ?_
    clear h
    rintro JJ8 n8 ⟨z9, a10⟩ hag8 ⟨hza8, hzb8, h⟩
    dsimp only at hza8 hzb8 h
    refine Run.seq ?_
    refine Run.sr ?_
    refine X.mv ?_
    refine X.mv ?_
    refine X.lenY false 63 elt26 (by rfl) (by exact List.length_map ..) (by rfl) ?_
    refine X.bi ?_
    refine X.nil ?_
    refine R.cond (by rfl) (fun hc13 => ?_) (fun hc13 => ?_)
    · obtain ⟨x11, xs12, hd8, hx8, hds8, hlt8⟩ := drop_atI hza8 hc13
      rw [hd8] at h
      rw [w_toIntS_L1] at h
      refine Run.skip ?_
      refine Run.seq ?_
      refine Run.block ?_
      refine Run.reg ?_
      refine X.mv ?_
      refine X.mv ?_
      refine X.mv ?_
      refine X.mv ?_
      refine X.indexY false 63 elt26 (by rfl) (by rfl) (idxL_spec hx8).1 (idxL_map int hx8) (by rfl) (by rfl) ?_
      refine X.loadY false 63 shp3 (by rfl) (by rfl) (by rfl) (by rfl) ?_
      obtain ⟨v14, hv14, h⟩ := bindE h
      refine X.index_xs elt26 (by rfl) (by rfl) (by first | rfl | simp [setL] | omega) (by rfl) (by exact (Int.toNat_of_nonneg (idxL_spec hv14).1).symm) (by have := idxL_lt hv14; simpa using this) (by rfl) (by rfl) ?_
      refine X.store_es shp3 (by rfl) (by rfl) (by first | rfl | simp [setL] | omega) (idxL_map _ hv14) (by rfl) (by rfl) (by repeat (first | trivial | refine ⟨by first | rfl | simp [setL], ?_⟩)) (by rfl) (by rfl) (by rfl) (by rfl) (by exact setL_map _ _ _ x11) ?_
      refine X.nil ?_
      refine Run.blk ?_
      refine Run.reg ?_
      refine X.mv ?_
      refine X.add (by rfl) (by rfl) (by omega) (by rfl) ?_
      refine X.an ?_
      refine R.castS (t := 3) (.own 448 ((setL a10 z9 x11).map int).length) (by rfl) (.inl (by first | rfl | simp [setL])) ?_
      exact hag8 (n8 - 1) (z9 + 1, (setL a10 z9 x11)) _ _ (by omega) ⟨by first | omega | (dsimp only; omega), by first | omega | (dsimp only; omega), by first | (rw [hds8]; exact h) | (dsimp only; rw [hds8]; exact h)⟩ (by repeat (first | trivial | refine ⟨by first | rfl | simp [setL], ?_⟩)) (by repeat (first | trivial | refine ⟨by first | rfl | simp [setL], ?_⟩)) (by rfl) (by rfl)
    · rw [drop_endI hza8 hc13] at h
      rw [w_toIntS_L1] at h
      refine Run.exit (by rfl) ?_
      exact hmeet4 a10 _ _ (Option.some.inj h) (by repeat (first | trivial | refine ⟨by first | rfl | simp [setL], ?_⟩)) (by repeat (first | trivial | refine ⟨by first | rfl | simp [setL], ?_⟩)) (by rfl) (by rfl)
  rintro p15 rfl
  refine Run.sr ?_
  refine X.mv ?_
  refine X.an ?_
  cases h
  refine R.pubObj (n := 448) (by rfl) ?_
  exact R.finM1o Tryz.results145 (by rfl) (by rfl) (by first | rfl | simp [setL] | omega) (by rfl) (by repeat (first | exact trivial | refine ⟨by rfl, ?_⟩)) rfl
theorem w_toMode_pc (b0 : TMode) (r : TMode) (h : w_toMode b0 = some r) : PCM Tryz.prog 333 [.agg [int b0.Duration, .yng 63 (.slice (b0.Usage.map int)), .yng 63 (.slice (b0.Consumption.map int))]] [(63, .yreg false false)] (.agg [int r.Duration, .fresh false 3 1 (r.Usage.map int), .fresh false 3 1 (r.Consumption.map int)]) [(63, .yreg false false)] := by
  unfold w_toMode at h
  refine PCM.start Tryz.func333 Tryz.ntmps333 rfl ok333 rfl (by rfl) (by rfl) (by rfl) (by rfl) (by rfl) ?_
  refine Run.sr ?_
  refine X.box (by rfl) (by rfl) (by repeat (first | trivial | refine ⟨by first | rfl | simp [setL], ?_⟩)) (by rfl) (by rfl) (by rfl) (by rfl) ?_
  refine X.alloc zer47 (by rfl) (by rfl) (by rfl) ?_
  refine X.nil ?_
  refine Run.sr ?_
  refine X.alloc zer47 (by rfl) (by rfl) (by rfl) ?_
  refine X.nil ?_
  refine Run.sr ?_
  refine X.fieldAddr_l fld257_0 (by rfl) (by rfl) ?_
  refine X.ld shp3 ?_
  refine X.fieldAddr_l fld47_0 (by rfl) (by rfl) ?_
  refine X.store_l shp3 (by rfl) (by rfl) (by rfl) (by rfl) (by repeat (first | trivial | refine ⟨by first | rfl | simp [setL], ?_⟩)) (by rfl) (by rfl) (by rfl) ?_
  refine X.nil ?_
  refine Run.sr ?_
  refine X.fieldAddr_l fld257_1 (by rfl) (by rfl) ?_
  refine X.ld shp26 ?_
  obtain ⟨v1, hv1, h⟩ := bindE h
  refine X.callM [(63, 63)] (w_toIntS_pc _ _ hv1) (by rfl) (by rfl) (.yngB 63 (by rfl) (by rfl) .nil) (by rfl) ⟨rfl, rfl, ⟨_, by rfl, by constructor⟩, by constructor, trivial⟩ (by rfl) (by rfl) (by rfl) (by rfl) (by rfl) (by rfl) (by rfl) (by rfl) (by rfl) ?_
  refine X.fieldAddr_l fld47_1 (by rfl) (by rfl) ?_
  refine X.store_l shp26 (by rfl) (by rfl) (by rfl) (by rfl) (by repeat (first | trivial | refine ⟨by first | rfl | simp [setL], ?_⟩)) (by rfl) (by rfl) (by rfl) ?_
  refine X.nil ?_
  refine Run.sr ?_
  refine X.fieldAddr_l fld257_2 (by rfl) (by rfl) ?_
  refine X.ld shp26 ?_
  obtain ⟨v2, hv2, h⟩ := bindE h
  refine X.callM [(63, 63)] (w_toIntS_pc _ _ hv2) (by rfl) (by rfl) (.yngB 63 (by rfl) (by rfl) .nil) (by rfl) ⟨rfl, rfl, ⟨_, by rfl, by constructor⟩, by constructor, trivial⟩ (by rfl) (by rfl) (by rfl) (by rfl) (by rfl) (by rfl) (by rfl) (by rfl) (by rfl) ?_
  refine X.fieldAddr_l fld47_2 (by rfl) (by rfl) ?_
  refine X.store_l shp26 (by rfl) (by rfl) (by rfl) (by rfl) (by repeat (first | trivial | refine ⟨by first | rfl | simp [setL], ?_⟩)) (by rfl) (by rfl) (by rfl) ?_
  refine X.nil ?_
  refine Run.sr ?_
  refine X.ld shp47 ?_
  refine X.store_l shp47 (by rfl) (by rfl) (by rfl) (by rfl) (by repeat (first | trivial | refine ⟨by first | rfl | simp [setL], ?_⟩)) (by rfl) (by rfl) (by rfl) ?_
  refine X.nil ?_
  cases h
  exact R.finMC Tryz.results333 shp47 (by rfl) (by rfl) (by rfl) (by rfl) (by repeat (first | trivial | refine ⟨by first | rfl | simp [setL], ?_⟩)) (by rfl) (by repeat (first | exact trivial | refine ⟨by rfl, ?_⟩)) rfl
theorem w_toModeS_pc (b0 : List TMode) (r : List TMode) (h : w_toModeS b0 = some r) : PCM Tryz.prog 310 [.yng 63 (.slice (b0.map eTMode))] [(63, .yreg false false)] (.fresh false 47 3 (r.map eTMode)) [(63, .yreg false false)] := by
  unfold w_toModeS at h
  refine PCM.start Tryz.func310 Tryz.ntmps310 rfl ok310 rfl (by rfl) (by rfl) (by rfl) (by rfl) (by rfl) ?_
  refine Run.sr ?_
  refine X.an ?_
  refine Run.sr ?_
  refine X.mv ?_
  refine X.lenY false 63 elt206 (by rfl) (by exact List.length_map ..) (by rfl) ?_
  obtain ⟨v1, hv1, h⟩ := bindE h
  refine X.makeSlice2 eTMode hv1 elt48 zer47 (by rfl) (by rfl) (by rfl) (by simp [PV.plain]) (by rfl) (by rfl) (by rfl) (by rfl) (by rfl) (by rfl) ?_
  refine X.an ?_
  refine Run.seq ?_
  refine Run.sr ?_
  refine X.an ?_
  obtain ⟨o2, ho2, h⟩ := bindE h
  refine R.join2 (β := (List TMode)) [] [(63, .yreg false false)] (fun p16 S => (3, .own 448 (p16.map eTMode).length) :: S) (fun p16 M => (448, .obj true 47 3 (p16.map eTMode)) :: M) (fun p16 => p16 = o2) ?_ ?_
  · intro JJ5 hmeet4
    have hup3 := h; clear h; have h := ho2; clear ho2
    refine Run.block ?_
    refine R.bndY false 63 (t := 0) (by rfl) (fun hbd8 => ?_)
    replace hbd8 : b0.length ≤ 9223372036854775807 := by first | (rw [List.length_map] at hbd8; exact hbd8) | simp
    refine R.loop2 (β := Int × (List TMode)) [(0, .yng 63 (.slice (b0.map eTMode)))] [(63, .yreg false false)] (fun bb S => (3, .own 448 (bb.2.map eTMode).length) :: (4, int bb.1) :: S) (fun bb M => (448, .obj true 47 3 (bb.2.map eTMode)) :: M) (fun n bb => 0 ≤ bb.1 ∧ bb.1 + n = (b0.length : Int) ∧ w_toModeS_L1 (b0.drop bb.1.toNat) bb.1 bb.2 = some o2) b0.length (0, v1) (by repeat (first | trivial | refine ⟨by first | rfl | simp [setL], ?_⟩)) (by repeat (first | trivial | refine ⟨by first | rfl | simp [setL], ?_⟩)) (by rfl) (by rfl) ⟨Int.le_refl _, by simp, h⟩ ?_
    clear h
    rintro JJ8 n8 ⟨z9, a10⟩ hag8 ⟨hza8, hzb8, h⟩
    dsimp only at hza8 hzb8 h
    refine Run.seq ?_
    refine Run.sr ?_
    refine X.mv ?_
    refine X.mv ?_
    refine X.lenY false 63 elt206 (by rfl) (by exact List.length_map ..) (by rfl) ?_
    refine X.bi ?_
    refine X.nil ?_
    refine R.cond (by rfl) (fun hc13 => ?_) (fun hc13 => ?_)
    · obtain ⟨x11, xs12, hd8, hx8, hds8, hlt8⟩ := drop_atI hza8 hc13
      rw [hd8] at h
      rw [w_toModeS_L1] at h
      refine Run.skip ?_
      refine Run.seq ?_
      refine Run.block ?_
      refine Run.reg ?_
      refine X.mv ?_
      refine X.mv ?_
      refine X.mv ?_
      refine X.mv ?_
      refine X.indexY false 63 elt206 (by rfl) (by rfl) (idxL_spec hx8).1 (idxL_map eTMode hx8) (by rfl) (by rfl) ?_
      refine X.loadY false 63 shp257 (by rfl) (by rfl) (by rfl) (by rfl) ?_
      obtain ⟨v14, hv14, h⟩ := bindE h
      refine X.callM [(63, 63)] (w_toMode_pc _ _ hv14) (by rfl) (by rfl) (.agg _ _ _ _ _ _ (.pureB (by rfl) (by repeat (first | trivial | refine ⟨by first | rfl | simp [setL], ?_⟩)) (.yngB 63 (by rfl) (by rfl) (.yngB 63 (by rfl) (by rfl) .nil))) .nil) (by rfl) ⟨rfl, rfl, ⟨_, by rfl, by constructor⟩, by constructor, trivial⟩ (by rfl) (by rfl) (by rfl) (by rfl) (by rfl) (by rfl) (by rfl) (by rfl) (by rfl) ?_
      obtain ⟨v15, hv15, h⟩ := bindE h
      refine X.index_xs elt48 (by rfl) (by rfl) (by first | rfl | simp [setL] | omega) (by rfl) (by exact (Int.toNat_of_nonneg (idxL_spec hv15).1).symm) (by have := idxL_lt hv15; simpa using this) (by rfl) (by rfl) ?_
      refine X.store_es shp47 (by rfl) (by rfl) (by first | rfl | simp [setL] | omega) (idxL_map _ hv15) (by rfl) (by rfl) (by repeat (first | trivial | refine ⟨by first | rfl | simp [setL], ?_⟩)) (by rfl) (by rfl) (by rfl) (by rfl) (by exact setL_map _ _ _ v14) ?_
      refine X.nil ?_
      refine Run.blk ?_
      refine Run.reg ?_
      refine X.mv ?_
      refine X.add (by rfl) (by rfl) (by omega) (by rfl) ?_
      refine X.an ?_
      refine R.castS (t := 3) (.own 448 ((setL a10 z9 v14).map eTMode).length) (by rfl) (.inl (by first | rfl | simp [setL])) ?_
      exact hag8 (n8 - 1) (z9 + 1, (setL a10 z9 v14)) _ _ (by omega) ⟨by first | omega | (dsimp only; omega), by first | omega | (dsimp only; omega), by first | (rw [hds8]; exact h) | (dsimp only; rw [hds8]; exact h)⟩ (by repeat (first | trivial | refine ⟨by first | rfl | simp [setL], ?_⟩)) (by repeat (first | trivial | refine ⟨by first | rfl | simp [setL], ?_⟩)) (by rfl) (by rfl)
    · rw [drop_endI hza8 hc13] at h
      rw [w_toModeS_L1] at h
      refine Run.exit (by rfl) ?_
      exact hmeet4 a10 _ _ (Option.some.inj h) (by repeat (first | trivial | refine ⟨by first | rfl | simp [setL], ?_⟩)) (by repeat (first | trivial | refine ⟨by first | rfl | simp [setL], ?_⟩)) (by rfl) (by rfl)
  rintro p16 rfl
  refine Run.sr ?_
  refine X.mv ?_
  refine X.an ?_
  cases h
  refine R.pubObj (n := 448) (by rfl) ?_
  exact R.finM1o Tryz.results310 (by rfl) (by rfl) (by first | rfl | simp [setL] | omega) (by rfl) (by repeat (first | exact trivial | refine ⟨by rfl, ?_⟩)) rfl
theorem w_toActivity_pc (b0 : TActivity) (r : TActivity) (h : w_toActivity b0 = some r) : PCM Tryz.prog 254 [.agg [str b0.Name, int b0.Family, .yng 63 (.slice (b0.Modes.map eTMode))]] [(63, .yreg false false)] (.agg [str r.Name, int r.Family, .fresh false 47 3 (r.Modes.map eTMode)]) [(63, .yreg false false)] := by
  unfold w_toActivity at h
  refine PCM.start Tryz.func254 Tryz.ntmps254 rfl ok254 rfl (by rfl) (by rfl) (by rfl) (by rfl) (by rfl) ?_
  refine Run.sr ?_
  refine X.box (by rfl) (by rfl) (by repeat (first | trivial | refine ⟨by first | rfl | simp [setL], ?_⟩)) (by rfl) (by rfl) (by rfl) (by rfl) ?_
  refine X.alloc zer50 (by rfl) (by rfl) (by rfl) ?_
  refine X.nil ?_
  refine Run.sr ?_
  refine X.alloc zer50 (by rfl) (by rfl) (by rfl) ?_
  refine X.nil ?_
  refine Run.sr ?_
  refine X.fieldAddr_l fld208_0 (by rfl) (by rfl) ?_
  refine X.ld shp9 ?_
  refine X.fieldAddr_l fld50_0 (by rfl) (by rfl) ?_
  refine X.store_l shp9 (by rfl) (by rfl) (by rfl) (by rfl) (by repeat (first | trivial | refine ⟨by first | rfl | simp [setL], ?_⟩)) (by rfl) (by rfl) (by rfl) ?_
  refine X.nil ?_
  refine Run.sr ?_
  refine X.fieldAddr_l fld208_1 (by rfl) (by rfl) ?_
  refine X.ld shp3 ?_
  refine X.fieldAddr_l fld50_1 (by rfl) (by rfl) ?_
  refine X.store_l shp3 (by rfl) (by rfl) (by rfl) (by rfl) (by repeat (first | trivial | refine ⟨by first | rfl | simp [setL], ?_⟩)) (by rfl) (by rfl) (by rfl) ?_
  refine X.nil ?_
  refine Run.sr ?_
  refine X.fieldAddr_l fld208_2 (by rfl) (by rfl) ?_
  refine X.ld shp206 ?_
  obtain ⟨v1, hv1, h⟩ := bindE h
  refine X.callM [(63, 63)] (w_toModeS_pc _ _ hv1) (by rfl) (by rfl) (.yngB 63 (by rfl) (by rfl) .nil) (by rfl) ⟨rfl, rfl, ⟨_, by rfl, by constructor⟩, by constructor, trivial⟩ (by rfl) (by rfl) (by rfl) (by rfl) (by rfl) (by rfl) (by rfl) (by rfl) (by rfl) ?_
  refine X.fieldAddr_l fld50_2 (by rfl) (by rfl) ?_
  refine X.store_l shp48 (by rfl) (by rfl) (by rfl) (by rfl) (by repeat (first | trivial | refine ⟨by first | rfl | simp [setL], ?_⟩)) (by rfl) (by rfl) (by rfl) ?_
  refine X.nil ?_
  refine Run.sr ?_
  refine X.ld shp50 ?_
  refine X.store_l shp50 (by rfl) (by rfl) (by rfl) (by rfl) (by repeat (first | trivial | refine ⟨by first | rfl | simp [setL], ?_⟩)) (by rfl) (by rfl) (by rfl) ?_
  refine X.nil ?_
  cases h
  exact R.finMC Tryz.results254 shp50 (by rfl) (by rfl) (by rfl) (by rfl) (by repeat (first | trivial | refine ⟨by first | rfl | simp [setL], ?_⟩)) (by rfl) (by repeat (first | exact trivial | refine ⟨by rfl, ?_⟩)) rfl
theorem w_toActivityS_pc (b0 : List TActivity) (r : List TActivity) (h : w_toActivityS b0 = some r) : PCM Tryz.prog 142 [.yng 63 (.slice (b0.map eTActivity))] [(63, .yreg false false)] (.fresh false 50 3 (r.map eTActivity)) [(63, .yreg false false)] := by
  unfold w_toActivityS at h
  refine PCM.start Tryz.func142 Tryz.ntmps142 rfl ok142 rfl (by rfl) (by rfl) (by rfl) (by rfl) (by rfl) ?_
  refine Run.sr ?_
  refine X.an ?_
  refine Run.sr ?_
  refine X.mv ?_
  refine X.lenY false 63 elt65 (by rfl) (by exact List.length_map ..) (by rfl) ?_
  obtain ⟨v1, hv1, h⟩ := bindE h
  refine X.makeSlice2 eTActivity hv1 elt23 zer50 (by rfl) (by rfl) (by rfl) (by simp [PV.plain]) (by rfl) (by rfl) (by rfl) (by rfl) (by rfl) (by rfl) ?_
  refine X.an ?_
  refine Run.seq ?_
  refine Run.sr ?_
  refine X.an ?_
  obtain ⟨o2, ho2, h⟩ := bindE h
  refine R.join2 (β := (List TActivity)) [] [(63, .yreg false false)] (fun p16 S => (3, .own 448 (p16.map eTActivity).length) :: S) (fun p16 M => (448, .obj true 50 3 (p16.map eTActivity)) :: M) (fun p16 => p16 = o2) ?_ ?_
  · intro JJ5 hmeet4
    have hup3 := h; clear h; have h := ho2; clear ho2
    refine Run.block ?_
    refine R.bndY false 63 (t := 0) (by rfl) (fun hbd8 => ?_)
    replace hbd8 : b0.length ≤ 9223372036854775807 := by first | (rw [List.length_map] at hbd8; exact hbd8) | simp
    refine R.loop2 (β := Int × (List TActivity)) [(0, .yng 63 (.slice (b0.map eTActivity)))] [(63, .yreg false false)] (fun bb S => (3, .own 448 (bb.2.map eTActivity).length) :: (4, int bb.1) :: S) (fun bb M => (448, .obj true 50 3 (bb.2.map eTActivity)) :: M) (fun n bb => 0 ≤ bb.1 ∧ bb.1 + n = (b0.length : Int) ∧ w_toActivityS_L1 (b0.drop bb.1.toNat) bb.1 bb.2 = some o2) b0.length (0, v1) (by repeat (first | trivial | refine ⟨by first | rfl | simp [setL], ?_⟩)) (by repeat (first | trivial | refine ⟨by first | rfl | simp [setL], ?_⟩)) (by rfl) (by rfl) ⟨Int.le_refl _, by simp, h⟩ ?_
    clear h
    rintro JJ8 n8 ⟨z9, a10⟩ hag8 ⟨hza8, hzb8, h⟩
    dsimp only at hza8 hzb8 h
    refine Run.seq ?_
    refine Run.sr ?_
    refine X.mv ?_
    refine X.mv ?_
    refine X.lenY false 63 elt65 (by rfl) (by exact List.length_map ..) (by rfl) ?_
    refine X.bi ?_
    refine X.nil ?_
    refine R.cond (by rfl) (fun hc13 => ?_) (fun hc13 => ?_)
    · obtain ⟨x11, xs12, hd8, hx8, hds8, hlt8⟩ := drop_atI hza8 hc13
      rw [hd8] at h
      rw [w_toActivityS_L1] at h
      refine Run.skip ?_
      refine Run.seq ?_
      refine Run.block ?_
      refine Run.reg ?_
      refine X.mv ?_
      refine X.mv ?_
      refine X.mv ?_
      refine X.mv ?_
      refine X.indexY false 63 elt65 (by rfl) (by rfl) (idxL_spec hx8).1 (idxL_map eTActivity hx8) (by rfl) (by rfl) ?_
      refine X.loadY false 63 shp208 (by rfl) (by rfl) (by rfl) (by rfl) ?_
      obtain ⟨v14, hv14, h⟩ := bindE h
      refine X.callM [(63, 63)] (w_toActivity_pc _ _ hv14) (by rfl) (by rfl) (.agg _ _ _ _ _ _ (.pureB (by rfl) (by repeat (first | trivial | refine ⟨by first | rfl | simp [setL], ?_⟩)) (.pureB (by rfl) (by repeat (first | trivial | refine ⟨by first | rfl | simp [setL], ?_⟩)) (.yngB 63 (by rfl) (by rfl) .nil))) .nil) (by rfl) ⟨rfl, rfl, ⟨_, by rfl, by constructor⟩, by constructor, trivial⟩ (by rfl) (by rfl) (by rfl) (by rfl) (by rfl) (by rfl) (by rfl) (by rfl) (by rfl) ?_
      obtain ⟨v15, hv15, h⟩ := bindE h
      refine X.index_xs elt23 (by rfl) (by rfl) (by first | rfl | simp [setL] | omega) (by rfl) (by exact (Int.toNat_of_nonneg (idxL_spec hv15).1).symm) (by have := idxL_lt hv15; simpa using this) (by rfl) (by rfl) ?_
      refine X.store_es shp50 (by rfl) (by rfl) (by first | rfl | simp [setL] | omega) (idxL_map _ hv15) (by rfl) (by rfl) (by repeat (first | trivial | refine ⟨by first | rfl | simp [setL], ?_⟩)) (by rfl) (by rfl) (by rfl) (by rfl) (by exact setL_map _ _ _ v14) ?_
      refine X.nil ?_
      refine Run.blk ?_
      refine Run.reg ?_
      refine X.mv ?_
      refine X.add (by rfl) (by rfl) (by omega) (by rfl) ?_
      refine X.an ?_
      refine R.castS (t := 3) (.own 448 ((setL a10 z9 v14).map eTActivity).length) (by rfl) (.inl (by first | rfl | simp [setL])) ?_
      exact hag8 (n8 - 1) (z9 + 1, (setL a10 z9 v14)) _ _ (by omega) ⟨by first | omega | (dsimp only; omega), by first | omega | (dsimp only; omega), by first | (rw [hds8]; exact h) | (dsimp only; rw [hds8]; exact h)⟩ (by repeat (first | trivial | refine ⟨by first | rfl | simp [setL], ?_⟩)) (by repeat (first | trivial | refine ⟨by first | rfl | simp [setL], ?_⟩)) (by rfl) (by rfl)
    · rw [drop_endI hza8 hc13] at h
      rw [w_toActivityS_L1] at h
      refine Run.exit (by rfl) ?_
      exact hmeet4 a10 _ _ (Option.some.inj h) (by repeat (first | trivial | refine ⟨by first | rfl | simp [setL], ?_⟩)) (by repeat (first | trivial | refine ⟨by first | rfl | simp [setL], ?_⟩)) (by rfl) (by rfl)
  rintro p16 rfl
  refine Run.sr ?_
  refine X.mv ?_
  refine X.an ?_
  cases h
  refine R.pubObj (n := 448) (by rfl) ?_
  exact R.finM1o Tryz.results142 (by rfl) (by rfl) (by first | rfl | simp [setL] | omega) (by rfl) (by repeat (first | exact trivial | refine ⟨by rfl, ?_⟩)) rfl
theorem w_toLink_pc (b0 : TLink) (r : TLink) (h : w_toLink b0 = some r) : PC Tryz.prog 255 [eTLink b0] (eTLink r) := by
  unfold w_toLink at h
  refine PC.start Tryz.func255 Tryz.ntmps255 rfl ok255 rfl ?_
  refine Run.sr ?_
  refine X.box (by rfl) (by rfl) (by repeat (first | trivial | refine ⟨by first | rfl | simp [setL], ?_⟩)) (by rfl) (by rfl) (by rfl) (by rfl) ?_
  refine X.alloc zer167 (by rfl) (by rfl) (by rfl) ?_
  refine X.nil ?_
  refine Run.sr ?_
  refine X.alloc zer167 (by rfl) (by rfl) (by rfl) ?_
  refine X.nil ?_
  refine Run.sr ?_
  refine X.fieldAddr_l fld215_0 (by rfl) (by rfl) ?_
  refine X.ld shp3 ?_
  refine X.fieldAddr_l fld167_0 (by rfl) (by rfl) ?_
  refine X.store_l shp3 (by rfl) (by rfl) (by rfl) (by rfl) (by repeat (first | trivial | refine ⟨by first | rfl | simp [setL], ?_⟩)) (by rfl) (by rfl) (by rfl) ?_
  refine X.nil ?_
  refine Run.sr ?_
  refine X.fieldAddr_l fld215_1 (by rfl) (by rfl) ?_
  refine X.ld shp3 ?_
  refine X.fieldAddr_l fld167_1 (by rfl) (by rfl) ?_
  refine X.store_l shp3 (by rfl) (by rfl) (by rfl) (by rfl) (by repeat (first | trivial | refine ⟨by first | rfl | simp [setL], ?_⟩)) (by rfl) (by rfl) (by rfl) ?_
  refine X.nil ?_
  refine Run.sr ?_
  refine X.fieldAddr_l fld215_2 (by rfl) (by rfl) ?_
  refine X.ld shp4 ?_
  refine X.fieldAddr_l fld167_2 (by rfl) (by rfl) ?_
  refine X.store_l shp4 (by rfl) (by rfl) (by rfl) (by rfl) (by repeat (first | trivial | refine ⟨by first | rfl | simp [setL], ?_⟩)) (by rfl) (by rfl) (by rfl) ?_
  refine X.nil ?_
  refine Run.sr ?_
  refine X.fieldAddr_l fld215_3 (by rfl) (by rfl) ?_
  refine X.ld shp3 ?_
  refine X.fieldAddr_l fld167_3 (by rfl) (by rfl) ?_
  refine X.store_l shp3 (by rfl) (by rfl) (by rfl) (by rfl) (by repeat (first | trivial | refine ⟨by first | rfl | simp [setL], ?_⟩)) (by rfl) (by rfl) (by rfl) ?_
  refine X.nil ?_
  refine Run.sr ?_
  refine X.ld shp167 ?_
  refine X.store_l shp167 (by rfl) (by rfl) (by rfl) (by rfl) (by repeat (first | trivial | refine ⟨by first | rfl | simp [setL], ?_⟩)) (by rfl) (by rfl) (by rfl) ?_
  refine X.nil ?_
  cases h
  refine R.finC Tryz.results255 shp167 (by rfl) (by rfl) (by rfl) (by rfl) (by repeat (first | trivial | refine ⟨by first | rfl | simp [setL], ?_⟩)) ?_
  rfl
theorem w_toLinkS_pc (b0 : List TLink) (r : List TLink) (h : w_toLinkS b0 = some r) : PCM Tryz.prog 143 [.yng 63 (.slice (b0.map eTLink))] [(63, .yreg false false)] (.fresh false 167 4 (r.map eTLink)) [(63, .yreg false false)] := by
  unfold w_toLinkS at h
  refine PCM.start Tryz.func143 Tryz.ntmps143 rfl ok143 rfl (by rfl) (by rfl) (by rfl) (by rfl) (by rfl) ?_
  refine Run.sr ?_
  refine X.an ?_
  refine Run.sr ?_
  refine X.mv ?_
  refine X.lenY false 63 elt66 (by rfl) (by exact List.length_map ..) (by rfl) ?_
  obtain ⟨v1, hv1, h⟩ := bindE h
  refine X.makeSlice2 eTLink hv1 elt24 zer167 (by rfl) (by rfl) (by rfl) (by simp [PV.plain]) (by rfl) (by rfl) (by rfl) (by rfl) (by rfl) (by rfl) ?_
  refine X.an ?_
  refine Run.seq ?_
  refine Run.sr ?_
  refine X.an ?_
  obtain ⟨o2, ho2, h⟩ := bindE h
  refine R.join2 (β := (List TLink)) [] [(63, .yreg false false)] (fun p16 S => (3, .own 448 (p16.map eTLink).length) :: S) (fun p16 M => (448, .obj true 167 4 (p16.map eTLink)) :: M) (fun p16 => p16 = o2) ?_ ?_
  · intro JJ5 hmeet4
    have hup3 := h; clear h; have h := ho2; clear ho2
    refine Run.block ?_
    refine R.bndY false 63 (t := 0) (by rfl) (fun hbd8 => ?_)
    replace hbd8 : b0.length ≤ 9223372036854775807 := by first | (rw [List.length_map] at hbd8; exact hbd8) | simp
    refine R.loop2 (β := Int × (List TLink)) [(0, .yng 63 (.slice (b0.map eTLink)))] [(63, .yreg false false)] (fun bb S => (3, .own 448 (bb.2.map eTLink).length) :: (4, int bb.1) :: S) (fun bb M => (448, .obj true 167 4 (bb.2.map eTLink)) :: M) (fun n bb => 0 ≤ bb.1 ∧ bb.1 + n = (b0.length : Int) ∧ w_toLinkS_L1 (b0.drop bb.1.toNat) bb.1 bb.2 = some o2) b0.length (0, v1) (by repeat (first | trivial | refine ⟨by first | rfl | simp [setL], ?_⟩)) (by repeat (first | trivial | refine ⟨by first | rfl | simp [setL], ?_⟩)) (by rfl) (by rfl) ⟨Int.le_refl _, by simp, h⟩ ?_
    clear h
    rintro JJ8 n8 ⟨z9, a10⟩ hag8 ⟨hza8, hzb8, h⟩
    dsimp only at hza8 hzb8 h
    refine Run.seq ?_
    refine Run.sr ?_
    refine X.mv ?_
    refine X.mv ?_
    refine X.lenY false 63 elt66 (by rfl) (by exact List.length_map ..) (by rfl) ?_
    refine X.bi ?_
    refine X.nil ?_
    refine R.cond (by rfl) (fun hc13 => ?_) (fun hc13 => ?_)
    · obtain ⟨x11, xs12, hd8, hx8, hds8, hlt8⟩ := drop_atI hza8 hc13
      rw [hd8] at h
      rw [w_toLinkS_L1] at h
      refine Run.skip ?_
      refine Run.seq ?_
      refine Run.block ?_
      refine Run.reg ?_
      refine X.mv ?_
      refine X.mv ?_
      refine X.mv ?_
      refine X.mv ?_
      refine X.indexY false 63 elt66 (by rfl) (by rfl) (idxL_spec hx8).1 (idxL_map eTLink hx8) (by rfl) (by rfl) ?_
      refine X.loadY false 63 shp215 (by rfl) (by rfl) (by rfl) (by rfl) ?_
      obtain ⟨v14, hv14, h⟩ := bindE h
      refine X.callA (w_toLink_pc _ _ hv14) (by rfl) (by rfl) (by rfl) (by trivial) (by rfl) (by rfl) (by rfl) (by rfl) (by rfl) (by rfl) ?_
      obtain ⟨v15, hv15, h⟩ := bindE h
      refine X.index_xs elt24 (by rfl) (by rfl) (by first | rfl | simp [setL] | omega) (by rfl) (by exact (Int.toNat_of_nonneg (idxL_spec hv15).1).symm) (by have := idxL_lt hv15; simpa using this) (by rfl) (by rfl) ?_
      refine X.store_es shp167 (by rfl) (by rfl) (by first | rfl | simp [setL] | omega) (idxL_map _ hv15) (by rfl) (by rfl) (by repeat (first | trivial | refine ⟨by first | rfl | simp [setL], ?_⟩)) (by rfl) (by rfl) (by rfl) (by rfl) (by exact setL_map _ _ _ v14) ?_
      refine X.nil ?_
      refine Run.blk ?_
      refine Run.reg ?_
      refine X.mv ?_
      refine X.add (by rfl) (by rfl) (by omega) (by rfl) ?_
      refine X.an ?_
      refine R.castS (t := 3) (.own 448 ((setL a10 z9 v14).map eTLink).length) (by rfl) (.inl (by first | rfl | simp [setL])) ?_
      exact hag8 (n8 - 1) (z9 + 1, (setL a10 z9 v14)) _ _ (by omega) ⟨by first | omega | (dsimp only; omega), by first | omega | (dsimp only; omega), by first | (rw [hds8]; exact h) | (dsimp only; rw [hds8]; exact h)⟩ (by repeat (first | trivial | refine ⟨by first | rfl | simp [setL], ?_⟩)) (by repeat (first | trivial | refine ⟨by first | rfl | simp [setL], ?_⟩)) (by rfl) (by rfl)
    · rw [drop_endI hza8 hc13] at h
      rw [w_toLinkS_L1] at h
      refine Run.exit (by rfl) ?_
      exact hmeet4 a10 _ _ (Option.some.inj h) (by repeat (first | trivial | refine ⟨by first | rfl | simp [setL], ?_⟩)) (by repeat (first | trivial | refine ⟨by first | rfl | simp [setL], ?_⟩)) (by rfl) (by rfl)
  rintro p16 rfl
  refine Run.sr ?_
  refine X.mv ?_
  refine X.an ?_
  cases h
  refine R.pubObj (n := 448) (by rfl) ?_
  exact R.finM1o Tryz.results143 (by rfl) (by rfl) (by first | rfl | simp [setL] | omega) (by rfl) (by repeat (first | exact trivial | refine ⟨by rfl, ?_⟩)) rfl
theorem w_toStep_pc (b0 : TStep) (r : TStep) (h : w_toStep b0 = some r) : PC Tryz.prog 334 [eTStep b0] (eTStep r) := by
  unfold w_toStep at h
  refine PC.start Tryz.func334 Tryz.ntmps334 rfl ok334 rfl ?_
  refine Run.sr ?_
  refine X.box (by rfl) (by rfl) (by repeat (first | trivial | refine ⟨by first | rfl | simp [setL], ?_⟩)) (by rfl) (by rfl) (by rfl) (by rfl) ?_
  refine X.alloc zer183 (by rfl) (by rfl) (by rfl) ?_
  refine X.nil ?_
  refine Run.sr ?_
  refine X.alloc zer183 (by rfl) (by rfl) (by rfl) ?_
  refine X.nil ?_
  refine Run.sr ?_
  refine X.fieldAddr_l fld260_0 (by rfl) (by rfl) ?_
  refine X.ld shp3 ?_
  refine X.fieldAddr_l fld183_0 (by rfl) (by rfl) ?_
  refine X.store_l shp3 (by rfl) (by rfl) (by rfl) (by rfl) (by repeat (first | trivial | refine ⟨by first | rfl | simp [setL], ?_⟩)) (by rfl) (by rfl) (by rfl) ?_
  refine X.nil ?_
  refine Run.sr ?_
  refine X.fieldAddr_l fld260_1 (by rfl) (by rfl) ?_
  refine X.ld shp3 ?_
  refine X.fieldAddr_l fld183_1 (by rfl) (by rfl) ?_
  refine X.store_l shp3 (by rfl) (by rfl) (by rfl) (by rfl) (by repeat (first | trivial | refine ⟨by first | rfl | simp [setL], ?_⟩)) (by rfl) (by rfl) (by rfl) ?_
  refine X.nil ?_
  refine Run.sr ?_
  refine X.ld shp183 ?_
  refine X.store_l shp183 (by rfl) (by rfl) (by rfl) (by rfl) (by repeat (first | trivial | refine ⟨by first | rfl | simp [setL], ?_⟩)) (by rfl) (by rfl) (by rfl) ?_
  refine X.nil ?_
  cases h
  refine R.finC Tryz.results334 shp183 (by rfl) (by rfl) (by rfl) (by rfl) (by repeat (first | trivial | refine ⟨by first | rfl | simp [setL], ?_⟩)) ?_
  rfl
theorem w_toStepS_pc (b0 : List TStep) (r : List TStep) (h : w_toStepS b0 = some r) : PCM Tryz.prog 311 [.yng 63 (.slice (b0.map eTStep))] [(63, .yreg false false)] (.fresh false 183 2 (r.map eTStep)) [(63, .yreg false false)] := by
  unfold w_toStepS at h
  refine PCM.start Tryz.func311 Tryz.ntmps311 rfl ok311 rfl (by rfl) (by rfl) (by rfl) (by rfl) (by rfl) ?_
  refine Run.sr ?_
  refine X.an ?_
  refine Run.sr ?_
  refine X.mv ?_
  refine X.lenY false 63 elt210 (by rfl) (by exact List.length_map ..) (by rfl) ?_
  obtain ⟨v1, hv1, h⟩ := bindE h
  refine X.makeSlice2 eTStep hv1 elt62 zer183 (by rfl) (by rfl) (by rfl) (by simp [PV.plain]) (by rfl) (by rfl) (by rfl) (by rfl) (by rfl) (by rfl) ?_
  refine X.an ?_
  refine Run.seq ?_
  refine Run.sr ?_
  refine X.an ?_
  obtain ⟨o2, ho2, h⟩ := bindE h
  refine R.join2 (β := (List TStep)) [] [(63, .yreg false false)] (fun p16 S => (3, .own 448 (p16.map eTStep).length) :: S) (fun p16 M => (448, .obj true 183 2 (p16.map eTStep)) :: M) (fun p16 => p16 = o2) ?_ ?_
  · intro JJ5 hmeet4
    have hup3 := h; clear h; have h := ho2; clear ho2
    refine Run.block ?_
    refine R.bndY false 63 (t := 0) (by rfl) (fun hbd8 => ?_)
    replace hbd8 : b0.length ≤ 9223372036854775807 := by first | (rw [List.length_map] at hbd8; exact hbd8) | simp
    refine R.loop2 (β := Int × (List TStep)) [(0, .yng 63 (.slice (b0.map eTStep)))] [(63, .yreg false false)] (fun bb S => (3, .own 448 (bb.2.map eTStep).length) :: (4, int bb.1) :: S) (fun bb M => (448, .obj true 183 2 (bb.2.map eTStep)) :: M) (fun n bb => 0 ≤ bb.1 ∧ bb.1 + n = (b0.length : Int) ∧ w_toStepS_L1 (b0.drop bb.1.toNat) bb.1 bb.2 = some o2) b0.length (0, v1) (by repeat (first | trivial | refine ⟨by first | rfl | simp [setL], ?_⟩)) (by repeat (first | trivial | refine ⟨by first | rfl | simp [setL], ?_⟩)) (by rfl) (by rfl) ⟨Int.le_refl _, by simp, h⟩ ?_
    clear h
    rintro JJ8 n8 ⟨z9, a10⟩ hag8 ⟨hza8, hzb8, h⟩
    dsimp only at hza8 hzb8 h
    refine Run.seq ?_
    refine Run.sr ?_
    refine X.mv ?_
    refine X.mv ?_
    refine X.lenY false 63 elt210 (by rfl) (by exact List.length_map ..) (by rfl) ?_
    refine X.bi ?_
    refine X.nil ?_
    refine R.cond (by rfl) (fun hc13 => ?_) (fun hc13 => ?_)
    · obtain ⟨x11, xs12, hd8, hx8, hds8, hlt8⟩ := drop_atI hza8 hc13
      rw [hd8] at h
      rw [w_toStepS_L1] at h
      refine Run.skip ?_
      refine Run.seq ?_
      refine Run.block ?_
      refine Run.reg ?_
      refine X.mv ?_
      refine X.mv ?_
      refine X.mv ?_
      refine X.mv ?_
      refine X.indexY false 63 elt210 (by rfl) (by rfl) (idxL_spec hx8).1 (idxL_map eTStep hx8) (by rfl) (by rfl) ?_
      refine X.loadY false 63 shp260 (by rfl) (by rfl) (by rfl) (by rfl) ?_
      obtain ⟨v14, hv14, h⟩ := bindE h
      refine X.callA (w_toStep_pc _ _ hv14) (by rfl) (by rfl) (by rfl) (by trivial) (by rfl) (by rfl) (by rfl) (by rfl) (by rfl) (by rfl) ?_
      obtain ⟨v15, hv15, h⟩ := bindE h
      refine X.index_xs elt62 (by rfl) (by rfl) (by first | rfl | simp [setL] | omega) (by rfl) (by exact (Int.toNat_of_nonneg (idxL_spec hv15).1).symm) (by have := idxL_lt hv15; simpa using this) (by rfl) (by rfl) ?_
      refine X.store_es shp183 (by rfl) (by rfl) (by first | rfl | simp [setL] | omega) (idxL_map _ hv15) (by rfl) (by rfl) (by repeat (first | trivial | refine ⟨by first | rfl | simp [setL], ?_⟩)) (by rfl) (by rfl) (by rfl) (by rfl) (by exact setL_map _ _ _ v14) ?_
      refine X.nil ?_
      refine Run.blk ?_
      refine Run.reg ?_
      refine X.mv ?_
      refine X.add (by rfl) (by rfl) (by omega) (by rfl) ?_
      refine X.an ?_
      refine R.castS (t := 3) (.own 448 ((setL a10 z9 v14).map eTStep).length) (by rfl) (.inl (by first | rfl | simp [setL])) ?_
      exact hag8 (n8 - 1) (z9 + 1, (setL a10 z9 v14)) _ _ (by omega) ⟨by first | omega | (dsimp only; omega), by first | omega | (dsimp only; omega), by first | (rw [hds8]; exact h) | (dsimp only; rw [hds8]; exact h)⟩ (by repeat (first | trivial | refine ⟨by first | rfl | simp [setL], ?_⟩)) (by repeat (first | trivial | refine ⟨by first | rfl | simp [setL], ?_⟩)) (by rfl) (by rfl)
    · rw [drop_endI hza8 hc13] at h
      rw [w_toStepS_L1] at h
      refine Run.exit (by rfl) ?_
      exact hmeet4 a10 _ _ (Option.some.inj h) (by repeat (first | trivial | refine ⟨by first | rfl | simp [setL], ?_⟩)) (by repeat (first | trivial | refine ⟨by first | rfl | simp [setL], ?_⟩)) (by rfl) (by rfl)
  rintro p16 rfl
  refine Run.sr ?_
  refine X.mv ?_
  refine X.an ?_
  cases h
  refine R.pubObj (n := 448) (by rfl) ?_
  exact R.finM1o Tryz.results311 (by rfl) (by rfl) (by first | rfl | simp [setL] | omega) (by rfl) (by repeat (first | exact trivial | refine ⟨by rfl, ?_⟩)) rfl
theorem w_toIntSS_pc (b0 : List (List Int)) (r : List (List Int)) (h : w_toIntSS b0 = some r) : PCM Tryz.prog 146 [.yng 63 (.slice (b0.map l_int))] [(63, .yreg false false)] (.fresh false 26 1 (r.map l_int)) [(63, .yreg false false)] := by
  unfold w_toIntSS at h
  refine PCM.start Tryz.func146 Tryz.ntmps146 rfl ok146 rfl (by rfl) (by rfl) (by rfl) (by rfl) (by rfl) ?_
  refine Run.sr ?_
  refine X.an ?_
  refine Run.sr ?_
  refine X.mv ?_
  refine X.lenY false 63 elt30 (by rfl) (by exact List.length_map ..) (by rfl) ?_
  obtain ⟨v1, hv1, h⟩ := bindE h
  refine X.makeSlice2 l_int hv1 elt30 zer26 (by rfl) (by rfl) (by rfl) (by simp [PV.plain]) (by rfl) (by rfl) (by rfl) (by rfl) (by rfl) (by rfl) ?_
  refine X.an ?_
  refine Run.seq ?_
  refine Run.sr ?_
  refine X.an ?_
  obtain ⟨o2, ho2, h⟩ := bindE h
  refine R.join2 (β := (List (List Int))) [] [(63, .yreg false false)] (fun p16 S => (3, .own 448 (p16.map l_int).length) :: S) (fun p16 M => (448, .obj true 26 1 (p16.map l_int)) :: M) (fun p16 => p16 = o2) ?_ ?_
  · intro JJ5 hmeet4
    have hup3 := h; clear h; have h := ho2; clear ho2
    refine Run.block ?_
    refine R.bndY false 63 (t := 0) (by rfl) (fun hbd8 => ?_)
    replace hbd8 : b0.length ≤ 9223372036854775807 := by first | (rw [List.length_map] at hbd8; exact hbd8) | simp
    refine R.loop2 (β := Int × (List (List Int))) [(0, .yng 63 (.slice (b0.map l_int)))] [(63, .yreg false false)] (fun bb S => (3, .own 448 (bb.2.map l_int).length) :: (4, int bb.1) :: S) (fun bb M => (448, .obj true 26 1 (bb.2.map l_int)) :: M) (fun n bb => 0 ≤ bb.1 ∧ bb.1 + n = (b0.length : Int) ∧ w_toIntSS_L1 (b0.drop bb.1.toNat) bb.1 bb.2 = some o2) b0.length (0, v1) (by repeat (first | trivial | refine ⟨by first | rfl | simp [setL], ?_⟩)) (by repeat (first | trivial | refine ⟨by first | rfl | simp [setL], ?_⟩)) (by rfl) (by rfl) ⟨Int.le_refl _, by simp, h⟩ ?_
    clear h
    rintro JJ8 n8 ⟨z9, a10⟩ hag8 ⟨hza8, hzb8, h⟩
    dsimp only at hza8 hzb8 h
    refine Run.seq ?_
    refine Run.sr ?_
    refine X.mv ?_
    refine X.mv ?_
    refine X.lenY false 63 elt30 (by rfl) (by exact List.length_map ..) (by rfl) ?_
    refine X.bi ?_
    refine X.nil ?_
    refine R.cond (by rfl) (fun hc13 => ?_) (fun hc13 => ?_)
    · obtain ⟨x11, xs12, hd8, hx8, hds8, hlt8⟩ := drop_atI hza8 hc13
      rw [hd8] at h
      rw [w_toIntSS_L1] at h
      refine Run.skip ?_
      refine Run.seq ?_
      refine Run.block ?_
      refine Run.reg ?_
      refine X.mv ?_
      refine X.mv ?_
      refine X.mv ?_
      refine X.mv ?_
      refine X.indexY false 63 elt30 (by rfl) (by rfl) (idxL_spec hx8).1 (idxL_map l_int hx8) (by rfl) (by rfl) ?_
      refine X.loadY false 63 shp26 (by rfl) (by rfl) (by rfl) (by rfl) ?_
      obtain ⟨v14, hv14, h⟩ := bindE h
      refine X.callM [(63, 63)] (w_toIntS_pc _ _ hv14) (by rfl) (by rfl) (.yngB 63 (by rfl) (by rfl) .nil) (by rfl) ⟨rfl, rfl, ⟨_, by rfl, by constructor⟩, by constructor, trivial⟩ (by rfl) (by rfl) (by rfl) (by rfl) (by rfl) (by rfl) (by rfl) (by rfl) (by rfl) ?_
      obtain ⟨v15, hv15, h⟩ := bindE h
      refine X.index_xs elt30 (by rfl) (by rfl) (by first | rfl | simp [setL] | omega) (by rfl) (by exact (Int.toNat_of_nonneg (idxL_spec hv15).1).symm) (by have := idxL_lt hv15; simpa using this) (by rfl) (by rfl) ?_
      refine X.store_es shp26 (by rfl) (by rfl) (by first | rfl | simp [setL] | omega) (idxL_map _ hv15) (by rfl) (by rfl) (by repeat (first | trivial | refine ⟨by first | rfl | simp [setL], ?_⟩)) (by rfl) (by rfl) (by rfl) (by rfl) (by exact setL_map _ _ _ v14) ?_
      refine X.nil ?_
      refine Run.blk ?_
      refine Run.reg ?_
      refine X.mv ?_
      refine X.add (by rfl) (by rfl) (by omega) (by rfl) ?_
      refine X.an ?_
      refine R.castS (t := 3) (.own 448 ((setL a10 z9 v14).map l_int).length) (by rfl) (.inl (by first | rfl | simp [setL])) ?_
      exact hag8 (n8 - 1) (z9 + 1, (setL a10 z9 v14)) _ _ (by omega) ⟨by first | omega | (dsimp only; omega), by first | omega | (dsimp only; omega), by first | (rw [hds8]; exact h) | (dsimp only; rw [hds8]; exact h)⟩ (by repeat (first | trivial | refine ⟨by first | rfl | simp [setL], ?_⟩)) (by repeat (first | trivial | refine ⟨by first | rfl | simp [setL], ?_⟩)) (by rfl) (by rfl)
    · rw [drop_endI hza8 hc13] at h
      rw [w_toIntSS_L1] at h
      refine Run.exit (by rfl) ?_
      exact hmeet4 a10 _ _ (Option.some.inj h) (by repeat (first | trivial | refine ⟨by first | rfl | simp [setL], ?_⟩)) (by repeat (first | trivial | refine ⟨by first | rfl | simp [setL], ?_⟩)) (by rfl) (by rfl)
  rintro p16 rfl
  refine Run.sr ?_
  refine X.mv ?_
  refine X.an ?_
  cases h
  refine R.pubObj (n := 448) (by rfl) ?_
  exact R.finM1o Tryz.results146 (by rfl) (by rfl) (by first | rfl | simp [setL] | omega) (by rfl) (by repeat (first | exact trivial | refine ⟨by rfl, ?_⟩)) rfl
theorem w_toResource_pc (b0 : TResource) (r : TResource) (h : w_toResource b0 = some r) : PCM Tryz.prog 256 [.agg [.yng 63 (.slice (b0.Steps.map eTStep)), .yng 63 (.slice (b0.Setup.map l_int))]] [(63, .yreg false false)] (.agg [.fresh false 183 2 (r.Steps.map eTStep), .fresh false 26 1 (r.Setup.map l_int)]) [(63, .yreg false false)] := by
  unfold w_toResource at h
  refine PCM.start Tryz.func256 Tryz.ntmps256 rfl ok256 rfl (by rfl) (by rfl) (by rfl) (by rfl) (by rfl) ?_
  refine Run.sr ?_
  refine X.box (by rfl) (by rfl) (by repeat (first | trivial | refine ⟨by first | rfl | simp [setL], ?_⟩)) (by rfl) (by rfl) (by rfl) (by rfl) ?_
  refine X.alloc zer64 (by rfl) (by rfl) (by rfl) ?_
  refine X.nil ?_
  refine Run.sr ?_
  refine X.alloc zer64 (by rfl) (by rfl) (by rfl) ?_
  refine X.nil ?_
  refine Run.sr ?_
  refine X.fieldAddr_l fld212_0 (by rfl) (by rfl) ?_
  refine X.ld shp210 ?_
  obtain ⟨v1, hv1, h⟩ := bindE h
  refine X.callM [(63, 63)] (w_toStepS_pc _ _ hv1) (by rfl) (by rfl) (.yngB 63 (by rfl) (by rfl) .nil) (by rfl) ⟨rfl, rfl, ⟨_, by rfl, by constructor⟩, by constructor, trivial⟩ (by rfl) (by rfl) (by rfl) (by rfl) (by rfl) (by rfl) (by rfl) (by rfl) (by rfl) ?_
  refine X.fieldAddr_l fld64_0 (by rfl) (by rfl) ?_
  refine X.store_l shp62 (by rfl) (by rfl) (by rfl) (by rfl) (by repeat (first | trivial | refine ⟨by first | rfl | simp [setL], ?_⟩)) (by rfl) (by rfl) (by rfl) ?_
  refine X.nil ?_
  refine Run.sr ?_
  refine X.fieldAddr_l fld212_1 (by rfl) (by rfl) ?_
  refine X.ld shp30 ?_
  obtain ⟨v2, hv2, h⟩ := bindE h
  refine X.callM [(63, 63)] (w_toIntSS_pc _ _ hv2) (by rfl) (by rfl) (.yngB 63 (by rfl) (by rfl) .nil) (by rfl) ⟨rfl, rfl, ⟨_, by rfl, by constructor⟩, by constructor, trivial⟩ (by rfl) (by rfl) (by rfl) (by rfl) (by rfl) (by rfl) (by rfl) (by rfl) (by rfl) ?_
  refine X.fieldAddr_l fld64_1 (by rfl) (by rfl) ?_
  refine X.store_l shp30 (by rfl) (by rfl) (by rfl) (by rfl) (by repeat (first | trivial | refine ⟨by first | rfl | simp [setL], ?_⟩)) (by rfl) (by rfl) (by rfl) ?_
  refine X.nil ?_
  refine Run.sr ?_
  refine X.ld shp64 ?_
  refine X.store_l shp64 (by rfl) (by rfl) (by rfl) (by rfl) (by repeat (first | trivial | refine ⟨by first | rfl | simp [setL], ?_⟩)) (by rfl) (by rfl) (by rfl) ?_
  refine X.nil ?_
  cases h
  exact R.finMC Tryz.results256 shp64 (by rfl) (by rfl) (by rfl) (by rfl) (by repeat (first | trivial | refine ⟨by first | rfl | simp [setL], ?_⟩)) (by rfl) (by repeat (first | exact trivial | refine ⟨by rfl, ?_⟩)) rfl
theorem w_toResourceS_pc (b0 : List TResource) (r : List TResource) (h : w_toResourceS b0 = some r) : PCM Tryz.prog 144 [.yng 63 (.slice (b0.map eTResource))] [(63, .yreg false false)] (.fresh false 64 2 (r.map eTResource)) [(63, .yreg false false)] := by
  unfold w_toResourceS at h
  refine PCM.start Tryz.func144 Tryz.ntmps144 rfl ok144 rfl (by rfl) (by rfl) (by rfl) (by rfl) (by rfl) ?_
  refine Run.sr ?_
  refine X.an ?_
  refine Run.sr ?_
  refine X.mv ?_
  refine X.lenY false 63 elt67 (by rfl) (by exact List.length_map ..) (by rfl) ?_
  obtain ⟨v1, hv1, h⟩ := bindE h
  refine X.makeSlice2 eTResource hv1 elt25 zer64 (by rfl) (by rfl) (by rfl) (by simp [PV.plain]) (by rfl) (by rfl) (by rfl) (by rfl) (by rfl) (by rfl) ?_
  refine X.an ?_
  refine Run.seq ?_
  refine Run.sr ?_
  refine X.an ?_
  obtain ⟨o2, ho2, h⟩ := bindE h
  refine R.join2 (β := (List TResource)) [] [(63, .yreg false false)] (fun p16 S => (3, .own 448 (p16.map eTResource).length) :: S) (fun p16 M => (448, .obj true 64 2 (p16.map eTResource)) :: M) (fun p16 => p16 = o2) ?_ ?_
  · intro JJ5 hmeet4
    have hup3 := h; clear h; have h := ho2; clear ho2
    refine Run.block ?_
    refine R.bndY false 63 (t := 0) (by rfl) (fun hbd8 => ?_)
    replace hbd8 : b0.length ≤ 9223372036854775807 := by first | (rw [List.length_map] at hbd8; exact hbd8) | simp
    refine R.loop2 (β := Int × (List TResource)) [(0, .yng 63 (.slice (b0.map eTResource)))] [(63, .yreg false false)] (fun bb S => (3, .own 448 (bb.2.map eTResource).length) :: (4, int bb.1) :: S) (fun bb M => (448, .obj true 64 2 (bb.2.map eTResource)) :: M) (fun n bb => 0 ≤ bb.1 ∧ bb.1 + n = (b0.length : Int) ∧ w_toResourceS_L1 (b0.drop bb.1.toNat) bb.1 bb.2 = some o2) b0.length (0, v1) (by repeat (first | trivial | refine ⟨by first | rfl | simp [setL], ?_⟩)) (by repeat (first | trivial | refine ⟨by first | rfl | simp [setL], ?_⟩)) (by rfl) (by rfl) ⟨Int.le_refl _, by simp, h⟩ ?_
    clear h
    rintro JJ8 n8 ⟨z9, a10⟩ hag8 ⟨hza8, hzb8, h⟩
    dsimp only at hza8 hzb8 h
    refine Run.seq ?_
    refine Run.sr ?_
    refine X.mv ?_
    refine X.mv ?_
    refine X.lenY false 63 elt67 (by rfl) (by exact List.length_map ..) (by rfl) ?_
    refine X.bi ?_
    refine X.nil ?_
    refine R.cond (by rfl) (fun hc13 => ?_) (fun hc13 => ?_)
    · obtain ⟨x11, xs12, hd8, hx8, hds8, hlt8⟩ := drop_atI hza8 hc13
      rw [hd8] at h
      rw [w_toResourceS_L1] at h
      refine Run.skip ?_
      refine Run.seq ?_
      refine Run.block ?_
      refine Run.reg ?_
      refine X.mv ?_
      refine X.mv ?_
      refine X.mv ?_
      refine X.mv ?_
      refine X.indexY false 63 elt67 (by rfl) (by rfl) (idxL_spec hx8).1 (idxL_map eTResource hx8) (by rfl) (by rfl) ?_
      refine X.loadY false 63 shp212 (by rfl) (by rfl) (by rfl) (by rfl) ?_
      obtain ⟨v14, hv14, h⟩ := bindE h
      refine X.callM [(63, 63)] (w_toResource_pc _ _ hv14) (by rfl) (by rfl) (.agg _ _ _ _ _ _ (.yngB 63 (by rfl) (by rfl) (.yngB 63 (by rfl) (by rfl) .nil)) .nil) (by rfl) ⟨rfl, rfl, ⟨_, by rfl, by constructor⟩, by constructor, trivial⟩ (by rfl) (by rfl) (by rfl) (by rfl) (by rfl) (by rfl) (by rfl) (by rfl) (by rfl) ?_
      obtain ⟨v15, hv15, h⟩ := bindE h
      refine X.index_xs elt25 (by rfl) (by rfl) (by first | rfl | simp [setL] | omega) (by rfl) (by exact (Int.toNat_of_nonneg (idxL_spec hv15).1).symm) (by have := idxL_lt hv15; simpa using this) (by rfl) (by rfl) ?_
      refine X.store_es shp64 (by rfl) (by rfl) (by first | rfl | simp [setL] | omega) (idxL_map _ hv15) (by rfl) (by rfl) (by repeat (first | trivial | refine ⟨by first | rfl | simp [setL], ?_⟩)) (by rfl) (by rfl) (by rfl) (by rfl) (by exact setL_map _ _ _ v14) ?_
      refine X.nil ?_
      refine Run.blk ?_
      refine Run.reg ?_
      refine X.mv ?_
      refine X.add (by rfl) (by rfl) (by omega) (by rfl) ?_
      refine X.an ?_
      refine R.castS (t := 3) (.own 448 ((setL a10 z9 v14).map eTResource).length) (by rfl) (.inl (by first | rfl | simp [setL])) ?_
      exact hag8 (n8 - 1) (z9 + 1, (setL a10 z9 v14)) _ _ (by omega) ⟨by first | omega | (dsimp only; omega), by first | omega | (dsimp only; omega), by first | (rw [hds8]; exact h) | (dsimp only; rw [hds8]; exact h)⟩ (by repeat (first | trivial | refine ⟨by first | rfl | simp [setL], ?_⟩)) (by repeat (first | trivial | refine ⟨by first | rfl | simp [setL], ?_⟩)) (by rfl) (by rfl)
    · rw [drop_endI hza8 hc13] at h
      rw [w_toResourceS_L1] at h
      refine Run.exit (by rfl) ?_
      exact hmeet4 a10 _ _ (Option.some.inj h) (by repeat (first | trivial | refine ⟨by first | rfl | simp [setL], ?_⟩)) (by repeat (first | trivial | refine ⟨by first | rfl | simp [setL], ?_⟩)) (by rfl) (by rfl)
  rintro p16 rfl
  refine Run.sr ?_
  refine X.mv ?_
  refine X.an ?_
  cases h
  refine R.pubObj (n := 448) (by rfl) ?_
  exact R.finM1o Tryz.results144 (by rfl) (by rfl) (by first | rfl | simp [setL] | omega) (by rfl) (by repeat (first | exact trivial | refine ⟨by rfl, ?_⟩)) rfl
theorem w_toProject_pc (b0 : TProject) (r : TProject) (h : w_toProject b0 = some r) : PCM Tryz.prog 51 [.agg [int b0.Deadline, .yng 63 (.slice (b0.Activities.map eTActivity)), .yng 63 (.slice (b0.Links.map eTLink)), .yng 63 (.slice (b0.Resources.map eTResource)), .yng 63 (.slice (b0.Stocks.map int))]] [(63, .yreg false false)] (.agg [int r.Deadline, .fresh false 50 3 (r.Activities.map eTActivity), .fresh false 167 4 (r.Links.map eTLink), .fresh false 64 2 (r.Resources.map eTResource), .fresh false 3 1 (r.Stocks.map int)]) [(63, .yreg false false)] := by
  unfold w_toProject at h
  refine PCM.start Tryz.func51 Tryz.ntmps51 rfl ok51 rfl (by rfl) (by rfl) (by rfl) (by rfl) (by rfl) ?_
  refine Run.sr ?_
  refine X.box (by rfl) (by rfl) (by repeat (first | trivial | refine ⟨by first | rfl | simp [setL], ?_⟩)) (by rfl) (by rfl) (by rfl) (by rfl) ?_
  refine X.alloc zer28 (by rfl) (by rfl) (by rfl) ?_
  refine X.nil ?_
  refine Run.sr ?_
  refine X.alloc zer28 (by rfl) (by rfl) (by rfl) ?_
  refine X.nil ?_
  refine Run.sr ?_
  refine X.fieldAddr_l fld69_0 (by rfl) (by rfl) ?_
  refine X.ld shp3 ?_
  refine X.fieldAddr_l fld28_0 (by rfl) (by rfl) ?_
  refine X.store_l shp3 (by rfl) (by rfl) (by rfl) (by rfl) (by repeat (first | trivial | refine ⟨by first | rfl | simp [setL], ?_⟩)) (by rfl) (by rfl) (by rfl) ?_
  refine X.nil ?_
  refine Run.sr ?_
  refine X.fieldAddr_l fld69_1 (by rfl) (by rfl) ?_
  refine X.ld shp65 ?_
  obtain ⟨v1, hv1, h⟩ := bindE h
  refine X.callM [(63, 63)] (w_toActivityS_pc _ _ hv1) (by rfl) (by rfl) (.yngB 63 (by rfl) (by rfl) .nil) (by rfl) ⟨rfl, rfl, ⟨_, by rfl, by constructor⟩, by constructor, trivial⟩ (by rfl) (by rfl) (by rfl) (by rfl) (by rfl) (by rfl) (by rfl) (by rfl) (by rfl) ?_
  refine X.fieldAddr_l fld28_1 (by rfl) (by rfl) ?_
  refine X.store_l shp23 (by rfl) (by rfl) (by rfl) (by rfl) (by repeat (first | trivial | refine ⟨by first | rfl | simp [setL], ?_⟩)) (by rfl) (by rfl) (by rfl) ?_
  refine X.nil ?_
  refine Run.sr ?_
  refine X.fieldAddr_l fld69_2 (by rfl) (by rfl) ?_
  refine X.ld shp66 ?_
  obtain ⟨v2, hv2, h⟩ := bindE h
  refine X.callM [(63, 63)] (w_toLinkS_pc _ _ hv2) (by rfl) (by rfl) (.yngB 63 (by rfl) (by rfl) .nil) (by rfl) ⟨rfl, rfl, ⟨_, by rfl, by constructor⟩, by constructor, trivial⟩ (by rfl) (by rfl) (by rfl) (by rfl) (by rfl) (by rfl) (by rfl) (by rfl) (by rfl) ?_
  refine X.fieldAddr_l fld28_2 (by rfl) (by rfl) ?_
  refine X.store_l shp24 (by rfl) (by rfl) (by rfl) (by rfl) (by repeat (first | trivial | refine ⟨by first | rfl | simp [setL], ?_⟩)) (by rfl) (by rfl) (by rfl) ?_
  refine X.nil ?_
  refine Run.sr ?_
  refine X.fieldAddr_l fld69_3 (by rfl) (by rfl) ?_
  refine X.ld shp67 ?_
  obtain ⟨v3, hv3, h⟩ := bindE h
  refine X.callM [(63, 63)] (w_toResourceS_pc _ _ hv3) (by rfl) (by rfl) (.yngB 63 (by rfl) (by rfl) .nil) (by rfl) ⟨rfl, rfl, ⟨_, by rfl, by constructor⟩, by constructor, trivial⟩ (by rfl) (by rfl) (by rfl) (by rfl) (by rfl) (by rfl) (by rfl) (by rfl) (by rfl) ?_
  refine X.fieldAddr_l fld28_3 (by rfl) (by rfl) ?_
  refine X.store_l shp25 (by rfl) (by rfl) (by rfl) (by rfl) (by repeat (first | trivial | refine ⟨by first | rfl | simp [setL], ?_⟩)) (by rfl) (by rfl) (by rfl) ?_
  refine X.nil ?_
  refine Run.sr ?_
  refine X.fieldAddr_l fld69_4 (by rfl) (by rfl) ?_
  refine X.ld shp26 ?_
  obtain ⟨v4, hv4, h⟩ := bindE h
  refine X.callM [(63, 63)] (w_toIntS_pc _ _ hv4) (by rfl) (by rfl) (.yngB 63 (by rfl) (by rfl) .nil) (by rfl) ⟨rfl, rfl, ⟨_, by rfl, by constructor⟩, by constructor, trivial⟩ (by rfl) (by rfl) (by rfl) (by rfl) (by rfl) (by rfl) (by rfl) (by rfl) (by rfl) ?_
  refine X.fieldAddr_l fld28_4 (by rfl) (by rfl) ?_
  refine X.store_l shp26 (by rfl) (by rfl) (by rfl) (by rfl) (by repeat (first | trivial | refine ⟨by first | rfl | simp [setL], ?_⟩)) (by rfl) (by rfl) (by rfl) ?_
  refine X.nil ?_
  refine Run.sr ?_
  refine X.ld shp28 ?_
  refine X.store_l shp28 (by rfl) (by rfl) (by rfl) (by rfl) (by repeat (first | trivial | refine ⟨by first | rfl | simp [setL], ?_⟩)) (by rfl) (by rfl) (by rfl) ?_
  refine X.nil ?_
  cases h
  exact R.finMC Tryz.results51 shp28 (by rfl) (by rfl) (by rfl) (by rfl) (by repeat (first | trivial | refine ⟨by first | rfl | simp [setL], ?_⟩)) (by rfl) (by repeat (first | exact trivial | refine ⟨by rfl, ?_⟩)) rfl
theorem s_l01In_pc (b0 : Int) (b1 : Int) (b2 : Int) (r : Bool) (h : s_l01In b0 b1 b2 = some r) : PC Tryz.prog 153 [int b0, int b1, int b2] (bool r) := by
  unfold s_l01In at h
  refine PC.start Tryz.func153 Tryz.ntmps153 rfl ok153 rfl ?_
  refine Run.sr ?_
  refine X.an ?_
  refine Run.seq ?_
  obtain ⟨e1, he1, h2⟩ := bindE h
  refine R.regG [(6, bool e1)] [] ?_ ?_
  · clear h; have h := he1; clear he1 h2
    refine X.mv ?_
    refine X.mv ?_
    refine X.bi ?_
    refine X.mv ?_
    refine X.ifG (by rfl) (by rfl) (by rfl) (fun hb2 => ?_) (fun hb2 => ?_)
    · replace h := condT hb2 h
      refine X.mv ?_
      refine X.gy ?_
      refine X.mv ?_
      refine X.gy ?_
      refine X.bi ?_
      refine X.pickT (by rfl) (by first | rfl | assumption) (by rfl) (by rfl) ?_
      refine X.as ?_
      cases h
      exact X.endG (by trivial) (by trivial) (by rfl) (by rfl)
    · replace h := condF hb2 h
      refine X.gn ?_
      refine X.gn ?_
      refine X.pickF (by rfl) (by first | rfl | assumption) (by rfl) (by rfl) ?_
      refine X.as ?_
      cases h
      exact X.endG (by trivial) (by trivial) (by rfl) (by rfl)
  replace h := h2; clear h2
  cases h
  refine R.fin1 Tryz.results153 (by rfl) (by rfl) ?_
  rfl
theorem s_l04Nums_pc (b0 : List Int) (b1 : Int) (r : Bool) (h : s_l04Nums b0 b1 = some r) : PC Tryz.prog 337 [.slice (b0.map int), int b1] (bool r) := by
  unfold s_l04Nums at h
  refine PC.start Tryz.func337 Tryz.ntmps337 rfl ok337 rfl ?_
  refine Run.sr ?_
  refine X.an ?_
  refine Run.seq ?_
  refine Run.sr ?_
  refine X.mv ?_
  refine X.len_s elt26 (by rfl) (by exact List.length_map ..) (by rfl) ?_
  refine X.mn ?_
  obtain ⟨o1, ho1, h⟩ := bindE h
  refine R.join2 (β := Unit) [(0, .slice (b0.map int)), (1, int b1)] [] (fun p14 S => S) (fun p14 M => M) (fun p14 => (Sum.inl p14) = o1) ?_ ?_
  · intro JJ4 hmeet3
    have hup2 := h; clear h; have h := ho1; clear ho1
    refine Run.block ?_
    refine R.bndS (t := 0) (by rfl) (fun hbd7 => ?_)
    replace hbd7 : b0.length ≤ 9223372036854775807 := by first | (rw [List.length_map] at hbd7; exact hbd7) | simp
    refine R.loop2 (β := Int) [(0, .slice (b0.map int)), (1, int b1), (7, .slice (b0.map int)), (8, int (b0.length : Int))] [] (fun bb S => (9, int bb) :: S) (fun bb M => M) (fun n bb => 0 ≤ bb ∧ bb + n = (b0.length : Int) ∧ s_l04Nums_L1 (b0.drop bb.toNat) bb = some o1) b0.length (0 : Int) (by repeat (first | trivial | refine ⟨by first | rfl | simp [setL], ?_⟩)) (by repeat (first | trivial | refine ⟨by first | rfl | simp [setL], ?_⟩)) (by rfl) (by rfl) ⟨Int.le_refl _, by simp, h⟩ ?_
    clear h
    rintro JJ7 n7 z8 hag7 ⟨hza7, hzb7, h⟩
    refine Run.sr ?_
    refine X.bi ?_
    refine X.nil ?_
    refine Run.seq ?_
    refine R.cond (by rfl) (fun hc11 => ?_) (fun hc11 => ?_)
    · obtain ⟨x9, xs10, hd7, hx7, hds7, hlt7⟩ := drop_atI hza7 hc11
      rw [hd7] at h
      rw [s_l04Nums_L1] at h
      refine Run.skip ?_
      refine Run.seq ?_
      refine Run.block ?_
      refine Run.sr ?_
      refine X.index_s elt26 (by rfl) (by rfl) (idxL_spec hx7).1 (idxL_map int hx7) (by rfl) (by rfl) (by rfl) ?_
      refine X.load_c shp3 (by rfl) (by rfl) (by rfl) (by rfl) ?_
      refine X.an ?_
      refine Run.sr ?_
      refine X.mv ?_
      obtain ⟨v12, hv12, h⟩ := bindE h
      refine X.callP (s_l01In_pc _ _ _ _ hv12) (by rfl) (by rfl) (by rfl) (by trivial) (by rfl) (by rfl) (by rfl) (by rfl) ?_
      refine X.un (by rfl) (by rfl) (by rfl) ?_
      refine X.nil ?_
      refine R.cond (by rfl) (fun hc13 => ?_) (fun hc13 => ?_)
      · replace h := condT hc13 h
        refine Run.sr ?_
        refine X.an ?_
        cases h
        have h := hup2
        replace h := elimR h
        cases h
        refine R.fin1 Tryz.results337 (by rfl) (by rfl) ?_
        rfl
      · replace h := condF hc13 h
        refine Run.skip ?_
        refine Run.blk ?_
        refine Run.reg ?_
        refine X.add (by rfl) (by rfl) (by omega) (by rfl) ?_
        refine X.mn ?_
        exact hag7 (n7 - 1) (z8 + 1) _ _ (by omega) ⟨by first | omega | (dsimp only; omega), by first | omega | (dsimp only; omega), by first | (rw [hds7]; exact h) | (dsimp only; rw [hds7]; exact h)⟩ (by trivial) (by trivial) (by rfl) (by rfl)
    · rw [drop_endI hza7 hc11] at h
      rw [s_l04Nums_L1] at h
      refine Run.exit (by rfl) ?_
      exact hmeet3 () _ _ (Option.some.inj h) (by trivial) (by trivial) (by rfl) (by rfl)
  rintro p14 rfl
  replace h := elimL h
  refine Run.sr ?_
  refine X.mv ?_
  refine X.len_s elt26 (by rfl) (by exact List.length_map ..) (by rfl) ?_
  refine X.mv ?_
  refine X.bi ?_
  refine X.an ?_
  cases h
  refine R.fin1 Tryz.results337 (by rfl) (by rfl) ?_
  rfl
theorem s_ModeOk_pc (b0 : TMode) (b1 : Int) (b2 : Int) (r : Bool) (h : s_ModeOk b0 b1 b2 = some r) : PC Tryz.prog 316 [eTMode b0, int b1, int b2] (bool r) := by
  unfold s_ModeOk at h
  refine PC.start Tryz.func316 Tryz.ntmps316 rfl ok316 rfl ?_
  refine Run.sr ?_
  refine X.box (by rfl) (by rfl) (by repeat (first | trivial | refine ⟨by first | rfl | simp [setL], ?_⟩)) (by rfl) (by rfl) (by rfl) (by rfl) ?_
  refine X.an ?_
  refine Run.seq ?_
  obtain ⟨v1, hv1, h⟩ := bindE h
  obtain ⟨e2, he2, h2⟩ := bindE h
  refine R.regG [(6, bool e2)] [] ?_ ?_
  · clear h; have h := he2; clear he2 h2
    refine X.fieldAddr_l fld47_0 (by rfl) (by rfl) ?_
    refine X.ld shp3 ?_
    refine X.callP (s_l01In_pc _ _ _ _ hv1) (by rfl) (by rfl) (by rfl) (by trivial) (by rfl) (by rfl) (by rfl) (by rfl) ?_
    refine X.mv ?_
    refine X.ifG (by rfl) (by rfl) (by rfl) (fun hb3 => ?_) (fun hb3 => ?_)
    · replace h := condT hb3 h
      refine X.fieldAddr_l fld47_1 (by rfl) (by rfl) ?_
      refine X.gy ?_
      refine X.ld shp26 ?_
      refine X.gy ?_
      refine X.mv ?_
      refine X.gy ?_
      obtain ⟨v4, hv4, h⟩ := bindE h
      refine X.callP (s_l04Nums_pc _ _ _ hv4) (by rfl) (by rfl) (by rfl) (by trivial) (by rfl) (by rfl) (by rfl) (by rfl) ?_
      refine X.pickT (by rfl) (by first | rfl | assumption) (by rfl) (by rfl) ?_
      refine X.mv ?_
      refine X.ifG (by rfl) (by rfl) (by rfl) (fun hb5 => ?_) (fun hb5 => ?_)
      · replace h := condT hb5 h
        refine X.fieldAddr_l fld47_2 (by rfl) (by rfl) ?_
        refine X.gy ?_
        refine X.ld shp26 ?_
        refine X.gy ?_
        refine X.mv ?_
        refine X.gy ?_
        obtain ⟨v6, hv6, h⟩ := bindE h
        refine X.callP (s_l04Nums_pc _ _ _ hv6) (by rfl) (by rfl) (by rfl) (by trivial) (by rfl) (by rfl) (by rfl) (by rfl) ?_
        refine X.pickT (by rfl) (by first | rfl | assumption) (by rfl) (by rfl) ?_
        refine X.as ?_
        cases h
        exact X.endG (by trivial) (by trivial) (by rfl) (by rfl)
      · replace h := condF hb5 h
        refine X.gn ?_
        refine X.gn ?_
        refine X.gn ?_
        refine X.pickF (by rfl) (by first | rfl | assumption) (by rfl) (by rfl) ?_
        refine X.as ?_
        cases h
        exact X.endG (by trivial) (by trivial) (by rfl) (by rfl)
    · replace h := condF hb3 h
      refine X.gn ?_
      refine X.gn ?_
      refine X.gn ?_
      refine X.pickF (by rfl) (by first | rfl | assumption) (by rfl) (by rfl) ?_
      refine X.mv ?_
      refine X.gn ?_
      refine X.gn ?_
      refine X.gn ?_
      refine X.gn ?_
      refine X.pickF (by rfl) (by first | rfl | assumption) (by rfl) (by rfl) ?_
      refine X.as ?_
      cases h
      exact X.endG (by trivial) (by trivial) (by rfl) (by rfl)
  replace h := h2; clear h2
  cases h
  refine R.fin1 Tryz.results316 (by rfl) (by rfl) ?_
  rfl
theorem s_IsName_pc (b0 : ByteArray) (r : Bool) (h : s_IsName b0 = some r) : PC Tryz.prog 317 [str b0] (bool r) := by
  unfold s_IsName at h
  refine PC.start Tryz.func317 Tryz.ntmps317 rfl ok317 rfl ?_
  refine Run.sr ?_
  refine X.an ?_
  refine Run.seq ?_
  refine Run.sr ?_
  refine X.an ?_
  obtain ⟨o1, ho1, h⟩ := bindE h
  refine R.join2 (β := Unit) [(0, str b0)] [] (fun p19 S => S) (fun p19 M => M) (fun p19 => (Sum.inl p19) = o1) ?_ ?_
  · intro JJ4 hmeet3
    have hup2 := h; clear h; have h := ho1; clear ho1
    refine Run.block ?_
    refine R.loop2 (β := Int) [(0, str b0)] [] (fun bb S => (3, int bb) :: S) (fun bb M => M) (fun n bb => s_IsName_L1 b0 n bb = some o1) F0 0 (by repeat (first | trivial | refine ⟨by first | rfl | simp [setL], ?_⟩)) (by repeat (first | trivial | refine ⟨by first | rfl | simp [setL], ?_⟩)) (by rfl) (by rfl) h ?_
    clear h
    rintro JJ5 n5 a7 hag5 h
    obtain _ | n5 := n5
    · exact absurd h (by simp [s_IsName_L1])
    rw [s_IsName_L1] at h
    refine Run.seq ?_
    refine Run.sr ?_
    refine X.mv ?_
    refine X.mv ?_
    refine X.lenStr Tryz.underlying9 (by rfl) (by rfl) ?_
    refine X.bi ?_
    refine X.nil ?_
    refine R.cond (by rfl) (fun hc10 => ?_) (fun hc10 => ?_)
    · replace h := condT hc10 h
      refine Run.skip ?_
      refine Run.seq ?_
      refine Run.block ?_
      refine Run.seq ?_
      obtain ⟨v11, hv11, h⟩ := bindE h
      obtain ⟨e12, he12, h2⟩ := bindE h
      refine R.regG [(0, str b0), (3, int a7), (4, bool e12)] [] ?_ ?_
      · clear h; have h := he12; clear he12 h2
        refine X.mv ?_
        refine X.mv ?_
        refine X.indexStr2 hv11 Tryz.underlying9 (by rfl) (by rfl) (by rfl) ?_
        refine X.bi ?_
        refine X.mv ?_
        refine X.ifG (by rfl) (by rfl) (by rfl) (fun hb13 => ?_) (fun hb13 => ?_)
        · replace h := condT hb13 h
          refine X.mv ?_
          refine X.gy ?_
          refine X.mv ?_
          refine X.gy ?_
          refine X.indexStr2 hv11 Tryz.underlying9 (by rfl) (by rfl) (by rfl) ?_
          refine X.gy ?_
          refine X.bi ?_
          refine X.pickT (by rfl) (by first | rfl | assumption) (by rfl) (by rfl) ?_
          refine X.as ?_
          cases h
          exact X.endG (by trivial) (by trivial) (by rfl) (by rfl)
        · replace h := condF hb13 h
          refine X.gn ?_
          refine X.gn ?_
          refine X.gn ?_
          refine X.pickF (by rfl) (by first | rfl | assumption) (by rfl) (by rfl) ?_
          refine X.as ?_
          cases h
          exact X.endG (by trivial) (by trivial) (by rfl) (by rfl)
      replace h := h2; clear h2
      refine Run.seq ?_
      obtain ⟨e14, he14, h2⟩ := bindE h
      refine R.regG [(0, str b0), (3, int a7), (38, bool e14)] [] ?_ ?_
      · clear h; have h := he14; clear he14 h2
        refine X.mv ?_
        refine X.un (by rfl) (by rfl) (by rfl) ?_
        refine X.mv ?_
        refine X.ifG (by rfl) (by rfl) (by rfl) (fun hb15 => ?_) (fun hb15 => ?_)
        · replace h := condT hb15 h
          refine X.mv ?_
          refine X.gy ?_
          refine X.bi ?_
          refine X.gy ?_
          refine X.mv ?_
          refine X.ifG (by rfl) (by rfl) (by rfl) (fun hb16 => ?_) (fun hb16 => ?_)
          · replace h := condF hb16 h
            refine X.mv ?_
            refine X.gy ?_
            refine X.mv ?_
            refine X.gy ?_
            refine X.indexStr2 hv11 Tryz.underlying9 (by rfl) (by rfl) (by rfl) ?_
            refine X.gy ?_
            refine X.bi ?_
            refine X.gy ?_
            refine X.pickF (by rfl) (by first | rfl | assumption) (by rfl) (by rfl) ?_
            refine X.gy ?_
            refine X.mv ?_
            refine X.ifG (by rfl) (by rfl) (by rfl) (fun hb17 => ?_) (fun hb17 => ?_)
            · replace h := condF hb17 h
              refine X.mv ?_
              refine X.gy ?_
              refine X.mv ?_
              refine X.gy ?_
              refine X.indexStr2 hv11 Tryz.underlying9 (by rfl) (by rfl) (by rfl) ?_
              refine X.gy ?_
              refine X.bi ?_
              refine X.gy ?_
              refine X.pickF (by rfl) (by first | rfl | assumption) (by rfl) (by rfl) ?_
              refine X.pickT (by rfl) (by first | rfl | assumption) (by rfl) (by rfl) ?_
              cases h
              exact X.endG (by trivial) (by trivial) (by rfl) (by rfl)
            · replace h := condT hb17 h
              refine X.gn ?_
              refine X.gn ?_
              refine X.gn ?_
              refine X.gy ?_
              refine X.pickT (by rfl) (by first | rfl | assumption) (by rfl) (by rfl) ?_
              refine X.pickT (by rfl) (by first | rfl | assumption) (by rfl) (by rfl) ?_
              cases h
              exact X.endG (by trivial) (by trivial) (by rfl) (by rfl)
          · replace h := condT hb16 h
            refine X.gn ?_
            refine X.gn ?_
            refine X.gn ?_
            refine X.gy ?_
            refine X.pickT (by rfl) (by first | rfl | assumption) (by rfl) (by rfl) ?_
            refine X.gy ?_
            refine X.mv ?_
            refine X.gn ?_
            refine X.gn ?_
            refine X.gn ?_
            refine X.gn ?_
            refine X.gy ?_
            refine X.pickT (by rfl) (by first | rfl | assumption) (by rfl) (by rfl) ?_
            refine X.pickT (by rfl) (by first | rfl | assumption) (by rfl) (by rfl) ?_
            cases h
            exact X.endG (by trivial) (by trivial) (by rfl) (by rfl)
        · replace h := condF hb15 h
          refine X.gn ?_
          refine X.gn ?_
          refine X.gU (by rfl) (by rfl) (by rfl) ?_
          refine X.gU (by rfl) (by rfl) (by rfl) ?_
          refine X.gU (by rfl) (by rfl) (by rfl) ?_
          refine X.gU (by rfl) (by rfl) (by rfl) ?_
          refine X.gn ?_
          refine X.gn ?_
          refine X.gU (by rfl) (by rfl) (by rfl) ?_
          refine X.gU (by rfl) (by rfl) (by rfl) ?_
          refine X.gU (by rfl) (by rfl) (by rfl) ?_
          refine X.gU (by rfl) (by rfl) (by rfl) ?_
          refine X.gn ?_
          refine X.pickF (by rfl) (by first | rfl | assumption) (by rfl) (by rfl) ?_
          cases h
          exact X.endG (by trivial) (by trivial) (by rfl) (by rfl)
      replace h := h2; clear h2
      refine R.cond (by rfl) (fun hc18 => ?_) (fun hc18 => ?_)
      · replace h := condT hc18 h
        refine Run.sr ?_
        refine X.an ?_
        cases h
        have h := hup2
        replace h := elimR h
        cases h
        refine R.fin1 Tryz.results317 (by rfl) (by rfl) ?_
        rfl
      · replace h := condF hc18 h
        refine Run.skip ?_
        refine Run.blk ?_
        refine Run.reg ?_
        refine X.mv ?_
        refine X.addW (by rfl) (by rfl) (by rfl) ?_
        refine X.an ?_
        exact hag5 n5 (W (a7 + 1)) _ _ (by omega) h (by trivial) (by trivial) (by rfl) (by rfl)
    · replace h := condF hc10 h
      refine Run.exit (by rfl) ?_
      exact hmeet3 () _ _ (Option.some.inj h) (by trivial) (by trivial) (by rfl) (by rfl)
  rintro p19 rfl
  replace h := elimL h
  refine Run.sr ?_
  refine X.mv ?_
  refine X.lenStr Tryz.underlying9 (by rfl) (by rfl) ?_
  obtain ⟨v21, hv21, h⟩ := bindE h
  refine X.callP (s_l01In_pc _ _ _ _ hv21) (by rfl) (by rfl) (by rfl) (by trivial) (by rfl) (by rfl) (by rfl) (by rfl) ?_
  refine X.an ?_
  cases h
  refine R.fin1 Tryz.results317 (by rfl) (by rfl) ?_
  rfl
theorem s_ActivityOk_pc (b0 : TActivity) (b1 : Int) (b2 : Int) (r : Bool) (h : s_ActivityOk b0 b1 b2 = some r) : PC Tryz.prog 263 [eTActivity b0, int b1, int b2] (bool r) := by
  unfold s_ActivityOk at h
  refine PC.start Tryz.func263 Tryz.ntmps263 rfl ok263 rfl ?_
  refine Run.sr ?_
  refine X.box (by rfl) (by rfl) (by repeat (first | trivial | refine ⟨by first | rfl | simp [setL], ?_⟩)) (by rfl) (by rfl) (by rfl) (by rfl) ?_
  refine X.an ?_
  refine Run.seq ?_
  refine Run.sr ?_
  refine X.fieldAddr_l fld50_2 (by rfl) (by rfl) ?_
  refine X.ld shp48 ?_
  refine X.len_s elt48 (by rfl) (by exact List.length_map ..) (by rfl) ?_
  refine X.mn ?_
  obtain ⟨o1, ho1, h⟩ := bindE h
  refine R.join2 (β := Unit) [(3, .lptr 192 0)] [(192, .blk true [str b0.Name, int b0.Family, .slice (b0.Modes.map eTMode)])] (fun p14 S => S) (fun p14 M => M) (fun p14 => (Sum.inl p14) = o1) ?_ ?_
  · intro JJ4 hmeet3
    have hup2 := h; clear h; have h := ho1; clear ho1
    refine Run.block ?_
    refine R.bndS (t := 10) (by rfl) (fun hbd7 => ?_)
    replace hbd7 : b0.Modes.length ≤ 9223372036854775807 := by first | (rw [List.length_map] at hbd7; exact hbd7) | simp
    refine R.loop2 (β := Int) [(1, int b1), (2, int b2), (3, .lptr 192 0), (10, .slice (b0.Modes.map eTMode)), (11, int (b0.Modes.length : Int))] [(192, .blk true [str b0.Name, int b0.Family, .slice (b0.Modes.map eTMode)])] (fun bb S => (12, int bb) :: S) (fun bb M => M) (fun n bb => 0 ≤ bb ∧ bb + n = (b0.Modes.length : Int) ∧ s_ActivityOk_L1 b1 b2 (b0.Modes.drop bb.toNat) bb = some o1) b0.Modes.length (0 : Int) (by repeat (first | trivial | refine ⟨by first | rfl | simp [setL], ?_⟩)) (by repeat (first | trivial | refine ⟨by first | rfl | simp [setL], ?_⟩)) (by rfl) (by rfl) ⟨Int.le_refl _, by simp, h⟩ ?_
    clear h
    rintro JJ7 n7 z8 hag7 ⟨hza7, hzb7, h⟩
    refine Run.sr ?_
    refine X.bi ?_
    refine X.nil ?_
    refine Run.seq ?_
    refine R.cond (by rfl) (fun hc11 => ?_) (fun hc11 => ?_)
    · obtain ⟨x9, xs10, hd7, hx7, hds7, hlt7⟩ := drop_atI hza7 hc11
      rw [hd7] at h
      rw [s_ActivityOk_L1] at h
      refine Run.skip ?_
      refine Run.seq ?_
      refine Run.block ?_
      refine Run.sr ?_
      refine X.index_s elt48 (by rfl) (by rfl) (idxL_spec hx7).1 (idxL_map eTMode hx7) (by rfl) (by rfl) (by rfl) ?_
      refine X.load_c shp47 (by rfl) (by rfl) (by rfl) (by rfl) ?_
      refine X.alloc zer47 (by rfl) (by rfl) (by rfl) ?_
      refine X.store_l shp47 (by rfl) (by rfl) (by rfl) (by rfl) (by repeat (first | trivial | refine ⟨by first | rfl | simp [setL], ?_⟩)) (by rfl) (by rfl) (by rfl) ?_
      refine X.nil ?_
      refine Run.sr ?_
      refine X.ld shp47 ?_
      refine X.mv ?_
      refine X.mv ?_
      obtain ⟨v12, hv12, h⟩ := bindE h
      refine X.callP (s_ModeOk_pc _ _ _ _ hv12) (by rfl) (by rfl) (by rfl) (by trivial) (by rfl) (by rfl) (by rfl) (by rfl) ?_
      refine X.un (by rfl) (by rfl) (by rfl) ?_
      refine X.nil ?_
      refine R.cond (by rfl) (fun hc13 => ?_) (fun hc13 => ?_)
      · replace h := condT hc13 h
        refine Run.sr ?_
        refine X.an ?_
        cases h
        have h := hup2
        replace h := elimR h
        cases h
        refine R.fin1 Tryz.results263 (by rfl) (by rfl) ?_
        rfl
      · replace h := condF hc13 h
        refine Run.skip ?_
        refine Run.blk ?_
        refine Run.reg ?_
        refine X.add (by rfl) (by rfl) (by omega) (by rfl) ?_
        refine X.mn ?_
        exact hag7 (n7 - 1) (z8 + 1) _ _ (by omega) ⟨by first | omega | (dsimp only; omega), by first | omega | (dsimp only; omega), by first | (rw [hds7]; exact h) | (dsimp only; rw [hds7]; exact h)⟩ (by trivial) (by trivial) (by rfl) (by rfl)
    · rw [drop_endI hza7 hc11] at h
      rw [s_ActivityOk_L1] at h
      refine Run.exit (by rfl) ?_
      exact hmeet3 () _ _ (Option.some.inj h) (by trivial) (by trivial) (by rfl) (by rfl)
  rintro p14 rfl
  replace h := elimL h
  refine Run.seq ?_
  obtain ⟨v16, hv16, h⟩ := bindE h
  obtain ⟨e17, he17, h2⟩ := bindE h
  refine R.regG [(6, bool e17)] [] ?_ ?_
  · clear h; have h := he17; clear he17 h2
    refine X.fieldAddr_l fld50_0 (by rfl) (by rfl) ?_
    refine X.ld shp9 ?_
    refine X.callP (s_IsName_pc _ _ hv16) (by rfl) (by rfl) (by rfl) (by trivial) (by rfl) (by rfl) (by rfl) (by rfl) ?_
    refine X.mv ?_
    refine X.ifG (by rfl) (by rfl) (by rfl) (fun hb18 => ?_) (fun hb18 => ?_)
    · replace h := condT hb18 h
      refine X.fieldAddr_l fld50_1 (by rfl) (by rfl) ?_
      refine X.gy ?_
      refine X.ld shp3 ?_
      refine X.gy ?_
      obtain ⟨v19, hv19, h⟩ := bindE h
      refine X.callP (s_l01In_pc _ _ _ _ hv19) (by rfl) (by rfl) (by rfl) (by trivial) (by rfl) (by rfl) (by rfl) (by rfl) ?_
      refine X.pickT (by rfl) (by first | rfl | assumption) (by rfl) (by rfl) ?_
      refine X.mv ?_
      refine X.ifG (by rfl) (by rfl) (by rfl) (fun hb20 => ?_) (fun hb20 => ?_)
      · replace h := condT hb20 h
        refine X.fieldAddr_l fld50_2 (by rfl) (by rfl) ?_
        refine X.gy ?_
        refine X.ld shp48 ?_
        refine X.gy ?_
        refine X.len_s elt48 (by rfl) (by exact List.length_map ..) (by rfl) ?_
        refine X.gy ?_
        obtain ⟨v21, hv21, h⟩ := bindE h
        refine X.callP (s_l01In_pc _ _ _ _ hv21) (by rfl) (by rfl) (by rfl) (by trivial) (by rfl) (by rfl) (by rfl) (by rfl) ?_
        refine X.pickT (by rfl) (by first | rfl | assumption) (by rfl) (by rfl) ?_
        refine X.as ?_
        cases h
        exact X.endG (by trivial) (by trivial) (by rfl) (by rfl)
      · replace h := condF hb20 h
        refine X.gn ?_
        refine X.gn ?_
        refine X.gn ?_
        refine X.pickF (by rfl) (by first | rfl | assumption) (by rfl) (by rfl) ?_
        refine X.as ?_
        cases h
        exact X.endG (by trivial) (by trivial) (by rfl) (by rfl)
    · replace h := condF hb18 h
      refine X.gn ?_
      refine X.gn ?_
      refine X.pickF (by rfl) (by first | rfl | assumption) (by rfl) (by rfl) ?_
      refine X.mv ?_
      refine X.gn ?_
      refine X.gn ?_
      refine X.gn ?_
      refine X.gn ?_
      refine X.pickF (by rfl) (by first | rfl | assumption) (by rfl) (by rfl) ?_
      refine X.as ?_
      cases h
      exact X.endG (by trivial) (by trivial) (by rfl) (by rfl)
  replace h := h2; clear h2
  cases h
  refine R.fin1 Tryz.results263 (by rfl) (by rfl) ?_
  rfl
theorem s_ActivityIndex_pc (b0 : TProject) (b1 : ByteArray) (r : Int) (h : s_ActivityIndex b0 b1 = some r) : PC Tryz.prog 264 [eTProject b0, str b1] (int r) := by
  unfold s_ActivityIndex at h
  refine PC.start Tryz.func264 Tryz.ntmps264 rfl ok264 rfl ?_
  refine Run.sr ?_
  refine X.box (by rfl) (by rfl) (by repeat (first | trivial | refine ⟨by first | rfl | simp [setL], ?_⟩)) (by rfl) (by rfl) (by rfl) (by rfl) ?_
  refine X.an ?_
  refine Run.seq ?_
  refine Run.sr ?_
  refine X.fieldAddr_l fld28_1 (by rfl) (by rfl) ?_
  refine X.ld shp23 ?_
  refine X.len_s elt23 (by rfl) (by exact List.length_map ..) (by rfl) ?_
  refine X.mn ?_
  obtain ⟨o1, ho1, h⟩ := bindE h
  refine R.join2 (β := Unit) [] [] (fun p13 S => S) (fun p13 M => M) (fun p13 => (Sum.inl p13) = o1) ?_ ?_
  · intro JJ4 hmeet3
    have hup2 := h; clear h; have h := ho1; clear ho1
    refine Run.block ?_
    refine R.bndS (t := 8) (by rfl) (fun hbd7 => ?_)
    replace hbd7 : b0.Activities.length ≤ 9223372036854775807 := by first | (rw [List.length_map] at hbd7; exact hbd7) | simp
    refine R.loop2 (β := Int) [(1, str b1), (8, .slice (b0.Activities.map eTActivity)), (9, int (b0.Activities.length : Int))] [] (fun bb S => (10, int bb) :: S) (fun bb M => M) (fun n bb => 0 ≤ bb ∧ bb + n = (b0.Activities.length : Int) ∧ s_ActivityIndex_L1 b1 (b0.Activities.drop bb.toNat) bb = some o1) b0.Activities.length (0 : Int) (by repeat (first | trivial | refine ⟨by first | rfl | simp [setL], ?_⟩)) (by repeat (first | trivial | refine ⟨by first | rfl | simp [setL], ?_⟩)) (by rfl) (by rfl) ⟨Int.le_refl _, by simp, h⟩ ?_
    clear h
    rintro JJ7 n7 z8 hag7 ⟨hza7, hzb7, h⟩
    refine Run.sr ?_
    refine X.bi ?_
    refine X.nil ?_
    refine Run.seq ?_
    refine R.cond (by rfl) (fun hc11 => ?_) (fun hc11 => ?_)
    · obtain ⟨x9, xs10, hd7, hx7, hds7, hlt7⟩ := drop_atI hza7 hc11
      rw [hd7] at h
      rw [s_ActivityIndex_L1] at h
      refine Run.skip ?_
      refine Run.seq ?_
      refine Run.block ?_
      refine Run.sr ?_
      refine X.mv ?_
      refine X.index_s elt23 (by rfl) (by rfl) (idxL_spec hx7).1 (idxL_map eTActivity hx7) (by rfl) (by rfl) (by rfl) ?_
      refine X.load_c shp50 (by rfl) (by rfl) (by rfl) (by rfl) ?_
      refine X.alloc zer50 (by rfl) (by rfl) (by rfl) ?_
      refine X.as ?_
      refine X.store_l shp50 (by rfl) (by rfl) (by rfl) (by rfl) (by repeat (first | trivial | refine ⟨by first | rfl | simp [setL], ?_⟩)) (by rfl) (by rfl) (by rfl) ?_
      refine X.nil ?_
      refine Run.sr ?_
      refine X.fieldAddr_l fld50_0 (by rfl) (by rfl) ?_
      refine X.ld shp9 ?_
      refine X.mv ?_
      refine X.bi ?_
      refine X.nil ?_
      refine R.cond (by rfl) (fun hc12 => ?_) (fun hc12 => ?_)
      · replace h := condT hc12 h
        refine Run.sr ?_
        refine X.mv ?_
        refine X.an ?_
        cases h
        have h := hup2
        replace h := elimR h
        cases h
        refine R.fin1 Tryz.results264 (by rfl) (by rfl) ?_
        rfl
      · replace h := condF hc12 h
        refine Run.skip ?_
        refine Run.blk ?_
        refine Run.reg ?_
        refine X.add (by rfl) (by rfl) (by omega) (by rfl) ?_
        refine X.mn ?_
        exact hag7 (n7 - 1) (z8 + 1) _ _ (by omega) ⟨by first | omega | (dsimp only; omega), by first | omega | (dsimp only; omega), by first | (rw [hds7]; exact h) | (dsimp only; rw [hds7]; exact h)⟩ (by trivial) (by trivial) (by rfl) (by rfl)
    · rw [drop_endI hza7 hc11] at h
      rw [s_ActivityIndex_L1] at h
      refine Run.exit (by rfl) ?_
      exact hmeet3 () _ _ (Option.some.inj h) (by trivial) (by trivial) (by rfl) (by rfl)
  rintro p13 rfl
  replace h := elimL h
  refine Run.sr ?_
  refine X.an ?_
  cases h
  refine R.fin1 Tryz.results264 (by rfl) (by rfl) ?_
  rfl
theorem s_StepsOk_pc (b0 : List TStep) (r : Bool) (h : s_StepsOk b0 = some r) : PC Tryz.prog 318 [.slice (b0.map eTStep)] (bool r) := by
  unfold s_StepsOk at h
  refine PC.start Tryz.func318 Tryz.ntmps318 rfl ok318 rfl ?_
  refine Run.sr ?_
  refine X.an ?_
  refine Run.seq ?_
  refine Run.sr ?_
  refine X.mv ?_
  refine X.len_s elt62 (by rfl) (by exact List.length_map ..) (by rfl) ?_
  refine X.mn ?_
  obtain ⟨o1, ho1, h⟩ := bindE h
  refine R.join2 (β := Unit) [(0, .slice (b0.map eTStep))] [] (fun p20 S => S) (fun p20 M => M) (fun p20 => (Sum.inl p20) = o1) ?_ ?_
  · intro JJ4 hmeet3
    have hup2 := h; clear h; have h := ho1; clear ho1
    refine Run.block ?_
    refine R.bndS (t := 0) (by rfl) (fun hbd7 => ?_)
    replace hbd7 : b0.length ≤ 9223372036854775807 := by first | (rw [List.length_map] at hbd7; exact hbd7) | simp
    refine R.loop2 (β := Int) [(0, .slice (b0.map eTStep)), (5, .slice (b0.map eTStep)), (6, int (b0.length : Int))] [] (fun bb S => (7, int bb) :: S) (fun bb M => M) (fun n bb => 0 ≤ bb ∧ bb + n = (b0.length : Int) ∧ s_StepsOk_L1 b0 (b0.drop bb.toNat) bb = some o1) b0.length (0 : Int) (by repeat (first | trivial | refine ⟨by first | rfl | simp [setL], ?_⟩)) (by repeat (first | trivial | refine ⟨by first | rfl | simp [setL], ?_⟩)) (by rfl) (by rfl) ⟨Int.le_refl _, by simp, h⟩ ?_
    clear h
    rintro JJ7 n7 z8 hag7 ⟨hza7, hzb7, h⟩
    refine Run.sr ?_
    refine X.bi ?_
    refine X.nil ?_
    refine Run.seq ?_
    refine R.cond (by rfl) (fun hc11 => ?_) (fun hc11 => ?_)
    · obtain ⟨x9, xs10, hd7, hx7, hds7, hlt7⟩ := drop_atI hza7 hc11
      rw [hd7] at h
      rw [s_StepsOk_L1] at h
      refine Run.skip ?_
      refine Run.seq ?_
      refine Run.block ?_
      refine Run.sr ?_
      refine X.mv ?_
      refine X.index_s elt62 (by rfl) (by rfl) (idxL_spec hx7).1 (idxL_map eTStep hx7) (by rfl) (by rfl) (by rfl) ?_
      refine X.load_c shp183 (by rfl) (by rfl) (by rfl) (by rfl) ?_
      refine X.alloc zer183 (by rfl) (by rfl) (by rfl) ?_
      refine X.as ?_
      refine X.store_l shp183 (by rfl) (by rfl) (by rfl) (by rfl) (by repeat (first | trivial | refine ⟨by first | rfl | simp [setL], ?_⟩)) (by rfl) (by rfl) (by rfl) ?_
      refine X.nil ?_
      refine Run.seq ?_
      obtain ⟨v12, hv12, h⟩ := bindE h
      obtain ⟨e13, he13, h2⟩ := bindE h
      refine R.drawG [(0, .slice (b0.map eTStep)), (5, .slice (b0.map eTStep)), (6, int (b0.length : Int)), (7, int z8), (36, bool e13)] [] (footOf [(1, ([256], [], [], [])), (6, ([256], [], [], [])), (21, ([256], [], [], []))]) mixed (by kernel_rfl) (by kernel_rfl) ?_ ?_
      · clear h; have h := he13; clear he13 h2
        refine X.fieldAddr_l fld183_0 (by rfl) (by rfl) ?_
        refine X.ld shp3 ?_
        refine X.callP (s_l01In_pc _ _ _ _ hv12) (by rfl) (by rfl) (by rfl) (by trivial) (by rfl) (by rfl) (by rfl) (by rfl) ?_
        refine X.un (by rfl) (by rfl) (by rfl) ?_
        refine X.mv ?_
        refine X.ifG (by rfl) (by rfl) (by rfl) (fun hb14 => ?_) (fun hb14 => ?_)
        · replace h := condF hb14 h
          refine X.fieldAddr_l fld183_1 (by rfl) (by rfl) ?_
          refine X.gy ?_
          refine X.ld shp3 ?_
          refine X.gy ?_
          obtain ⟨v15, hv15, h⟩ := bindE h
          refine X.callP (s_l01In_pc _ _ _ _ hv15) (by rfl) (by rfl) (by rfl) (by trivial) (by rfl) (by rfl) (by rfl) (by rfl) ?_
          refine X.gy ?_
          refine X.un (by rfl) (by rfl) (by rfl) ?_
          refine X.pickF (by rfl) (by first | rfl | assumption) (by rfl) (by rfl) ?_
          refine X.mv ?_
          refine X.ifG (by rfl) (by rfl) (by rfl) (fun hb16 => ?_) (fun hb16 => ?_)
          · replace h := condF hb16 h
            refine X.mv ?_
            refine X.gy ?_
            refine X.bi ?_
            refine X.gy ?_
            refine X.mv ?_
            refine X.ifG (by rfl) (by rfl) (by rfl) (fun hb17 => ?_) (fun hb17 => ?_)
            · replace h := condT hb17 h
              refine X.mv ?_
              refine X.gy ?_
              refine X.mv ?_
              refine X.gy ?_
              refine X.sub (by rfl) (by rfl) (by omega) (by rfl) ?_
              refine X.gy ?_
              obtain ⟨v18, hv18, h⟩ := bindE h
              refine X.index_s elt62 (by rfl) (by rfl) (idxL_spec hv18).1 (idxL_map eTStep hv18) (by rfl) (by rfl) (by rfl) ?_
              refine X.gy ?_
              refine X.fieldAddr_c fld183_0 (by rfl) (by rfl) ?_
              refine X.gy ?_
              refine X.load_c shp3 (by rfl) (by rfl) (by rfl) (by rfl) ?_
              refine X.gy ?_
              refine X.fieldAddr_l fld183_0 (by rfl) (by rfl) ?_
              refine X.gy ?_
              refine X.ld shp3 ?_
              refine X.gy ?_
              refine X.bi ?_
              refine X.gy ?_
              refine X.pickT (by rfl) (by first | rfl | assumption) (by rfl) (by rfl) ?_
              refine X.pickF (by rfl) (by first | rfl | assumption) (by rfl) (by rfl) ?_
              cases h
              exact X.endG (by trivial) (by trivial) (by rfl) (by rfl)
            · replace h := condF hb17 h
              refine X.gn ?_
              refine X.gn ?_
              refine X.gn ?_
              refine X.gn ?_
              refine X.gn ?_
              refine X.gn ?_
              refine X.gn ?_
              refine X.gn ?_
              refine X.gy ?_
              refine X.pickF (by rfl) (by first | rfl | assumption) (by rfl) (by rfl) ?_
              refine X.pickF (by rfl) (by first | rfl | assumption) (by rfl) (by rfl) ?_
              cases h
              exact X.endG (by trivial) (by trivial) (by rfl) (by rfl)
          · replace h := condT hb16 h
            refine X.gn ?_
            refine X.gn ?_
            refine X.gU (by rfl) (by rfl) (by rfl) ?_
            refine X.gU (by rfl) (by rfl) (by rfl) ?_
            refine X.gU (by rfl) (by rfl) (by rfl) ?_
            refine X.gU (by rfl) (by rfl) (by rfl) ?_
            refine X.gU (by rfl) (by rfl) (by rfl) ?_
            refine X.gU (by rfl) (by rfl) (by rfl) ?_
            refine X.gU (by rfl) (by rfl) (by rfl) ?_
            refine X.gU (by rfl) (by rfl) (by rfl) ?_
            refine X.gU (by rfl) (by rfl) (by rfl) ?_
            refine X.gn ?_
            refine X.pickT (by rfl) (by first | rfl | assumption) (by rfl) (by rfl) ?_
            cases h
            exact X.endG (by trivial) (by trivial) (by rfl) (by rfl)
        · replace h := condT hb14 h
          refine X.gn ?_
          refine X.gn ?_
          refine X.gn ?_
          refine X.pickT (by rfl) (by first | rfl | assumption) (by rfl) (by rfl) ?_
          refine X.mv ?_
          refine X.gn ?_
          refine X.gn ?_
          refine X.gn ?_
          refine X.gU (by rfl) (by rfl) (by rfl) ?_
          refine X.gU (by rfl) (by rfl) (by rfl) ?_
          refine X.gU (by rfl) (by rfl) (by rfl) ?_
          refine X.gU (by rfl) (by rfl) (by rfl) ?_
          refine X.gU (by rfl) (by rfl) (by rfl) ?_
          refine X.gU (by rfl) (by rfl) (by rfl) ?_
          refine X.gU (by rfl) (by rfl) (by rfl) ?_
          refine X.gU (by rfl) (by rfl) (by rfl) ?_
          refine X.gU (by rfl) (by rfl) (by rfl) ?_
          refine X.gn ?_
          refine X.pickT (by rfl) (by first | rfl | assumption) (by rfl) (by rfl) ?_
          cases h
          exact X.endG (by trivial) (by trivial) (by rfl) (by rfl)
      replace h := h2; clear h2
      refine R.cond (by rfl) (fun hc19 => ?_) (fun hc19 => ?_)
      · replace h := condT hc19 h
        refine Run.sr ?_
        refine X.an ?_
        cases h
        have h := hup2
        replace h := elimR h
        cases h
        refine R.fin1 Tryz.results318 (by rfl) (by rfl) ?_
        rfl
      · replace h := condF hc19 h
        refine Run.skip ?_
        refine Run.blk ?_
        refine Run.reg ?_
        refine X.add (by rfl) (by rfl) (by omega) (by rfl) ?_
        refine X.mn ?_
        exact hag7 (n7 - 1) (z8 + 1) _ _ (by omega) ⟨by first | omega | (dsimp only; omega), by first | omega | (dsimp only; omega), by first | (rw [hds7]; exact h) | (dsimp only; rw [hds7]; exact h)⟩ (by trivial) (by trivial) (by rfl) (by rfl)
    · rw [drop_endI hza7 hc11] at h
      rw [s_StepsOk_L1] at h
      refine Run.exit (by rfl) ?_
      exact hmeet3 () _ _ (Option.some.inj h) (by trivial) (by trivial) (by rfl) (by rfl)
  rintro p20 rfl
  replace h := elimL h
  refine Run.seq ?_
  obtain ⟨v22, hv22, h⟩ := bindE h
  obtain ⟨e23, he23, h2⟩ := bindE h
  refine R.regG [(2, bool e23)] [] ?_ ?_
  · clear h; have h := he23; clear he23 h2
    refine X.mv ?_
    refine X.len_s elt62 (by rfl) (by exact List.length_map ..) (by rfl) ?_
    refine X.callP (s_l01In_pc _ _ _ _ hv22) (by rfl) (by rfl) (by rfl) (by trivial) (by rfl) (by rfl) (by rfl) (by rfl) ?_
    refine X.mv ?_
    refine X.ifG (by rfl) (by rfl) (by rfl) (fun hb24 => ?_) (fun hb24 => ?_)
    · replace h := condT hb24 h
      refine X.mv ?_
      refine X.gy ?_
      obtain ⟨v25, hv25, h⟩ := bindE h
      refine X.index_s elt62 (by rfl) (by rfl) (idxL_spec hv25).1 (idxL_map eTStep hv25) (by rfl) (by rfl) (by rfl) ?_
      refine X.gy ?_
      refine X.fieldAddr_c fld183_0 (by rfl) (by rfl) ?_
      refine X.gy ?_
      refine X.load_c shp3 (by rfl) (by rfl) (by rfl) (by rfl) ?_
      refine X.gy ?_
      refine X.bi ?_
      refine X.pickT (by rfl) (by first | rfl | assumption) (by rfl) (by rfl) ?_
      refine X.as ?_
      cases h
      exact X.endG (by trivial) (by trivial) (by rfl) (by rfl)
    · replace h := condF hb24 h
      refine X.gn ?_
      refine X.gn ?_
      refine X.gn ?_
      refine X.gn ?_
      refine X.pickF (by rfl) (by first | rfl | assumption) (by rfl) (by rfl) ?_
      refine X.as ?_
      cases h
      exact X.endG (by trivial) (by trivial) (by rfl) (by rfl)
  replace h := h2; clear h2
  cases h
  refine R.fin1 Tryz.results318 (by rfl) (by rfl) ?_
  rfl
theorem s_ResourceOk_pc (b0 : TResource) (r : Bool) (h : s_ResourceOk b0 = some r) : PC Tryz.prog 265 [eTResource b0] (bool r) := by
  unfold s_ResourceOk at h
  refine PC.start Tryz.func265 Tryz.ntmps265 rfl ok265 rfl ?_
  refine Run.sr ?_
  refine X.box (by rfl) (by rfl) (by repeat (first | trivial | refine ⟨by first | rfl | simp [setL], ?_⟩)) (by rfl) (by rfl) (by rfl) (by rfl) ?_
  refine X.an ?_
  refine Run.seq ?_
  refine Run.sr ?_
  refine X.fieldAddr_l fld64_1 (by rfl) (by rfl) ?_
  refine X.ld shp30 ?_
  refine X.len_s elt30 (by rfl) (by exact List.length_map ..) (by rfl) ?_
  refine X.mn ?_
  obtain ⟨o1, ho1, h⟩ := bindE h
  refine R.join2 (β := Unit) [(1, .lptr 64 0)] [(64, .blk true [.slice (b0.Steps.map eTStep), .slice (b0.Setup.map l_int)])] (fun p28 S => S) (fun p28 M => M) (fun p28 => (Sum.inl p28) = o1) ?_ ?_
  · intro JJ4 hmeet3
    have hup2 := h; clear h; have h := ho1; clear ho1
    refine Run.block ?_
    refine R.bndS (t := 8) (by rfl) (fun hbd7 => ?_)
    replace hbd7 : b0.Setup.length ≤ 9223372036854775807 := by first | (rw [List.length_map] at hbd7; exact hbd7) | simp
    refine R.loop2 (β := Int) [(1, .lptr 64 0), (8, .slice (b0.Setup.map l_int)), (9, int (b0.Setup.length : Int))] [(64, .blk true [.slice (b0.Steps.map eTStep), .slice (b0.Setup.map l_int)])] (fun bb S => (10, int bb) :: S) (fun bb M => M) (fun n bb => 0 ≤ bb ∧ bb + n = (b0.Setup.length : Int) ∧ s_ResourceOk_L1 (b0.Setup.drop bb.toNat) bb = some o1) b0.Setup.length (0 : Int) (by repeat (first | trivial | refine ⟨by first | rfl | simp [setL], ?_⟩)) (by repeat (first | trivial | refine ⟨by first | rfl | simp [setL], ?_⟩)) (by rfl) (by rfl) ⟨Int.le_refl _, by simp, h⟩ ?_
    clear h
    rintro JJ7 n7 z8 hag7 ⟨hza7, hzb7, h⟩
    refine Run.sr ?_
    refine X.bi ?_
    refine X.nil ?_
    refine Run.seq ?_
    refine R.cond (by rfl) (fun hc11 => ?_) (fun hc11 => ?_)
    · obtain ⟨x9, xs10, hd7, hx7, hds7, hlt7⟩ := drop_atI hza7 hc11
      rw [hd7] at h
      rw [s_ResourceOk_L1] at h
      refine Run.skip ?_
      refine Run.seq ?_
      refine Run.block ?_
      refine Run.sr ?_
      refine X.index_s elt30 (by rfl) (by rfl) (idxL_spec hx7).1 (idxL_map l_int hx7) (by rfl) (by rfl) (by rfl) ?_
      refine X.load_c shp26 (by rfl) (by rfl) (by rfl) (by rfl) ?_
      refine X.an ?_
      refine Run.seq ?_
      refine Run.sr ?_
      refine X.mv ?_
      refine X.len_s elt26 (by rfl) (by exact List.length_map ..) (by rfl) ?_
      refine X.bi ?_
      refine X.nil ?_
      refine R.cond (by rfl) (fun hc12 => ?_) (fun hc12 => ?_)
      · replace h := condT hc12 h
        refine Run.sr ?_
        refine X.an ?_
        cases h
        have h := hup2
        replace h := elimR h
        cases h
        refine R.fin1 Tryz.results265 (by rfl) (by rfl) ?_
        rfl
      · replace h := condF hc12 h
        refine Run.skip ?_
        refine Run.sr ?_
        refine X.mv ?_
        refine X.len_s elt26 (by rfl) (by exact List.length_map ..) (by rfl) ?_
        refine X.mn ?_
        obtain ⟨o13, ho13, h⟩ := bindE h
        refine R.join2 (β := Unit) [(1, .lptr 64 0), (8, .slice (b0.Setup.map l_int)), (9, int (b0.Setup.length : Int)), (10, int z8)] [(64, .blk true [.slice (b0.Steps.map eTStep), .slice (b0.Setup.map l_int)])] (fun p26 S => S) (fun p26 M => M) (fun p26 => (Sum.inl p26) = o13) ?_ ?_
        · intro JJ16 hmeet15
          have hup14 := h; clear h; have h := ho13; clear ho13
          refine Run.block ?_
          refine R.bndS (t := 4) (by rfl) (fun hbd19 => ?_)
          replace hbd19 : x9.length ≤ 9223372036854775807 := by first | (rw [List.length_map] at hbd19; exact hbd19) | simp
          refine R.loop2 (β := Int) [(1, .lptr 64 0), (8, .slice (b0.Setup.map l_int)), (9, int (b0.Setup.length : Int)), (10, int z8), (17, .slice (x9.map int)), (18, int (x9.length : Int))] [(64, .blk true [.slice (b0.Steps.map eTStep), .slice (b0.Setup.map l_int)])] (fun bb S => (19, int bb) :: S) (fun bb M => M) (fun n bb => 0 ≤ bb ∧ bb + n = (x9.length : Int) ∧ s_ResourceOk_L2 (x9.drop bb.toNat) bb = some o13) x9.length (0 : Int) (by repeat (first | trivial | refine ⟨by first | rfl | simp [setL], ?_⟩)) (by repeat (first | trivial | refine ⟨by first | rfl | simp [setL], ?_⟩)) (by rfl) (by rfl) ⟨Int.le_refl _, by simp, h⟩ ?_
          clear h
          rintro JJ19 n19 z20 hag19 ⟨hza19, hzb19, h⟩
          refine Run.sr ?_
          refine X.bi ?_
          refine X.nil ?_
          refine Run.seq ?_
          refine R.cond (by rfl) (fun hc23 => ?_) (fun hc23 => ?_)
          · obtain ⟨x21, xs22, hd19, hx19, hds19, hlt19⟩ := drop_atI hza19 hc23
            rw [hd19] at h
            rw [s_ResourceOk_L2] at h
            refine Run.skip ?_
            refine Run.seq ?_
            refine Run.block ?_
            refine Run.sr ?_
            refine X.index_s elt26 (by rfl) (by rfl) (idxL_spec hx19).1 (idxL_map int hx19) (by rfl) (by rfl) (by rfl) ?_
            refine X.load_c shp3 (by rfl) (by rfl) (by rfl) (by rfl) ?_
            refine X.an ?_
            refine Run.sr ?_
            refine X.mv ?_
            obtain ⟨v24, hv24, h⟩ := bindE h
            refine X.callP (s_l01In_pc _ _ _ _ hv24) (by rfl) (by rfl) (by rfl) (by trivial) (by rfl) (by rfl) (by rfl) (by rfl) ?_
            refine X.un (by rfl) (by rfl) (by rfl) ?_
            refine X.nil ?_
            refine R.cond (by rfl) (fun hc25 => ?_) (fun hc25 => ?_)
            · replace h := condT hc25 h
              refine Run.sr ?_
              refine X.an ?_
              cases h
              have h := hup14
              replace h := elimR h
              cases h
              have h := hup2
              replace h := elimR h
              cases h
              refine R.fin1 Tryz.results265 (by rfl) (by rfl) ?_
              rfl
            · replace h := condF hc25 h
              refine Run.skip ?_
              refine Run.blk ?_
              refine Run.reg ?_
              refine X.add (by rfl) (by rfl) (by omega) (by rfl) ?_
              refine X.mn ?_
              exact hag19 (n19 - 1) (z20 + 1) _ _ (by omega) ⟨by first | omega | (dsimp only; omega), by first | omega | (dsimp only; omega), by first | (rw [hds19]; exact h) | (dsimp only; rw [hds19]; exact h)⟩ (by trivial) (by trivial) (by rfl) (by rfl)
          · rw [drop_endI hza19 hc23] at h
            rw [s_ResourceOk_L2] at h
            refine Run.exit (by rfl) ?_
            exact hmeet15 () _ _ (Option.some.inj h) (by trivial) (by trivial) (by rfl) (by rfl)
        rintro p26 rfl
        replace h := elimL h
        refine Run.blk ?_
        refine Run.reg ?_
        refine X.add (by rfl) (by rfl) (by omega) (by rfl) ?_
        refine X.mn ?_
        exact hag7 (n7 - 1) (z8 + 1) _ _ (by omega) ⟨by first | omega | (dsimp only; omega), by first | omega | (dsimp only; omega), by first | (rw [hds7]; exact h) | (dsimp only; rw [hds7]; exact h)⟩ (by trivial) (by trivial) (by rfl) (by rfl)
    · rw [drop_endI hza7 hc11] at h
      rw [s_ResourceOk_L1] at h
      refine Run.exit (by rfl) ?_
      exact hmeet3 () _ _ (Option.some.inj h) (by trivial) (by trivial) (by rfl) (by rfl)
  rintro p28 rfl
  replace h := elimL h
  refine Run.seq ?_
  obtain ⟨v30, hv30, h⟩ := bindE h
  obtain ⟨e31, he31, h2⟩ := bindE h
  refine R.regG [(2, bool e31)] [] ?_ ?_
  · clear h; have h := he31; clear he31 h2
    refine X.fieldAddr_l fld64_0 (by rfl) (by rfl) ?_
    refine X.ld shp62 ?_
    refine X.callP (s_StepsOk_pc _ _ hv30) (by rfl) (by rfl) (by rfl) (by trivial) (by rfl) (by rfl) (by rfl) (by rfl) ?_
    refine X.mv ?_
    refine X.ifG (by rfl) (by rfl) (by rfl) (fun hb32 => ?_) (fun hb32 => ?_)
    · replace h := condT hb32 h
      refine X.fieldAddr_l fld64_1 (by rfl) (by rfl) ?_
      refine X.gy ?_
      refine X.ld shp30 ?_
      refine X.gy ?_
      refine X.len_s elt30 (by rfl) (by exact List.length_map ..) (by rfl) ?_
      refine X.gy ?_
      refine X.bi ?_
      refine X.gy ?_
      refine X.mv ?_
      refine X.ifG (by rfl) (by rfl) (by rfl) (fun hb33 => ?_) (fun hb33 => ?_)
      · replace h := condF hb33 h
        refine X.fieldAddr_l fld64_1 (by rfl) (by rfl) ?_
        refine X.gy ?_
        refine X.ld shp30 ?_
        refine X.gy ?_
        refine X.len_s elt30 (by rfl) (by exact List.length_map ..) (by rfl) ?_
        refine X.gy ?_
        refine X.bi ?_
        refine X.gy ?_
        refine X.pickF (by rfl) (by first | rfl | assumption) (by rfl) (by rfl) ?_
        refine X.pickT (by rfl) (by first | rfl | assumption) (by rfl) (by rfl) ?_
        refine X.as ?_
        cases h
        exact X.endG (by trivial) (by trivial) (by rfl) (by rfl)
      · replace h := condT hb33 h
        refine X.gn ?_
        refine X.gn ?_
        refine X.gn ?_
        refine X.gy ?_
        refine X.pickT (by rfl) (by first | rfl | assumption) (by rfl) (by rfl) ?_
        refine X.pickT (by rfl) (by first | rfl | assumption) (by rfl) (by rfl) ?_
        refine X.as ?_
        cases h
        exact X.endG (by trivial) (by trivial) (by rfl) (by rfl)
    · replace h := condF hb32 h
      refine X.gn ?_
      refine X.gn ?_
      refine X.gn ?_
      refine X.gn ?_
      refine X.gU (by rfl) (by rfl) (by rfl) ?_
      refine X.gU (by rfl) (by rfl) (by rfl) ?_
      refine X.gU (by rfl) (by rfl) (by rfl) ?_
      refine X.gU (by rfl) (by rfl) (by rfl) ?_
      refine X.gn ?_
      refine X.pickF (by rfl) (by first | rfl | assumption) (by rfl) (by rfl) ?_
      refine X.as ?_
      cases h
      exact X.endG (by trivial) (by trivial) (by rfl) (by rfl)
  replace h := h2; clear h2
  cases h
  refine R.fin1 Tryz.results265 (by rfl) (by rfl) ?_
  rfl
theorem s_ProjectOk_pc (b0 : TProject) (r : Bool) (h : s_ProjectOk b0 = some r) : PC Tryz.prog 158 [eTProject b0] (bool r) := by
  unfold s_ProjectOk at h
  refine PC.start Tryz.func158 Tryz.ntmps158 rfl ok158 rfl ?_
  refine Run.sr ?_
  refine X.box (by rfl) (by rfl) (by repeat (first | trivial | refine ⟨by first | rfl | simp [setL], ?_⟩)) (by rfl) (by rfl) (by rfl) (by rfl) ?_
  refine X.an ?_
  refine Run.sr ?_
  refine X.fieldAddr_l fld28_1 (by rfl) (by rfl) ?_
  refine X.ld shp23 ?_
  refine X.len_s elt23 (by rfl) (by exact List.length_map ..) (by rfl) ?_
  refine X.an ?_
  refine Run.seq ?_
  refine Run.seq ?_
  obtain ⟨v1, hv1, h⟩ := bindE h
  obtain ⟨e2, he2, h2⟩ := bindE h
  refine R.regG [(1, .lptr 64 0), (3, int (b0.Activities.length : Int)), (41, bool e2)] [(64, .blk true [int b0.Deadline, .slice (b0.Activities.map eTActivity), .slice (b0.Links.map eTLink), .slice (b0.Resources.map eTResource), .slice (b0.Stocks.map int)])] ?_ ?_
  · clear h; have h := he2; clear he2 h2
    refine X.fieldAddr_l fld28_0 (by rfl) (by rfl) ?_
    refine X.ld shp3 ?_
    refine X.callP (s_l01In_pc _ _ _ _ hv1) (by rfl) (by rfl) (by rfl) (by trivial) (by rfl) (by rfl) (by rfl) (by rfl) ?_
    refine X.un (by rfl) (by rfl) (by rfl) ?_
    refine X.mv ?_
    refine X.ifG (by rfl) (by rfl) (by rfl) (fun hb3 => ?_) (fun hb3 => ?_)
    · replace h := condF hb3 h
      refine X.mv ?_
      refine X.gy ?_
      obtain ⟨v4, hv4, h⟩ := bindE h
      refine X.callP (s_l01In_pc _ _ _ _ hv4) (by rfl) (by rfl) (by rfl) (by trivial) (by rfl) (by rfl) (by rfl) (by rfl) ?_
      refine X.gy ?_
      refine X.un (by rfl) (by rfl) (by rfl) ?_
      refine X.pickF (by rfl) (by first | rfl | assumption) (by rfl) (by rfl) ?_
      refine X.mv ?_
      refine X.ifG (by rfl) (by rfl) (by rfl) (fun hb5 => ?_) (fun hb5 => ?_)
      · replace h := condF hb5 h
        refine X.fieldAddr_l fld28_3 (by rfl) (by rfl) ?_
        refine X.gy ?_
        refine X.ld shp25 ?_
        refine X.gy ?_
        refine X.len_s elt25 (by rfl) (by exact List.length_map ..) (by rfl) ?_
        refine X.gy ?_
        refine X.bi ?_
        refine X.pickF (by rfl) (by first | rfl | assumption) (by rfl) (by rfl) ?_
        refine X.mv ?_
        refine X.ifG (by rfl) (by rfl) (by rfl) (fun hb6 => ?_) (fun hb6 => ?_)
        · replace h := condF hb6 h
          refine X.fieldAddr_l fld28_4 (by rfl) (by rfl) ?_
          refine X.gy ?_
          refine X.ld shp26 ?_
          refine X.gy ?_
          refine X.len_s elt26 (by rfl) (by exact List.length_map ..) (by rfl) ?_
          refine X.gy ?_
          refine X.bi ?_
          refine X.pickF (by rfl) (by first | rfl | assumption) (by rfl) (by rfl) ?_
          refine X.mv ?_
          refine X.ifG (by rfl) (by rfl) (by rfl) (fun hb7 => ?_) (fun hb7 => ?_)
          · replace h := condF hb7 h
            refine X.fieldAddr_l fld28_2 (by rfl) (by rfl) ?_
            refine X.gy ?_
            refine X.ld shp24 ?_
            refine X.gy ?_
            refine X.len_s elt24 (by rfl) (by exact List.length_map ..) (by rfl) ?_
            refine X.gy ?_
            refine X.bi ?_
            refine X.pickF (by rfl) (by first | rfl | assumption) (by rfl) (by rfl) ?_
            cases h
            exact X.endG (by trivial) (by trivial) (by rfl) (by rfl)
          · replace h := condT hb7 h
            refine X.gn ?_
            refine X.gn ?_
            refine X.gn ?_
            refine X.pickT (by rfl) (by first | rfl | assumption) (by rfl) (by rfl) ?_
            cases h
            exact X.endG (by trivial) (by trivial) (by rfl) (by rfl)
        · replace h := condT hb6 h
          refine X.gn ?_
          refine X.gn ?_
          refine X.gn ?_
          refine X.pickT (by rfl) (by first | rfl | assumption) (by rfl) (by rfl) ?_
          refine X.mv ?_
          refine X.gn ?_
          refine X.gn ?_
          refine X.gn ?_
          refine X.gn ?_
          refine X.pickT (by rfl) (by first | rfl | assumption) (by rfl) (by rfl) ?_
          cases h
          exact X.endG (by trivial) (by trivial) (by rfl) (by rfl)
      · replace h := condT hb5 h
        refine X.gn ?_
        refine X.gn ?_
        refine X.gn ?_
        refine X.pickT (by rfl) (by first | rfl | assumption) (by rfl) (by rfl) ?_
        refine X.mv ?_
        refine X.gn ?_
        refine X.gn ?_
        refine X.gn ?_
        refine X.gn ?_
        refine X.pickT (by rfl) (by first | rfl | assumption) (by rfl) (by rfl) ?_
        refine X.mv ?_
        refine X.gn ?_
        refine X.gn ?_
        refine X.gn ?_
        refine X.gn ?_
        refine X.pickT (by rfl) (by first | rfl | assumption) (by rfl) (by rfl) ?_
        cases h
        exact X.endG (by trivial) (by trivial) (by rfl) (by rfl)
    · replace h := condT hb3 h
      refine X.gn ?_
      refine X.gn ?_
      refine X.pickT (by rfl) (by first | rfl | assumption) (by rfl) (by rfl) ?_
      refine X.mv ?_
      refine X.gn ?_
      refine X.gn ?_
      refine X.gn ?_
      refine X.gn ?_
      refine X.pickT (by rfl) (by first | rfl | assumption) (by rfl) (by rfl) ?_
      refine X.mv ?_
      refine X.gn ?_
      refine X.gn ?_
      refine X.gn ?_
      refine X.gn ?_
      refine X.pickT (by rfl) (by first | rfl | assumption) (by rfl) (by rfl) ?_
      refine X.mv ?_
      refine X.gn ?_
      refine X.gn ?_
      refine X.gn ?_
      refine X.gn ?_
      refine X.pickT (by rfl) (by first | rfl | assumption) (by rfl) (by rfl) ?_
      cases h
      exact X.endG (by trivial) (by trivial) (by rfl) (by rfl)
  replace h := h2; clear h2
  refine R.cond (by rfl) (fun hc8 => ?_) (fun hc8 => ?_)
  · replace h := condT hc8 h
    refine Run.sr ?_
    refine X.an ?_
    cases h
    refine R.fin1 Tryz.results158 (by rfl) (by rfl) ?_
    rfl
  · replace h := condF hc8 h
    refine Run.skip ?_
    refine Run.seq ?_
    refine Run.sr ?_
    refine X.fieldAddr_l fld28_1 (by rfl) (by rfl) ?_
    refine X.ld shp23 ?_
    refine X.len_s elt23 (by rfl) (by exact List.length_map ..) (by rfl) ?_
    refine X.mn ?_
    obtain ⟨o9, ho9, h⟩ := bindE h
    refine R.join2 (β := Unit) [(1, .lptr 64 0), (3, int (b0.Activities.length : Int))] [(64, .blk true [int b0.Deadline, .slice (b0.Activities.map eTActivity), .slice (b0.Links.map eTLink), .slice (b0.Resources.map eTResource), .slice (b0.Stocks.map int)])] (fun p25 S => S) (fun p25 M => M) (fun p25 => (Sum.inl p25) = o9) ?_ ?_
    · intro JJ12 hmeet11
      have hup10 := h; clear h; have h := ho9; clear ho9
      refine Run.block ?_
      refine R.bndS (t := 43) (by rfl) (fun hbd15 => ?_)
      replace hbd15 : b0.Activities.length ≤ 9223372036854775807 := by first | (rw [List.length_map] at hbd15; exact hbd15) | simp
      refine R.loop2 (β := Int) [(1, .lptr 64 0), (3, int (b0.Activities.length : Int)), (43, .slice (b0.Activities.map eTActivity)), (44, int (b0.Activities.length : Int))] [(64, .blk true [int b0.Deadline, .slice (b0.Activities.map eTActivity), .slice (b0.Links.map eTLink), .slice (b0.Resources.map eTResource), .slice (b0.Stocks.map int)])] (fun bb S => (45, int bb) :: S) (fun bb M => M) (fun n bb => 0 ≤ bb ∧ bb + n = (b0.Activities.length : Int) ∧ s_ProjectOk_L1 b0 (b0.Activities.drop bb.toNat) bb = some o9) b0.Activities.length (0 : Int) (by repeat (first | trivial | refine ⟨by first | rfl | simp [setL], ?_⟩)) (by repeat (first | trivial | refine ⟨by first | rfl | simp [setL], ?_⟩)) (by rfl) (by rfl) ⟨Int.le_refl _, by simp, h⟩ ?_
      clear h
      rintro JJ15 n15 z16 hag15 ⟨hza15, hzb15, h⟩
      refine Run.sr ?_
      refine X.bi ?_
      refine X.nil ?_
      refine Run.seq ?_
      refine R.cond (by rfl) (fun hc19 => ?_) (fun hc19 => ?_)
      · obtain ⟨x17, xs18, hd15, hx15, hds15, hlt15⟩ := drop_atI hza15 hc19
        rw [hd15] at h
        rw [s_ProjectOk_L1] at h
        refine Run.skip ?_
        refine Run.seq ?_
        refine Run.block ?_
        refine Run.sr ?_
        refine X.mv ?_
        refine X.index_s elt23 (by rfl) (by rfl) (idxL_spec hx15).1 (idxL_map eTActivity hx15) (by rfl) (by rfl) (by rfl) ?_
        refine X.load_c shp50 (by rfl) (by rfl) (by rfl) (by rfl) ?_
        refine X.alloc zer50 (by rfl) (by rfl) (by rfl) ?_
        refine X.as ?_
        refine X.store_l shp50 (by rfl) (by rfl) (by rfl) (by rfl) (by repeat (first | trivial | refine ⟨by first | rfl | simp [setL], ?_⟩)) (by rfl) (by rfl) (by rfl) ?_
        refine X.nil ?_
        refine Run.seq ?_
        obtain ⟨v20, hv20, h⟩ := bindE h
        obtain ⟨e21, he21, h2⟩ := bindE h
        refine R.regG [(1, .lptr 64 0), (3, int (b0.Activities.length : Int)), (43, .slice (b0.Activities.map eTActivity)), (44, int (b0.Activities.length : Int)), (45, int z16), (66, bool e21)] [(64, .blk true [int b0.Deadline, .slice (b0.Activities.map eTActivity), .slice (b0.Links.map eTLink), .slice (b0.Resources.map eTResource), .slice (b0.Stocks.map int)])] ?_ ?_
        · clear h; have h := he21; clear he21 h2
          refine X.ld shp50 ?_
          refine X.fieldAddr_l fld28_3 (by rfl) (by rfl) ?_
          refine X.ld shp25 ?_
          refine X.len_s elt25 (by rfl) (by exact List.length_map ..) (by rfl) ?_
          refine X.fieldAddr_l fld28_4 (by rfl) (by rfl) ?_
          refine X.ld shp26 ?_
          refine X.len_s elt26 (by rfl) (by exact List.length_map ..) (by rfl) ?_
          refine X.callP (s_ActivityOk_pc _ _ _ _ hv20) (by rfl) (by rfl) (by rfl) (by trivial) (by rfl) (by rfl) (by rfl) (by rfl) ?_
          refine X.un (by rfl) (by rfl) (by rfl) ?_
          refine X.mv ?_
          refine X.ifG (by rfl) (by rfl) (by rfl) (fun hb22 => ?_) (fun hb22 => ?_)
          · replace h := condF hb22 h
            refine X.ld shp28 ?_
            refine X.gy ?_
            refine X.fieldAddr_l fld50_0 (by rfl) (by rfl) ?_
            refine X.gy ?_
            refine X.ld shp9 ?_
            refine X.gy ?_
            obtain ⟨v23, hv23, h⟩ := bindE h
            refine X.callP (s_ActivityIndex_pc _ _ _ hv23) (by rfl) (by rfl) (by rfl) (by trivial) (by rfl) (by rfl) (by rfl) (by rfl) ?_
            refine X.gy ?_
            refine X.mv ?_
            refine X.gy ?_
            refine X.bi ?_
            refine X.pickF (by rfl) (by first | rfl | assumption) (by rfl) (by rfl) ?_
            cases h
            exact X.endG (by trivial) (by trivial) (by rfl) (by rfl)
          · replace h := condT hb22 h
            refine X.gn ?_
            refine X.gn ?_
            refine X.gn ?_
            refine X.gn ?_
            refine X.gn ?_
            refine X.pickT (by rfl) (by first | rfl | assumption) (by rfl) (by rfl) ?_
            cases h
            exact X.endG (by trivial) (by trivial) (by rfl) (by rfl)
        replace h := h2; clear h2
        refine R.cond (by rfl) (fun hc24 => ?_) (fun hc24 => ?_)
        · replace h := condT hc24 h
          refine Run.sr ?_
          refine X.an ?_
          cases h
          have h := hup10
          replace h := elimR h
          cases h
          refine R.fin1 Tryz.results158 (by rfl) (by rfl) ?_
          rfl
        · replace h := condF hc24 h
          refine Run.skip ?_
          refine Run.blk ?_
          refine Run.reg ?_
          refine X.add (by rfl) (by rfl) (by omega) (by rfl) ?_
          refine X.mn ?_
          exact hag15 (n15 - 1) (z16 + 1) _ _ (by omega) ⟨by first | omega | (dsimp only; omega), by first | omega | (dsimp only; omega), by first | (rw [hds15]; exact h) | (dsimp only; rw [hds15]; exact h)⟩ (by trivial) (by trivial) (by rfl) (by rfl)
      · rw [drop_endI hza15 hc19] at h
        rw [s_ProjectOk_L1] at h
        refine Run.exit (by rfl) ?_
        exact hmeet11 () _ _ (Option.some.inj h) (by trivial) (by trivial) (by rfl) (by rfl)
    rintro p25 rfl
    replace h := elimL h
    refine Run.seq ?_
    refine Run.sr ?_
    refine X.fieldAddr_l fld28_3 (by rfl) (by rfl) ?_
    refine X.ld shp25 ?_
    refine X.len_s elt25 (by rfl) (by exact List.length_map ..) (by rfl) ?_
    refine X.mn ?_
    obtain ⟨o27, ho27, h⟩ := bindE h
    refine R.join2 (β := Unit) [(1, .lptr 64 0), (3, int (b0.Activities.length : Int))] [(64, .blk true [int b0.Deadline, .slice (b0.Activities.map eTActivity), .slice (b0.Links.map eTLink), .slice (b0.Resources.map eTResource), .slice (b0.Stocks.map int)])] (fun p40 S => S) (fun p40 M => M) (fun p40 => (Sum.inl p40) = o27) ?_ ?_
    · intro JJ30 hmeet29
      have hup28 := h; clear h; have h := ho27; clear ho27
      refine Run.block ?_
      refine R.bndS (t := 69) (by rfl) (fun hbd33 => ?_)
      replace hbd33 : b0.Resources.length ≤ 9223372036854775807 := by first | (rw [List.length_map] at hbd33; exact hbd33) | simp
      refine R.loop2 (β := Int) [(1, .lptr 64 0), (3, int (b0.Activities.length : Int)), (69, .slice (b0.Resources.map eTResource)), (70, int (b0.Resources.length : Int))] [(64, .blk true [int b0.Deadline, .slice (b0.Activities.map eTActivity), .slice (b0.Links.map eTLink), .slice (b0.Resources.map eTResource), .slice (b0.Stocks.map int)])] (fun bb S => (71, int bb) :: S) (fun bb M => M) (fun n bb => 0 ≤ bb ∧ bb + n = (b0.Resources.length : Int) ∧ s_ProjectOk_L2 (b0.Resources.drop bb.toNat) bb = some o27) b0.Resources.length (0 : Int) (by repeat (first | trivial | refine ⟨by first | rfl | simp [setL], ?_⟩)) (by repeat (first | trivial | refine ⟨by first | rfl | simp [setL], ?_⟩)) (by rfl) (by rfl) ⟨Int.le_refl _, by simp, h⟩ ?_
      clear h
      rintro JJ33 n33 z34 hag33 ⟨hza33, hzb33, h⟩
      refine Run.sr ?_
      refine X.bi ?_
      refine X.nil ?_
      refine Run.seq ?_
      refine R.cond (by rfl) (fun hc37 => ?_) (fun hc37 => ?_)
      · obtain ⟨x35, xs36, hd33, hx33, hds33, hlt33⟩ := drop_atI hza33 hc37
        rw [hd33] at h
        rw [s_ProjectOk_L2] at h
        refine Run.skip ?_
        refine Run.seq ?_
        refine Run.block ?_
        refine Run.sr ?_
        refine X.index_s elt25 (by rfl) (by rfl) (idxL_spec hx33).1 (idxL_map eTResource hx33) (by rfl) (by rfl) (by rfl) ?_
        refine X.load_c shp64 (by rfl) (by rfl) (by rfl) (by rfl) ?_
        refine X.alloc zer64 (by rfl) (by rfl) (by rfl) ?_
        refine X.store_l shp64 (by rfl) (by rfl) (by rfl) (by rfl) (by repeat (first | trivial | refine ⟨by first | rfl | simp [setL], ?_⟩)) (by rfl) (by rfl) (by rfl) ?_
        refine X.nil ?_
        refine Run.sr ?_
        refine X.ld shp64 ?_
        obtain ⟨v38, hv38, h⟩ := bindE h
        refine X.callP (s_ResourceOk_pc _ _ hv38) (by rfl) (by rfl) (by rfl) (by trivial) (by rfl) (by rfl) (by rfl) (by rfl) ?_
        refine X.un (by rfl) (by rfl) (by rfl) ?_
        refine X.nil ?_
        refine R.cond (by rfl) (fun hc39 => ?_) (fun hc39 => ?_)
        · replace h := condT hc39 h
          refine Run.sr ?_
          refine X.an ?_
          cases h
          have h := hup28
          replace h := elimR h
          cases h
          refine R.fin1 Tryz.results158 (by rfl) (by rfl) ?_
          rfl
        · replace h := condF hc39 h
          refine Run.skip ?_
          refine Run.blk ?_
          refine Run.reg ?_
          refine X.add (by rfl) (by rfl) (by omega) (by rfl) ?_
          refine X.mn ?_
          exact hag33 (n33 - 1) (z34 + 1) _ _ (by omega) ⟨by first | omega | (dsimp only; omega), by first | omega | (dsimp only; omega), by first | (rw [hds33]; exact h) | (dsimp only; rw [hds33]; exact h)⟩ (by trivial) (by trivial) (by rfl) (by rfl)
      · rw [drop_endI hza33 hc37] at h
        rw [s_ProjectOk_L2] at h
        refine Run.exit (by rfl) ?_
        exact hmeet29 () _ _ (Option.some.inj h) (by trivial) (by trivial) (by rfl) (by rfl)
    rintro p40 rfl
    replace h := elimL h
    refine Run.seq ?_
    refine Run.sr ?_
    refine X.fieldAddr_l fld28_4 (by rfl) (by rfl) ?_
    refine X.ld shp26 ?_
    refine X.len_s elt26 (by rfl) (by exact List.length_map ..) (by rfl) ?_
    refine X.mn ?_
    obtain ⟨o42, ho42, h⟩ := bindE h
    refine R.join2 (β := Unit) [(1, .lptr 64 0), (3, int (b0.Activities.length : Int))] [(64, .blk true [int b0.Deadline, .slice (b0.Activities.map eTActivity), .slice (b0.Links.map eTLink), .slice (b0.Resources.map eTResource), .slice (b0.Stocks.map int)])] (fun p55 S => S) (fun p55 M => M) (fun p55 => (Sum.inl p55) = o42) ?_ ?_
    · intro JJ45 hmeet44
      have hup43 := h; clear h; have h := ho42; clear ho42
      refine Run.block ?_
      refine R.bndS (t := 80) (by rfl) (fun hbd48 => ?_)
      replace hbd48 : b0.Stocks.length ≤ 9223372036854775807 := by first | (rw [List.length_map] at hbd48; exact hbd48) | simp
      refine R.loop2 (β := Int) [(1, .lptr 64 0), (3, int (b0.Activities.length : Int)), (80, .slice (b0.Stocks.map int)), (81, int (b0.Stocks.length : Int))] [(64, .blk true [int b0.Deadline, .slice (b0.Activities.map eTActivity), .slice (b0.Links.map eTLink), .slice (b0.Resources.map eTResource), .slice (b0.Stocks.map int)])] (fun bb S => (82, int bb) :: S) (fun bb M => M) (fun n bb => 0 ≤ bb ∧ bb + n = (b0.Stocks.length : Int) ∧ s_ProjectOk_L3 (b0.Stocks.drop bb.toNat) bb = some o42) b0.Stocks.length (0 : Int) (by repeat (first | trivial | refine ⟨by first | rfl | simp [setL], ?_⟩)) (by repeat (first | trivial | refine ⟨by first | rfl | simp [setL], ?_⟩)) (by rfl) (by rfl) ⟨Int.le_refl _, by simp, h⟩ ?_
      clear h
      rintro JJ48 n48 z49 hag48 ⟨hza48, hzb48, h⟩
      refine Run.sr ?_
      refine X.bi ?_
      refine X.nil ?_
      refine Run.seq ?_
      refine R.cond (by rfl) (fun hc52 => ?_) (fun hc52 => ?_)
      · obtain ⟨x50, xs51, hd48, hx48, hds48, hlt48⟩ := drop_atI hza48 hc52
        rw [hd48] at h
        rw [s_ProjectOk_L3] at h
        refine Run.skip ?_
        refine Run.seq ?_
        refine Run.block ?_
        refine Run.sr ?_
        refine X.index_s elt26 (by rfl) (by rfl) (idxL_spec hx48).1 (idxL_map int hx48) (by rfl) (by rfl) (by rfl) ?_
        refine X.load_c shp3 (by rfl) (by rfl) (by rfl) (by rfl) ?_
        refine X.an ?_
        refine Run.sr ?_
        refine X.mv ?_
        obtain ⟨v53, hv53, h⟩ := bindE h
        refine X.callP (s_l01In_pc _ _ _ _ hv53) (by rfl) (by rfl) (by rfl) (by trivial) (by rfl) (by rfl) (by rfl) (by rfl) ?_
        refine X.un (by rfl) (by rfl) (by rfl) ?_
        refine X.nil ?_
        refine R.cond (by rfl) (fun hc54 => ?_) (fun hc54 => ?_)
        · replace h := condT hc54 h
          refine Run.sr ?_
          refine X.an ?_
          cases h
          have h := hup43
          replace h := elimR h
          cases h
          refine R.fin1 Tryz.results158 (by rfl) (by rfl) ?_
          rfl
        · replace h := condF hc54 h
          refine Run.skip ?_
          refine Run.blk ?_
          refine Run.reg ?_
          refine X.add (by rfl) (by rfl) (by omega) (by rfl) ?_
          refine X.mn ?_
          exact hag48 (n48 - 1) (z49 + 1) _ _ (by omega) ⟨by first | omega | (dsimp only; omega), by first | omega | (dsimp only; omega), by first | (rw [hds48]; exact h) | (dsimp only; rw [hds48]; exact h)⟩ (by trivial) (by trivial) (by rfl) (by rfl)
      · rw [drop_endI hza48 hc52] at h
        rw [s_ProjectOk_L3] at h
        refine Run.exit (by rfl) ?_
        exact hmeet44 () _ _ (Option.some.inj h) (by trivial) (by trivial) (by rfl) (by rfl)
    rintro p55 rfl
    replace h := elimL h
    refine Run.seq ?_
    refine Run.sr ?_
    refine X.fieldAddr_l fld28_2 (by rfl) (by rfl) ?_
    refine X.ld shp24 ?_
    refine X.len_s elt24 (by rfl) (by exact List.length_map ..) (by rfl) ?_
    refine X.mn ?_
    obtain ⟨o57, ho57, h⟩ := bindE h
    refine R.join2 (β := Unit) [] [] (fun p76 S => S) (fun p76 M => M) (fun p76 => (Sum.inl p76) = o57) ?_ ?_
    · intro JJ60 hmeet59
      have hup58 := h; clear h; have h := ho57; clear ho57
      refine Run.block ?_
      refine R.bndS (t := 91) (by rfl) (fun hbd63 => ?_)
      replace hbd63 : b0.Links.length ≤ 9223372036854775807 := by first | (rw [List.length_map] at hbd63; exact hbd63) | simp
      refine R.loop2 (β := Int) [(3, int (b0.Activities.length : Int)), (91, .slice (b0.Links.map eTLink)), (92, int (b0.Links.length : Int))] [] (fun bb S => (93, int bb) :: S) (fun bb M => M) (fun n bb => 0 ≤ bb ∧ bb + n = (b0.Links.length : Int) ∧ s_ProjectOk_L4 b0 (b0.Links.drop bb.toNat) bb = some o57) b0.Links.length (0 : Int) (by repeat (first | trivial | refine ⟨by first | rfl | simp [setL], ?_⟩)) (by repeat (first | trivial | refine ⟨by first | rfl | simp [setL], ?_⟩)) (by rfl) (by rfl) ⟨Int.le_refl _, by simp, h⟩ ?_
      clear h
      rintro JJ63 n63 z64 hag63 ⟨hza63, hzb63, h⟩
      refine Run.sr ?_
      refine X.bi ?_
      refine X.nil ?_
      refine Run.seq ?_
      refine R.cond (by rfl) (fun hc67 => ?_) (fun hc67 => ?_)
      · obtain ⟨x65, xs66, hd63, hx63, hds63, hlt63⟩ := drop_atI hza63 hc67
        rw [hd63] at h
        rw [s_ProjectOk_L4] at h
        refine Run.skip ?_
        refine Run.seq ?_
        refine Run.block ?_
        refine Run.sr ?_
        refine X.index_s elt24 (by rfl) (by rfl) (idxL_spec hx63).1 (idxL_map eTLink hx63) (by rfl) (by rfl) (by rfl) ?_
        refine X.load_c shp167 (by rfl) (by rfl) (by rfl) (by rfl) ?_
        refine X.alloc zer167 (by rfl) (by rfl) (by rfl) ?_
        refine X.store_l shp167 (by rfl) (by rfl) (by rfl) (by rfl) (by repeat (first | trivial | refine ⟨by first | rfl | simp [setL], ?_⟩)) (by rfl) (by rfl) (by rfl) ?_
        refine X.nil ?_
        refine Run.seq ?_
        obtain ⟨v68, hv68, h⟩ := bindE h
        obtain ⟨e69, he69, h2⟩ := bindE h
        refine R.regG [(3, int (b0.Activities.length : Int)), (91, .slice (b0.Links.map eTLink)), (92, int (b0.Links.length : Int)), (93, int z64), (123, bool e69)] [] ?_ ?_
        · clear h; have h := he69; clear he69 h2
          refine X.fieldAddr_l fld167_0 (by rfl) (by rfl) ?_
          refine X.ld shp3 ?_
          refine X.mv ?_
          refine X.subW (by rfl) (by rfl) (by rfl) ?_
          refine X.callP (s_l01In_pc _ _ _ _ hv68) (by rfl) (by rfl) (by rfl) (by trivial) (by rfl) (by rfl) (by rfl) (by rfl) ?_
          refine X.un (by rfl) (by rfl) (by rfl) ?_
          refine X.mv ?_
          refine X.ifG (by rfl) (by rfl) (by rfl) (fun hb70 => ?_) (fun hb70 => ?_)
          · replace h := condF hb70 h
            refine X.fieldAddr_l fld167_1 (by rfl) (by rfl) ?_
            refine X.gy ?_
            refine X.ld shp3 ?_
            refine X.gy ?_
            refine X.mv ?_
            refine X.gy ?_
            refine X.subW (by rfl) (by rfl) (by rfl) ?_
            refine X.gy ?_
            obtain ⟨v71, hv71, h⟩ := bindE h
            refine X.callP (s_l01In_pc _ _ _ _ hv71) (by rfl) (by rfl) (by rfl) (by trivial) (by rfl) (by rfl) (by rfl) (by rfl) ?_
            refine X.gy ?_
            refine X.un (by rfl) (by rfl) (by rfl) ?_
            refine X.pickF (by rfl) (by first | rfl | assumption) (by rfl) (by rfl) ?_
            refine X.mv ?_
            refine X.ifG (by rfl) (by rfl) (by rfl) (fun hb72 => ?_) (fun hb72 => ?_)
            · replace h := condF hb72 h
              refine X.fieldAddr_l fld167_0 (by rfl) (by rfl) ?_
              refine X.gy ?_
              refine X.ld shp3 ?_
              refine X.gy ?_
              refine X.fieldAddr_l fld167_1 (by rfl) (by rfl) ?_
              refine X.gy ?_
              refine X.ld shp3 ?_
              refine X.gy ?_
              refine X.bi ?_
              refine X.pickF (by rfl) (by first | rfl | assumption) (by rfl) (by rfl) ?_
              refine X.mv ?_
              refine X.ifG (by rfl) (by rfl) (by rfl) (fun hb73 => ?_) (fun hb73 => ?_)
              · replace h := condF hb73 h
                refine X.fieldAddr_l fld167_3 (by rfl) (by rfl) ?_
                refine X.gy ?_
                refine X.ld shp3 ?_
                refine X.gy ?_
                obtain ⟨v74, hv74, h⟩ := bindE h
                refine X.callP (s_l01In_pc _ _ _ _ hv74) (by rfl) (by rfl) (by rfl) (by trivial) (by rfl) (by rfl) (by rfl) (by rfl) ?_
                refine X.gy ?_
                refine X.un (by rfl) (by rfl) (by rfl) ?_
                refine X.pickF (by rfl) (by first | rfl | assumption) (by rfl) (by rfl) ?_
                cases h
                exact X.endG (by trivial) (by trivial) (by rfl) (by rfl)
              · replace h := condT hb73 h
                refine X.gn ?_
                refine X.gn ?_
                refine X.gn ?_
                refine X.pickT (by rfl) (by first | rfl | assumption) (by rfl) (by rfl) ?_
                cases h
                exact X.endG (by trivial) (by trivial) (by rfl) (by rfl)
            · replace h := condT hb72 h
              refine X.gn ?_
              refine X.gn ?_
              refine X.gn ?_
              refine X.gn ?_
              refine X.pickT (by rfl) (by first | rfl | assumption) (by rfl) (by rfl) ?_
              refine X.mv ?_
              refine X.gn ?_
              refine X.gn ?_
              refine X.gn ?_
              refine X.gn ?_
              refine X.pickT (by rfl) (by first | rfl | assumption) (by rfl) (by rfl) ?_
              cases h
              exact X.endG (by trivial) (by trivial) (by rfl) (by rfl)
          · replace h := condT hb70 h
            refine X.gn ?_
            refine X.gn ?_
            refine X.gn ?_
            refine X.gn ?_
            refine X.gn ?_
            refine X.pickT (by rfl) (by first | rfl | assumption) (by rfl) (by rfl) ?_
            refine X.mv ?_
            refine X.gn ?_
            refine X.gn ?_
            refine X.gn ?_
            refine X.gn ?_
            refine X.gn ?_
            refine X.pickT (by rfl) (by first | rfl | assumption) (by rfl) (by rfl) ?_
            refine X.mv ?_
            refine X.gn ?_
            refine X.gn ?_
            refine X.gn ?_
            refine X.gn ?_
            refine X.pickT (by rfl) (by first | rfl | assumption) (by rfl) (by rfl) ?_
            cases h
            exact X.endG (by trivial) (by trivial) (by rfl) (by rfl)
        replace h := h2; clear h2
        refine R.cond (by rfl) (fun hc75 => ?_) (fun hc75 => ?_)
        · replace h := condT hc75 h
          refine Run.sr ?_
          refine X.an ?_
          cases h
          have h := hup58
          replace h := elimR h
          cases h
          refine R.fin1 Tryz.results158 (by rfl) (by rfl) ?_
          rfl
        · replace h := condF hc75 h
          refine Run.skip ?_
          refine Run.blk ?_
          refine Run.reg ?_
          refine X.add (by rfl) (by rfl) (by omega) (by rfl) ?_
          refine X.mn ?_
          exact hag63 (n63 - 1) (z64 + 1) _ _ (by omega) ⟨by first | omega | (dsimp only; omega), by first | omega | (dsimp only; omega), by first | (rw [hds63]; exact h) | (dsimp only; rw [hds63]; exact h)⟩ (by trivial) (by trivial) (by rfl) (by rfl)
      · rw [drop_endI hza63 hc67] at h
        rw [s_ProjectOk_L4] at h
        refine Run.exit (by rfl) ?_
        exact hmeet59 () _ _ (Option.some.inj h) (by trivial) (by trivial) (by rfl) (by rfl)
    rintro p76 rfl
    replace h := elimL h
    refine Run.sr ?_
    refine X.an ?_
    cases h
    refine R.fin1 Tryz.results158 (by rfl) (by rfl) ?_
    rfl
theorem s_SetOk_pc (b0 : List Int) (r : Bool) (h : s_SetOk b0 = some r) : PC Tryz.prog 277 [.slice (b0.map int)] (bool r) := by
  unfold s_SetOk at h
  refine PC.start Tryz.func277 Tryz.ntmps277 rfl ok277 rfl ?_
  refine Run.sr ?_
  refine X.an ?_
  refine Run.seq ?_
  refine Run.sr ?_
  refine X.mv ?_
  refine X.len_s elt26 (by rfl) (by exact List.length_map ..) (by rfl) ?_
  refine X.mn ?_
  obtain ⟨o1, ho1, h⟩ := bindE h
  refine R.join2 (β := Unit) [] [] (fun p16 S => S) (fun p16 M => M) (fun p16 => (Sum.inl p16) = o1) ?_ ?_
  · intro JJ4 hmeet3
    have hup2 := h; clear h; have h := ho1; clear ho1
    refine Run.block ?_
    refine R.bndS (t := 0) (by rfl) (fun hbd7 => ?_)
    replace hbd7 : b0.length ≤ 9223372036854775807 := by first | (rw [List.length_map] at hbd7; exact hbd7) | simp
    refine R.loop2 (β := Int) [(0, .slice (b0.map int)), (5, int (b0.length : Int))] [] (fun bb S => (6, int bb) :: S) (fun bb M => M) (fun n bb => 0 ≤ bb ∧ bb + n = (b0.length : Int) ∧ s_SetOk_L1 b0 (b0.drop bb.toNat) bb = some o1) b0.length (0 : Int) (by repeat (first | trivial | refine ⟨by first | rfl | simp [setL], ?_⟩)) (by repeat (first | trivial | refine ⟨by first | rfl | simp [setL], ?_⟩)) (by rfl) (by rfl) ⟨Int.le_refl _, by simp, h⟩ ?_
    clear h
    rintro JJ7 n7 z8 hag7 ⟨hza7, hzb7, h⟩
    refine Run.sr ?_
    refine X.bi ?_
    refine X.nil ?_
    refine Run.seq ?_
    refine R.cond (by rfl) (fun hc11 => ?_) (fun hc11 => ?_)
    · obtain ⟨x9, xs10, hd7, hx7, hds7, hlt7⟩ := drop_atI hza7 hc11
      rw [hd7] at h
      rw [s_SetOk_L1] at h
      refine Run.skip ?_
      refine Run.seq ?_
      refine Run.block ?_
      refine Run.sr ?_
      refine X.mv ?_
      refine X.an ?_
      refine Run.seq ?_
      obtain ⟨e12, he12, h2⟩ := bindE h
      refine R.drawG [(0, .slice (b0.map int)), (5, int (b0.length : Int)), (6, int z8), (22, bool e12)] [] (footOf []) mixed (by kernel_rfl) (by kernel_rfl) ?_ ?_
      · clear h; have h := he12; clear he12 h2
        refine X.mv ?_
        refine X.bi ?_
        refine X.mv ?_
        refine X.ifG (by rfl) (by rfl) (by rfl) (fun hb13 => ?_) (fun hb13 => ?_)
        · replace h := condT hb13 h
          refine X.mv ?_
          refine X.gy ?_
          refine X.mv ?_
          refine X.gy ?_
          refine X.sub (by rfl) (by rfl) (by omega) (by rfl) ?_
          refine X.gy ?_
          obtain ⟨v14, hv14, h⟩ := bindE h
          refine X.index_s elt26 (by rfl) (by rfl) (idxL_spec hv14).1 (idxL_map int hv14) (by rfl) (by rfl) (by rfl) ?_
          refine X.gy ?_
          refine X.load_c shp3 (by rfl) (by rfl) (by rfl) (by rfl) ?_
          refine X.gy ?_
          refine X.mv ?_
          refine X.gy ?_
          refine X.mv ?_
          refine X.gy ?_
          refine X.index_s elt26 (by rfl) (by rfl) (idxL_spec hx7).1 (idxL_map int hx7) (by rfl) (by rfl) (by rfl) ?_
          refine X.gy ?_
          refine X.load_c shp3 (by rfl) (by rfl) (by rfl) (by rfl) ?_
          refine X.gy ?_
          refine X.bi ?_
          refine X.pickT (by rfl) (by first | rfl | assumption) (by rfl) (by rfl) ?_
          cases h
          exact X.endG (by trivial) (by trivial) (by rfl) (by rfl)
        · replace h := condF hb13 h
          refine X.gn ?_
          refine X.gn ?_
          refine X.gn ?_
          refine X.gn ?_
          refine X.gn ?_
          refine X.gn ?_
          refine X.gn ?_
          refine X.gn ?_
          refine X.gn ?_
          refine X.pickF (by rfl) (by first | rfl | assumption) (by rfl) (by rfl) ?_
          cases h
          exact X.endG (by trivial) (by trivial) (by rfl) (by rfl)
      replace h := h2; clear h2
      refine R.cond (by rfl) (fun hc15 => ?_) (fun hc15 => ?_)
      · replace h := condT hc15 h
        refine Run.sr ?_
        refine X.an ?_
        cases h
        have h := hup2
        replace h := elimR h
        cases h
        refine R.fin1 Tryz.results277 (by rfl) (by rfl) ?_
        rfl
      · replace h := condF hc15 h
        refine Run.skip ?_
        refine Run.blk ?_
        refine Run.reg ?_
        refine X.add (by rfl) (by rfl) (by omega) (by rfl) ?_
        refine X.mn ?_
        exact hag7 (n7 - 1) (z8 + 1) _ _ (by omega) ⟨by first | omega | (dsimp only; omega), by first | omega | (dsimp only; omega), by first | (rw [hds7]; exact h) | (dsimp only; rw [hds7]; exact h)⟩ (by trivial) (by trivial) (by rfl) (by rfl)
    · rw [drop_endI hza7 hc11] at h
      rw [s_SetOk_L1] at h
      refine Run.exit (by rfl) ?_
      exact hmeet3 () _ _ (Option.some.inj h) (by trivial) (by trivial) (by rfl) (by rfl)
  rintro p16 rfl
  replace h := elimL h
  refine Run.sr ?_
  refine X.an ?_
  cases h
  refine R.fin1 Tryz.results277 (by rfl) (by rfl) ?_
  rfl
theorem s_IntRange_pc (b0 : Int) (r : List Int) (h : s_IntRange b0 = some r) : PC Tryz.prog 191 [int b0] (.fresh false 3 1 (r.map int)) := by
  unfold s_IntRange at h
  refine PC.start Tryz.func191 Tryz.ntmps191 rfl ok191 rfl ?_
  refine Run.sr ?_
  refine X.an ?_
  refine Run.sr ?_
  refine X.buildSlice false elt26 zer3 (by rfl) (by rfl) (by rfl) (by rfl) (by rfl) (by rfl) (by repeat (first | trivial | refine ⟨by first | rfl | simp [setL], ?_⟩)) (allSz_spec (by rfl)) (by rfl) (by rfl) (by rfl) ?_
  refine X.an ?_
  refine Run.seq ?_
  refine Run.sr ?_
  refine X.mv ?_
  obtain ⟨v1, hv1, h⟩ := bindE h
  refine X.callP (s_l01In_pc _ _ _ _ hv1) (by rfl) (by rfl) (by rfl) (by trivial) (by rfl) (by rfl) (by rfl) (by rfl) ?_
  refine X.un (by rfl) (by rfl) (by rfl) ?_
  refine X.nil ?_
  refine R.cond (by rfl) (fun hc2 => ?_) (fun hc2 => ?_)
  · replace h := condT hc2 h
    refine Run.sr ?_
    refine X.an ?_
    cases h
    refine R.fin1n (x := false) (e := 3) (sz := 1) Tryz.results191 (by rfl) (by decide) ?_
    rfl
  · replace h := condF hc2 h
    refine Run.skip ?_
    refine Run.seq ?_
    refine Run.sr ?_
    refine X.an ?_
    obtain ⟨o3, ho3, h⟩ := bindE h
    refine R.join2 (β := (List Int)) [] [] (fun p15 S => (3, .own 320 (p15.map int).length) :: S) (fun p15 M => (320, .obj false 3 1 (p15.map int)) :: M) (fun p15 => p15 = o3) ?_ ?_
    · intro JJ6 hmeet5
      have hup4 := h; clear h; have h := ho3; clear ho3
      refine Run.block ?_
      refine R.loop2 (β := Int × (List Int)) [(0, int b0)] [] (fun bb S => (3, .own 320 (bb.2.map int).length) :: (4, int bb.1) :: S) (fun bb M => (320, .obj false 3 1 (bb.2.map int)) :: M) (fun n bb => s_IntRange_L1 b0 n bb.1 bb.2 = some o3) F0 (0, ([] : List Int)) (by repeat (first | trivial | refine ⟨by first | rfl | simp [setL], ?_⟩)) (by repeat (first | trivial | refine ⟨by first | rfl | simp [setL], ?_⟩)) (by rfl) (by rfl) h ?_
      clear h
      rintro JJ7 n7 ⟨a9, a10⟩ hag7 h
      dsimp only at h
      obtain _ | n7 := n7
      · exact absurd h (by simp [s_IntRange_L1])
      rw [s_IntRange_L1] at h
      refine Run.seq ?_
      refine Run.sr ?_
      refine X.mv ?_
      refine X.mv ?_
      refine X.bi ?_
      refine X.nil ?_
      refine R.cond (by rfl) (fun hc13 => ?_) (fun hc13 => ?_)
      · replace h := condT hc13 h
        refine Run.skip ?_
        refine Run.seq ?_
        refine Run.block ?_
        refine Run.reg ?_
        refine X.mv ?_
        refine X.mv ?_
        refine X.buildSlice false elt26 zer3 (by rfl) (by rfl) (by rfl) (by rfl) (by rfl) (by rfl) (by repeat (first | trivial | refine ⟨by first | rfl | simp [setL], ?_⟩)) (allSz_spec (by rfl)) (by rfl) (by rfl) (by rfl) ?_
        obtain ⟨v14, hv14, h⟩ := bindE h
        refine X.append elt26 zer3 (by rfl) (by rfl) (by first | rfl | simp [setL] | omega) (by rfl) (.own _ _ _ _ _ _ (look_mem (by rfl)) (by first | rfl | simp [setL] | omega)) (allSz_spec (by rfl)) (appL_len int hv14) (appL_map int hv14) (by rfl) (by rfl) (by rfl) (by rfl) ?_
        refine X.an ?_
        refine Run.blk ?_
        refine Run.reg ?_
        refine X.mv ?_
        refine X.addW (by rfl) (by rfl) (by rfl) ?_
        refine X.an ?_
        exact hag7 n7 ((W (a9 + 1)), v14) _ _ (by omega) h (by repeat (first | trivial | refine ⟨by first | rfl | simp [setL], ?_⟩)) (by repeat (first | trivial | refine ⟨by first | rfl | simp [setL], ?_⟩)) (by rfl) (by rfl)
      · replace h := condF hc13 h
        refine Run.exit (by rfl) ?_
        exact hmeet5 a10 _ _ (Option.some.inj h) (by repeat (first | trivial | refine ⟨by first | rfl | simp [setL], ?_⟩)) (by repeat (first | trivial | refine ⟨by first | rfl | simp [setL], ?_⟩)) (by rfl) (by rfl)
    rintro p15 rfl
    refine Run.sr ?_
    refine X.mv ?_
    refine X.an ?_
    cases h
    refine R.fin1o Tryz.results191 (by rfl) (by rfl) (by first | rfl | simp [setL] | omega) ?_
    rfl
theorem s_SetHas_pc (b0 : List Int) (b1 : Int) (r : Bool) (h : s_SetHas b0 b1 = some r) : PC Tryz.prog 300 [.slice (b0.map int), int b1] (bool r) := by
  unfold s_SetHas at h
  refine PC.start Tryz.func300 Tryz.ntmps300 rfl ok300 rfl ?_
  refine Run.sr ?_
  refine X.an ?_
  refine Run.seq ?_
  refine Run.sr ?_
  refine X.mv ?_
  refine X.len_s elt26 (by rfl) (by exact List.length_map ..) (by rfl) ?_
  refine X.mn ?_
  obtain ⟨o1, ho1, h⟩ := bindE h
  refine R.join2 (β := Unit) [] [] (fun p13 S => S) (fun p13 M => M) (fun p13 => (Sum.inl p13) = o1) ?_ ?_
  · intro JJ4 hmeet3
    have hup2 := h; clear h; have h := ho1; clear ho1
    refine Run.block ?_
    refine R.bndS (t := 0) (by rfl) (fun hbd7 => ?_)
    replace hbd7 : b0.length ≤ 9223372036854775807 := by first | (rw [List.length_map] at hbd7; exact hbd7) | simp
    refine R.loop2 (β := Int) [(1, int b1), (7, .slice (b0.map int)), (8, int (b0.length : Int))] [] (fun bb S => (9, int bb) :: S) (fun bb M => M) (fun n bb => 0 ≤ bb ∧ bb + n = (b0.length : Int) ∧ s_SetHas_L1 b1 (b0.drop bb.toNat) bb = some o1) b0.length (0 : Int) (by repeat (first | trivial | refine ⟨by first | rfl | simp [setL], ?_⟩)) (by repeat (first | trivial | refine ⟨by first | rfl | simp [setL], ?_⟩)) (by rfl) (by rfl) ⟨Int.le_refl _, by simp, h⟩ ?_
    clear h
    rintro JJ7 n7 z8 hag7 ⟨hza7, hzb7, h⟩
    refine Run.sr ?_
    refine X.bi ?_
    refine X.nil ?_
    refine Run.seq ?_
    refine R.cond (by rfl) (fun hc11 => ?_) (fun hc11 => ?_)
    · obtain ⟨x9, xs10, hd7, hx7, hds7, hlt7⟩ := drop_atI hza7 hc11
      rw [hd7] at h
      rw [s_SetHas_L1] at h
      refine Run.skip ?_
      refine Run.seq ?_
      refine Run.block ?_
      refine Run.sr ?_
      refine X.index_s elt26 (by rfl) (by rfl) (idxL_spec hx7).1 (idxL_map int hx7) (by rfl) (by rfl) (by rfl) ?_
      refine X.load_c shp3 (by rfl) (by rfl) (by rfl) (by rfl) ?_
      refine X.an ?_
      refine Run.sr ?_
      refine X.mv ?_
      refine X.mv ?_
      refine X.bi ?_
      refine X.nil ?_
      refine R.cond (by rfl) (fun hc12 => ?_) (fun hc12 => ?_)
      · replace h := condT hc12 h
        refine Run.sr ?_
        refine X.an ?_
        cases h
        have h := hup2
        replace h := elimR h
        cases h
        refine R.fin1 Tryz.results300 (by rfl) (by rfl) ?_
        rfl
      · replace h := condF hc12 h
        refine Run.skip ?_
        refine Run.blk ?_
        refine Run.reg ?_
        refine X.add (by rfl) (by rfl) (by omega) (by rfl) ?_
        refine X.mn ?_
        exact hag7 (n7 - 1) (z8 + 1) _ _ (by omega) ⟨by first | omega | (dsimp only; omega), by first | omega | (dsimp only; omega), by first | (rw [hds7]; exact h) | (dsimp only; rw [hds7]; exact h)⟩ (by trivial) (by trivial) (by rfl) (by rfl)
    · rw [drop_endI hza7 hc11] at h
      rw [s_SetHas_L1] at h
      refine Run.exit (by rfl) ?_
      exact hmeet3 () _ _ (Option.some.inj h) (by trivial) (by trivial) (by rfl) (by rfl)
  rintro p13 rfl
  replace h := elimL h
  refine Run.sr ?_
  refine X.an ?_
  cases h
  refine R.fin1 Tryz.results300 (by rfl) (by rfl) ?_
  rfl
theorem s_SetSubset_pc (b0 : List Int) (b1 : List Int) (r : Bool) (h : s_SetSubset b0 b1 = some r) : PC Tryz.prog 278 [.slice (b0.map int), .slice (b1.map int)] (bool r) := by
  unfold s_SetSubset at h
  refine PC.start Tryz.func278 Tryz.ntmps278 rfl ok278 rfl ?_
  refine Run.sr ?_
  refine X.an ?_
  refine Run.seq ?_
  refine Run.sr ?_
  refine X.mv ?_
  refine X.len_s elt26 (by rfl) (by exact List.length_map ..) (by rfl) ?_
  refine X.mn ?_
  obtain ⟨o1, ho1, h⟩ := bindE h
  refine R.join2 (β := Unit) [] [] (fun p14 S => S) (fun p14 M => M) (fun p14 => (Sum.inl p14) = o1) ?_ ?_
  · intro JJ4 hmeet3
    have hup2 := h; clear h; have h := ho1; clear ho1
    refine Run.block ?_
    refine R.bndS (t := 0) (by rfl) (fun hbd7 => ?_)
    replace hbd7 : b0.length ≤ 9223372036854775807 := by first | (rw [List.length_map] at hbd7; exact hbd7) | simp
    refine R.loop2 (β := Int) [(1, .slice (b1.map int)), (7, .slice (b0.map int)), (8, int (b0.length : Int))] [] (fun bb S => (9, int bb) :: S) (fun bb M => M) (fun n bb => 0 ≤ bb ∧ bb + n = (b0.length : Int) ∧ s_SetSubset_L1 b1 (b0.drop bb.toNat) bb = some o1) b0.length (0 : Int) (by repeat (first | trivial | refine ⟨by first | rfl | simp [setL], ?_⟩)) (by repeat (first | trivial | refine ⟨by first | rfl | simp [setL], ?_⟩)) (by rfl) (by rfl) ⟨Int.le_refl _, by simp, h⟩ ?_
    clear h
    rintro JJ7 n7 z8 hag7 ⟨hza7, hzb7, h⟩
    refine Run.sr ?_
    refine X.bi ?_
    refine X.nil ?_
    refine Run.seq ?_
    refine R.cond (by rfl) (fun hc11 => ?_) (fun hc11 => ?_)
    · obtain ⟨x9, xs10, hd7, hx7, hds7, hlt7⟩ := drop_atI hza7 hc11
      rw [hd7] at h
      rw [s_SetSubset_L1] at h
      refine Run.skip ?_
      refine Run.seq ?_
      refine Run.block ?_
      refine Run.sr ?_
      refine X.index_s elt26 (by rfl) (by rfl) (idxL_spec hx7).1 (idxL_map int hx7) (by rfl) (by rfl) (by rfl) ?_
      refine X.load_c shp3 (by rfl) (by rfl) (by rfl) (by rfl) ?_
      refine X.an ?_
      refine Run.sr ?_
      refine X.mv ?_
      refine X.mv ?_
      obtain ⟨v12, hv12, h⟩ := bindE h
      refine X.callP (s_SetHas_pc _ _ _ hv12) (by rfl) (by rfl) (by rfl) (by trivial) (by rfl) (by rfl) (by rfl) (by rfl) ?_
      refine X.un (by rfl) (by rfl) (by rfl) ?_
      refine X.nil ?_
      refine R.cond (by rfl) (fun hc13 => ?_) (fun hc13 => ?_)
      · replace h := condT hc13 h
        refine Run.sr ?_
        refine X.an ?_
        cases h
        have h := hup2
        replace h := elimR h
        cases h
        refine R.fin1 Tryz.results278 (by rfl) (by rfl) ?_
        rfl
      · replace h := condF hc13 h
        refine Run.skip ?_
        refine Run.blk ?_
        refine Run.reg ?_
        refine X.add (by rfl) (by rfl) (by omega) (by rfl) ?_
        refine X.mn ?_
        exact hag7 (n7 - 1) (z8 + 1) _ _ (by omega) ⟨by first | omega | (dsimp only; omega), by first | omega | (dsimp only; omega), by first | (rw [hds7]; exact h) | (dsimp only; rw [hds7]; exact h)⟩ (by trivial) (by trivial) (by rfl) (by rfl)
    · rw [drop_endI hza7 hc11] at h
      rw [s_SetSubset_L1] at h
      refine Run.exit (by rfl) ?_
      exact hmeet3 () _ _ (Option.some.inj h) (by trivial) (by trivial) (by rfl) (by rfl)
  rintro p14 rfl
  replace h := elimL h
  refine Run.sr ?_
  refine X.an ?_
  cases h
  refine R.fin1 Tryz.results278 (by rfl) (by rfl) ?_
  rfl
theorem i_within_pc (b0 : Int) (b1 : Int) (b2 : Int) (r : Bool) (h : i_within b0 b1 b2 = some r) : PC Tryz.prog 130 [int b0, int b1, int b2] (bool r) := by
  unfold i_within at h
  refine PC.start Tryz.func130 Tryz.ntmps130 rfl ok130 rfl ?_
  refine Run.sr ?_
  refine X.an ?_
  refine Run.seq ?_
  obtain ⟨e1, he1, h2⟩ := bindE h
  refine R.regG [(6, bool e1)] [] ?_ ?_
  · clear h; have h := he1; clear he1 h2
    refine X.mv ?_
    refine X.mv ?_
    refine X.bi ?_
    refine X.mv ?_
    refine X.ifG (by rfl) (by rfl) (by rfl) (fun hb2 => ?_) (fun hb2 => ?_)
    · replace h := condT hb2 h
      refine X.mv ?_
      refine X.gy ?_
      refine X.mv ?_
      refine X.gy ?_
      refine X.bi ?_
      refine X.pickT (by rfl) (by first | rfl | assumption) (by rfl) (by rfl) ?_
      refine X.as ?_
      cases h
      exact X.endG (by trivial) (by trivial) (by rfl) (by rfl)
    · replace h := condF hb2 h
      refine X.gn ?_
      refine X.gn ?_
      refine X.pickF (by rfl) (by first | rfl | assumption) (by rfl) (by rfl) ?_
      refine X.as ?_
      cases h
      exact X.endG (by trivial) (by trivial) (by rfl) (by rfl)
  replace h := h2; clear h2
  cases h
  refine R.fin1 Tryz.results130 (by rfl) (by rfl) ?_
  rfl
theorem i_isAmount_pc (b0 : Int) (r : Bool) (h : i_isAmount b0 = some r) : PC Tryz.prog 251 [int b0] (bool r) := by
  unfold i_isAmount at h
  refine PC.start Tryz.func251 Tryz.ntmps251 rfl ok251 rfl ?_
  refine Run.sr ?_
  refine X.an ?_
  refine Run.sr ?_
  refine X.mv ?_
  obtain ⟨v1, hv1, h⟩ := bindE h
  refine X.callP (i_within_pc _ _ _ _ hv1) (by rfl) (by rfl) (by rfl) (by trivial) (by rfl) (by rfl) (by rfl) (by rfl) ?_
  refine X.an ?_
  cases h
  refine R.fin1 Tryz.results251 (by rfl) (by rfl) ?_
  rfl
theorem i_areAmounts_pc (b0 : List Int) (b1 : Int) (r : Bool) (h : i_areAmounts b0 b1 = some r) : PC Tryz.prog 331 [.slice (b0.map int), int b1] (bool r) := by
  unfold i_areAmounts at h
  refine PC.start Tryz.func331 Tryz.ntmps331 rfl ok331 rfl ?_
  refine Run.sr ?_
  refine X.an ?_
  refine Run.seq ?_
  refine Run.sr ?_
  refine X.mv ?_
  refine X.len_s elt26 (by rfl) (by exact List.length_map ..) (by rfl) ?_
  refine X.mn ?_
  obtain ⟨o1, ho1, h⟩ := bindE h
  refine R.join2 (β := Unit) [(0, .slice (b0.map int)), (1, int b1)] [] (fun p14 S => S) (fun p14 M => M) (fun p14 => (Sum.inl p14) = o1) ?_ ?_
  · intro JJ4 hmeet3
    have hup2 := h; clear h; have h := ho1; clear ho1
    refine Run.block ?_
    refine R.bndS (t := 0) (by rfl) (fun hbd7 => ?_)
    replace hbd7 : b0.length ≤ 9223372036854775807 := by first | (rw [List.length_map] at hbd7; exact hbd7) | simp
    refine R.loop2 (β := Int) [(0, .slice (b0.map int)), (1, int b1), (7, .slice (b0.map int)), (8, int (b0.length : Int))] [] (fun bb S => (9, int bb) :: S) (fun bb M => M) (fun n bb => 0 ≤ bb ∧ bb + n = (b0.length : Int) ∧ i_areAmounts_L1 (b0.drop bb.toNat) bb = some o1) b0.length (0 : Int) (by repeat (first | trivial | refine ⟨by first | rfl | simp [setL], ?_⟩)) (by repeat (first | trivial | refine ⟨by first | rfl | simp [setL], ?_⟩)) (by rfl) (by rfl) ⟨Int.le_refl _, by simp, h⟩ ?_
    clear h
    rintro JJ7 n7 z8 hag7 ⟨hza7, hzb7, h⟩
    refine Run.sr ?_
    refine X.bi ?_
    refine X.nil ?_
    refine Run.seq ?_
    refine R.cond (by rfl) (fun hc11 => ?_) (fun hc11 => ?_)
    · obtain ⟨x9, xs10, hd7, hx7, hds7, hlt7⟩ := drop_atI hza7 hc11
      rw [hd7] at h
      rw [i_areAmounts_L1] at h
      refine Run.skip ?_
      refine Run.seq ?_
      refine Run.block ?_
      refine Run.sr ?_
      refine X.index_s elt26 (by rfl) (by rfl) (idxL_spec hx7).1 (idxL_map int hx7) (by rfl) (by rfl) (by rfl) ?_
      refine X.load_c shp3 (by rfl) (by rfl) (by rfl) (by rfl) ?_
      refine X.an ?_
      refine Run.sr ?_
      refine X.mv ?_
      obtain ⟨v12, hv12, h⟩ := bindE h
      refine X.callP (i_isAmount_pc _ _ hv12) (by rfl) (by rfl) (by rfl) (by trivial) (by rfl) (by rfl) (by rfl) (by rfl) ?_
      refine X.un (by rfl) (by rfl) (by rfl) ?_
      refine X.nil ?_
      refine R.cond (by rfl) (fun hc13 => ?_) (fun hc13 => ?_)
      · replace h := condT hc13 h
        refine Run.sr ?_
        refine X.an ?_
        cases h
        have h := hup2
        replace h := elimR h
        cases h
        refine R.fin1 Tryz.results331 (by rfl) (by rfl) ?_
        rfl
      · replace h := condF hc13 h
        refine Run.skip ?_
        refine Run.blk ?_
        refine Run.reg ?_
        refine X.add (by rfl) (by rfl) (by omega) (by rfl) ?_
        refine X.mn ?_
        exact hag7 (n7 - 1) (z8 + 1) _ _ (by omega) ⟨by first | omega | (dsimp only; omega), by first | omega | (dsimp only; omega), by first | (rw [hds7]; exact h) | (dsimp only; rw [hds7]; exact h)⟩ (by trivial) (by trivial) (by rfl) (by rfl)
    · rw [drop_endI hza7 hc11] at h
      rw [i_areAmounts_L1] at h
      refine Run.exit (by rfl) ?_
      exact hmeet3 () _ _ (Option.some.inj h) (by trivial) (by trivial) (by rfl) (by rfl)
  rintro p14 rfl
  replace h := elimL h
  refine Run.sr ?_
  refine X.mv ?_
  refine X.len_s elt26 (by rfl) (by exact List.length_map ..) (by rfl) ?_
  refine X.mv ?_
  refine X.bi ?_
  refine X.an ?_
  cases h
  refine R.fin1 Tryz.results331 (by rfl) (by rfl) ?_
  rfl
theorem i_ModeOk_pc (b0 : TMode) (b1 : Int) (b2 : Int) (r : Bool) (h : i_ModeOk b0 b1 b2 = some r) : PC Tryz.prog 303 [eTMode b0, int b1, int b2] (bool r) := by
  unfold i_ModeOk at h
  refine PC.start Tryz.func303 Tryz.ntmps303 rfl ok303 rfl ?_
  refine Run.sr ?_
  refine X.box (by rfl) (by rfl) (by repeat (first | trivial | refine ⟨by first | rfl | simp [setL], ?_⟩)) (by rfl) (by rfl) (by rfl) (by rfl) ?_
  refine X.an ?_
  refine Run.seq ?_
  obtain ⟨v1, hv1, h⟩ := bindE h
  obtain ⟨e2, he2, h2⟩ := bindE h
  refine R.regG [(6, bool e2)] [] ?_ ?_
  · clear h; have h := he2; clear he2 h2
    refine X.fieldAddr_l fld47_0 (by rfl) (by rfl) ?_
    refine X.ld shp3 ?_
    refine X.callP (i_within_pc _ _ _ _ hv1) (by rfl) (by rfl) (by rfl) (by trivial) (by rfl) (by rfl) (by rfl) (by rfl) ?_
    refine X.mv ?_
    refine X.ifG (by rfl) (by rfl) (by rfl) (fun hb3 => ?_) (fun hb3 => ?_)
    · replace h := condT hb3 h
      refine X.fieldAddr_l fld47_1 (by rfl) (by rfl) ?_
      refine X.gy ?_
      refine X.ld shp26 ?_
      refine X.gy ?_
      refine X.mv ?_
      refine X.gy ?_
      obtain ⟨v4, hv4, h⟩ := bindE h
      refine X.callP (i_areAmounts_pc _ _ _ hv4) (by rfl) (by rfl) (by rfl) (by trivial) (by rfl) (by rfl) (by rfl) (by rfl) ?_
      refine X.pickT (by rfl) (by first | rfl | assumption) (by rfl) (by rfl) ?_
      refine X.mv ?_
      refine X.ifG (by rfl) (by rfl) (by rfl) (fun hb5 => ?_) (fun hb5 => ?_)
      · replace h := condT hb5 h
        refine X.fieldAddr_l fld47_2 (by rfl) (by rfl) ?_
        refine X.gy ?_
        refine X.ld shp26 ?_
        refine X.gy ?_
        refine X.mv ?_
        refine X.gy ?_
        obtain ⟨v6, hv6, h⟩ := bindE h
        refine X.callP (i_areAmounts_pc _ _ _ hv6) (by rfl) (by rfl) (by rfl) (by trivial) (by rfl) (by rfl) (by rfl) (by rfl) ?_
        refine X.pickT (by rfl) (by first | rfl | assumption) (by rfl) (by rfl) ?_
        refine X.as ?_
        cases h
        exact X.endG (by trivial) (by trivial) (by rfl) (by rfl)
      · replace h := condF hb5 h
        refine X.gn ?_
        refine X.gn ?_
        refine X.gn ?_
        refine X.pickF (by rfl) (by first | rfl | assumption) (by rfl) (by rfl) ?_
        refine X.as ?_
        cases h
        exact X.endG (by trivial) (by trivial) (by rfl) (by rfl)
    · replace h := condF hb3 h
      refine X.gn ?_
      refine X.gn ?_
      refine X.gn ?_
      refine X.pickF (by rfl) (by first | rfl | assumption) (by rfl) (by rfl) ?_
      refine X.mv ?_
      refine X.gn ?_
      refine X.gn ?_
      refine X.gn ?_
      refine X.gn ?_
      refine X.pickF (by rfl) (by first | rfl | assumption) (by rfl) (by rfl) ?_
      refine X.as ?_
      cases h
      exact X.endG (by trivial) (by trivial) (by rfl) (by rfl)
  replace h := h2; clear h2
  cases h
  refine R.fin1 Tryz.results303 (by rfl) (by rfl) ?_
  rfl
theorem i_IsName_pc (b0 : ByteArray) (r : Bool) (h : i_IsName b0 = some r) : PC Tryz.prog 304 [str b0] (bool r) := by
  unfold i_IsName at h
  refine PC.start Tryz.func304 Tryz.ntmps304 rfl ok304 rfl ?_
  refine Run.sr ?_
  refine X.an ?_
  refine Run.seq ?_
  refine Run.sr ?_
  refine X.mv ?_
  refine X.lenStr Tryz.underlying9 (by rfl) (by rfl) ?_
  refine X.mn ?_
  obtain ⟨o1, ho1, h⟩ := bindE h
  refine R.join2 (β := Unit) [(0, str b0)] [] (fun p19 S => S) (fun p19 M => M) (fun p19 => (Sum.inl p19) = o1) ?_ ?_
  · intro JJ4 hmeet3
    have hup2 := h; clear h; have h := ho1; clear ho1
    refine Run.block ?_
    refine R.loop2 (β := Int) [(0, str b0), (6, int (b0.size : Int))] [] (fun bb S => (7, int bb) :: S) (fun bb M => M) (fun n bb => i_IsName_L1 b0 n bb = some o1) F0 0 (by repeat (first | trivial | refine ⟨by first | rfl | simp [setL], ?_⟩)) (by repeat (first | trivial | refine ⟨by first | rfl | simp [setL], ?_⟩)) (by rfl) (by rfl) h ?_
    clear h
    rintro JJ5 n5 a7 hag5 h
    obtain _ | n5 := n5
    · exact absurd h (by simp [i_IsName_L1])
    rw [i_IsName_L1] at h
    refine Run.sr ?_
    refine X.bi ?_
    refine X.nil ?_
    refine Run.seq ?_
    refine R.cond (by rfl) (fun hc10 => ?_) (fun hc10 => ?_)
    · replace h := condT hc10 h
      refine Run.skip ?_
      refine Run.seq ?_
      refine Run.block ?_
      refine Run.sr ?_
      refine X.mv ?_
      refine X.an ?_
      refine Run.seq ?_
      obtain ⟨v11, hv11, h⟩ := bindE h
      obtain ⟨e12, he12, h2⟩ := bindE h
      refine R.regG [(0, str b0), (3, int a7), (4, bool e12), (6, int (b0.size : Int)), (7, int a7)] [] ?_ ?_
      · clear h; have h := he12; clear he12 h2
        refine X.mv ?_
        refine X.mv ?_
        refine X.indexStr2 hv11 Tryz.underlying9 (by rfl) (by rfl) (by rfl) ?_
        refine X.bi ?_
        refine X.mv ?_
        refine X.ifG (by rfl) (by rfl) (by rfl) (fun hb13 => ?_) (fun hb13 => ?_)
        · replace h := condT hb13 h
          refine X.mv ?_
          refine X.gy ?_
          refine X.mv ?_
          refine X.gy ?_
          refine X.indexStr2 hv11 Tryz.underlying9 (by rfl) (by rfl) (by rfl) ?_
          refine X.gy ?_
          refine X.bi ?_
          refine X.pickT (by rfl) (by first | rfl | assumption) (by rfl) (by rfl) ?_
          refine X.as ?_
          cases h
          exact X.endG (by trivial) (by trivial) (by rfl) (by rfl)
        · replace h := condF hb13 h
          refine X.gn ?_
          refine X.gn ?_
          refine X.gn ?_
          refine X.pickF (by rfl) (by first | rfl | assumption) (by rfl) (by rfl) ?_
          refine X.as ?_
          cases h
          exact X.endG (by trivial) (by trivial) (by rfl) (by rfl)
      replace h := h2; clear h2
      refine Run.seq ?_
      obtain ⟨e14, he14, h2⟩ := bindE h
      refine R.regG [(0, str b0), (6, int (b0.size : Int)), (7, int a7), (37, bool e14)] [] ?_ ?_
      · clear h; have h := he14; clear he14 h2
        refine X.mv ?_
        refine X.un (by rfl) (by rfl) (by rfl) ?_
        refine X.mv ?_
        refine X.ifG (by rfl) (by rfl) (by rfl) (fun hb15 => ?_) (fun hb15 => ?_)
        · replace h := condT hb15 h
          refine X.mv ?_
          refine X.gy ?_
          refine X.bi ?_
          refine X.gy ?_
          refine X.mv ?_
          refine X.ifG (by rfl) (by rfl) (by rfl) (fun hb16 => ?_) (fun hb16 => ?_)
          · replace h := condF hb16 h
            refine X.mv ?_
            refine X.gy ?_
            refine X.mv ?_
            refine X.gy ?_
            refine X.indexStr2 hv11 Tryz.underlying9 (by rfl) (by rfl) (by rfl) ?_
            refine X.gy ?_
            refine X.bi ?_
            refine X.gy ?_
            refine X.pickF (by rfl) (by first | rfl | assumption) (by rfl) (by rfl) ?_
            refine X.gy ?_
            refine X.mv ?_
            refine X.ifG (by rfl) (by rfl) (by rfl) (fun hb17 => ?_) (fun hb17 => ?_)
            · replace h := condF hb17 h
              refine X.mv ?_
              refine X.gy ?_
              refine X.mv ?_
              refine X.gy ?_
              refine X.indexStr2 hv11 Tryz.underlying9 (by rfl) (by rfl) (by rfl) ?_
              refine X.gy ?_
              refine X.bi ?_
              refine X.gy ?_
              refine X.pickF (by rfl) (by first | rfl | assumption) (by rfl) (by rfl) ?_
              refine X.pickT (by rfl) (by first | rfl | assumption) (by rfl) (by rfl) ?_
              cases h
              exact X.endG (by trivial) (by trivial) (by rfl) (by rfl)
            · replace h := condT hb17 h
              refine X.gn ?_
              refine X.gn ?_
              refine X.gn ?_
              refine X.gy ?_
              refine X.pickT (by rfl) (by first | rfl | assumption) (by rfl) (by rfl) ?_
              refine X.pickT (by rfl) (by first | rfl | assumption) (by rfl) (by rfl) ?_
              cases h
              exact X.endG (by trivial) (by trivial) (by rfl) (by rfl)
          · replace h := condT hb16 h
            refine X.gn ?_
            refine X.gn ?_
            refine X.gn ?_
            refine X.gy ?_
            refine X.pickT (by rfl) (by first | rfl | assumption) (by rfl) (by rfl) ?_
            refine X.gy ?_
            refine X.mv ?_
            refine X.gn ?_
            refine X.gn ?_
            refine X.gn ?_
            refine X.gn ?_
            refine X.gy ?_
            refine X.pickT (by rfl) (by first | rfl | assumption) (by rfl) (by rfl) ?_
            refine X.pickT (by rfl) (by first | rfl | assumption) (by rfl) (by rfl) ?_
            cases h
            exact X.endG (by trivial) (by trivial) (by rfl) (by rfl)
        · replace h := condF hb15 h
          refine X.gn ?_
          refine X.gn ?_
          refine X.gU (by rfl) (by rfl) (by rfl) ?_
          refine X.gU (by rfl) (by rfl) (by rfl) ?_
          refine X.gU (by rfl) (by rfl) (by rfl) ?_
          refine X.gU (by rfl) (by rfl) (by rfl) ?_
          refine X.gn ?_
          refine X.gn ?_
          refine X.gU (by rfl) (by rfl) (by rfl) ?_
          refine X.gU (by rfl) (by rfl) (by rfl) ?_
          refine X.gU (by rfl) (by rfl) (by rfl) ?_
          refine X.gU (by rfl) (by rfl) (by rfl) ?_
          refine X.gn ?_
          refine X.pickF (by rfl) (by first | rfl | assumption) (by rfl) (by rfl) ?_
          cases h
          exact X.endG (by trivial) (by trivial) (by rfl) (by rfl)
      replace h := h2; clear h2
      refine R.cond (by rfl) (fun hc18 => ?_) (fun hc18 => ?_)
      · replace h := condT hc18 h
        refine Run.sr ?_
        refine X.an ?_
        cases h
        have h := hup2
        replace h := elimR h
        cases h
        refine R.fin1 Tryz.results304 (by rfl) (by rfl) ?_
        rfl
      · replace h := condF hc18 h
        refine Run.skip ?_
        refine Run.blk ?_
        refine Run.reg ?_
        refine X.addW (by rfl) (by rfl) (by rfl) ?_
        refine X.mn ?_
        exact hag5 n5 (W (a7 + 1)) _ _ (by omega) h (by trivial) (by trivial) (by rfl) (by rfl)
    · replace h := condF hc10 h
      refine Run.exit (by rfl) ?_
      exact hmeet3 () _ _ (Option.some.inj h) (by trivial) (by trivial) (by rfl) (by rfl)
  rintro p19 rfl
  replace h := elimL h
  refine Run.sr ?_
  refine X.mv ?_
  refine X.lenStr Tryz.underlying9 (by rfl) (by rfl) ?_
  obtain ⟨v21, hv21, h⟩ := bindE h
  refine X.callP (i_within_pc _ _ _ _ hv21) (by rfl) (by rfl) (by rfl) (by trivial) (by rfl) (by rfl) (by rfl) (by rfl) ?_
  refine X.an ?_
  cases h
  refine R.fin1 Tryz.results304 (by rfl) (by rfl) ?_
  rfl
theorem i_ActivityOk_pc (b0 : TActivity) (b1 : Int) (b2 : Int) (r : Bool) (h : i_ActivityOk b0 b1 b2 = some r) : PC Tryz.prog 245 [eTActivity b0, int b1, int b2] (bool r) := by
  unfold i_ActivityOk at h
  refine PC.start Tryz.func245 Tryz.ntmps245 rfl ok245 rfl ?_
  refine Run.sr ?_
  refine X.box (by rfl) (by rfl) (by repeat (first | trivial | refine ⟨by first | rfl | simp [setL], ?_⟩)) (by rfl) (by rfl) (by rfl) (by rfl) ?_
  refine X.an ?_
  refine Run.seq ?_
  refine Run.sr ?_
  refine X.fieldAddr_l fld50_2 (by rfl) (by rfl) ?_
  refine X.ld shp48 ?_
  refine X.len_s elt48 (by rfl) (by exact List.length_map ..) (by rfl) ?_
  refine X.mn ?_
  obtain ⟨o1, ho1, h⟩ := bindE h
  refine R.join2 (β := Unit) [(3, .lptr 192 0)] [(192, .blk true [str b0.Name, int b0.Family, .slice (b0.Modes.map eTMode)])] (fun p14 S => S) (fun p14 M => M) (fun p14 => (Sum.inl p14) = o1) ?_ ?_
  · intro JJ4 hmeet3
    have hup2 := h; clear h; have h := ho1; clear ho1
    refine Run.block ?_
    refine R.bndS (t := 10) (by rfl) (fun hbd7 => ?_)
    replace hbd7 : b0.Modes.length ≤ 9223372036854775807 := by first | (rw [List.length_map] at hbd7; exact hbd7) | simp
    refine R.loop2 (β := Int) [(1, int b1), (2, int b2), (3, .lptr 192 0), (10, .slice (b0.Modes.map eTMode)), (11, int (b0.Modes.length : Int))] [(192, .blk true [str b0.Name, int b0.Family, .slice (b0.Modes.map eTMode)])] (fun bb S => (12, int bb) :: S) (fun bb M => M) (fun n bb => 0 ≤ bb ∧ bb + n = (b0.Modes.length : Int) ∧ i_ActivityOk_L1 b1 b2 (b0.Modes.drop bb.toNat) bb = some o1) b0.Modes.length (0 : Int) (by repeat (first | trivial | refine ⟨by first | rfl | simp [setL], ?_⟩)) (by repeat (first | trivial | refine ⟨by first | rfl | simp [setL], ?_⟩)) (by rfl) (by rfl) ⟨Int.le_refl _, by simp, h⟩ ?_
    clear h
    rintro JJ7 n7 z8 hag7 ⟨hza7, hzb7, h⟩
    refine Run.sr ?_
    refine X.bi ?_
    refine X.nil ?_
    refine Run.seq ?_
    refine R.cond (by rfl) (fun hc11 => ?_) (fun hc11 => ?_)
    · obtain ⟨x9, xs10, hd7, hx7, hds7, hlt7⟩ := drop_atI hza7 hc11
      rw [hd7] at h
      rw [i_ActivityOk_L1] at h
      refine Run.skip ?_
      refine Run.seq ?_
      refine Run.block ?_
      refine Run.sr ?_
      refine X.index_s elt48 (by rfl) (by rfl) (idxL_spec hx7).1 (idxL_map eTMode hx7) (by rfl) (by rfl) (by rfl) ?_
      refine X.load_c shp47 (by rfl) (by rfl) (by rfl) (by rfl) ?_
      refine X.alloc zer47 (by rfl) (by rfl) (by rfl) ?_
      refine X.store_l shp47 (by rfl) (by rfl) (by rfl) (by rfl) (by repeat (first | trivial | refine ⟨by first | rfl | simp [setL], ?_⟩)) (by rfl) (by rfl) (by rfl) ?_
      refine X.nil ?_
      refine Run.sr ?_
      refine X.ld shp47 ?_
      refine X.mv ?_
      refine X.mv ?_
      obtain ⟨v12, hv12, h⟩ := bindE h
      refine X.callP (i_ModeOk_pc _ _ _ _ hv12) (by rfl) (by rfl) (by rfl) (by trivial) (by rfl) (by rfl) (by rfl) (by rfl) ?_
      refine X.un (by rfl) (by rfl) (by rfl) ?_
      refine X.nil ?_
      refine R.cond (by rfl) (fun hc13 => ?_) (fun hc13 => ?_)
      · replace h := condT hc13 h
        refine Run.sr ?_
        refine X.an ?_
        cases h
        have h := hup2
        replace h := elimR h
        cases h
        refine R.fin1 Tryz.results245 (by rfl) (by rfl) ?_
        rfl
      · replace h := condF hc13 h
        refine Run.skip ?_
        refine Run.blk ?_
        refine Run.reg ?_
        refine X.add (by rfl) (by rfl) (by omega) (by rfl) ?_
        refine X.mn ?_
        exact hag7 (n7 - 1) (z8 + 1) _ _ (by omega) ⟨by first | omega | (dsimp only; omega), by first | omega | (dsimp only; omega), by first | (rw [hds7]; exact h) | (dsimp only; rw [hds7]; exact h)⟩ (by trivial) (by trivial) (by rfl) (by rfl)
    · rw [drop_endI hza7 hc11] at h
      rw [i_ActivityOk_L1] at h
      refine Run.exit (by rfl) ?_
      exact hmeet3 () _ _ (Option.some.inj h) (by trivial) (by trivial) (by rfl) (by rfl)
  rintro p14 rfl
  replace h := elimL h
  refine Run.seq ?_
  obtain ⟨v16, hv16, h⟩ := bindE h
  obtain ⟨e17, he17, h2⟩ := bindE h
  refine R.regG [(6, bool e17)] [] ?_ ?_
  · clear h; have h := he17; clear he17 h2
    refine X.fieldAddr_l fld50_0 (by rfl) (by rfl) ?_
    refine X.ld shp9 ?_
    refine X.callP (i_IsName_pc _ _ hv16) (by rfl) (by rfl) (by rfl) (by trivial) (by rfl) (by rfl) (by rfl) (by rfl) ?_
    refine X.mv ?_
    refine X.ifG (by rfl) (by rfl) (by rfl) (fun hb18 => ?_) (fun hb18 => ?_)
    · replace h := condT hb18 h
      refine X.fieldAddr_l fld50_1 (by rfl) (by rfl) ?_
      refine X.gy ?_
      refine X.ld shp3 ?_
      refine X.gy ?_
      obtain ⟨v19, hv19, h⟩ := bindE h
      refine X.callP (i_within_pc _ _ _ _ hv19) (by rfl) (by rfl) (by rfl) (by trivial) (by rfl) (by rfl) (by rfl) (by rfl) ?_
      refine X.pickT (by rfl) (by first | rfl | assumption) (by rfl) (by rfl) ?_
      refine X.mv ?_
      refine X.ifG (by rfl) (by rfl) (by rfl) (fun hb20 => ?_) (fun hb20 => ?_)
      · replace h := condT hb20 h
        refine X.fieldAddr_l fld50_2 (by rfl) (by rfl) ?_
        refine X.gy ?_
        refine X.ld shp48 ?_
        refine X.gy ?_
        refine X.len_s elt48 (by rfl) (by exact List.length_map ..) (by rfl) ?_
        refine X.gy ?_
        obtain ⟨v21, hv21, h⟩ := bindE h
        refine X.callP (i_within_pc _ _ _ _ hv21) (by rfl) (by rfl) (by rfl) (by trivial) (by rfl) (by rfl) (by rfl) (by rfl) ?_
        refine X.pickT (by rfl) (by first | rfl | assumption) (by rfl) (by rfl) ?_
        refine X.as ?_
        cases h
        exact X.endG (by trivial) (by trivial) (by rfl) (by rfl)
      · replace h := condF hb20 h
        refine X.gn ?_
        refine X.gn ?_
        refine X.gn ?_
        refine X.pickF (by rfl) (by first | rfl | assumption) (by rfl) (by rfl) ?_
        refine X.as ?_
        cases h
        exact X.endG (by trivial) (by trivial) (by rfl) (by rfl)
    · replace h := condF hb18 h
      refine X.gn ?_
      refine X.gn ?_
      refine X.pickF (by rfl) (by first | rfl | assumption) (by rfl) (by rfl) ?_
      refine X.mv ?_
      refine X.gn ?_
      refine X.gn ?_
      refine X.gn ?_
      refine X.gn ?_
      refine X.pickF (by rfl) (by first | rfl | assumption) (by rfl) (by rfl) ?_
      refine X.as ?_
      cases h
      exact X.endG (by trivial) (by trivial) (by rfl) (by rfl)
  replace h := h2; clear h2
  cases h
  refine R.fin1 Tryz.results245 (by rfl) (by rfl) ?_
  rfl
theorem i_ActivityIndex_c1_pc (b0 : TActivity) (c1 : ByteArray) (r : Bool) (h : i_ActivityIndex_c1 b0 c1 = some r) : PC Tryz.prog 306 [eTActivity b0, .cptr (str c1 : PV).cells 0] (bool r) := by
  unfold i_ActivityIndex_c1 at h
  refine PC.start Tryz.func306 Tryz.ntmps306 rfl ok306 rfl ?_
  refine Run.sr ?_
  refine X.box (by rfl) (by rfl) (by repeat (first | trivial | refine ⟨by first | rfl | simp [setL], ?_⟩)) (by rfl) (by rfl) (by rfl) (by rfl) ?_
  refine X.an ?_
  refine Run.sr ?_
  refine X.fieldAddr_l fld50_0 (by rfl) (by rfl) ?_
  refine X.ld shp9 ?_
  refine X.load_c shp9 (by rfl) (by rfl) (by rfl) (by rfl) ?_
  refine X.bi ?_
  refine X.an ?_
  cases h
  refine R.fin1 Tryz.results306 (by rfl) (by rfl) ?_
  rfl
theorem slices_IndexFunc_Activity_pc (b0 : List TActivity) (g1 : TActivity → Option Bool) (g1id : Nat) (g1c : List PV) (hg1 : ∀ (x0 : TActivity) v, g1 x0 = some v → PC Tryz.prog g1id ([eTActivity x0] ++ g1c) (bool v)) (r : Int) (h : slices_IndexFunc_Activity b0 g1 = some r) : PC Tryz.prog 305 [.slice (b0.map eTActivity), .fn g1id g1c] (int r) := by
  unfold slices_IndexFunc_Activity at h
  refine PC.start Tryz.func305 Tryz.ntmps305 rfl ok305 rfl ?_
  refine Run.sr ?_
  refine X.an ?_
  refine Run.seq ?_
  refine Run.sr ?_
  refine X.mv ?_
  refine X.len_s elt23 (by rfl) (by exact List.length_map ..) (by rfl) ?_
  refine X.mn ?_
  obtain ⟨o1, ho1, h⟩ := bindE h
  refine R.join2 (β := Unit) [] [] (fun p14 S => S) (fun p14 M => M) (fun p14 => (Sum.inl p14) = o1) ?_ ?_
  · intro JJ4 hmeet3
    have hup2 := h; clear h; have h := ho1; clear ho1
    refine Run.block ?_
    refine R.bndS (t := 0) (by rfl) (fun hbd7 => ?_)
    replace hbd7 : b0.length ≤ 9223372036854775807 := by first | (rw [List.length_map] at hbd7; exact hbd7) | simp
    refine R.loop2 (β := Int) [(0, .slice (b0.map eTActivity)), (1, .fn g1id g1c), (7, int (b0.length : Int))] [] (fun bb S => (8, int bb) :: S) (fun bb M => M) (fun n bb => 0 ≤ bb ∧ bb + n = (b0.length : Int) ∧ slices_IndexFunc_Activity_L1 g1 (b0.drop bb.toNat) bb = some o1) b0.length (0 : Int) (by repeat (first | trivial | refine ⟨by first | rfl | simp [setL], ?_⟩)) (by repeat (first | trivial | refine ⟨by first | rfl | simp [setL], ?_⟩)) (by rfl) (by rfl) ⟨Int.le_refl _, by simp, h⟩ ?_
    clear h
    rintro JJ7 n7 z8 hag7 ⟨hza7, hzb7, h⟩
    refine Run.sr ?_
    refine X.bi ?_
    refine X.nil ?_
    refine Run.seq ?_
    refine R.cond (by rfl) (fun hc11 => ?_) (fun hc11 => ?_)
    · obtain ⟨x9, xs10, hd7, hx7, hds7, hlt7⟩ := drop_atI hza7 hc11
      rw [hd7] at h
      rw [slices_IndexFunc_Activity_L1] at h
      refine Run.skip ?_
      refine Run.seq ?_
      refine Run.block ?_
      refine Run.sr ?_
      refine X.mv ?_
      refine X.an ?_
      refine Run.sr ?_
      refine X.mv ?_
      refine X.mv ?_
      refine X.mv ?_
      refine X.index_s elt23 (by rfl) (by rfl) (idxL_spec hx7).1 (idxL_map eTActivity hx7) (by rfl) (by rfl) (by rfl) ?_
      refine X.load_c shp50 (by rfl) (by rfl) (by rfl) (by rfl) ?_
      obtain ⟨v12, hv12, h⟩ := bindE h
      refine X.callP (hg1 _ _ hv12) (by rfl) (by rfl) (by rfl) (by trivial) (by rfl) (by rfl) (by rfl) (by rfl) ?_
      refine X.nil ?_
      refine R.cond (by rfl) (fun hc13 => ?_) (fun hc13 => ?_)
      · replace h := condT hc13 h
        refine Run.sr ?_
        refine X.mv ?_
        refine X.an ?_
        cases h
        have h := hup2
        replace h := elimR h
        cases h
        refine R.fin1 Tryz.results305 (by rfl) (by rfl) ?_
        rfl
      · replace h := condF hc13 h
        refine Run.skip ?_
        refine Run.blk ?_
        refine Run.reg ?_
        refine X.add (by rfl) (by rfl) (by omega) (by rfl) ?_
        refine X.mn ?_
        exact hag7 (n7 - 1) (z8 + 1) _ _ (by omega) ⟨by first | omega | (dsimp only; omega), by first | omega | (dsimp only; omega), by first | (rw [hds7]; exact h) | (dsimp only; rw [hds7]; exact h)⟩ (by trivial) (by trivial) (by rfl) (by rfl)
    · rw [drop_endI hza7 hc11] at h
      rw [slices_IndexFunc_Activity_L1] at h
      refine Run.exit (by rfl) ?_
      exact hmeet3 () _ _ (Option.some.inj h) (by trivial) (by trivial) (by rfl) (by rfl)
  rintro p14 rfl
  replace h := elimL h
  refine Run.sr ?_
  refine X.an ?_
  cases h
  refine R.fin1 Tryz.results305 (by rfl) (by rfl) ?_
  rfl
theorem i_ActivityIndex_pc (b0 : TProject) (b1 : ByteArray) (r : Int) (h : i_ActivityIndex b0 b1 = some r) : PC Tryz.prog 246 [eTProject b0, str b1] (int r) := by
  unfold i_ActivityIndex at h
  refine PC.start Tryz.func246 Tryz.ntmps246 rfl ok246 rfl ?_
  refine Run.sr ?_
  refine X.box (by rfl) (by rfl) (by repeat (first | trivial | refine ⟨by first | rfl | simp [setL], ?_⟩)) (by rfl) (by rfl) (by rfl) (by rfl) ?_
  refine X.box (by rfl) (by rfl) (by repeat (first | trivial | refine ⟨by first | rfl | simp [setL], ?_⟩)) (by rfl) (by rfl) (by rfl) (by rfl) ?_
  refine X.an ?_
  refine Run.seq ?_
  refine R.pubBlk (n := 192) (by rfl) (by rfl) (by repeat (first | trivial | refine ⟨by first | rfl | simp [setL], ?_⟩)) ?_
  refine Run.reg ?_
  refine X.fieldAddr_l fld28_1 (by rfl) (by rfl) ?_
  refine X.ld shp23 ?_
  refine X.makeFunc (by rfl) (by rfl) (by repeat (first | trivial | refine ⟨by first | rfl | simp [setL], ?_⟩)) (by rfl) (by rfl) ?_
  obtain ⟨v1, hv1, h⟩ := bindE h
  refine X.callP (slices_IndexFunc_Activity_pc _ (fun x0 => i_ActivityIndex_c1 x0 b1) _ _ (fun x0 v hv => i_ActivityIndex_c1_pc _ _ _ hv) _ hv1) (by rfl) (by rfl) (by rfl) (by trivial) (by rfl) (by rfl) (by rfl) (by rfl) ?_
  refine X.an ?_
  cases h
  refine R.fin1 Tryz.results246 (by rfl) (by rfl) ?_
  rfl
theorem i_isTime_pc (b0 : Int) (r : Bool) (h : i_isTime b0 = some r) : PC Tryz.prog 131 [int b0] (bool r) := by
  unfold i_isTime at h
  refine PC.start Tryz.func131 Tryz.ntmps131 rfl ok131 rfl ?_
  refine Run.sr ?_
  refine X.an ?_
  refine Run.sr ?_
  refine X.mv ?_
  obtain ⟨v1, hv1, h⟩ := bindE h
  refine X.callP (i_within_pc _ _ _ _ hv1) (by rfl) (by rfl) (by rfl) (by trivial) (by rfl) (by rfl) (by rfl) (by rfl) ?_
  refine X.an ?_
  cases h
  refine R.fin1 Tryz.results131 (by rfl) (by rfl) ?_
  rfl
theorem i_StepsOk_pc (b0 : List TStep) (r : Bool) (h : i_StepsOk b0 = some r) : PC Tryz.prog 134 [.slice (b0.map eTStep)] (bool r) := by
  unfold i_StepsOk at h
  refine PC.start Tryz.func134 Tryz.ntmps134 rfl ok134 rfl ?_
  refine Run.sr ?_
  refine X.an ?_
  refine Run.seq ?_
  refine Run.sr ?_
  refine X.mv ?_
  refine X.len_s elt62 (by rfl) (by exact List.length_map ..) (by rfl) ?_
  refine X.mn ?_
  obtain ⟨o1, ho1, h⟩ := bindE h
  refine R.join2 (β := Unit) [(0, .slice (b0.map eTStep))] [] (fun p24 S => S) (fun p24 M => M) (fun p24 => (Sum.inl p24) = o1) ?_ ?_
  · intro JJ4 hmeet3
    have hup2 := h; clear h; have h := ho1; clear ho1
    refine Run.block ?_
    refine R.bndS (t := 0) (by rfl) (fun hbd7 => ?_)
    replace hbd7 : b0.length ≤ 9223372036854775807 := by first | (rw [List.length_map] at hbd7; exact hbd7) | simp
    refine R.loop2 (β := Int) [(0, .slice (b0.map eTStep)), (5, .slice (b0.map eTStep)), (6, int (b0.length : Int))] [] (fun bb S => (7, int bb) :: S) (fun bb M => M) (fun n bb => 0 ≤ bb ∧ bb + n = (b0.length : Int) ∧ i_StepsOk_L1 b0 (b0.drop bb.toNat) bb = some o1) b0.length (0 : Int) (by repeat (first | trivial | refine ⟨by first | rfl | simp [setL], ?_⟩)) (by repeat (first | trivial | refine ⟨by first | rfl | simp [setL], ?_⟩)) (by rfl) (by rfl) ⟨Int.le_refl _, by simp, h⟩ ?_
    clear h
    rintro JJ7 n7 z8 hag7 ⟨hza7, hzb7, h⟩
    refine Run.sr ?_
    refine X.bi ?_
    refine X.nil ?_
    refine Run.seq ?_
    refine R.cond (by rfl) (fun hc11 => ?_) (fun hc11 => ?_)
    · obtain ⟨x9, xs10, hd7, hx7, hds7, hlt7⟩ := drop_atI hza7 hc11
      rw [hd7] at h
      rw [i_StepsOk_L1] at h
      refine Run.skip ?_
      refine Run.seq ?_
      refine Run.block ?_
      refine Run.sr ?_
      refine X.mv ?_
      refine X.index_s elt62 (by rfl) (by rfl) (idxL_spec hx7).1 (idxL_map eTStep hx7) (by rfl) (by rfl) (by rfl) ?_
      refine X.load_c shp183 (by rfl) (by rfl) (by rfl) (by rfl) ?_
      refine X.alloc zer183 (by rfl) (by rfl) (by rfl) ?_
      refine X.as ?_
      refine X.store_l shp183 (by rfl) (by rfl) (by rfl) (by rfl) (by repeat (first | trivial | refine ⟨by first | rfl | simp [setL], ?_⟩)) (by rfl) (by rfl) (by rfl) ?_
      refine X.nil ?_
      refine Run.seq ?_
      obtain ⟨v12, hv12, h⟩ := bindE h
      obtain ⟨e13, he13, h2⟩ := bindE h
      refine R.drawG [(0, .slice (b0.map eTStep)), (5, .slice (b0.map eTStep)), (6, int (b0.length : Int)), (7, int z8), (45, bool e13)] [] (footOf [(1, ([256], [], [], [])), (6, ([256], [], [], [])), (15, ([256], [], [], [])), (24, ([256], [], [], []))]) mixed (by kernel_rfl) (by kernel_rfl) ?_ ?_
      · clear h; have h := he13; clear he13 h2
        refine X.fieldAddr_l fld183_0 (by rfl) (by rfl) ?_
        refine X.ld shp3 ?_
        refine X.callP (i_isTime_pc _ _ hv12) (by rfl) (by rfl) (by rfl) (by trivial) (by rfl) (by rfl) (by rfl) (by rfl) ?_
        refine X.un (by rfl) (by rfl) (by rfl) ?_
        refine X.mv ?_
        refine X.ifG (by rfl) (by rfl) (by rfl) (fun hb14 => ?_) (fun hb14 => ?_)
        · replace h := condF hb14 h
          refine X.fieldAddr_l fld183_1 (by rfl) (by rfl) ?_
          refine X.gy ?_
          refine X.ld shp3 ?_
          refine X.gy ?_
          obtain ⟨v15, hv15, h⟩ := bindE h
          refine X.callP (i_isAmount_pc _ _ hv15) (by rfl) (by rfl) (by rfl) (by trivial) (by rfl) (by rfl) (by rfl) (by rfl) ?_
          refine X.gy ?_
          refine X.un (by rfl) (by rfl) (by rfl) ?_
          refine X.pickF (by rfl) (by first | rfl | assumption) (by rfl) (by rfl) ?_
          refine X.mv ?_
          refine X.ifG (by rfl) (by rfl) (by rfl) (fun hb16 => ?_) (fun hb16 => ?_)
          · replace h := condF hb16 h
            refine X.mv ?_
            refine X.gy ?_
            refine X.bi ?_
            refine X.gy ?_
            refine X.mv ?_
            refine X.ifG (by rfl) (by rfl) (by rfl) (fun hb17 => ?_) (fun hb17 => ?_)
            · replace h := condT hb17 h
              refine X.fieldAddr_l fld183_0 (by rfl) (by rfl) ?_
              refine X.gy ?_
              refine X.ld shp3 ?_
              refine X.gy ?_
              refine X.bi ?_
              refine X.gy ?_
              refine X.pickT (by rfl) (by first | rfl | assumption) (by rfl) (by rfl) ?_
              refine X.pickF (by rfl) (by first | rfl | assumption) (by rfl) (by rfl) ?_
              refine X.mv ?_
              refine X.ifG (by rfl) (by rfl) (by rfl) (fun hb18 => ?_) (fun hb18 => ?_)
              · replace h := condF hb18 h
                refine X.mv ?_
                refine X.gy ?_
                refine X.bi ?_
                refine X.gy ?_
                refine X.mv ?_
                refine X.ifG (by rfl) (by rfl) (by rfl) (fun hb19 => ?_) (fun hb19 => ?_)
                · replace h := condT hb19 h
                  refine X.fieldAddr_l fld183_0 (by rfl) (by rfl) ?_
                  refine X.gy ?_
                  refine X.ld shp3 ?_
                  refine X.gy ?_
                  refine X.mv ?_
                  refine X.gy ?_
                  refine X.mv ?_
                  refine X.gy ?_
                  refine X.sub (by rfl) (by rfl) (by omega) (by rfl) ?_
                  refine X.gy ?_
                  obtain ⟨v20, hv20, h⟩ := bindE h
                  refine X.index_s elt62 (by rfl) (by rfl) (idxL_spec hv20).1 (idxL_map eTStep hv20) (by rfl) (by rfl) (by rfl) ?_
                  refine X.gy ?_
                  refine X.fieldAddr_c fld183_0 (by rfl) (by rfl) ?_
                  refine X.gy ?_
                  refine X.load_c shp3 (by rfl) (by rfl) (by rfl) (by rfl) ?_
                  refine X.gy ?_
                  refine X.bi ?_
                  refine X.gy ?_
                  refine X.pickT (by rfl) (by first | rfl | assumption) (by rfl) (by rfl) ?_
                  refine X.pickF (by rfl) (by first | rfl | assumption) (by rfl) (by rfl) ?_
                  cases h
                  exact X.endG (by trivial) (by trivial) (by rfl) (by rfl)
                · replace h := condF hb19 h
                  refine X.gn ?_
                  refine X.gn ?_
                  refine X.gn ?_
                  refine X.gn ?_
                  refine X.gn ?_
                  refine X.gn ?_
                  refine X.gn ?_
                  refine X.gn ?_
                  refine X.gy ?_
                  refine X.pickF (by rfl) (by first | rfl | assumption) (by rfl) (by rfl) ?_
                  refine X.pickF (by rfl) (by first | rfl | assumption) (by rfl) (by rfl) ?_
                  cases h
                  exact X.endG (by trivial) (by trivial) (by rfl) (by rfl)
              · replace h := condT hb18 h
                refine X.gn ?_
                refine X.gn ?_
                refine X.gU (by rfl) (by rfl) (by rfl) ?_
                refine X.gU (by rfl) (by rfl) (by rfl) ?_
                refine X.gU (by rfl) (by rfl) (by rfl) ?_
                refine X.gU (by rfl) (by rfl) (by rfl) ?_
                refine X.gU (by rfl) (by rfl) (by rfl) ?_
                refine X.gU (by rfl) (by rfl) (by rfl) ?_
                refine X.gU (by rfl) (by rfl) (by rfl) ?_
                refine X.gU (by rfl) (by rfl) (by rfl) ?_
                refine X.gU (by rfl) (by rfl) (by rfl) ?_
                refine X.gn ?_
                refine X.pickT (by rfl) (by first | rfl | assumption) (by rfl) (by rfl) ?_
                cases h
                exact X.endG (by trivial) (by trivial) (by rfl) (by rfl)
            · replace h := condF hb17 h
              refine X.gn ?_
              refine X.gn ?_
              refine X.gy ?_
              refine X.pickF (by rfl) (by first | rfl | assumption) (by rfl) (by rfl) ?_
              refine X.pickF (by rfl) (by first | rfl | assumption) (by rfl) (by rfl) ?_
              refine X.mv ?_
              refine X.gy ?_
              refine X.mv ?_
              refine X.gy ?_
              refine X.bi ?_
              refine X.gy ?_
              refine X.mv ?_
              refine X.ifG (by rfl) (by rfl) (by rfl) (fun hb21 => ?_) (fun hb21 => ?_)
              · replace h := condT hb21 h
                refine X.fieldAddr_l fld183_0 (by rfl) (by rfl) ?_
                refine X.gy ?_
                refine X.ld shp3 ?_
                refine X.gy ?_
                refine X.mv ?_
                refine X.gy ?_
                refine X.mv ?_
                refine X.gy ?_
                refine X.sub (by rfl) (by rfl) (by omega) (by rfl) ?_
                refine X.gy ?_
                obtain ⟨v22, hv22, h⟩ := bindE h
                refine X.index_s elt62 (by rfl) (by rfl) (idxL_spec hv22).1 (idxL_map eTStep hv22) (by rfl) (by rfl) (by rfl) ?_
                refine X.gy ?_
                refine X.fieldAddr_c fld183_0 (by rfl) (by rfl) ?_
                refine X.gy ?_
                refine X.load_c shp3 (by rfl) (by rfl) (by rfl) (by rfl) ?_
                refine X.gy ?_
                refine X.bi ?_
                refine X.gy ?_
                refine X.pickT (by rfl) (by first | rfl | assumption) (by rfl) (by rfl) ?_
                refine X.pickF (by rfl) (by first | rfl | assumption) (by rfl) (by rfl) ?_
                cases h
                exact X.endG (by trivial) (by trivial) (by rfl) (by rfl)
              · replace h := condF hb21 h
                refine X.gn ?_
                refine X.gn ?_
                refine X.gn ?_
                refine X.gn ?_
                refine X.gn ?_
                refine X.gn ?_
                refine X.gn ?_
                refine X.gn ?_
                refine X.gy ?_
                refine X.pickF (by rfl) (by first | rfl | assumption) (by rfl) (by rfl) ?_
                refine X.pickF (by rfl) (by first | rfl | assumption) (by rfl) (by rfl) ?_
                cases h
                exact X.endG (by trivial) (by trivial) (by rfl) (by rfl)
          · replace h := condT hb16 h
            refine X.gn ?_
            refine X.gn ?_
            refine X.gU (by rfl) (by rfl) (by rfl) ?_
            refine X.gU (by rfl) (by rfl) (by rfl) ?_
            refine X.gU (by rfl) (by rfl) (by rfl) ?_
            refine X.gn ?_
            refine X.pickT (by rfl) (by first | rfl | assumption) (by rfl) (by rfl) ?_
            refine X.mv ?_
            refine X.gn ?_
            refine X.gn ?_
            refine X.gn ?_
            refine X.gU (by rfl) (by rfl) (by rfl) ?_
            refine X.gU (by rfl) (by rfl) (by rfl) ?_
            refine X.gU (by rfl) (by rfl) (by rfl) ?_
            refine X.gU (by rfl) (by rfl) (by rfl) ?_
            refine X.gU (by rfl) (by rfl) (by rfl) ?_
            refine X.gU (by rfl) (by rfl) (by rfl) ?_
            refine X.gU (by rfl) (by rfl) (by rfl) ?_
            refine X.gU (by rfl) (by rfl) (by rfl) ?_
            refine X.gU (by rfl) (by rfl) (by rfl) ?_
            refine X.gn ?_
            refine X.pickT (by rfl) (by first | rfl | assumption) (by rfl) (by rfl) ?_
            cases h
            exact X.endG (by trivial) (by trivial) (by rfl) (by rfl)
        · replace h := condT hb14 h
          refine X.gn ?_
          refine X.gn ?_
          refine X.gn ?_
          refine X.pickT (by rfl) (by first | rfl | assumption) (by rfl) (by rfl) ?_
          refine X.mv ?_
          refine X.gn ?_
          refine X.gn ?_
          refine X.gn ?_
          refine X.gU (by rfl) (by rfl) (by rfl) ?_
          refine X.gU (by rfl) (by rfl) (by rfl) ?_
          refine X.gU (by rfl) (by rfl) (by rfl) ?_
          refine X.gn ?_
          refine X.pickT (by rfl) (by first | rfl | assumption) (by rfl) (by rfl) ?_
          refine X.mv ?_
          refine X.gn ?_
          refine X.gn ?_
          refine X.gn ?_
          refine X.gU (by rfl) (by rfl) (by rfl) ?_
          refine X.gU (by rfl) (by rfl) (by rfl) ?_
          refine X.gU (by rfl) (by rfl) (by rfl) ?_
          refine X.gU (by rfl) (by rfl) (by rfl) ?_
          refine X.gU (by rfl) (by rfl) (by rfl) ?_
          refine X.gU (by rfl) (by rfl) (by rfl) ?_
          refine X.gU (by rfl) (by rfl) (by rfl) ?_
          refine X.gU (by rfl) (by rfl) (by rfl) ?_
          refine X.gU (by rfl) (by rfl) (by rfl) ?_
          refine X.gn ?_
          refine X.pickT (by rfl) (by first | rfl | assumption) (by rfl) (by rfl) ?_
          cases h
          exact X.endG (by trivial) (by trivial) (by rfl) (by rfl)
      replace h := h2; clear h2
      refine R.cond (by rfl) (fun hc23 => ?_) (fun hc23 => ?_)
      · replace h := condT hc23 h
        refine Run.sr ?_
        refine X.an ?_
        cases h
        have h := hup2
        replace h := elimR h
        cases h
        refine R.fin1 Tryz.results134 (by rfl) (by rfl) ?_
        rfl
      · replace h := condF hc23 h
        refine Run.skip ?_
        refine Run.blk ?_
        refine Run.reg ?_
        refine X.add (by rfl) (by rfl) (by omega) (by rfl) ?_
        refine X.mn ?_
        exact hag7 (n7 - 1) (z8 + 1) _ _ (by omega) ⟨by first | omega | (dsimp only; omega), by first | omega | (dsimp only; omega), by first | (rw [hds7]; exact h) | (dsimp only; rw [hds7]; exact h)⟩ (by trivial) (by trivial) (by rfl) (by rfl)
    · rw [drop_endI hza7 hc11] at h
      rw [i_StepsOk_L1] at h
      refine Run.exit (by rfl) ?_
      exact hmeet3 () _ _ (Option.some.inj h) (by trivial) (by trivial) (by rfl) (by rfl)
  rintro p24 rfl
  replace h := elimL h
  refine Run.sr ?_
  refine X.mv ?_
  refine X.len_s elt62 (by rfl) (by exact List.length_map ..) (by rfl) ?_
  obtain ⟨v26, hv26, h⟩ := bindE h
  refine X.callP (i_within_pc _ _ _ _ hv26) (by rfl) (by rfl) (by rfl) (by trivial) (by rfl) (by rfl) (by rfl) (by rfl) ?_
  refine X.an ?_
  cases h
  refine R.fin1 Tryz.results134 (by rfl) (by rfl) ?_
  rfl
theorem i_ResourceOk_pc (b0 : TResource) (r : Bool) (h : i_ResourceOk b0 = some r) : PC Tryz.prog 247 [eTResource b0] (bool r) := by
  unfold i_ResourceOk at h
  refine PC.start Tryz.func247 Tryz.ntmps247 rfl ok247 rfl ?_
  refine Run.sr ?_
  refine X.box (by rfl) (by rfl) (by repeat (first | trivial | refine ⟨by first | rfl | simp [setL], ?_⟩)) (by rfl) (by rfl) (by rfl) (by rfl) ?_
  refine X.an ?_
  refine Run.seq ?_
  refine Run.sr ?_
  refine X.fieldAddr_l fld64_1 (by rfl) (by rfl) ?_
  refine X.ld shp30 ?_
  refine X.len_s elt30 (by rfl) (by exact List.length_map ..) (by rfl) ?_
  refine X.mn ?_
  obtain ⟨o1, ho1, h⟩ := bindE h
  refine R.join2 (β := Unit) [(1, .lptr 64 0)] [(64, .blk true [.slice (b0.Steps.map eTStep), .slice (b0.Setup.map l_int)])] (fun p28 S => S) (fun p28 M => M) (fun p28 => (Sum.inl p28) = o1) ?_ ?_
  · intro JJ4 hmeet3
    have hup2 := h; clear h; have h := ho1; clear ho1
    refine Run.block ?_
    refine R.bndS (t := 8) (by rfl) (fun hbd7 => ?_)
    replace hbd7 : b0.Setup.length ≤ 9223372036854775807 := by first | (rw [List.length_map] at hbd7; exact hbd7) | simp
    refine R.loop2 (β := Int) [(1, .lptr 64 0), (8, .slice (b0.Setup.map l_int)), (9, int (b0.Setup.length : Int))] [(64, .blk true [.slice (b0.Steps.map eTStep), .slice (b0.Setup.map l_int)])] (fun bb S => (10, int bb) :: S) (fun bb M => M) (fun n bb => 0 ≤ bb ∧ bb + n = (b0.Setup.length : Int) ∧ i_ResourceOk_L1 (b0.Setup.drop bb.toNat) bb = some o1) b0.Setup.length (0 : Int) (by repeat (first | trivial | refine ⟨by first | rfl | simp [setL], ?_⟩)) (by repeat (first | trivial | refine ⟨by first | rfl | simp [setL], ?_⟩)) (by rfl) (by rfl) ⟨Int.le_refl _, by simp, h⟩ ?_
    clear h
    rintro JJ7 n7 z8 hag7 ⟨hza7, hzb7, h⟩
    refine Run.sr ?_
    refine X.bi ?_
    refine X.nil ?_
    refine Run.seq ?_
    refine R.cond (by rfl) (fun hc11 => ?_) (fun hc11 => ?_)
    · obtain ⟨x9, xs10, hd7, hx7, hds7, hlt7⟩ := drop_atI hza7 hc11
      rw [hd7] at h
      rw [i_ResourceOk_L1] at h
      refine Run.skip ?_
      refine Run.seq ?_
      refine Run.block ?_
      refine Run.sr ?_
      refine X.index_s elt30 (by rfl) (by rfl) (idxL_spec hx7).1 (idxL_map l_int hx7) (by rfl) (by rfl) (by rfl) ?_
      refine X.load_c shp26 (by rfl) (by rfl) (by rfl) (by rfl) ?_
      refine X.an ?_
      refine Run.seq ?_
      refine Run.sr ?_
      refine X.mv ?_
      refine X.len_s elt26 (by rfl) (by exact List.length_map ..) (by rfl) ?_
      refine X.bi ?_
      refine X.nil ?_
      refine R.cond (by rfl) (fun hc12 => ?_) (fun hc12 => ?_)
      · replace h := condT hc12 h
        refine Run.sr ?_
        refine X.an ?_
        cases h
        have h := hup2
        replace h := elimR h
        cases h
        refine R.fin1 Tryz.results247 (by rfl) (by rfl) ?_
        rfl
      · replace h := condF hc12 h
        refine Run.skip ?_
        refine Run.sr ?_
        refine X.mv ?_
        refine X.len_s elt26 (by rfl) (by exact List.length_map ..) (by rfl) ?_
        refine X.mn ?_
        obtain ⟨o13, ho13, h⟩ := bindE h
        refine R.join2 (β := Unit) [(1, .lptr 64 0), (8, .slice (b0.Setup.map l_int)), (9, int (b0.Setup.length : Int)), (10, int z8)] [(64, .blk true [.slice (b0.Steps.map eTStep), .slice (b0.Setup.map l_int)])] (fun p26 S => S) (fun p26 M => M) (fun p26 => (Sum.inl p26) = o13) ?_ ?_
        · intro JJ16 hmeet15
          have hup14 := h; clear h; have h := ho13; clear ho13
          refine Run.block ?_
          refine R.bndS (t := 4) (by rfl) (fun hbd19 => ?_)
          replace hbd19 : x9.length ≤ 9223372036854775807 := by first | (rw [List.length_map] at hbd19; exact hbd19) | simp
          refine R.loop2 (β := Int) [(1, .lptr 64 0), (8, .slice (b0.Setup.map l_int)), (9, int (b0.Setup.length : Int)), (10, int z8), (17, .slice (x9.map int)), (18, int (x9.length : Int))] [(64, .blk true [.slice (b0.Steps.map eTStep), .slice (b0.Setup.map l_int)])] (fun bb S => (19, int bb) :: S) (fun bb M => M) (fun n bb => 0 ≤ bb ∧ bb + n = (x9.length : Int) ∧ i_ResourceOk_L2 (x9.drop bb.toNat) bb = some o13) x9.length (0 : Int) (by repeat (first | trivial | refine ⟨by first | rfl | simp [setL], ?_⟩)) (by repeat (first | trivial | refine ⟨by first | rfl | simp [setL], ?_⟩)) (by rfl) (by rfl) ⟨Int.le_refl _, by simp, h⟩ ?_
          clear h
          rintro JJ19 n19 z20 hag19 ⟨hza19, hzb19, h⟩
          refine Run.sr ?_
          refine X.bi ?_
          refine X.nil ?_
          refine Run.seq ?_
          refine R.cond (by rfl) (fun hc23 => ?_) (fun hc23 => ?_)
          · obtain ⟨x21, xs22, hd19, hx19, hds19, hlt19⟩ := drop_atI hza19 hc23
            rw [hd19] at h
            rw [i_ResourceOk_L2] at h
            refine Run.skip ?_
            refine Run.seq ?_
            refine Run.block ?_
            refine Run.sr ?_
            refine X.index_s elt26 (by rfl) (by rfl) (idxL_spec hx19).1 (idxL_map int hx19) (by rfl) (by rfl) (by rfl) ?_
            refine X.load_c shp3 (by rfl) (by rfl) (by rfl) (by rfl) ?_
            refine X.an ?_
            refine Run.sr ?_
            refine X.mv ?_
            obtain ⟨v24, hv24, h⟩ := bindE h
            refine X.callP (i_within_pc _ _ _ _ hv24) (by rfl) (by rfl) (by rfl) (by trivial) (by rfl) (by rfl) (by rfl) (by rfl) ?_
            refine X.un (by rfl) (by rfl) (by rfl) ?_
            refine X.nil ?_
            refine R.cond (by rfl) (fun hc25 => ?_) (fun hc25 => ?_)
            · replace h := condT hc25 h
              refine Run.sr ?_
              refine X.an ?_
              cases h
              have h := hup14
              replace h := elimR h
              cases h
              have h := hup2
              replace h := elimR h
              cases h
              refine R.fin1 Tryz.results247 (by rfl) (by rfl) ?_
              rfl
            · replace h := condF hc25 h
              refine Run.skip ?_
              refine Run.blk ?_
              refine Run.reg ?_
              refine X.add (by rfl) (by rfl) (by omega) (by rfl) ?_
              refine X.mn ?_
              exact hag19 (n19 - 1) (z20 + 1) _ _ (by omega) ⟨by first | omega | (dsimp only; omega), by first | omega | (dsimp only; omega), by first | (rw [hds19]; exact h) | (dsimp only; rw [hds19]; exact h)⟩ (by trivial) (by trivial) (by rfl) (by rfl)
          · rw [drop_endI hza19 hc23] at h
            rw [i_ResourceOk_L2] at h
            refine Run.exit (by rfl) ?_
            exact hmeet15 () _ _ (Option.some.inj h) (by trivial) (by trivial) (by rfl) (by rfl)
        rintro p26 rfl
        replace h := elimL h
        refine Run.blk ?_
        refine Run.reg ?_
        refine X.add (by rfl) (by rfl) (by omega) (by rfl) ?_
        refine X.mn ?_
        exact hag7 (n7 - 1) (z8 + 1) _ _ (by omega) ⟨by first | omega | (dsimp only; omega), by first | omega | (dsimp only; omega), by first | (rw [hds7]; exact h) | (dsimp only; rw [hds7]; exact h)⟩ (by trivial) (by trivial) (by rfl) (by rfl)
    · rw [drop_endI hza7 hc11] at h
      rw [i_ResourceOk_L1] at h
      refine Run.exit (by rfl) ?_
      exact hmeet3 () _ _ (Option.some.inj h) (by trivial) (by trivial) (by rfl) (by rfl)
  rintro p28 rfl
  replace h := elimL h
  refine Run.seq ?_
  obtain ⟨v30, hv30, h⟩ := bindE h
  obtain ⟨e31, he31, h2⟩ := bindE h
  refine R.regG [(2, bool e31)] [] ?_ ?_
  · clear h; have h := he31; clear he31 h2
    refine X.fieldAddr_l fld64_0 (by rfl) (by rfl) ?_
    refine X.ld shp62 ?_
    refine X.callP (i_StepsOk_pc _ _ hv30) (by rfl) (by rfl) (by rfl) (by trivial) (by rfl) (by rfl) (by rfl) (by rfl) ?_
    refine X.mv ?_
    refine X.ifG (by rfl) (by rfl) (by rfl) (fun hb32 => ?_) (fun hb32 => ?_)
    · replace h := condT hb32 h
      refine X.fieldAddr_l fld64_1 (by rfl) (by rfl) ?_
      refine X.gy ?_
      refine X.ld shp30 ?_
      refine X.gy ?_
      refine X.len_s elt30 (by rfl) (by exact List.length_map ..) (by rfl) ?_
      refine X.gy ?_
      refine X.bi ?_
      refine X.gy ?_
      refine X.mv ?_
      refine X.ifG (by rfl) (by rfl) (by rfl) (fun hb33 => ?_) (fun hb33 => ?_)
      · replace h := condF hb33 h
        refine X.fieldAddr_l fld64_1 (by rfl) (by rfl) ?_
        refine X.gy ?_
        refine X.ld shp30 ?_
        refine X.gy ?_
        refine X.len_s elt30 (by rfl) (by exact List.length_map ..) (by rfl) ?_
        refine X.gy ?_
        refine X.bi ?_
        refine X.gy ?_
        refine X.pickF (by rfl) (by first | rfl | assumption) (by rfl) (by rfl) ?_
        refine X.pickT (by rfl) (by first | rfl | assumption) (by rfl) (by rfl) ?_
        refine X.as ?_
        cases h
        exact X.endG (by trivial) (by trivial) (by rfl) (by rfl)
      · replace h := condT hb33 h
        refine X.gn ?_
        refine X.gn ?_
        refine X.gn ?_
        refine X.gy ?_
        refine X.pickT (by rfl) (by first | rfl | assumption) (by rfl) (by rfl) ?_
        refine X.pickT (by rfl) (by first | rfl | assumption) (by rfl) (by rfl) ?_
        refine X.as ?_
        cases h
        exact X.endG (by trivial) (by trivial) (by rfl) (by rfl)
    · replace h := condF hb32 h
      refine X.gn ?_
      refine X.gn ?_
      refine X.gn ?_
      refine X.gn ?_
      refine X.gU (by rfl) (by rfl) (by rfl) ?_
      refine X.gU (by rfl) (by rfl) (by rfl) ?_
      refine X.gU (by rfl) (by rfl) (by rfl) ?_
      refine X.gU (by rfl) (by rfl) (by rfl) ?_
      refine X.gn ?_
      refine X.pickF (by rfl) (by first | rfl | assumption) (by rfl) (by rfl) ?_
      refine X.as ?_
      cases h
      exact X.endG (by trivial) (by trivial) (by rfl) (by rfl)
  replace h := h2; clear h2
  cases h
  refine R.fin1 Tryz.results247 (by rfl) (by rfl) ?_
  rfl
theorem i_Project_hasActivity_pc (b0 : TProject) (b1 : Int) (r : Bool) (h : i_Project_hasActivity b0 b1 = some r) : PC Tryz.prog 119 [eTProject b0, int b1] (bool r) := by
  unfold i_Project_hasActivity at h
  refine PC.start Tryz.func119 Tryz.ntmps119 rfl ok119 rfl ?_
  refine Run.sr ?_
  refine X.box (by rfl) (by rfl) (by repeat (first | trivial | refine ⟨by first | rfl | simp [setL], ?_⟩)) (by rfl) (by rfl) (by rfl) (by rfl) ?_
  refine X.an ?_
  refine Run.sr ?_
  refine X.mv ?_
  refine X.fieldAddr_l fld28_1 (by rfl) (by rfl) ?_
  refine X.ld shp23 ?_
  refine X.len_s elt23 (by rfl) (by exact List.length_map ..) (by rfl) ?_
  refine X.subW (by rfl) (by rfl) (by rfl) ?_
  obtain ⟨v1, hv1, h⟩ := bindE h
  refine X.callP (i_within_pc _ _ _ _ hv1) (by rfl) (by rfl) (by rfl) (by trivial) (by rfl) (by rfl) (by rfl) (by rfl) ?_
  refine X.an ?_
  cases h
  refine R.fin1 Tryz.results119 (by rfl) (by rfl) ?_
  rfl
theorem i_Project_linkOk_pc (b0 : TProject) (b1 : TLink) (r : Bool) (h : i_Project_linkOk b0 b1 = some r) : PC Tryz.prog 250 [eTProject b0, eTLink b1] (bool r) := by
  unfold i_Project_linkOk at h
  refine PC.start Tryz.func250 Tryz.ntmps250 rfl ok250 rfl ?_
  refine Run.sr ?_
  refine X.box (by rfl) (by rfl) (by repeat (first | trivial | refine ⟨by first | rfl | simp [setL], ?_⟩)) (by rfl) (by rfl) (by rfl) (by rfl) ?_
  refine X.box (by rfl) (by rfl) (by repeat (first | trivial | refine ⟨by first | rfl | simp [setL], ?_⟩)) (by rfl) (by rfl) (by rfl) (by rfl) ?_
  refine X.an ?_
  refine Run.seq ?_
  obtain ⟨v1, hv1, h⟩ := bindE h
  obtain ⟨e2, he2, h2⟩ := bindE h
  refine R.regG [(4, bool e2)] [] ?_ ?_
  · clear h; have h := he2; clear he2 h2
    refine X.ld shp28 ?_
    refine X.fieldAddr_l fld167_0 (by rfl) (by rfl) ?_
    refine X.ld shp3 ?_
    refine X.callP (i_Project_hasActivity_pc _ _ _ hv1) (by rfl) (by rfl) (by rfl) (by trivial) (by rfl) (by rfl) (by rfl) (by rfl) ?_
    refine X.mv ?_
    refine X.ifG (by rfl) (by rfl) (by rfl) (fun hb3 => ?_) (fun hb3 => ?_)
    · replace h := condT hb3 h
      refine X.ld shp28 ?_
      refine X.gy ?_
      refine X.fieldAddr_l fld167_1 (by rfl) (by rfl) ?_
      refine X.gy ?_
      refine X.ld shp3 ?_
      refine X.gy ?_
      obtain ⟨v4, hv4, h⟩ := bindE h
      refine X.callP (i_Project_hasActivity_pc _ _ _ hv4) (by rfl) (by rfl) (by rfl) (by trivial) (by rfl) (by rfl) (by rfl) (by rfl) ?_
      refine X.pickT (by rfl) (by first | rfl | assumption) (by rfl) (by rfl) ?_
      refine X.mv ?_
      refine X.ifG (by rfl) (by rfl) (by rfl) (fun hb5 => ?_) (fun hb5 => ?_)
      · replace h := condT hb5 h
        refine X.fieldAddr_l fld167_0 (by rfl) (by rfl) ?_
        refine X.gy ?_
        refine X.ld shp3 ?_
        refine X.gy ?_
        refine X.fieldAddr_l fld167_1 (by rfl) (by rfl) ?_
        refine X.gy ?_
        refine X.ld shp3 ?_
        refine X.gy ?_
        refine X.bi ?_
        refine X.pickT (by rfl) (by first | rfl | assumption) (by rfl) (by rfl) ?_
        refine X.mv ?_
        refine X.ifG (by rfl) (by rfl) (by rfl) (fun hb6 => ?_) (fun hb6 => ?_)
        · replace h := condT hb6 h
          refine X.fieldAddr_l fld167_3 (by rfl) (by rfl) ?_
          refine X.gy ?_
          refine X.ld shp3 ?_
          refine X.gy ?_
          obtain ⟨v7, hv7, h⟩ := bindE h
          refine X.callP (i_within_pc _ _ _ _ hv7) (by rfl) (by rfl) (by rfl) (by trivial) (by rfl) (by rfl) (by rfl) (by rfl) ?_
          refine X.pickT (by rfl) (by first | rfl | assumption) (by rfl) (by rfl) ?_
          refine X.as ?_
          cases h
          exact X.endG (by trivial) (by trivial) (by rfl) (by rfl)
        · replace h := condF hb6 h
          refine X.gn ?_
          refine X.gn ?_
          refine X.pickF (by rfl) (by first | rfl | assumption) (by rfl) (by rfl) ?_
          refine X.as ?_
          cases h
          exact X.endG (by trivial) (by trivial) (by rfl) (by rfl)
      · replace h := condF hb5 h
        refine X.gn ?_
        refine X.gn ?_
        refine X.gn ?_
        refine X.gn ?_
        refine X.pickF (by rfl) (by first | rfl | assumption) (by rfl) (by rfl) ?_
        refine X.mv ?_
        refine X.gn ?_
        refine X.gn ?_
        refine X.gn ?_
        refine X.pickF (by rfl) (by first | rfl | assumption) (by rfl) (by rfl) ?_
        refine X.as ?_
        cases h
        exact X.endG (by trivial) (by trivial) (by rfl) (by rfl)
    · replace h := condF hb3 h
      refine X.gn ?_
      refine X.gn ?_
      refine X.gn ?_
      refine X.pickF (by rfl) (by first | rfl | assumption) (by rfl) (by rfl) ?_
      refine X.mv ?_
      refine X.gn ?_
      refine X.gn ?_
      refine X.gn ?_
      refine X.gn ?_
      refine X.gn ?_
      refine X.pickF (by rfl) (by first | rfl | assumption) (by rfl) (by rfl) ?_
      refine X.mv ?_
      refine X.gn ?_
      refine X.gn ?_
      refine X.gn ?_
      refine X.pickF (by rfl) (by first | rfl | assumption) (by rfl) (by rfl) ?_
      refine X.as ?_
      cases h
      exact X.endG (by trivial) (by trivial) (by rfl) (by rfl)
  replace h := h2; clear h2
  cases h
  refine R.fin1 Tryz.results250 (by rfl) (by rfl) ?_
  rfl
theorem i_ProjectOk_c1_pc (b0 : TLink) (c1 : TProject) (r : Bool) (h : i_ProjectOk_c1 b0 c1 = some r) : PC Tryz.prog 249 [eTLink b0, .cptr (eTProject c1 : PV).cells 0] (bool r) := by
  unfold i_ProjectOk_c1 at h
  refine PC.start Tryz.func249 Tryz.ntmps249 rfl ok249 rfl ?_
  refine Run.sr ?_
  refine X.box (by rfl) (by rfl) (by repeat (first | trivial | refine ⟨by first | rfl | simp [setL], ?_⟩)) (by rfl) (by rfl) (by rfl) (by rfl) ?_
  refine X.an ?_
  refine Run.sr ?_
  refine X.load_c shp28 (by rfl) (by rfl) (by rfl) (by rfl) ?_
  refine X.ld shp167 ?_
  obtain ⟨v1, hv1, h⟩ := bindE h
  refine X.callP (i_Project_linkOk_pc _ _ _ hv1) (by rfl) (by rfl) (by rfl) (by trivial) (by rfl) (by rfl) (by rfl) (by rfl) ?_
  refine X.un (by rfl) (by rfl) (by rfl) ?_
  refine X.an ?_
  cases h
  refine R.fin1 Tryz.results249 (by rfl) (by rfl) ?_
  rfl
theorem slices_IndexFunc_Link_pc (b0 : List TLink) (g1 : TLink → Option Bool) (g1id : Nat) (g1c : List PV) (hg1 : ∀ (x0 : TLink) v, g1 x0 = some v → PC Tryz.prog g1id ([eTLink x0] ++ g1c) (bool v)) (r : Int) (h : slices_IndexFunc_Link b0 g1 = some r) : PC Tryz.prog 307 [.slice (b0.map eTLink), .fn g1id g1c] (int r) := by
  unfold slices_IndexFunc_Link at h
  refine PC.start Tryz.func307 Tryz.ntmps307 rfl ok307 rfl ?_
  refine Run.sr ?_
  refine X.an ?_
  refine Run.seq ?_
  refine Run.sr ?_
  refine X.mv ?_
  refine X.len_s elt24 (by rfl) (by exact List.length_map ..) (by rfl) ?_
  refine X.mn ?_
  obtain ⟨o1, ho1, h⟩ := bindE h
  refine R.join2 (β := Unit) [] [] (fun p14 S => S) (fun p14 M => M) (fun p14 => (Sum.inl p14) = o1) ?_ ?_
  · intro JJ4 hmeet3
    have hup2 := h; clear h; have h := ho1; clear ho1
    refine Run.block ?_
    refine R.bndS (t := 0) (by rfl) (fun hbd7 => ?_)
    replace hbd7 : b0.length ≤ 9223372036854775807 := by first | (rw [List.length_map] at hbd7; exact hbd7) | simp
    refine R.loop2 (β := Int) [(0, .slice (b0.map eTLink)), (1, .fn g1id g1c), (7, int (b0.length : Int))] [] (fun bb S => (8, int bb) :: S) (fun bb M => M) (fun n bb => 0 ≤ bb ∧ bb + n = (b0.length : Int) ∧ slices_IndexFunc_Link_L1 g1 (b0.drop bb.toNat) bb = some o1) b0.length (0 : Int) (by repeat (first | trivial | refine ⟨by first | rfl | simp [setL], ?_⟩)) (by repeat (first | trivial | refine ⟨by first | rfl | simp [setL], ?_⟩)) (by rfl) (by rfl) ⟨Int.le_refl _, by simp, h⟩ ?_
    clear h
    rintro JJ7 n7 z8 hag7 ⟨hza7, hzb7, h⟩
    refine Run.sr ?_
    refine X.bi ?_
    refine X.nil ?_
    refine Run.seq ?_
    refine R.cond (by rfl) (fun hc11 => ?_) (fun hc11 => ?_)
    · obtain ⟨x9, xs10, hd7, hx7, hds7, hlt7⟩ := drop_atI hza7 hc11
      rw [hd7] at h
      rw [slices_IndexFunc_Link_L1] at h
      refine Run.skip ?_
      refine Run.seq ?_
      refine Run.block ?_
      refine Run.sr ?_
      refine X.mv ?_
      refine X.an ?_
      refine Run.sr ?_
      refine X.mv ?_
      refine X.mv ?_
      refine X.mv ?_
      refine X.index_s elt24 (by rfl) (by rfl) (idxL_spec hx7).1 (idxL_map eTLink hx7) (by rfl) (by rfl) (by rfl) ?_
      refine X.load_c shp167 (by rfl) (by rfl) (by rfl) (by rfl) ?_
      obtain ⟨v12, hv12, h⟩ := bindE h
      refine X.callP (hg1 _ _ hv12) (by rfl) (by rfl) (by rfl) (by trivial) (by rfl) (by rfl) (by rfl) (by rfl) ?_
      refine X.nil ?_
      refine R.cond (by rfl) (fun hc13 => ?_) (fun hc13 => ?_)
      · replace h := condT hc13 h
        refine Run.sr ?_
        refine X.mv ?_
        refine X.an ?_
        cases h
        have h := hup2
        replace h := elimR h
        cases h
        refine R.fin1 Tryz.results307 (by rfl) (by rfl) ?_
        rfl
      · replace h := condF hc13 h
        refine Run.skip ?_
        refine Run.blk ?_
        refine Run.reg ?_
        refine X.add (by rfl) (by rfl) (by omega) (by rfl) ?_
        refine X.mn ?_
        exact hag7 (n7 - 1) (z8 + 1) _ _ (by omega) ⟨by first | omega | (dsimp only; omega), by first | omega | (dsimp only; omega), by first | (rw [hds7]; exact h) | (dsimp only; rw [hds7]; exact h)⟩ (by trivial) (by trivial) (by rfl) (by rfl)
    · rw [drop_endI hza7 hc11] at h
      rw [slices_IndexFunc_Link_L1] at h
      refine Run.exit (by rfl) ?_
      exact hmeet3 () _ _ (Option.some.inj h) (by trivial) (by trivial) (by rfl) (by rfl)
  rintro p14 rfl
  replace h := elimL h
  refine Run.sr ?_
  refine X.an ?_
  cases h
  refine R.fin1 Tryz.results307 (by rfl) (by rfl) ?_
  rfl
theorem slices_ContainsFunc_Link_pc (b0 : List TLink) (g1 : TLink → Option Bool) (g1id : Nat) (g1c : List PV) (hg1 : ∀ (x0 : TLink) v, g1 x0 = some v → PC Tryz.prog g1id ([eTLink x0] ++ g1c) (bool v)) (r : Bool) (h : slices_ContainsFunc_Link b0 g1 = some r) : PC Tryz.prog 248 [.slice (b0.map eTLink), .fn g1id g1c] (bool r) := by
  unfold slices_ContainsFunc_Link at h
  refine PC.start Tryz.func248 Tryz.ntmps248 rfl ok248 rfl ?_
  refine Run.sr ?_
  refine X.an ?_
  refine Run.sr ?_
  refine X.mv ?_
  refine X.mv ?_
  obtain ⟨v1, hv1, h⟩ := bindE h
  refine X.callP (slices_IndexFunc_Link_pc _ g1 _ _ hg1 _ hv1) (by rfl) (by rfl) (by rfl) (by trivial) (by rfl) (by rfl) (by rfl) (by rfl) ?_
  refine X.bi ?_
  refine X.an ?_
  cases h
  refine R.fin1 Tryz.results248 (by rfl) (by rfl) ?_
  rfl
theorem i_ProjectOk_pc (b0 : TProject) (r : Bool) (h : i_ProjectOk b0 = some r) : PC Tryz.prog 133 [eTProject b0] (bool r) := by
  unfold i_ProjectOk at h
  refine PC.start Tryz.func133 Tryz.ntmps133 rfl ok133 rfl ?_
  refine Run.sr ?_
  refine X.box (by rfl) (by rfl) (by repeat (first | trivial | refine ⟨by first | rfl | simp [setL], ?_⟩)) (by rfl) (by rfl) (by rfl) (by rfl) ?_
  refine X.an ?_
  refine Run.seq ?_
  refine Run.seq ?_
  obtain ⟨v1, hv1, h⟩ := bindE h
  obtain ⟨e2, he2, h2⟩ := bindE h
  refine R.regG [(1, .lptr 64 0), (37, bool e2)] [(64, .blk true [int b0.Deadline, .slice (b0.Activities.map eTActivity), .slice (b0.Links.map eTLink), .slice (b0.Resources.map eTResource), .slice (b0.Stocks.map int)])] ?_ ?_
  · clear h; have h := he2; clear he2 h2
    refine X.fieldAddr_l fld28_0 (by rfl) (by rfl) ?_
    refine X.ld shp3 ?_
    refine X.callP (i_within_pc _ _ _ _ hv1) (by rfl) (by rfl) (by rfl) (by trivial) (by rfl) (by rfl) (by rfl) (by rfl) ?_
    refine X.un (by rfl) (by rfl) (by rfl) ?_
    refine X.mv ?_
    refine X.ifG (by rfl) (by rfl) (by rfl) (fun hb3 => ?_) (fun hb3 => ?_)
    · replace h := condF hb3 h
      refine X.fieldAddr_l fld28_1 (by rfl) (by rfl) ?_
      refine X.gy ?_
      refine X.ld shp23 ?_
      refine X.gy ?_
      refine X.len_s elt23 (by rfl) (by exact List.length_map ..) (by rfl) ?_
      refine X.gy ?_
      obtain ⟨v4, hv4, h⟩ := bindE h
      refine X.callP (i_within_pc _ _ _ _ hv4) (by rfl) (by rfl) (by rfl) (by trivial) (by rfl) (by rfl) (by rfl) (by rfl) ?_
      refine X.gy ?_
      refine X.un (by rfl) (by rfl) (by rfl) ?_
      refine X.pickF (by rfl) (by first | rfl | assumption) (by rfl) (by rfl) ?_
      refine X.mv ?_
      refine X.ifG (by rfl) (by rfl) (by rfl) (fun hb5 => ?_) (fun hb5 => ?_)
      · replace h := condF hb5 h
        refine X.fieldAddr_l fld28_3 (by rfl) (by rfl) ?_
        refine X.gy ?_
        refine X.ld shp25 ?_
        refine X.gy ?_
        refine X.len_s elt25 (by rfl) (by exact List.length_map ..) (by rfl) ?_
        refine X.gy ?_
        refine X.bi ?_
        refine X.pickF (by rfl) (by first | rfl | assumption) (by rfl) (by rfl) ?_
        refine X.mv ?_
        refine X.ifG (by rfl) (by rfl) (by rfl) (fun hb6 => ?_) (fun hb6 => ?_)
        · replace h := condF hb6 h
          refine X.fieldAddr_l fld28_4 (by rfl) (by rfl) ?_
          refine X.gy ?_
          refine X.ld shp26 ?_
          refine X.gy ?_
          refine X.len_s elt26 (by rfl) (by exact List.length_map ..) (by rfl) ?_
          refine X.gy ?_
          refine X.bi ?_
          refine X.pickF (by rfl) (by first | rfl | assumption) (by rfl) (by rfl) ?_
          refine X.mv ?_
          refine X.ifG (by rfl) (by rfl) (by rfl) (fun hb7 => ?_) (fun hb7 => ?_)
          · replace h := condF hb7 h
            refine X.fieldAddr_l fld28_2 (by rfl) (by rfl) ?_
            refine X.gy ?_
            refine X.ld shp24 ?_
            refine X.gy ?_
            refine X.len_s elt24 (by rfl) (by exact List.length_map ..) (by rfl) ?_
            refine X.gy ?_
            refine X.bi ?_
            refine X.pickF (by rfl) (by first | rfl | assumption) (by rfl) (by rfl) ?_
            cases h
            exact X.endG (by trivial) (by trivial) (by rfl) (by rfl)
          · replace h := condT hb7 h
            refine X.gn ?_
            refine X.gn ?_
            refine X.gn ?_
            refine X.pickT (by rfl) (by first | rfl | assumption) (by rfl) (by rfl) ?_
            cases h
            exact X.endG (by trivial) (by trivial) (by rfl) (by rfl)
        · replace h := condT hb6 h
          refine X.gn ?_
          refine X.gn ?_
          refine X.gn ?_
          refine X.pickT (by rfl) (by first | rfl | assumption) (by rfl) (by rfl) ?_
          refine X.mv ?_
          refine X.gn ?_
          refine X.gn ?_
          refine X.gn ?_
          refine X.gn ?_
          refine X.pickT (by rfl) (by first | rfl | assumption) (by rfl) (by rfl) ?_
          cases h
          exact X.endG (by trivial) (by trivial) (by rfl) (by rfl)
      · replace h := condT hb5 h
        refine X.gn ?_
        refine X.gn ?_
        refine X.gn ?_
        refine X.pickT (by rfl) (by first | rfl | assumption) (by rfl) (by rfl) ?_
        refine X.mv ?_
        refine X.gn ?_
        refine X.gn ?_
        refine X.gn ?_
        refine X.gn ?_
        refine X.pickT (by rfl) (by first | rfl | assumption) (by rfl) (by rfl) ?_
        refine X.mv ?_
        refine X.gn ?_
        refine X.gn ?_
        refine X.gn ?_
        refine X.gn ?_
        refine X.pickT (by rfl) (by first | rfl | assumption) (by rfl) (by rfl) ?_
        cases h
        exact X.endG (by trivial) (by trivial) (by rfl) (by rfl)
    · replace h := condT hb3 h
      refine X.gn ?_
      refine X.gn ?_
      refine X.gn ?_
      refine X.gn ?_
      refine X.pickT (by rfl) (by first | rfl | assumption) (by rfl) (by rfl) ?_
      refine X.mv ?_
      refine X.gn ?_
      refine X.gn ?_
      refine X.gn ?_
      refine X.gn ?_
      refine X.pickT (by rfl) (by first | rfl | assumption) (by rfl) (by rfl) ?_
      refine X.mv ?_
      refine X.gn ?_
      refine X.gn ?_
      refine X.gn ?_
      refine X.gn ?_
      refine X.pickT (by rfl) (by first | rfl | assumption) (by rfl) (by rfl) ?_
      refine X.mv ?_
      refine X.gn ?_
      refine X.gn ?_
      refine X.gn ?_
      refine X.gn ?_
      refine X.pickT (by rfl) (by first | rfl | assumption) (by rfl) (by rfl) ?_
      cases h
      exact X.endG (by trivial) (by trivial) (by rfl) (by rfl)
  replace h := h2; clear h2
  refine R.cond (by rfl) (fun hc8 => ?_) (fun hc8 => ?_)
  · replace h := condT hc8 h
    refine Run.sr ?_
    refine X.an ?_
    cases h
    refine R.fin1 Tryz.results133 (by rfl) (by rfl) ?_
    rfl
  · replace h := condF hc8 h
    refine Run.skip ?_
    refine Run.seq ?_
    refine Run.sr ?_
    refine X.fieldAddr_l fld28_1 (by rfl) (by rfl) ?_
    refine X.ld shp23 ?_
    refine X.len_s elt23 (by rfl) (by exact List.length_map ..) (by rfl) ?_
    refine X.mn ?_
    obtain ⟨o9, ho9, h⟩ := bindE h
    refine R.join2 (β := Unit) [(1, .lptr 64 0)] [(64, .blk true [int b0.Deadline, .slice (b0.Activities.map eTActivity), .slice (b0.Links.map eTLink), .slice (b0.Resources.map eTResource), .slice (b0.Stocks.map int)])] (fun p25 S => S) (fun p25 M => M) (fun p25 => (Sum.inl p25) = o9) ?_ ?_
    · intro JJ12 hmeet11
      have hup10 := h; clear h; have h := ho9; clear ho9
      refine Run.block ?_
      refine R.bndS (t := 39) (by rfl) (fun hbd15 => ?_)
      replace hbd15 : b0.Activities.length ≤ 9223372036854775807 := by first | (rw [List.length_map] at hbd15; exact hbd15) | simp
      refine R.loop2 (β := Int) [(1, .lptr 64 0), (39, .slice (b0.Activities.map eTActivity)), (40, int (b0.Activities.length : Int))] [(64, .blk true [int b0.Deadline, .slice (b0.Activities.map eTActivity), .slice (b0.Links.map eTLink), .slice (b0.Resources.map eTResource), .slice (b0.Stocks.map int)])] (fun bb S => (41, int bb) :: S) (fun bb M => M) (fun n bb => 0 ≤ bb ∧ bb + n = (b0.Activities.length : Int) ∧ i_ProjectOk_L1 b0 (b0.Activities.drop bb.toNat) bb = some o9) b0.Activities.length (0 : Int) (by repeat (first | trivial | refine ⟨by first | rfl | simp [setL], ?_⟩)) (by repeat (first | trivial | refine ⟨by first | rfl | simp [setL], ?_⟩)) (by rfl) (by rfl) ⟨Int.le_refl _, by simp, h⟩ ?_
      clear h
      rintro JJ15 n15 z16 hag15 ⟨hza15, hzb15, h⟩
      refine Run.sr ?_
      refine X.bi ?_
      refine X.nil ?_
      refine Run.seq ?_
      refine R.cond (by rfl) (fun hc19 => ?_) (fun hc19 => ?_)
      · obtain ⟨x17, xs18, hd15, hx15, hds15, hlt15⟩ := drop_atI hza15 hc19
        rw [hd15] at h
        rw [i_ProjectOk_L1] at h
        refine Run.skip ?_
        refine Run.seq ?_
        refine Run.block ?_
        refine Run.sr ?_
        refine X.mv ?_
        refine X.index_s elt23 (by rfl) (by rfl) (idxL_spec hx15).1 (idxL_map eTActivity hx15) (by rfl) (by rfl) (by rfl) ?_
        refine X.load_c shp50 (by rfl) (by rfl) (by rfl) (by rfl) ?_
        refine X.alloc zer50 (by rfl) (by rfl) (by rfl) ?_
        refine X.as ?_
        refine X.store_l shp50 (by rfl) (by rfl) (by rfl) (by rfl) (by repeat (first | trivial | refine ⟨by first | rfl | simp [setL], ?_⟩)) (by rfl) (by rfl) (by rfl) ?_
        refine X.nil ?_
        refine Run.seq ?_
        obtain ⟨v20, hv20, h⟩ := bindE h
        obtain ⟨e21, he21, h2⟩ := bindE h
        refine R.regG [(1, .lptr 64 0), (39, .slice (b0.Activities.map eTActivity)), (40, int (b0.Activities.length : Int)), (41, int z16), (62, bool e21)] [(64, .blk true [int b0.Deadline, .slice (b0.Activities.map eTActivity), .slice (b0.Links.map eTLink), .slice (b0.Resources.map eTResource), .slice (b0.Stocks.map int)])] ?_ ?_
        · clear h; have h := he21; clear he21 h2
          refine X.ld shp50 ?_
          refine X.fieldAddr_l fld28_3 (by rfl) (by rfl) ?_
          refine X.ld shp25 ?_
          refine X.len_s elt25 (by rfl) (by exact List.length_map ..) (by rfl) ?_
          refine X.fieldAddr_l fld28_4 (by rfl) (by rfl) ?_
          refine X.ld shp26 ?_
          refine X.len_s elt26 (by rfl) (by exact List.length_map ..) (by rfl) ?_
          refine X.callP (i_ActivityOk_pc _ _ _ _ hv20) (by rfl) (by rfl) (by rfl) (by trivial) (by rfl) (by rfl) (by rfl) (by rfl) ?_
          refine X.un (by rfl) (by rfl) (by rfl) ?_
          refine X.mv ?_
          refine X.ifG (by rfl) (by rfl) (by rfl) (fun hb22 => ?_) (fun hb22 => ?_)
          · replace h := condF hb22 h
            refine X.ld shp28 ?_
            refine X.gy ?_
            refine X.fieldAddr_l fld50_0 (by rfl) (by rfl) ?_
            refine X.gy ?_
            refine X.ld shp9 ?_
            refine X.gy ?_
            obtain ⟨v23, hv23, h⟩ := bindE h
            refine X.callP (i_ActivityIndex_pc _ _ _ hv23) (by rfl) (by rfl) (by rfl) (by trivial) (by rfl) (by rfl) (by rfl) (by rfl) ?_
            refine X.gy ?_
            refine X.mv ?_
            refine X.gy ?_
            refine X.bi ?_
            refine X.pickF (by rfl) (by first | rfl | assumption) (by rfl) (by rfl) ?_
            cases h
            exact X.endG (by trivial) (by trivial) (by rfl) (by rfl)
          · replace h := condT hb22 h
            refine X.gn ?_
            refine X.gn ?_
            refine X.gn ?_
            refine X.gn ?_
            refine X.gn ?_
            refine X.pickT (by rfl) (by first | rfl | assumption) (by rfl) (by rfl) ?_
            cases h
            exact X.endG (by trivial) (by trivial) (by rfl) (by rfl)
        replace h := h2; clear h2
        refine R.cond (by rfl) (fun hc24 => ?_) (fun hc24 => ?_)
        · replace h := condT hc24 h
          refine Run.sr ?_
          refine X.an ?_
          cases h
          have h := hup10
          replace h := elimR h
          cases h
          refine R.fin1 Tryz.results133 (by rfl) (by rfl) ?_
          rfl
        · replace h := condF hc24 h
          refine Run.skip ?_
          refine Run.blk ?_
          refine Run.reg ?_
          refine X.add (by rfl) (by rfl) (by omega) (by rfl) ?_
          refine X.mn ?_
          exact hag15 (n15 - 1) (z16 + 1) _ _ (by omega) ⟨by first | omega | (dsimp only; omega), by first | omega | (dsimp only; omega), by first | (rw [hds15]; exact h) | (dsimp only; rw [hds15]; exact h)⟩ (by trivial) (by trivial) (by rfl) (by rfl)
      · rw [drop_endI hza15 hc19] at h
        rw [i_ProjectOk_L1] at h
        refine Run.exit (by rfl) ?_
        exact hmeet11 () _ _ (Option.some.inj h) (by trivial) (by trivial) (by rfl) (by rfl)
    rintro p25 rfl
    replace h := elimL h
    refine Run.seq ?_
    refine Run.sr ?_
    refine X.fieldAddr_l fld28_3 (by rfl) (by rfl) ?_
    refine X.ld shp25 ?_
    refine X.len_s elt25 (by rfl) (by exact List.length_map ..) (by rfl) ?_
    refine X.mn ?_
    obtain ⟨o27, ho27, h⟩ := bindE h
    refine R.join2 (β := Unit) [(1, .lptr 64 0)] [(64, .blk true [int b0.Deadline, .slice (b0.Activities.map eTActivity), .slice (b0.Links.map eTLink), .slice (b0.Resources.map eTResource), .slice (b0.Stocks.map int)])] (fun p40 S => S) (fun p40 M => M) (fun p40 => (Sum.inl p40) = o27) ?_ ?_
    · intro JJ30 hmeet29
      have hup28 := h; clear h; have h := ho27; clear ho27
      refine Run.block ?_
      refine R.bndS (t := 65) (by rfl) (fun hbd33 => ?_)
      replace hbd33 : b0.Resources.length ≤ 9223372036854775807 := by first | (rw [List.length_map] at hbd33; exact hbd33) | simp
      refine R.loop2 (β := Int) [(1, .lptr 64 0), (65, .slice (b0.Resources.map eTResource)), (66, int (b0.Resources.length : Int))] [(64, .blk true [int b0.Deadline, .slice (b0.Activities.map eTActivity), .slice (b0.Links.map eTLink), .slice (b0.Resources.map eTResource), .slice (b0.Stocks.map int)])] (fun bb S => (67, int bb) :: S) (fun bb M => M) (fun n bb => 0 ≤ bb ∧ bb + n = (b0.Resources.length : Int) ∧ i_ProjectOk_L2 (b0.Resources.drop bb.toNat) bb = some o27) b0.Resources.length (0 : Int) (by repeat (first | trivial | refine ⟨by first | rfl | simp [setL], ?_⟩)) (by repeat (first | trivial | refine ⟨by first | rfl | simp [setL], ?_⟩)) (by rfl) (by rfl) ⟨Int.le_refl _, by simp, h⟩ ?_
      clear h
      rintro JJ33 n33 z34 hag33 ⟨hza33, hzb33, h⟩
      refine Run.sr ?_
      refine X.bi ?_
      refine X.nil ?_
      refine Run.seq ?_
      refine R.cond (by rfl) (fun hc37 => ?_) (fun hc37 => ?_)
      · obtain ⟨x35, xs36, hd33, hx33, hds33, hlt33⟩ := drop_atI hza33 hc37
        rw [hd33] at h
        rw [i_ProjectOk_L2] at h
        refine Run.skip ?_
        refine Run.seq ?_
        refine Run.block ?_
        refine Run.sr ?_
        refine X.index_s elt25 (by rfl) (by rfl) (idxL_spec hx33).1 (idxL_map eTResource hx33) (by rfl) (by rfl) (by rfl) ?_
        refine X.load_c shp64 (by rfl) (by rfl) (by rfl) (by rfl) ?_
        refine X.alloc zer64 (by rfl) (by rfl) (by rfl) ?_
        refine X.store_l shp64 (by rfl) (by rfl) (by rfl) (by rfl) (by repeat (first | trivial | refine ⟨by first | rfl | simp [setL], ?_⟩)) (by rfl) (by rfl) (by rfl) ?_
        refine X.nil ?_
        refine Run.sr ?_
        refine X.ld shp64 ?_
        obtain ⟨v38, hv38, h⟩ := bindE h
        refine X.callP (i_ResourceOk_pc _ _ hv38) (by rfl) (by rfl) (by rfl) (by trivial) (by rfl) (by rfl) (by rfl) (by rfl) ?_
        refine X.un (by rfl) (by rfl) (by rfl) ?_
        refine X.nil ?_
        refine R.cond (by rfl) (fun hc39 => ?_) (fun hc39 => ?_)
        · replace h := condT hc39 h
          refine Run.sr ?_
          refine X.an ?_
          cases h
          have h := hup28
          replace h := elimR h
          cases h
          refine R.fin1 Tryz.results133 (by rfl) (by rfl) ?_
          rfl
        · replace h := condF hc39 h
          refine Run.skip ?_
          refine Run.blk ?_
          refine Run.reg ?_
          refine X.add (by rfl) (by rfl) (by omega) (by rfl) ?_
          refine X.mn ?_
          exact hag33 (n33 - 1) (z34 + 1) _ _ (by omega) ⟨by first | omega | (dsimp only; omega), by first | omega | (dsimp only; omega), by first | (rw [hds33]; exact h) | (dsimp only; rw [hds33]; exact h)⟩ (by trivial) (by trivial) (by rfl) (by rfl)
      · rw [drop_endI hza33 hc37] at h
        rw [i_ProjectOk_L2] at h
        refine Run.exit (by rfl) ?_
        exact hmeet29 () _ _ (Option.some.inj h) (by trivial) (by trivial) (by rfl) (by rfl)
    rintro p40 rfl
    replace h := elimL h
    refine Run.seq ?_
    refine Run.sr ?_
    refine X.fieldAddr_l fld28_4 (by rfl) (by rfl) ?_
    refine X.ld shp26 ?_
    refine X.len_s elt26 (by rfl) (by exact List.length_map ..) (by rfl) ?_
    refine X.mn ?_
    obtain ⟨o42, ho42, h⟩ := bindE h
    refine R.join2 (β := Unit) [(1, .lptr 64 0)] [(64, .blk true [int b0.Deadline, .slice (b0.Activities.map eTActivity), .slice (b0.Links.map eTLink), .slice (b0.Resources.map eTResource), .slice (b0.Stocks.map int)])] (fun p55 S => S) (fun p55 M => M) (fun p55 => (Sum.inl p55) = o42) ?_ ?_
    · intro JJ45 hmeet44
      have hup43 := h; clear h; have h := ho42; clear ho42
      refine Run.block ?_
      refine R.bndS (t := 76) (by rfl) (fun hbd48 => ?_)
      replace hbd48 : b0.Stocks.length ≤ 9223372036854775807 := by first | (rw [List.length_map] at hbd48; exact hbd48) | simp
      refine R.loop2 (β := Int) [(1, .lptr 64 0), (76, .slice (b0.Stocks.map int)), (77, int (b0.Stocks.length : Int))] [(64, .blk true [int b0.Deadline, .slice (b0.Activities.map eTActivity), .slice (b0.Links.map eTLink), .slice (b0.Resources.map eTResource), .slice (b0.Stocks.map int)])] (fun bb S => (78, int bb) :: S) (fun bb M => M) (fun n bb => 0 ≤ bb ∧ bb + n = (b0.Stocks.length : Int) ∧ i_ProjectOk_L3 (b0.Stocks.drop bb.toNat) bb = some o42) b0.Stocks.length (0 : Int) (by repeat (first | trivial | refine ⟨by first | rfl | simp [setL], ?_⟩)) (by repeat (first | trivial | refine ⟨by first | rfl | simp [setL], ?_⟩)) (by rfl) (by rfl) ⟨Int.le_refl _, by simp, h⟩ ?_
      clear h
      rintro JJ48 n48 z49 hag48 ⟨hza48, hzb48, h⟩
      refine Run.sr ?_
      refine X.bi ?_
      refine X.nil ?_
      refine Run.seq ?_
      refine R.cond (by rfl) (fun hc52 => ?_) (fun hc52 => ?_)
      · obtain ⟨x50, xs51, hd48, hx48, hds48, hlt48⟩ := drop_atI hza48 hc52
        rw [hd48] at h
        rw [i_ProjectOk_L3] at h
        refine Run.skip ?_
        refine Run.seq ?_
        refine Run.block ?_
        refine Run.sr ?_
        refine X.index_s elt26 (by rfl) (by rfl) (idxL_spec hx48).1 (idxL_map int hx48) (by rfl) (by rfl) (by rfl) ?_
        refine X.load_c shp3 (by rfl) (by rfl) (by rfl) (by rfl) ?_
        refine X.an ?_
        refine Run.sr ?_
        refine X.mv ?_
        obtain ⟨v53, hv53, h⟩ := bindE h
        refine X.callP (i_within_pc _ _ _ _ hv53) (by rfl) (by rfl) (by rfl) (by trivial) (by rfl) (by rfl) (by rfl) (by rfl) ?_
        refine X.un (by rfl) (by rfl) (by rfl) ?_
        refine X.nil ?_
        refine R.cond (by rfl) (fun hc54 => ?_) (fun hc54 => ?_)
        · replace h := condT hc54 h
          refine Run.sr ?_
          refine X.an ?_
          cases h
          have h := hup43
          replace h := elimR h
          cases h
          refine R.fin1 Tryz.results133 (by rfl) (by rfl) ?_
          rfl
        · replace h := condF hc54 h
          refine Run.skip ?_
          refine Run.blk ?_
          refine Run.reg ?_
          refine X.add (by rfl) (by rfl) (by omega) (by rfl) ?_
          refine X.mn ?_
          exact hag48 (n48 - 1) (z49 + 1) _ _ (by omega) ⟨by first | omega | (dsimp only; omega), by first | omega | (dsimp only; omega), by first | (rw [hds48]; exact h) | (dsimp only; rw [hds48]; exact h)⟩ (by trivial) (by trivial) (by rfl) (by rfl)
      · rw [drop_endI hza48 hc52] at h
        rw [i_ProjectOk_L3] at h
        refine Run.exit (by rfl) ?_
        exact hmeet44 () _ _ (Option.some.inj h) (by trivial) (by trivial) (by rfl) (by rfl)
    rintro p55 rfl
    replace h := elimL h
    refine Run.seq ?_
    refine R.pubBlk (n := 64) (by rfl) (by rfl) (by repeat (first | trivial | refine ⟨by first | rfl | simp [setL], ?_⟩)) ?_
    refine Run.reg ?_
    refine X.fieldAddr_l fld28_2 (by rfl) (by rfl) ?_
    refine X.ld shp24 ?_
    refine X.makeFunc (by rfl) (by rfl) (by repeat (first | trivial | refine ⟨by first | rfl | simp [setL], ?_⟩)) (by rfl) (by rfl) ?_
    obtain ⟨v57, hv57, h⟩ := bindE h
    refine X.callP (slices_ContainsFunc_Link_pc _ (fun x0 => i_ProjectOk_c1 x0 b0) _ _ (fun x0 v hv => i_ProjectOk_c1_pc _ _ _ hv) _ hv57) (by rfl) (by rfl) (by rfl) (by trivial) (by rfl) (by rfl) (by rfl) (by rfl) ?_
    refine X.un (by rfl) (by rfl) (by rfl) ?_
    refine X.an ?_
    cases h
    refine R.fin1 Tryz.results133 (by rfl) (by rfl) ?_
    rfl
theorem i_SetOk_pc (b0 : List Int) (r : Bool) (h : i_SetOk b0 = some r) : PC Tryz.prog 282 [.slice (b0.map int)] (bool r) := by
  unfold i_SetOk at h
  refine PC.start Tryz.func282 Tryz.ntmps282 rfl ok282 rfl ?_
  refine Run.sr ?_
  refine X.an ?_
  refine Run.seq ?_
  refine Run.sr ?_
  refine X.an ?_
  obtain ⟨o1, ho1, h⟩ := bindE h
  refine R.join2 (β := Unit) [] [] (fun p13 S => S) (fun p13 M => M) (fun p13 => (Sum.inl p13) = o1) ?_ ?_
  · intro JJ4 hmeet3
    have hup2 := h; clear h; have h := ho1; clear ho1
    refine Run.block ?_
    refine R.loop2 (β := Int) [(0, .slice (b0.map int))] [] (fun bb S => (3, int bb) :: S) (fun bb M => M) (fun n bb => i_SetOk_L1 b0 n bb = some o1) F0 1 (by repeat (first | trivial | refine ⟨by first | rfl | simp [setL], ?_⟩)) (by repeat (first | trivial | refine ⟨by first | rfl | simp [setL], ?_⟩)) (by rfl) (by rfl) h ?_
    clear h
    rintro JJ4 n4 a6 hag4 h
    obtain _ | n4 := n4
    · exact absurd h (by simp [i_SetOk_L1])
    rw [i_SetOk_L1] at h
    refine Run.seq ?_
    refine Run.sr ?_
    refine X.mv ?_
    refine X.mv ?_
    refine X.len_s elt26 (by rfl) (by exact List.length_map ..) (by rfl) ?_
    refine X.bi ?_
    refine X.nil ?_
    refine R.cond (by rfl) (fun hc9 => ?_) (fun hc9 => ?_)
    · replace h := condT hc9 h
      refine Run.skip ?_
      refine Run.seq ?_
      refine Run.block ?_
      refine Run.seq ?_
      refine Run.draw (footOf []) mixed (by kernel_rfl) (by kernel_rfl) ?_
      refine X.mv ?_
      refine X.mv ?_
      obtain ⟨v10, hv10, h⟩ := bindE h
      refine X.index_s elt26 (by rfl) (by rfl) (idxL_spec hv10).1 (idxL_map int hv10) (by rfl) (by rfl) (by rfl) ?_
      refine X.load_c shp3 (by rfl) (by rfl) (by rfl) (by rfl) ?_
      refine X.mv ?_
      refine X.mv ?_
      refine X.subW (by rfl) (by rfl) (by rfl) ?_
      obtain ⟨v11, hv11, h⟩ := bindE h
      refine X.index_s elt26 (by rfl) (by rfl) (idxL_spec hv11).1 (idxL_map int hv11) (by rfl) (by rfl) (by rfl) ?_
      refine X.load_c shp3 (by rfl) (by rfl) (by rfl) (by rfl) ?_
      refine X.bi ?_
      refine X.nil ?_
      refine R.cond (by rfl) (fun hc12 => ?_) (fun hc12 => ?_)
      · replace h := condT hc12 h
        refine Run.sr ?_
        refine X.an ?_
        cases h
        have h := hup2
        replace h := elimR h
        cases h
        refine R.fin1 Tryz.results282 (by rfl) (by rfl) ?_
        rfl
      · replace h := condF hc12 h
        refine Run.skip ?_
        refine Run.blk ?_
        refine Run.reg ?_
        refine X.mv ?_
        refine X.addW (by rfl) (by rfl) (by rfl) ?_
        refine X.an ?_
        exact hag4 n4 (W (a6 + 1)) _ _ (by omega) h (by trivial) (by trivial) (by rfl) (by rfl)
    · replace h := condF hc9 h
      refine Run.exit (by rfl) ?_
      exact hmeet3 () _ _ (Option.some.inj h) (by trivial) (by trivial) (by rfl) (by rfl)
  rintro p13 rfl
  replace h := elimL h
  refine Run.sr ?_
  refine X.an ?_
  cases h
  refine R.fin1 Tryz.results282 (by rfl) (by rfl) ?_
  rfl
theorem i_IntRange_pc (b0 : Int) (r : List Int) (h : i_IntRange b0 = some r) : PC Tryz.prog 175 [int b0] (.fresh true 3 1 (r.map int)) := by
  unfold i_IntRange at h
  refine PC.start Tryz.func175 Tryz.ntmps175 rfl ok175 rfl ?_
  refine Run.sr ?_
  refine X.an ?_
  refine Run.seq ?_
  refine Run.sr ?_
  refine X.mv ?_
  obtain ⟨v1, hv1, h⟩ := bindE h
  refine X.callP (i_within_pc _ _ _ _ hv1) (by rfl) (by rfl) (by rfl) (by trivial) (by rfl) (by rfl) (by rfl) (by rfl) ?_
  refine X.un (by rfl) (by rfl) (by rfl) ?_
  refine X.nil ?_
  refine R.cond (by rfl) (fun hc2 => ?_) (fun hc2 => ?_)
  · replace h := condT hc2 h
    refine Run.sr ?_
    refine X.an ?_
    cases h
    refine R.fin1n (x := true) (e := 3) (sz := 1) Tryz.results175 (by rfl) (by decide) ?_
    rfl
  · replace h := condF hc2 h
    refine Run.skip ?_
    refine Run.sr ?_
    refine X.buildSlice true elt26 zer3 (by rfl) (by rfl) (by rfl) (by rfl) (by rfl) (by rfl) (by repeat (first | trivial | refine ⟨by first | rfl | simp [setL], ?_⟩)) (allSz_spec (by rfl)) (by rfl) (by rfl) (by rfl) ?_
    refine X.an ?_
    refine Run.seq ?_
    refine Run.sr ?_
    refine X.mv ?_
    refine X.mn ?_
    obtain ⟨o3, ho3, h⟩ := bindE h
    refine R.join2 (β := (List Int)) [] [] (fun p15 S => (3, .own 512 (p15.map int).length) :: S) (fun p15 M => (512, .obj true 3 1 (p15.map int)) :: M) (fun p15 => p15 = o3) ?_ ?_
    · intro JJ6 hmeet5
      have hup4 := h; clear h; have h := ho3; clear ho3
      refine Run.block ?_
      refine R.loop2 (β := Int × (List Int)) [(9, int b0)] [] (fun bb S => (3, .own 512 (bb.2.map int).length) :: (10, int bb.1) :: S) (fun bb M => (512, .obj true 3 1 (bb.2.map int)) :: M) (fun n bb => i_IntRange_L1 b0 n bb.1 bb.2 = some o3) F0 (0, ([] : List Int)) (by repeat (first | trivial | refine ⟨by first | rfl | simp [setL], ?_⟩)) (by repeat (first | trivial | refine ⟨by first | rfl | simp [setL], ?_⟩)) (by rfl) (by rfl) h ?_
      clear h
      rintro JJ7 n7 ⟨a9, a10⟩ hag7 h
      dsimp only at h
      obtain _ | n7 := n7
      · exact absurd h (by simp [i_IntRange_L1])
      rw [i_IntRange_L1] at h
      refine Run.sr ?_
      refine X.bi ?_
      refine X.nil ?_
      refine Run.seq ?_
      refine R.cond (by rfl) (fun hc13 => ?_) (fun hc13 => ?_)
      · replace h := condT hc13 h
        refine Run.skip ?_
        refine Run.seq ?_
        refine Run.block ?_
        refine Run.sr ?_
        refine X.mv ?_
        refine X.an ?_
        refine Run.reg ?_
        refine X.mv ?_
        refine X.mv ?_
        refine X.buildSlice true elt26 zer3 (by rfl) (by rfl) (by rfl) (by rfl) (by rfl) (by rfl) (by repeat (first | trivial | refine ⟨by first | rfl | simp [setL], ?_⟩)) (allSz_spec (by rfl)) (by rfl) (by rfl) (by rfl) ?_
        obtain ⟨v14, hv14, h⟩ := bindE h
        refine X.append elt26 zer3 (by rfl) (by rfl) (by first | rfl | simp [setL] | omega) (by rfl) (.own _ _ _ _ _ _ (look_mem (by rfl)) (by first | rfl | simp [setL] | omega)) (allSz_spec (by rfl)) (appL_len int hv14) (appL_map int hv14) (by rfl) (by rfl) (by rfl) (by rfl) ?_
        refine X.an ?_
        refine Run.blk ?_
        refine Run.reg ?_
        refine X.addW (by rfl) (by rfl) (by rfl) ?_
        refine X.mn ?_
        exact hag7 n7 ((W (a9 + 1)), v14) _ _ (by omega) h (by repeat (first | trivial | refine ⟨by first | rfl | simp [setL], ?_⟩)) (by repeat (first | trivial | refine ⟨by first | rfl | simp [setL], ?_⟩)) (by rfl) (by rfl)
      · replace h := condF hc13 h
        refine Run.exit (by rfl) ?_
        exact hmeet5 a10 _ _ (Option.some.inj h) (by repeat (first | trivial | refine ⟨by first | rfl | simp [setL], ?_⟩)) (by repeat (first | trivial | refine ⟨by first | rfl | simp [setL], ?_⟩)) (by rfl) (by rfl)
    rintro p15 rfl
    refine Run.sr ?_
    refine X.mv ?_
    refine X.an ?_
    cases h
    refine R.fin1o Tryz.results175 (by rfl) (by rfl) (by first | rfl | simp [setL] | omega) ?_
    rfl
end Go.Px.YtjncefleglnnjaaGreat
