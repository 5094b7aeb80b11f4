/-
  PROVED: contracts of functions of the program over pure values. No condition beyond those that each theorem names.
-/
import Derived.Test.YtjncefleglnnjaaProg
import Derived.Test.YtjncefleglnnjaaD1
namespace Go.Px.Ytjncefleglnnjaa
set_option linter.unusedSimpArgs false
set_option linter.unusedVariables false
open Go.Px Go.Proofs
theorem shp27 : shp Try.prog 27 = some (true, 5) := by kernel_rfl
theorem fld27_1 : fldOff Try.prog 27 1 = some 1 := by kernel_rfl
theorem shp22 : shp Try.prog 22 = some (false, 1) := by kernel_rfl
theorem elt22 : eltOf Try.prog 22 = some (165, 3, 48) := by kernel_rfl
theorem shp165 : shp Try.prog 165 = some (true, 3) := by kernel_rfl
theorem fld165_0 : fldOff Try.prog 165 0 = some 0 := by kernel_rfl
theorem shp9 : shp Try.prog 9 = some (false, 1) := by kernel_rfl
theorem fld165_2 : fldOff Try.prog 165 2 = some 2 := by kernel_rfl
theorem shp163 : shp Try.prog 163 = some (false, 1) := by kernel_rfl
theorem elt163 : eltOf Try.prog 163 = some (224, 3, 56) := by kernel_rfl
theorem shp224 : shp Try.prog 224 = some (true, 3) := by kernel_rfl
theorem fld224_1 : fldOff Try.prog 224 1 = some 1 := by kernel_rfl
theorem shp25 : shp Try.prog 25 = some (false, 1) := by kernel_rfl
theorem elt25 : eltOf Try.prog 25 = some (3, 1, 8) := by kernel_rfl
theorem ok67 : okFn Try.prog 67 = true := by kernel_rfl
theorem fld224_2 : fldOff Try.prog 224 2 = some 2 := by kernel_rfl
theorem ok227 : okFn Try.prog 227 = true := by kernel_rfl
theorem ok196 : okFn Try.prog 196 = true := by kernel_rfl
theorem ok137 : okFn Try.prog 137 = true := by kernel_rfl
theorem ok64 : okFn Try.prog 64 = true := by kernel_rfl
theorem fld27_2 : fldOff Try.prog 27 2 = some 2 := by kernel_rfl
theorem shp23 : shp Try.prog 23 = some (false, 1) := by kernel_rfl
theorem elt23 : eltOf Try.prog 23 = some (179, 4, 32) := by kernel_rfl
theorem ok65 : okFn Try.prog 65 = true := by kernel_rfl
theorem fld27_3 : fldOff Try.prog 27 3 = some 3 := by kernel_rfl
theorem shp24 : shp Try.prog 24 = some (false, 1) := by kernel_rfl
theorem elt24 : eltOf Try.prog 24 = some (169, 2, 48) := by kernel_rfl
theorem shp169 : shp Try.prog 169 = some (true, 2) := by kernel_rfl
theorem fld169_0 : fldOff Try.prog 169 0 = some 0 := by kernel_rfl
theorem shp167 : shp Try.prog 167 = some (false, 1) := by kernel_rfl
theorem elt167 : eltOf Try.prog 167 = some (227, 2, 16) := by kernel_rfl
theorem ok197 : okFn Try.prog 197 = true := by kernel_rfl
theorem fld169_1 : fldOff Try.prog 169 1 = some 1 := by kernel_rfl
theorem shp63 : shp Try.prog 63 = some (false, 1) := by kernel_rfl
theorem elt63 : eltOf Try.prog 63 = some (25, 1, 24) := by kernel_rfl
theorem ok122 : okFn Try.prog 122 = true := by kernel_rfl
theorem ok138 : okFn Try.prog 138 = true := by kernel_rfl
theorem ok66 : okFn Try.prog 66 = true := by kernel_rfl
theorem fld27_4 : fldOff Try.prog 27 4 = some 4 := by kernel_rfl
theorem ok16 : okFn Try.prog 16 = true := by kernel_rfl
theorem zer34 : zeroPV Try.prog 34 = some [.lit (.int .i64 0), .nils, .nils, .nils, .nils] := by kernel_rfl
theorem fld27_0 : fldOff Try.prog 27 0 = some 0 := by kernel_rfl
theorem shp3 : shp Try.prog 3 = some (false, 1) := by kernel_rfl
theorem fld34_0 : fldOff Try.prog 34 0 = some 0 := by kernel_rfl
theorem elt30 : eltOf Try.prog 30 = some (127, 3, 48) := by kernel_rfl
theorem zer127 : zeroPV Try.prog 127 = some [.lit (.string ByteArray.empty), .lit (.int .i64 0), .nils] := by kernel_rfl
theorem fld127_0 : fldOff Try.prog 127 0 = some 0 := by kernel_rfl
theorem fld165_1 : fldOff Try.prog 165 1 = some 1 := by kernel_rfl
theorem fld127_1 : fldOff Try.prog 127 1 = some 1 := by kernel_rfl
theorem elt125 : eltOf Try.prog 125 = some (129, 3, 56) := by kernel_rfl
theorem zer129 : zeroPV Try.prog 129 = some [.lit (.int .i64 0), .nils, .nils] := by kernel_rfl
theorem fld224_0 : fldOff Try.prog 224 0 = some 0 := by kernel_rfl
theorem fld129_0 : fldOff Try.prog 129 0 = some 0 := by kernel_rfl
theorem zer3 : zeroPV Try.prog 3 = some [.lit (.int .i64 0)] := by kernel_rfl
theorem ok74 : okFn Try.prog 74 = true := by kernel_rfl
theorem fld129_1 : fldOff Try.prog 129 1 = some 1 := by kernel_rfl
theorem fld129_2 : fldOff Try.prog 129 2 = some 2 := by kernel_rfl
theorem shp129 : shp Try.prog 129 = some (true, 3) := by kernel_rfl
theorem ok229 : okFn Try.prog 229 = true := by kernel_rfl
theorem ok201 : okFn Try.prog 201 = true := by kernel_rfl
theorem fld127_2 : fldOff Try.prog 127 2 = some 2 := by kernel_rfl
theorem shp125 : shp Try.prog 125 = some (false, 1) := by kernel_rfl
theorem shp127 : shp Try.prog 127 = some (true, 3) := by kernel_rfl
theorem ok144 : okFn Try.prog 144 = true := by kernel_rfl
theorem ok71 : okFn Try.prog 71 = true := by kernel_rfl
theorem fld34_1 : fldOff Try.prog 34 1 = some 1 := by kernel_rfl
theorem shp30 : shp Try.prog 30 = some (false, 1) := by kernel_rfl
theorem elt31 : eltOf Try.prog 31 = some (174, 4, 32) := by kernel_rfl
theorem zer174 : zeroPV Try.prog 174 = some [.lit (.int .i64 0), .lit (.int .i64 0), .lit (.bool false), .lit (.int .i64 0)] := by kernel_rfl
theorem shp179 : shp Try.prog 179 = some (true, 4) := by kernel_rfl
theorem fld179_0 : fldOff Try.prog 179 0 = some 0 := by kernel_rfl
theorem fld174_0 : fldOff Try.prog 174 0 = some 0 := by kernel_rfl
theorem fld179_1 : fldOff Try.prog 179 1 = some 1 := by kernel_rfl
theorem fld174_1 : fldOff Try.prog 174 1 = some 1 := by kernel_rfl
theorem fld179_2 : fldOff Try.prog 179 2 = some 2 := by kernel_rfl
theorem shp4 : shp Try.prog 4 = some (false, 1) := by kernel_rfl
theorem fld174_2 : fldOff Try.prog 174 2 = some 2 := by kernel_rfl
theorem fld179_3 : fldOff Try.prog 179 3 = some 3 := by kernel_rfl
theorem fld174_3 : fldOff Try.prog 174 3 = some 3 := by kernel_rfl
theorem shp174 : shp Try.prog 174 = some (true, 4) := by kernel_rfl
theorem ok145 : okFn Try.prog 145 = true := by kernel_rfl
theorem ok72 : okFn Try.prog 72 = true := by kernel_rfl
theorem fld34_2 : fldOff Try.prog 34 2 = some 2 := by kernel_rfl
theorem shp31 : shp Try.prog 31 = some (false, 1) := by kernel_rfl
theorem elt32 : eltOf Try.prog 32 = some (115, 2, 48) := by kernel_rfl
theorem zer115 : zeroPV Try.prog 115 = some [.nils, .nils] := by kernel_rfl
theorem elt113 : eltOf Try.prog 113 = some (208, 2, 16) := by kernel_rfl
theorem zer208 : zeroPV Try.prog 208 = some [.lit (.int .i64 0), .lit (.int .i64 0)] := by kernel_rfl
theorem shp227 : shp Try.prog 227 = some (true, 2) := by kernel_rfl
theorem fld227_0 : fldOff Try.prog 227 0 = some 0 := by kernel_rfl
theorem fld208_0 : fldOff Try.prog 208 0 = some 0 := by kernel_rfl
theorem fld227_1 : fldOff Try.prog 227 1 = some 1 := by kernel_rfl
theorem fld208_1 : fldOff Try.prog 208 1 = some 1 := by kernel_rfl
theorem shp208 : shp Try.prog 208 = some (true, 2) := by kernel_rfl
theorem ok230 : okFn Try.prog 230 = true := by kernel_rfl
theorem ok202 : okFn Try.prog 202 = true := by kernel_rfl
theorem fld115_0 : fldOff Try.prog 115 0 = some 0 := by kernel_rfl
theorem shp113 : shp Try.prog 113 = some (false, 1) := by kernel_rfl
theorem zer25 : zeroPV Try.prog 25 = some [.nils] := by kernel_rfl
theorem ok125 : okFn Try.prog 125 = true := by kernel_rfl
theorem fld115_1 : fldOff Try.prog 115 1 = some 1 := by kernel_rfl
theorem shp115 : shp Try.prog 115 = some (true, 2) := by kernel_rfl
theorem ok146 : okFn Try.prog 146 = true := by kernel_rfl
theorem ok73 : okFn Try.prog 73 = true := by kernel_rfl
theorem fld34_3 : fldOff Try.prog 34 3 = some 3 := by kernel_rfl
theorem shp32 : shp Try.prog 32 = some (false, 1) := by kernel_rfl
theorem fld34_4 : fldOff Try.prog 34 4 = some 4 := by kernel_rfl
theorem shp34 : shp Try.prog 34 = some (true, 5) := by kernel_rfl
theorem ok18 : okFn Try.prog 18 = true := by kernel_rfl
theorem ok69 : okFn Try.prog 69 = true := by kernel_rfl
theorem ok228 : okFn Try.prog 228 = true := by kernel_rfl
theorem ok198 : okFn Try.prog 198 = true := by kernel_rfl
theorem ok199 : okFn Try.prog 199 = true := by kernel_rfl
theorem ok139 : okFn Try.prog 139 = true := by kernel_rfl
theorem ok140 : okFn Try.prog 140 = true := by kernel_rfl
theorem mixed : Try.prog.follows .mixedOrders = true := by kernel_rfl
theorem ok200 : okFn Try.prog 200 = true := by kernel_rfl
theorem ok141 : okFn Try.prog 141 = true := by kernel_rfl
theorem ok68 : okFn Try.prog 68 = true := by kernel_rfl
theorem ok147 : okFn Try.prog 147 = true := by kernel_rfl
theorem ok208 : okFn Try.prog 208 = true := by kernel_rfl
theorem ok231 : okFn Try.prog 231 = true := by kernel_rfl
theorem ok203 : okFn Try.prog 203 = true := by kernel_rfl
theorem ok204 : okFn Try.prog 204 = true := by kernel_rfl
theorem ok148 : okFn Try.prog 148 = true := by kernel_rfl
theorem ok206 : okFn Try.prog 206 = true := by kernel_rfl
theorem ok205 : okFn Try.prog 205 = true := by kernel_rfl
theorem ok149 : okFn Try.prog 149 = true := by kernel_rfl
theorem ok155 : okFn Try.prog 155 = true := by kernel_rfl
theorem ok154 : okFn Try.prog 154 = true := by kernel_rfl
theorem ok150 : okFn Try.prog 150 = true := by kernel_rfl
theorem ok83 : okFn Try.prog 83 = true := by kernel_rfl
theorem ok153 : okFn Try.prog 153 = true := by kernel_rfl
theorem ok152 : okFn Try.prog 152 = true := by kernel_rfl
theorem ok207 : okFn Try.prog 207 = true := by kernel_rfl
theorem ok151 : okFn Try.prog 151 = true := by kernel_rfl
theorem ok75 : okFn Try.prog 75 = true := by kernel_rfl
theorem ok81 : okFn Try.prog 81 = true := by kernel_rfl
theorem ok232 : okFn Try.prog 232 = true := by kernel_rfl
theorem ok209 : okFn Try.prog 209 = true := by kernel_rfl
theorem ok157 : okFn Try.prog 157 = true := by kernel_rfl
theorem ok78 : okFn Try.prog 78 = true := by kernel_rfl
theorem ok158 : okFn Try.prog 158 = true := by kernel_rfl
theorem ok79 : okFn Try.prog 79 = true := by kernel_rfl
theorem ok233 : okFn Try.prog 233 = true := by kernel_rfl
theorem ok210 : okFn Try.prog 210 = true := by kernel_rfl
theorem ok128 : okFn Try.prog 128 = true := by kernel_rfl
theorem ok159 : okFn Try.prog 159 = true := by kernel_rfl
theorem ok80 : okFn Try.prog 80 = true := by kernel_rfl
theorem ok20 : okFn Try.prog 20 = true := by kernel_rfl
theorem zer55 : zeroPV Try.prog 55 = some [.nils, .nils, .nils] := by kernel_rfl
theorem fld53_0 : fldOff Try.prog 53 0 = some 0 := by kernel_rfl
theorem fld53_1 : fldOff Try.prog 53 1 = some 1 := by kernel_rfl
theorem shp53 : shp Try.prog 53 = some (true, 2) := by kernel_rfl
theorem fld55_0 : fldOff Try.prog 55 0 = some 0 := by kernel_rfl
theorem fld55_1 : fldOff Try.prog 55 1 = some 2 := by kernel_rfl
theorem shp55 : shp Try.prog 55 = some (true, 3) := by kernel_rfl
theorem ok100 : okFn Try.prog 100 = true := by kernel_rfl
theorem ok32 : okFn Try.prog 32 = true := by kernel_rfl
theorem pl55 : fldPlaces Try.prog 55 = some [(0, 2), (2, 1)] := by kernel_rfl
theorem ok33 : okFn Try.prog 33 = true := by kernel_rfl
theorem ok34 : okFn Try.prog 34 = true := by kernel_rfl
theorem elt215 : eltOf Try.prog 215 = some (5, 1, 1) := by kernel_rfl
theorem zer5 : zeroPV Try.prog 5 = some [.lit (.int .u8 0)] := by kernel_rfl
theorem ok167 : okFn Try.prog 167 = true := by kernel_rfl
theorem ok104 : okFn Try.prog 104 = true := by kernel_rfl
theorem ok168 : okFn Try.prog 168 = true := by kernel_rfl
theorem ok101 : okFn Try.prog 101 = true := by kernel_rfl
theorem ok102 : okFn Try.prog 102 = true := by kernel_rfl
theorem ok169 : okFn Try.prog 169 = true := by kernel_rfl
theorem ok170 : okFn Try.prog 170 = true := by kernel_rfl
theorem ok103 : okFn Try.prog 103 = true := by kernel_rfl
theorem ok35 : okFn Try.prog 35 = true := by kernel_rfl
theorem ok105 : okFn Try.prog 105 = true := by kernel_rfl
theorem ok36 : okFn Try.prog 36 = true := by kernel_rfl
theorem ok107 : okFn Try.prog 107 = true := by kernel_rfl
theorem ok106 : okFn Try.prog 106 = true := by kernel_rfl
theorem ok37 : okFn Try.prog 37 = true := by kernel_rfl
theorem ok7 : okFn Try.prog 7 = true := by kernel_rfl
theorem w_szIntS_pc (b0 : List Int) (b1 : Int) (r : Int) (h : w_szIntS b0 b1 = some r) : PC Try.prog 67 [.slice (b0.map int), int b1] (int r) := by
  unfold w_szIntS at h
  refine PC.start Try.func67 Try.ntmps67 rfl ok67 rfl ?_
  refine Run.seq ?_
  refine Run.reg ?_
  refine X.assign (by rfl) (by rfl) ?_
  refine X.nil ?_
  refine Run.seq ?_
  refine Run.reg ?_
  refine X.move (by rfl) (by rfl) ?_
  refine X.move (by rfl) (by rfl) ?_
  refine X.len_s elt25 (by rfl) (by exact List.length_map ..) (by rfl) ?_
  refine X.subW (by rfl) (by rfl) (by rfl) ?_
  refine X.assign (by rfl) (by rfl) ?_
  refine X.nil ?_
  refine Run.seq ?_
  refine Run.seq ?_
  refine Run.reg ?_
  refine X.move (by rfl) (by rfl) ?_
  refine X.bin (by rfl) (by rfl) (by rfl) (by rfl) (by intro h; cases h) (by rfl) ?_
  refine X.nil ?_
  refine R.cond (by rfl) (fun hc1 => ?_) (fun hc1 => ?_)
  · replace h := condT hc1 h
    refine Run.seq ?_
    refine Run.reg ?_
    refine X.assign (by rfl) (by rfl) ?_
    refine X.nil ?_
    cases h
    refine R.fin1 Try.results67 (by rfl) (by rfl) ?_
    rfl
  · replace h := condF hc1 h
    refine Run.skip ?_
    refine Run.seq ?_
    refine Run.reg ?_
    refine X.move (by rfl) (by rfl) ?_
    refine X.assign (by rfl) (by rfl) ?_
    refine X.nil ?_
    cases h
    refine R.fin1 Try.results67 (by rfl) (by rfl) ?_
    rfl
theorem w_szMode_pc (b0 : TMode) (b1 : Int) (r : Int) (h : w_szMode b0 b1 = some r) : PC Try.prog 227 [eTMode b0, int b1] (int r) := by
  unfold w_szMode at h
  refine PC.start Try.func227 Try.ntmps227 rfl ok227 rfl ?_
  refine Run.seq ?_
  refine Run.reg ?_
  refine X.box (by rfl) (by rfl) (by repeat (first | trivial | refine ⟨by first | rfl | simp [setL], ?_⟩)) (by rfl) (by rfl) (by rfl) (by rfl) ?_
  refine X.assign (by rfl) (by rfl) ?_
  refine X.nil ?_
  refine Run.seq ?_
  refine Run.reg ?_
  refine X.fieldAddr_l fld224_1 (by rfl) (by rfl) ?_
  refine X.load_l shp25 (by rfl) (by rfl) (by rfl) (by rfl) (by rfl) (by rfl) ?_
  refine X.move (by rfl) (by rfl) ?_
  obtain ⟨v1, hv1, h⟩ := bindE h
  refine X.callP (w_szIntS_pc _ _ _ hv1) (by rfl) (by rfl) (by rfl) (by trivial) (by rfl) (by rfl) (by rfl) (by rfl) ?_
  refine X.assign (by rfl) (by rfl) ?_
  refine X.nil ?_
  refine Run.seq ?_
  refine Run.seq ?_
  refine Run.reg ?_
  refine X.move (by rfl) (by rfl) ?_
  refine X.bin (by rfl) (by rfl) (by rfl) (by rfl) (by intro h; cases h) (by rfl) ?_
  refine X.nil ?_
  refine R.cond (by rfl) (fun hc2 => ?_) (fun hc2 => ?_)
  · replace h := condT hc2 h
    refine Run.seq ?_
    refine Run.reg ?_
    refine X.assign (by rfl) (by rfl) ?_
    refine X.nil ?_
    cases h
    refine R.fin1 Try.results227 (by rfl) (by rfl) ?_
    rfl
  · replace h := condF hc2 h
    refine Run.skip ?_
    refine Run.seq ?_
    refine Run.reg ?_
    refine X.fieldAddr_l fld224_2 (by rfl) (by rfl) ?_
    refine X.load_l shp25 (by rfl) (by rfl) (by rfl) (by rfl) (by rfl) (by rfl) ?_
    refine X.move (by rfl) (by rfl) ?_
    obtain ⟨v3, hv3, h⟩ := bindE h
    refine X.callP (w_szIntS_pc _ _ _ hv3) (by rfl) (by rfl) (by rfl) (by trivial) (by rfl) (by rfl) (by rfl) (by rfl) ?_
    refine X.assign (by rfl) (by rfl) ?_
    refine X.nil ?_
    refine Run.seq ?_
    refine Run.seq ?_
    refine Run.reg ?_
    refine X.move (by rfl) (by rfl) ?_
    refine X.bin (by rfl) (by rfl) (by rfl) (by rfl) (by intro h; cases h) (by rfl) ?_
    refine X.nil ?_
    refine R.cond (by rfl) (fun hc4 => ?_) (fun hc4 => ?_)
    · replace h := condT hc4 h
      refine Run.seq ?_
      refine Run.reg ?_
      refine X.assign (by rfl) (by rfl) ?_
      refine X.nil ?_
      cases h
      refine R.fin1 Try.results227 (by rfl) (by rfl) ?_
      rfl
    · replace h := condF hc4 h
      refine Run.skip ?_
      refine Run.seq ?_
      refine Run.reg ?_
      refine X.move (by rfl) (by rfl) ?_
      refine X.assign (by rfl) (by rfl) ?_
      refine X.nil ?_
      cases h
      refine R.fin1 Try.results227 (by rfl) (by rfl) ?_
      rfl
theorem w_szModeS_pc (b0 : List TMode) (b1 : Int) (r : Int) (h : w_szModeS b0 b1 = some r) : PC Try.prog 196 [.slice (b0.map eTMode), int b1] (int r) := by
  unfold w_szModeS at h
  refine PC.start Try.func196 Try.ntmps196 rfl ok196 rfl ?_
  refine Run.seq ?_
  refine Run.reg ?_
  refine X.assign (by rfl) (by rfl) ?_
  refine X.nil ?_
  refine Run.seq ?_
  refine Run.reg ?_
  refine X.move (by rfl) (by rfl) ?_
  refine X.move (by rfl) (by rfl) ?_
  refine X.len_s elt163 (by rfl) (by exact List.length_map ..) (by rfl) ?_
  refine X.subW (by rfl) (by rfl) (by rfl) ?_
  refine X.assign (by rfl) (by rfl) ?_
  refine X.nil ?_
  refine Run.seq ?_
  refine Run.seq ?_
  refine Run.reg ?_
  refine X.move (by rfl) (by rfl) ?_
  refine X.bin (by rfl) (by rfl) (by rfl) (by rfl) (by intro h; cases h) (by rfl) ?_
  refine X.nil ?_
  refine R.cond (by rfl) (fun hc1 => ?_) (fun hc1 => ?_)
  · replace h := condT hc1 h
    refine Run.seq ?_
    refine Run.reg ?_
    refine X.assign (by rfl) (by rfl) ?_
    refine X.nil ?_
    cases h
    refine R.fin1 Try.results196 (by rfl) (by rfl) ?_
    rfl
  · replace h := condF hc1 h
    refine Run.skip ?_
    refine Run.seq ?_
    refine Run.seq ?_
    refine Run.reg ?_
    refine X.assign (by rfl) (by rfl) ?_
    refine X.nil ?_
    obtain ⟨o2, ho2, h⟩ := bindE h
    refine R.join2 (β := Int) [] [] (fun p16 S => (1, int p16) :: S) (fun p16 M => M) (fun p16 => (Sum.inl p16) = o2) ?_ ?_
    · intro JJ5 hmeet4
      have hup3 := h; clear h; have h := ho2; clear ho2
      refine Run.block ?_
      refine R.bndS (t := 0) (by rfl) (fun hbd8 => ?_)
      replace hbd8 : b0.length ≤ 9223372036854775807 := by first | (rw [List.length_map] at hbd8; exact hbd8) | simp
      refine R.loop2 (β := Int × Int) [(0, .slice (b0.map eTMode))] [] (fun bb S => (1, int bb.2) :: (5, int bb.1) :: S) (fun bb M => M) (fun n bb => 0 ≤ bb.1 ∧ bb.1 + n = (b0.length : Int) ∧ w_szModeS_L1 (b0.drop bb.1.toNat) bb.1 bb.2 = some o2) b0.length (0, (W (b1 - (b0.length : Int)))) (by repeat (first | trivial | refine ⟨by first | rfl | simp [setL], ?_⟩)) (by repeat (first | trivial | refine ⟨by first | rfl | simp [setL], ?_⟩)) (by rfl) (by rfl) ⟨Int.le_refl _, by simp, h⟩ ?_
      clear h
      rintro JJ8 n8 ⟨z9, a10⟩ hag8 ⟨hza8, hzb8, h⟩
      dsimp only at hza8 hzb8 h
      refine Run.seq ?_
      refine Run.seq ?_
      refine Run.reg ?_
      refine X.move (by rfl) (by rfl) ?_
      refine X.move (by rfl) (by rfl) ?_
      refine X.len_s elt163 (by rfl) (by exact List.length_map ..) (by rfl) ?_
      refine X.bin (by rfl) (by rfl) (by rfl) (by rfl) (by intro h; cases h) (by rfl) ?_
      refine X.nil ?_
      refine R.cond (by rfl) (fun hc13 => ?_) (fun hc13 => ?_)
      · obtain ⟨x11, xs12, hd8, hx8, hds8, hlt8⟩ := drop_atI hza8 hc13
        rw [hd8] at h
        rw [w_szModeS_L1] at h
        refine Run.skip ?_
        refine Run.seq ?_
        refine Run.block ?_
        refine Run.seq ?_
        refine Run.reg ?_
        refine X.move (by rfl) (by rfl) ?_
        refine X.move (by rfl) (by rfl) ?_
        refine X.index_s elt163 (by rfl) (by rfl) (idxL_spec hx8).1 (idxL_map eTMode hx8) (by rfl) (by rfl) (by rfl) ?_
        refine X.load_c shp224 (by rfl) (by rfl) (by rfl) (by rfl) ?_
        refine X.move (by rfl) (by rfl) ?_
        obtain ⟨v14, hv14, h⟩ := bindE h
        refine X.callP (w_szMode_pc _ _ _ hv14) (by rfl) (by rfl) (by rfl) (by trivial) (by rfl) (by rfl) (by rfl) (by rfl) ?_
        refine X.assign (by rfl) (by rfl) ?_
        refine X.nil ?_
        refine Run.seq ?_
        refine Run.reg ?_
        refine X.move (by rfl) (by rfl) ?_
        refine X.bin (by rfl) (by rfl) (by rfl) (by rfl) (by intro h; cases h) (by rfl) ?_
        refine X.nil ?_
        refine R.cond (by rfl) (fun hc15 => ?_) (fun hc15 => ?_)
        · replace h := condT hc15 h
          refine Run.seq ?_
          refine Run.reg ?_
          refine X.assign (by rfl) (by rfl) ?_
          refine X.nil ?_
          cases h
          have h := hup3
          replace h := elimR h
          cases h
          refine R.fin1 Try.results196 (by rfl) (by rfl) ?_
          rfl
        · replace h := condF hc15 h
          refine Run.skip ?_
          refine Run.blk ?_
          refine Run.reg ?_
          refine X.move (by rfl) (by rfl) ?_
          refine X.add (by rfl) (by rfl) (by omega) (by rfl) ?_
          refine X.assign (by rfl) (by rfl) ?_
          refine X.nil ?_
          exact hag8 (n8 - 1) (z9 + 1, v14) _ _ (by omega) ⟨by first | omega | (dsimp only; omega), by first | omega | (dsimp only; omega), by first | (rw [hds8]; exact h) | (dsimp only; rw [hds8]; exact h)⟩ (by trivial) (by trivial) (by rfl) (by rfl)
      · rw [drop_endI hza8 hc13] at h
        rw [w_szModeS_L1] at h
        refine Run.exit (by rfl) ?_
        exact hmeet4 a10 _ _ (Option.some.inj h) (by trivial) (by trivial) (by rfl) (by rfl)
    rintro p16 rfl
    replace h := elimL h
    refine Run.seq ?_
    refine Run.reg ?_
    refine X.move (by rfl) (by rfl) ?_
    refine X.assign (by rfl) (by rfl) ?_
    refine X.nil ?_
    cases h
    refine R.fin1 Try.results196 (by rfl) (by rfl) ?_
    rfl
theorem w_szActivity_pc (b0 : TActivity) (b1 : Int) (r : Int) (h : w_szActivity b0 b1 = some r) : PC Try.prog 137 [eTActivity b0, int b1] (int r) := by
  unfold w_szActivity at h
  refine PC.start Try.func137 Try.ntmps137 rfl ok137 rfl ?_
  refine Run.seq ?_
  refine Run.reg ?_
  refine X.box (by rfl) (by rfl) (by repeat (first | trivial | refine ⟨by first | rfl | simp [setL], ?_⟩)) (by rfl) (by rfl) (by rfl) (by rfl) ?_
  refine X.assign (by rfl) (by rfl) ?_
  refine X.nil ?_
  refine Run.seq ?_
  refine Run.reg ?_
  refine X.move (by rfl) (by rfl) ?_
  refine X.fieldAddr_l fld165_0 (by rfl) (by rfl) ?_
  refine X.load_l shp9 (by rfl) (by rfl) (by rfl) (by rfl) (by rfl) (by rfl) ?_
  refine X.lenStr Try.underlying9 (by rfl) (by rfl) ?_
  refine X.subW (by rfl) (by rfl) (by rfl) ?_
  refine X.assign (by rfl) (by rfl) ?_
  refine X.nil ?_
  refine Run.seq ?_
  refine Run.seq ?_
  refine Run.reg ?_
  refine X.move (by rfl) (by rfl) ?_
  refine X.bin (by rfl) (by rfl) (by rfl) (by rfl) (by intro h; cases h) (by rfl) ?_
  refine X.nil ?_
  refine R.cond (by rfl) (fun hc1 => ?_) (fun hc1 => ?_)
  · replace h := condT hc1 h
    refine Run.seq ?_
    refine Run.reg ?_
    refine X.assign (by rfl) (by rfl) ?_
    refine X.nil ?_
    cases h
    refine R.fin1 Try.results137 (by rfl) (by rfl) ?_
    rfl
  · replace h := condF hc1 h
    refine Run.skip ?_
    refine Run.seq ?_
    refine Run.reg ?_
    refine X.fieldAddr_l fld165_2 (by rfl) (by rfl) ?_
    refine X.load_l shp163 (by rfl) (by rfl) (by rfl) (by rfl) (by rfl) (by rfl) ?_
    refine X.move (by rfl) (by rfl) ?_
    obtain ⟨v2, hv2, h⟩ := bindE h
    refine X.callP (w_szModeS_pc _ _ _ hv2) (by rfl) (by rfl) (by rfl) (by trivial) (by rfl) (by rfl) (by rfl) (by rfl) ?_
    refine X.assign (by rfl) (by rfl) ?_
    refine X.nil ?_
    refine Run.seq ?_
    refine Run.seq ?_
    refine Run.reg ?_
    refine X.move (by rfl) (by rfl) ?_
    refine X.bin (by rfl) (by rfl) (by rfl) (by rfl) (by intro h; cases h) (by rfl) ?_
    refine X.nil ?_
    refine R.cond (by rfl) (fun hc3 => ?_) (fun hc3 => ?_)
    · replace h := condT hc3 h
      refine Run.seq ?_
      refine Run.reg ?_
      refine X.assign (by rfl) (by rfl) ?_
      refine X.nil ?_
      cases h
      refine R.fin1 Try.results137 (by rfl) (by rfl) ?_
      rfl
    · replace h := condF hc3 h
      refine Run.skip ?_
      refine Run.seq ?_
      refine Run.reg ?_
      refine X.move (by rfl) (by rfl) ?_
      refine X.assign (by rfl) (by rfl) ?_
      refine X.nil ?_
      cases h
      refine R.fin1 Try.results137 (by rfl) (by rfl) ?_
      rfl
theorem w_szActivityS_pc (b0 : List TActivity) (b1 : Int) (r : Int) (h : w_szActivityS b0 b1 = some r) : PC Try.prog 64 [.slice (b0.map eTActivity), int b1] (int r) := by
  unfold w_szActivityS at h
  refine PC.start Try.func64 Try.ntmps64 rfl ok64 rfl ?_
  refine Run.seq ?_
  refine Run.reg ?_
  refine X.assign (by rfl) (by rfl) ?_
  refine X.nil ?_
  refine Run.seq ?_
  refine Run.reg ?_
  refine X.move (by rfl) (by rfl) ?_
  refine X.move (by rfl) (by rfl) ?_
  refine X.len_s elt22 (by rfl) (by exact List.length_map ..) (by rfl) ?_
  refine X.subW (by rfl) (by rfl) (by rfl) ?_
  refine X.assign (by rfl) (by rfl) ?_
  refine X.nil ?_
  refine Run.seq ?_
  refine Run.seq ?_
  refine Run.reg ?_
  refine X.move (by rfl) (by rfl) ?_
  refine X.bin (by rfl) (by rfl) (by rfl) (by rfl) (by intro h; cases h) (by rfl) ?_
  refine X.nil ?_
  refine R.cond (by rfl) (fun hc1 => ?_) (fun hc1 => ?_)
  · replace h := condT hc1 h
    refine Run.seq ?_
    refine Run.reg ?_
    refine X.assign (by rfl) (by rfl) ?_
    refine X.nil ?_
    cases h
    refine R.fin1 Try.results64 (by rfl) (by rfl) ?_
    rfl
  · replace h := condF hc1 h
    refine Run.skip ?_
    refine Run.seq ?_
    refine Run.seq ?_
    refine Run.reg ?_
    refine X.assign (by rfl) (by rfl) ?_
    refine X.nil ?_
    obtain ⟨o2, ho2, h⟩ := bindE h
    refine R.join2 (β := Int) [] [] (fun p16 S => (1, int p16) :: S) (fun p16 M => M) (fun p16 => (Sum.inl p16) = o2) ?_ ?_
    · intro JJ5 hmeet4
      have hup3 := h; clear h; have h := ho2; clear ho2
      refine Run.block ?_
      refine R.bndS (t := 0) (by rfl) (fun hbd8 => ?_)
      replace hbd8 : b0.length ≤ 9223372036854775807 := by first | (rw [List.length_map] at hbd8; exact hbd8) | simp
      refine R.loop2 (β := Int × Int) [(0, .slice (b0.map eTActivity))] [] (fun bb S => (1, int bb.2) :: (5, int bb.1) :: S) (fun bb M => M) (fun n bb => 0 ≤ bb.1 ∧ bb.1 + n = (b0.length : Int) ∧ w_szActivityS_L1 (b0.drop bb.1.toNat) bb.1 bb.2 = some o2) b0.length (0, (W (b1 - (b0.length : Int)))) (by repeat (first | trivial | refine ⟨by first | rfl | simp [setL], ?_⟩)) (by repeat (first | trivial | refine ⟨by first | rfl | simp [setL], ?_⟩)) (by rfl) (by rfl) ⟨Int.le_refl _, by simp, h⟩ ?_
      clear h
      rintro JJ8 n8 ⟨z9, a10⟩ hag8 ⟨hza8, hzb8, h⟩
      dsimp only at hza8 hzb8 h
      refine Run.seq ?_
      refine Run.seq ?_
      refine Run.reg ?_
      refine X.move (by rfl) (by rfl) ?_
      refine X.move (by rfl) (by rfl) ?_
      refine X.len_s elt22 (by rfl) (by exact List.length_map ..) (by rfl) ?_
      refine X.bin (by rfl) (by rfl) (by rfl) (by rfl) (by intro h; cases h) (by rfl) ?_
      refine X.nil ?_
      refine R.cond (by rfl) (fun hc13 => ?_) (fun hc13 => ?_)
      · obtain ⟨x11, xs12, hd8, hx8, hds8, hlt8⟩ := drop_atI hza8 hc13
        rw [hd8] at h
        rw [w_szActivityS_L1] at h
        refine Run.skip ?_
        refine Run.seq ?_
        refine Run.block ?_
        refine Run.seq ?_
        refine Run.reg ?_
        refine X.move (by rfl) (by rfl) ?_
        refine X.move (by rfl) (by rfl) ?_
        refine X.index_s elt22 (by rfl) (by rfl) (idxL_spec hx8).1 (idxL_map eTActivity hx8) (by rfl) (by rfl) (by rfl) ?_
        refine X.load_c shp165 (by rfl) (by rfl) (by rfl) (by rfl) ?_
        refine X.move (by rfl) (by rfl) ?_
        obtain ⟨v14, hv14, h⟩ := bindE h
        refine X.callP (w_szActivity_pc _ _ _ hv14) (by rfl) (by rfl) (by rfl) (by trivial) (by rfl) (by rfl) (by rfl) (by rfl) ?_
        refine X.assign (by rfl) (by rfl) ?_
        refine X.nil ?_
        refine Run.seq ?_
        refine Run.reg ?_
        refine X.move (by rfl) (by rfl) ?_
        refine X.bin (by rfl) (by rfl) (by rfl) (by rfl) (by intro h; cases h) (by rfl) ?_
        refine X.nil ?_
        refine R.cond (by rfl) (fun hc15 => ?_) (fun hc15 => ?_)
        · replace h := condT hc15 h
          refine Run.seq ?_
          refine Run.reg ?_
          refine X.assign (by rfl) (by rfl) ?_
          refine X.nil ?_
          cases h
          have h := hup3
          replace h := elimR h
          cases h
          refine R.fin1 Try.results64 (by rfl) (by rfl) ?_
          rfl
        · replace h := condF hc15 h
          refine Run.skip ?_
          refine Run.blk ?_
          refine Run.reg ?_
          refine X.move (by rfl) (by rfl) ?_
          refine X.add (by rfl) (by rfl) (by omega) (by rfl) ?_
          refine X.assign (by rfl) (by rfl) ?_
          refine X.nil ?_
          exact hag8 (n8 - 1) (z9 + 1, v14) _ _ (by omega) ⟨by first | omega | (dsimp only; omega), by first | omega | (dsimp only; omega), by first | (rw [hds8]; exact h) | (dsimp only; rw [hds8]; exact h)⟩ (by trivial) (by trivial) (by rfl) (by rfl)
      · rw [drop_endI hza8 hc13] at h
        rw [w_szActivityS_L1] at h
        refine Run.exit (by rfl) ?_
        exact hmeet4 a10 _ _ (Option.some.inj h) (by trivial) (by trivial) (by rfl) (by rfl)
    rintro p16 rfl
    replace h := elimL h
    refine Run.seq ?_
    refine Run.reg ?_
    refine X.move (by rfl) (by rfl) ?_
    refine X.assign (by rfl) (by rfl) ?_
    refine X.nil ?_
    cases h
    refine R.fin1 Try.results64 (by rfl) (by rfl) ?_
    rfl
theorem w_szLinkS_pc (b0 : List TLink) (b1 : Int) (r : Int) (h : w_szLinkS b0 b1 = some r) : PC Try.prog 65 [.slice (b0.map eTLink), int b1] (int r) := by
  unfold w_szLinkS at h
  refine PC.start Try.func65 Try.ntmps65 rfl ok65 rfl ?_
  refine Run.seq ?_
  refine Run.reg ?_
  refine X.assign (by rfl) (by rfl) ?_
  refine X.nil ?_
  refine Run.seq ?_
  refine Run.reg ?_
  refine X.move (by rfl) (by rfl) ?_
  refine X.move (by rfl) (by rfl) ?_
  refine X.len_s elt23 (by rfl) (by exact List.length_map ..) (by rfl) ?_
  refine X.subW (by rfl) (by rfl) (by rfl) ?_
  refine X.assign (by rfl) (by rfl) ?_
  refine X.nil ?_
  refine Run.seq ?_
  refine Run.seq ?_
  refine Run.reg ?_
  refine X.move (by rfl) (by rfl) ?_
  refine X.bin (by rfl) (by rfl) (by rfl) (by rfl) (by intro h; cases h) (by rfl) ?_
  refine X.nil ?_
  refine R.cond (by rfl) (fun hc1 => ?_) (fun hc1 => ?_)
  · replace h := condT hc1 h
    refine Run.seq ?_
    refine Run.reg ?_
    refine X.assign (by rfl) (by rfl) ?_
    refine X.nil ?_
    cases h
    refine R.fin1 Try.results65 (by rfl) (by rfl) ?_
    rfl
  · replace h := condF hc1 h
    refine Run.skip ?_
    refine Run.seq ?_
    refine Run.reg ?_
    refine X.move (by rfl) (by rfl) ?_
    refine X.assign (by rfl) (by rfl) ?_
    refine X.nil ?_
    cases h
    refine R.fin1 Try.results65 (by rfl) (by rfl) ?_
    rfl
theorem w_szStepS_pc (b0 : List TStep) (b1 : Int) (r : Int) (h : w_szStepS b0 b1 = some r) : PC Try.prog 197 [.slice (b0.map eTStep), int b1] (int r) := by
  unfold w_szStepS at h
  refine PC.start Try.func197 Try.ntmps197 rfl ok197 rfl ?_
  refine Run.seq ?_
  refine Run.reg ?_
  refine X.assign (by rfl) (by rfl) ?_
  refine X.nil ?_
  refine Run.seq ?_
  refine Run.reg ?_
  refine X.move (by rfl) (by rfl) ?_
  refine X.move (by rfl) (by rfl) ?_
  refine X.len_s elt167 (by rfl) (by exact List.length_map ..) (by rfl) ?_
  refine X.subW (by rfl) (by rfl) (by rfl) ?_
  refine X.assign (by rfl) (by rfl) ?_
  refine X.nil ?_
  refine Run.seq ?_
  refine Run.seq ?_
  refine Run.reg ?_
  refine X.move (by rfl) (by rfl) ?_
  refine X.bin (by rfl) (by rfl) (by rfl) (by rfl) (by intro h; cases h) (by rfl) ?_
  refine X.nil ?_
  refine R.cond (by rfl) (fun hc1 => ?_) (fun hc1 => ?_)
  · replace h := condT hc1 h
    refine Run.seq ?_
    refine Run.reg ?_
    refine X.assign (by rfl) (by rfl) ?_
    refine X.nil ?_
    cases h
    refine R.fin1 Try.results197 (by rfl) (by rfl) ?_
    rfl
  · replace h := condF hc1 h
    refine Run.skip ?_
    refine Run.seq ?_
    refine Run.reg ?_
    refine X.move (by rfl) (by rfl) ?_
    refine X.assign (by rfl) (by rfl) ?_
    refine X.nil ?_
    cases h
    refine R.fin1 Try.results197 (by rfl) (by rfl) ?_
    rfl
theorem w_szIntSS_pc (b0 : List (List Int)) (b1 : Int) (r : Int) (h : w_szIntSS b0 b1 = some r) : PC Try.prog 122 [.slice (b0.map l_int), int b1] (int r) := by
  unfold w_szIntSS at h
  refine PC.start Try.func122 Try.ntmps122 rfl ok122 rfl ?_
  refine Run.seq ?_
  refine Run.reg ?_
  refine X.assign (by rfl) (by rfl) ?_
  refine X.nil ?_
  refine Run.seq ?_
  refine Run.reg ?_
  refine X.move (by rfl) (by rfl) ?_
  refine X.move (by rfl) (by rfl) ?_
  refine X.len_s elt63 (by rfl) (by exact List.length_map ..) (by rfl) ?_
  refine X.subW (by rfl) (by rfl) (by rfl) ?_
  refine X.assign (by rfl) (by rfl) ?_
  refine X.nil ?_
  refine Run.seq ?_
  refine Run.seq ?_
  refine Run.reg ?_
  refine X.move (by rfl) (by rfl) ?_
  refine X.bin (by rfl) (by rfl) (by rfl) (by rfl) (by intro h; cases h) (by rfl) ?_
  refine X.nil ?_
  refine R.cond (by rfl) (fun hc1 => ?_) (fun hc1 => ?_)
  · replace h := condT hc1 h
    refine Run.seq ?_
    refine Run.reg ?_
    refine X.assign (by rfl) (by rfl) ?_
    refine X.nil ?_
    cases h
    refine R.fin1 Try.results122 (by rfl) (by rfl) ?_
    rfl
  · replace h := condF hc1 h
    refine Run.skip ?_
    refine Run.seq ?_
    refine Run.seq ?_
    refine Run.reg ?_
    refine X.assign (by rfl) (by rfl) ?_
    refine X.nil ?_
    obtain ⟨o2, ho2, h⟩ := bindE h
    refine R.join2 (β := Int) [] [] (fun p16 S => (1, int p16) :: S) (fun p16 M => M) (fun p16 => (Sum.inl p16) = o2) ?_ ?_
    · intro JJ5 hmeet4
      have hup3 := h; clear h; have h := ho2; clear ho2
      refine Run.block ?_
      refine R.bndS (t := 0) (by rfl) (fun hbd8 => ?_)
      replace hbd8 : b0.length ≤ 9223372036854775807 := by first | (rw [List.length_map] at hbd8; exact hbd8) | simp
      refine R.loop2 (β := Int × Int) [(0, .slice (b0.map l_int))] [] (fun bb S => (1, int bb.2) :: (5, int bb.1) :: S) (fun bb M => M) (fun n bb => 0 ≤ bb.1 ∧ bb.1 + n = (b0.length : Int) ∧ w_szIntSS_L1 (b0.drop bb.1.toNat) bb.1 bb.2 = some o2) b0.length (0, (W (b1 - (b0.length : Int)))) (by repeat (first | trivial | refine ⟨by first | rfl | simp [setL], ?_⟩)) (by repeat (first | trivial | refine ⟨by first | rfl | simp [setL], ?_⟩)) (by rfl) (by rfl) ⟨Int.le_refl _, by simp, h⟩ ?_
      clear h
      rintro JJ8 n8 ⟨z9, a10⟩ hag8 ⟨hza8, hzb8, h⟩
      dsimp only at hza8 hzb8 h
      refine Run.seq ?_
      refine Run.seq ?_
      refine Run.reg ?_
      refine X.move (by rfl) (by rfl) ?_
      refine X.move (by rfl) (by rfl) ?_
      refine X.len_s elt63 (by rfl) (by exact List.length_map ..) (by rfl) ?_
      refine X.bin (by rfl) (by rfl) (by rfl) (by rfl) (by intro h; cases h) (by rfl) ?_
      refine X.nil ?_
      refine R.cond (by rfl) (fun hc13 => ?_) (fun hc13 => ?_)
      · obtain ⟨x11, xs12, hd8, hx8, hds8, hlt8⟩ := drop_atI hza8 hc13
        rw [hd8] at h
        rw [w_szIntSS_L1] at h
        refine Run.skip ?_
        refine Run.seq ?_
        refine Run.block ?_
        refine Run.seq ?_
        refine Run.reg ?_
        refine X.move (by rfl) (by rfl) ?_
        refine X.move (by rfl) (by rfl) ?_
        refine X.index_s elt63 (by rfl) (by rfl) (idxL_spec hx8).1 (idxL_map l_int hx8) (by rfl) (by rfl) (by rfl) ?_
        refine X.load_c shp25 (by rfl) (by rfl) (by rfl) (by rfl) ?_
        refine X.move (by rfl) (by rfl) ?_
        obtain ⟨v14, hv14, h⟩ := bindE h
        refine X.callP (w_szIntS_pc _ _ _ hv14) (by rfl) (by rfl) (by rfl) (by trivial) (by rfl) (by rfl) (by rfl) (by rfl) ?_
        refine X.assign (by rfl) (by rfl) ?_
        refine X.nil ?_
        refine Run.seq ?_
        refine Run.reg ?_
        refine X.move (by rfl) (by rfl) ?_
        refine X.bin (by rfl) (by rfl) (by rfl) (by rfl) (by intro h; cases h) (by rfl) ?_
        refine X.nil ?_
        refine R.cond (by rfl) (fun hc15 => ?_) (fun hc15 => ?_)
        · replace h := condT hc15 h
          refine Run.seq ?_
          refine Run.reg ?_
          refine X.assign (by rfl) (by rfl) ?_
          refine X.nil ?_
          cases h
          have h := hup3
          replace h := elimR h
          cases h
          refine R.fin1 Try.results122 (by rfl) (by rfl) ?_
          rfl
        · replace h := condF hc15 h
          refine Run.skip ?_
          refine Run.blk ?_
          refine Run.reg ?_
          refine X.move (by rfl) (by rfl) ?_
          refine X.add (by rfl) (by rfl) (by omega) (by rfl) ?_
          refine X.assign (by rfl) (by rfl) ?_
          refine X.nil ?_
          exact hag8 (n8 - 1) (z9 + 1, v14) _ _ (by omega) ⟨by first | omega | (dsimp only; omega), by first | omega | (dsimp only; omega), by first | (rw [hds8]; exact h) | (dsimp only; rw [hds8]; exact h)⟩ (by trivial) (by trivial) (by rfl) (by rfl)
      · rw [drop_endI hza8 hc13] at h
        rw [w_szIntSS_L1] at h
        refine Run.exit (by rfl) ?_
        exact hmeet4 a10 _ _ (Option.some.inj h) (by trivial) (by trivial) (by rfl) (by rfl)
    rintro p16 rfl
    replace h := elimL h
    refine Run.seq ?_
    refine Run.reg ?_
    refine X.move (by rfl) (by rfl) ?_
    refine X.assign (by rfl) (by rfl) ?_
    refine X.nil ?_
    cases h
    refine R.fin1 Try.results122 (by rfl) (by rfl) ?_
    rfl
theorem w_szResource_pc (b0 : TResource) (b1 : Int) (r : Int) (h : w_szResource b0 b1 = some r) : PC Try.prog 138 [eTResource b0, int b1] (int r) := by
  unfold w_szResource at h
  refine PC.start Try.func138 Try.ntmps138 rfl ok138 rfl ?_
  refine Run.seq ?_
  refine Run.reg ?_
  refine X.box (by rfl) (by rfl) (by repeat (first | trivial | refine ⟨by first | rfl | simp [setL], ?_⟩)) (by rfl) (by rfl) (by rfl) (by rfl) ?_
  refine X.assign (by rfl) (by rfl) ?_
  refine X.nil ?_
  refine Run.seq ?_
  refine Run.reg ?_
  refine X.fieldAddr_l fld169_0 (by rfl) (by rfl) ?_
  refine X.load_l shp167 (by rfl) (by rfl) (by rfl) (by rfl) (by rfl) (by rfl) ?_
  refine X.move (by rfl) (by rfl) ?_
  obtain ⟨v1, hv1, h⟩ := bindE h
  refine X.callP (w_szStepS_pc _ _ _ hv1) (by rfl) (by rfl) (by rfl) (by trivial) (by rfl) (by rfl) (by rfl) (by rfl) ?_
  refine X.assign (by rfl) (by rfl) ?_
  refine X.nil ?_
  refine Run.seq ?_
  refine Run.seq ?_
  refine Run.reg ?_
  refine X.move (by rfl) (by rfl) ?_
  refine X.bin (by rfl) (by rfl) (by rfl) (by rfl) (by intro h; cases h) (by rfl) ?_
  refine X.nil ?_
  refine R.cond (by rfl) (fun hc2 => ?_) (fun hc2 => ?_)
  · replace h := condT hc2 h
    refine Run.seq ?_
    refine Run.reg ?_
    refine X.assign (by rfl) (by rfl) ?_
    refine X.nil ?_
    cases h
    refine R.fin1 Try.results138 (by rfl) (by rfl) ?_
    rfl
  · replace h := condF hc2 h
    refine Run.skip ?_
    refine Run.seq ?_
    refine Run.reg ?_
    refine X.fieldAddr_l fld169_1 (by rfl) (by rfl) ?_
    refine X.load_l shp63 (by rfl) (by rfl) (by rfl) (by rfl) (by rfl) (by rfl) ?_
    refine X.move (by rfl) (by rfl) ?_
    obtain ⟨v3, hv3, h⟩ := bindE h
    refine X.callP (w_szIntSS_pc _ _ _ hv3) (by rfl) (by rfl) (by rfl) (by trivial) (by rfl) (by rfl) (by rfl) (by rfl) ?_
    refine X.assign (by rfl) (by rfl) ?_
    refine X.nil ?_
    refine Run.seq ?_
    refine Run.seq ?_
    refine Run.reg ?_
    refine X.move (by rfl) (by rfl) ?_
    refine X.bin (by rfl) (by rfl) (by rfl) (by rfl) (by intro h; cases h) (by rfl) ?_
    refine X.nil ?_
    refine R.cond (by rfl) (fun hc4 => ?_) (fun hc4 => ?_)
    · replace h := condT hc4 h
      refine Run.seq ?_
      refine Run.reg ?_
      refine X.assign (by rfl) (by rfl) ?_
      refine X.nil ?_
      cases h
      refine R.fin1 Try.results138 (by rfl) (by rfl) ?_
      rfl
    · replace h := condF hc4 h
      refine Run.skip ?_
      refine Run.seq ?_
      refine Run.reg ?_
      refine X.move (by rfl) (by rfl) ?_
      refine X.assign (by rfl) (by rfl) ?_
      refine X.nil ?_
      cases h
      refine R.fin1 Try.results138 (by rfl) (by rfl) ?_
      rfl
theorem w_szResourceS_pc (b0 : List TResource) (b1 : Int) (r : Int) (h : w_szResourceS b0 b1 = some r) : PC Try.prog 66 [.slice (b0.map eTResource), int b1] (int r) := by
  unfold w_szResourceS at h
  refine PC.start Try.func66 Try.ntmps66 rfl ok66 rfl ?_
  refine Run.seq ?_
  refine Run.reg ?_
  refine X.assign (by rfl) (by rfl) ?_
  refine X.nil ?_
  refine Run.seq ?_
  refine Run.reg ?_
  refine X.move (by rfl) (by rfl) ?_
  refine X.move (by rfl) (by rfl) ?_
  refine X.len_s elt24 (by rfl) (by exact List.length_map ..) (by rfl) ?_
  refine X.subW (by rfl) (by rfl) (by rfl) ?_
  refine X.assign (by rfl) (by rfl) ?_
  refine X.nil ?_
  refine Run.seq ?_
  refine Run.seq ?_
  refine Run.reg ?_
  refine X.move (by rfl) (by rfl) ?_
  refine X.bin (by rfl) (by rfl) (by rfl) (by rfl) (by intro h; cases h) (by rfl) ?_
  refine X.nil ?_
  refine R.cond (by rfl) (fun hc1 => ?_) (fun hc1 => ?_)
  · replace h := condT hc1 h
    refine Run.seq ?_
    refine Run.reg ?_
    refine X.assign (by rfl) (by rfl) ?_
    refine X.nil ?_
    cases h
    refine R.fin1 Try.results66 (by rfl) (by rfl) ?_
    rfl
  · replace h := condF hc1 h
    refine Run.skip ?_
    refine Run.seq ?_
    refine Run.seq ?_
    refine Run.reg ?_
    refine X.assign (by rfl) (by rfl) ?_
    refine X.nil ?_
    obtain ⟨o2, ho2, h⟩ := bindE h
    refine R.join2 (β := Int) [] [] (fun p16 S => (1, int p16) :: S) (fun p16 M => M) (fun p16 => (Sum.inl p16) = o2) ?_ ?_
    · intro JJ5 hmeet4
      have hup3 := h; clear h; have h := ho2; clear ho2
      refine Run.block ?_
      refine R.bndS (t := 0) (by rfl) (fun hbd8 => ?_)
      replace hbd8 : b0.length ≤ 9223372036854775807 := by first | (rw [List.length_map] at hbd8; exact hbd8) | simp
      refine R.loop2 (β := Int × Int) [(0, .slice (b0.map eTResource))] [] (fun bb S => (1, int bb.2) :: (5, int bb.1) :: S) (fun bb M => M) (fun n bb => 0 ≤ bb.1 ∧ bb.1 + n = (b0.length : Int) ∧ w_szResourceS_L1 (b0.drop bb.1.toNat) bb.1 bb.2 = some o2) b0.length (0, (W (b1 - (b0.length : Int)))) (by repeat (first | trivial | refine ⟨by first | rfl | simp [setL], ?_⟩)) (by repeat (first | trivial | refine ⟨by first | rfl | simp [setL], ?_⟩)) (by rfl) (by rfl) ⟨Int.le_refl _, by simp, h⟩ ?_
      clear h
      rintro JJ8 n8 ⟨z9, a10⟩ hag8 ⟨hza8, hzb8, h⟩
      dsimp only at hza8 hzb8 h
      refine Run.seq ?_
      refine Run.seq ?_
      refine Run.reg ?_
      refine X.move (by rfl) (by rfl) ?_
      refine X.move (by rfl) (by rfl) ?_
      refine X.len_s elt24 (by rfl) (by exact List.length_map ..) (by rfl) ?_
      refine X.bin (by rfl) (by rfl) (by rfl) (by rfl) (by intro h; cases h) (by rfl) ?_
      refine X.nil ?_
      refine R.cond (by rfl) (fun hc13 => ?_) (fun hc13 => ?_)
      · obtain ⟨x11, xs12, hd8, hx8, hds8, hlt8⟩ := drop_atI hza8 hc13
        rw [hd8] at h
        rw [w_szResourceS_L1] at h
        refine Run.skip ?_
        refine Run.seq ?_
        refine Run.block ?_
        refine Run.seq ?_
        refine Run.reg ?_
        refine X.move (by rfl) (by rfl) ?_
        refine X.move (by rfl) (by rfl) ?_
        refine X.index_s elt24 (by rfl) (by rfl) (idxL_spec hx8).1 (idxL_map eTResource hx8) (by rfl) (by rfl) (by rfl) ?_
        refine X.load_c shp169 (by rfl) (by rfl) (by rfl) (by rfl) ?_
        refine X.move (by rfl) (by rfl) ?_
        obtain ⟨v14, hv14, h⟩ := bindE h
        refine X.callP (w_szResource_pc _ _ _ hv14) (by rfl) (by rfl) (by rfl) (by trivial) (by rfl) (by rfl) (by rfl) (by rfl) ?_
        refine X.assign (by rfl) (by rfl) ?_
        refine X.nil ?_
        refine Run.seq ?_
        refine Run.reg ?_
        refine X.move (by rfl) (by rfl) ?_
        refine X.bin (by rfl) (by rfl) (by rfl) (by rfl) (by intro h; cases h) (by rfl) ?_
        refine X.nil ?_
        refine R.cond (by rfl) (fun hc15 => ?_) (fun hc15 => ?_)
        · replace h := condT hc15 h
          refine Run.seq ?_
          refine Run.reg ?_
          refine X.assign (by rfl) (by rfl) ?_
          refine X.nil ?_
          cases h
          have h := hup3
          replace h := elimR h
          cases h
          refine R.fin1 Try.results66 (by rfl) (by rfl) ?_
          rfl
        · replace h := condF hc15 h
          refine Run.skip ?_
          refine Run.blk ?_
          refine Run.reg ?_
          refine X.move (by rfl) (by rfl) ?_
          refine X.add (by rfl) (by rfl) (by omega) (by rfl) ?_
          refine X.assign (by rfl) (by rfl) ?_
          refine X.nil ?_
          exact hag8 (n8 - 1) (z9 + 1, v14) _ _ (by omega) ⟨by first | omega | (dsimp only; omega), by first | omega | (dsimp only; omega), by first | (rw [hds8]; exact h) | (dsimp only; rw [hds8]; exact h)⟩ (by trivial) (by trivial) (by rfl) (by rfl)
      · rw [drop_endI hza8 hc13] at h
        rw [w_szResourceS_L1] at h
        refine Run.exit (by rfl) ?_
        exact hmeet4 a10 _ _ (Option.some.inj h) (by trivial) (by trivial) (by rfl) (by rfl)
    rintro p16 rfl
    replace h := elimL h
    refine Run.seq ?_
    refine Run.reg ?_
    refine X.move (by rfl) (by rfl) ?_
    refine X.assign (by rfl) (by rfl) ?_
    refine X.nil ?_
    cases h
    refine R.fin1 Try.results66 (by rfl) (by rfl) ?_
    rfl
theorem w_szProject_pc (b0 : TProject) (b1 : Int) (r : Int) (h : w_szProject b0 b1 = some r) : PC Try.prog 16 [eTProject b0, int b1] (int r) := by
  unfold w_szProject at h
  refine PC.start Try.func16 Try.ntmps16 rfl ok16 rfl ?_
  refine Run.seq ?_
  refine Run.reg ?_
  refine X.box (by rfl) (by rfl) (by repeat (first | trivial | refine ⟨by first | rfl | simp [setL], ?_⟩)) (by rfl) (by rfl) (by rfl) (by rfl) ?_
  refine X.assign (by rfl) (by rfl) ?_
  refine X.nil ?_
  refine Run.seq ?_
  refine Run.reg ?_
  refine X.fieldAddr_l fld27_1 (by rfl) (by rfl) ?_
  refine X.load_l shp22 (by rfl) (by rfl) (by rfl) (by rfl) (by rfl) (by rfl) ?_
  refine X.move (by rfl) (by rfl) ?_
  obtain ⟨v1, hv1, h⟩ := bindE h
  refine X.callP (w_szActivityS_pc _ _ _ hv1) (by rfl) (by rfl) (by rfl) (by trivial) (by rfl) (by rfl) (by rfl) (by rfl) ?_
  refine X.assign (by rfl) (by rfl) ?_
  refine X.nil ?_
  refine Run.seq ?_
  refine Run.seq ?_
  refine Run.reg ?_
  refine X.move (by rfl) (by rfl) ?_
  refine X.bin (by rfl) (by rfl) (by rfl) (by rfl) (by intro h; cases h) (by rfl) ?_
  refine X.nil ?_
  refine R.cond (by rfl) (fun hc2 => ?_) (fun hc2 => ?_)
  · replace h := condT hc2 h
    refine Run.seq ?_
    refine Run.reg ?_
    refine X.assign (by rfl) (by rfl) ?_
    refine X.nil ?_
    cases h
    refine R.fin1 Try.results16 (by rfl) (by rfl) ?_
    rfl
  · replace h := condF hc2 h
    refine Run.skip ?_
    refine Run.seq ?_
    refine Run.reg ?_
    refine X.fieldAddr_l fld27_2 (by rfl) (by rfl) ?_
    refine X.load_l shp23 (by rfl) (by rfl) (by rfl) (by rfl) (by rfl) (by rfl) ?_
    refine X.move (by rfl) (by rfl) ?_
    obtain ⟨v3, hv3, h⟩ := bindE h
    refine X.callP (w_szLinkS_pc _ _ _ hv3) (by rfl) (by rfl) (by rfl) (by trivial) (by rfl) (by rfl) (by rfl) (by rfl) ?_
    refine X.assign (by rfl) (by rfl) ?_
    refine X.nil ?_
    refine Run.seq ?_
    refine Run.seq ?_
    refine Run.reg ?_
    refine X.move (by rfl) (by rfl) ?_
    refine X.bin (by rfl) (by rfl) (by rfl) (by rfl) (by intro h; cases h) (by rfl) ?_
    refine X.nil ?_
    refine R.cond (by rfl) (fun hc4 => ?_) (fun hc4 => ?_)
    · replace h := condT hc4 h
      refine Run.seq ?_
      refine Run.reg ?_
      refine X.assign (by rfl) (by rfl) ?_
      refine X.nil ?_
      cases h
      refine R.fin1 Try.results16 (by rfl) (by rfl) ?_
      rfl
    · replace h := condF hc4 h
      refine Run.skip ?_
      refine Run.seq ?_
      refine Run.reg ?_
      refine X.fieldAddr_l fld27_3 (by rfl) (by rfl) ?_
      refine X.load_l shp24 (by rfl) (by rfl) (by rfl) (by rfl) (by rfl) (by rfl) ?_
      refine X.move (by rfl) (by rfl) ?_
      obtain ⟨v5, hv5, h⟩ := bindE h
      refine X.callP (w_szResourceS_pc _ _ _ hv5) (by rfl) (by rfl) (by rfl) (by trivial) (by rfl) (by rfl) (by rfl) (by rfl) ?_
      refine X.assign (by rfl) (by rfl) ?_
      refine X.nil ?_
      refine Run.seq ?_
      refine Run.seq ?_
      refine Run.reg ?_
      refine X.move (by rfl) (by rfl) ?_
      refine X.bin (by rfl) (by rfl) (by rfl) (by rfl) (by intro h; cases h) (by rfl) ?_
      refine X.nil ?_
      refine R.cond (by rfl) (fun hc6 => ?_) (fun hc6 => ?_)
      · replace h := condT hc6 h
        refine Run.seq ?_
        refine Run.reg ?_
        refine X.assign (by rfl) (by rfl) ?_
        refine X.nil ?_
        cases h
        refine R.fin1 Try.results16 (by rfl) (by rfl) ?_
        rfl
      · replace h := condF hc6 h
        refine Run.skip ?_
        refine Run.seq ?_
        refine Run.reg ?_
        refine X.fieldAddr_l fld27_4 (by rfl) (by rfl) ?_
        refine X.load_l shp25 (by rfl) (by rfl) (by rfl) (by rfl) (by rfl) (by rfl) ?_
        refine X.move (by rfl) (by rfl) ?_
        obtain ⟨v7, hv7, h⟩ := bindE h
        refine X.callP (w_szIntS_pc _ _ _ hv7) (by rfl) (by rfl) (by rfl) (by trivial) (by rfl) (by rfl) (by rfl) (by rfl) ?_
        refine X.assign (by rfl) (by rfl) ?_
        refine X.nil ?_
        refine Run.seq ?_
        refine Run.seq ?_
        refine Run.reg ?_
        refine X.move (by rfl) (by rfl) ?_
        refine X.bin (by rfl) (by rfl) (by rfl) (by rfl) (by intro h; cases h) (by rfl) ?_
        refine X.nil ?_
        refine R.cond (by rfl) (fun hc8 => ?_) (fun hc8 => ?_)
        · replace h := condT hc8 h
          refine Run.seq ?_
          refine Run.reg ?_
          refine X.assign (by rfl) (by rfl) ?_
          refine X.nil ?_
          cases h
          refine R.fin1 Try.results16 (by rfl) (by rfl) ?_
          rfl
        · replace h := condF hc8 h
          refine Run.skip ?_
          refine Run.seq ?_
          refine Run.reg ?_
          refine X.move (by rfl) (by rfl) ?_
          refine X.assign (by rfl) (by rfl) ?_
          refine X.nil ?_
          cases h
          refine R.fin1 Try.results16 (by rfl) (by rfl) ?_
          rfl
theorem w_toIntS_pc (b0 : List Int) (r : List Int) (h : w_toIntS b0 = some r) : PCM Try.prog 74 [.yng 63 (.slice (b0.map int))] [(63, .yreg false false)] (.fresh false 3 1 (r.map int)) [(63, .yreg false false)] := by
  unfold w_toIntS at h
  refine PCM.start Try.func74 Try.ntmps74 rfl ok74 rfl (by rfl) (by rfl) (by rfl) (by rfl) (by rfl) ?_
  refine Run.seq ?_
  refine Run.reg ?_
  refine X.assign (by rfl) (by rfl) ?_
  refine X.nil ?_
  refine Run.seq ?_
  refine Run.reg ?_
  refine X.move (by rfl) (by rfl) ?_
  refine X.lenY false 63 elt25 (by rfl) (by exact List.length_map ..) (by rfl) ?_
  obtain ⟨v1, hv1, h⟩ := bindE h
  refine X.makeSlice2 int hv1 elt25 zer3 (by rfl) (by rfl) (by rfl) (by simp [PV.plain]) (by rfl) (by rfl) (by rfl) (by rfl) (by rfl) (by rfl) ?_
  refine X.assign (by rfl) (by rfl) ?_
  refine X.nil ?_
  refine Run.seq ?_
  refine Run.seq ?_
  refine Run.reg ?_
  refine X.assign (by rfl) (by rfl) ?_
  refine X.nil ?_
  obtain ⟨o2, ho2, h⟩ := bindE h
  refine R.join2 (β := (List Int)) [] [(63, .yreg false false)] (fun p15 S => (3, .own 448 (p15.map int).length) :: S) (fun p15 M => (448, .obj true 3 1 (p15.map int)) :: M) (fun p15 => p15 = o2) ?_ ?_
  · intro JJ5 hmeet4
    have hup3 := h; clear h; have h := ho2; clear ho2
    refine Run.block ?_
    refine R.bndY false 63 (t := 0) (by rfl) (fun hbd8 => ?_)
    replace hbd8 : b0.length ≤ 9223372036854775807 := by first | (rw [List.length_map] at hbd8; exact hbd8) | simp
    refine R.loop2 (β := Int × (List Int)) [(0, .yng 63 (.slice (b0.map int)))] [(63, .yreg false false)] (fun bb S => (3, .own 448 (bb.2.map int).length) :: (4, int bb.1) :: S) (fun bb M => (448, .obj true 3 1 (bb.2.map int)) :: M) (fun n bb => 0 ≤ bb.1 ∧ bb.1 + n = (b0.length : Int) ∧ w_toIntS_L1 (b0.drop bb.1.toNat) bb.1 bb.2 = some o2) b0.length (0, v1) (by repeat (first | trivial | refine ⟨by first | rfl | simp [setL], ?_⟩)) (by repeat (first | trivial | refine ⟨by first | rfl | simp [setL], ?_⟩)) (by rfl) (by rfl) ⟨Int.le_refl _, by simp, h⟩ ?_
    clear h
    rintro JJ8 n8 ⟨z9, a10⟩ hag8 ⟨hza8, hzb8, h⟩
    dsimp only at hza8 hzb8 h
    refine Run.seq ?_
    refine Run.seq ?_
    refine Run.reg ?_
    refine X.move (by rfl) (by rfl) ?_
    refine X.move (by rfl) (by rfl) ?_
    refine X.lenY false 63 elt25 (by rfl) (by exact List.length_map ..) (by rfl) ?_
    refine X.bin (by rfl) (by rfl) (by rfl) (by rfl) (by intro h; cases h) (by rfl) ?_
    refine X.nil ?_
    refine R.cond (by rfl) (fun hc13 => ?_) (fun hc13 => ?_)
    · obtain ⟨x11, xs12, hd8, hx8, hds8, hlt8⟩ := drop_atI hza8 hc13
      rw [hd8] at h
      rw [w_toIntS_L1] at h
      refine Run.skip ?_
      refine Run.seq ?_
      refine Run.block ?_
      refine Run.reg ?_
      refine X.move (by rfl) (by rfl) ?_
      refine X.move (by rfl) (by rfl) ?_
      refine X.move (by rfl) (by rfl) ?_
      refine X.move (by rfl) (by rfl) ?_
      refine X.indexY false 63 elt25 (by rfl) (by rfl) (idxL_spec hx8).1 (idxL_map int hx8) (by rfl) (by rfl) ?_
      refine X.loadY false 63 shp3 (by rfl) (by rfl) (by rfl) (by rfl) ?_
      obtain ⟨v14, hv14, h⟩ := bindE h
      refine X.index_xs elt25 (by rfl) (by rfl) (by first | rfl | simp [setL] | omega) (by rfl) (by exact (Int.toNat_of_nonneg (idxL_spec hv14).1).symm) (by have := idxL_lt hv14; simpa using this) (by rfl) (by rfl) ?_
      refine X.store_es shp3 (by rfl) (by rfl) (by first | rfl | simp [setL] | omega) (idxL_map _ hv14) (by rfl) (by rfl) (by repeat (first | trivial | refine ⟨by first | rfl | simp [setL], ?_⟩)) (by rfl) (by rfl) (by rfl) (by rfl) (by exact setL_map _ _ _ x11) ?_
      refine X.nil ?_
      refine Run.blk ?_
      refine Run.reg ?_
      refine X.move (by rfl) (by rfl) ?_
      refine X.add (by rfl) (by rfl) (by omega) (by rfl) ?_
      refine X.assign (by rfl) (by rfl) ?_
      refine X.nil ?_
      refine R.castS (t := 3) (.own 448 ((setL a10 z9 x11).map int).length) (by rfl) (.inl (by first | rfl | simp [setL])) ?_
      exact hag8 (n8 - 1) (z9 + 1, (setL a10 z9 x11)) _ _ (by omega) ⟨by first | omega | (dsimp only; omega), by first | omega | (dsimp only; omega), by first | (rw [hds8]; exact h) | (dsimp only; rw [hds8]; exact h)⟩ (by repeat (first | trivial | refine ⟨by first | rfl | simp [setL], ?_⟩)) (by repeat (first | trivial | refine ⟨by first | rfl | simp [setL], ?_⟩)) (by rfl) (by rfl)
    · rw [drop_endI hza8 hc13] at h
      rw [w_toIntS_L1] at h
      refine Run.exit (by rfl) ?_
      exact hmeet4 a10 _ _ (Option.some.inj h) (by repeat (first | trivial | refine ⟨by first | rfl | simp [setL], ?_⟩)) (by repeat (first | trivial | refine ⟨by first | rfl | simp [setL], ?_⟩)) (by rfl) (by rfl)
  rintro p15 rfl
  refine Run.seq ?_
  refine Run.reg ?_
  refine X.move (by rfl) (by rfl) ?_
  refine X.assign (by rfl) (by rfl) ?_
  refine X.nil ?_
  cases h
  refine R.pubObj (n := 448) (by rfl) ?_
  exact R.finM1o Try.results74 (by rfl) (by rfl) (by first | rfl | simp [setL] | omega) (by rfl) (by repeat (first | exact trivial | refine ⟨by rfl, ?_⟩)) rfl
theorem w_toMode_pc (b0 : TMode) (r : TMode) (h : w_toMode b0 = some r) : PCM Try.prog 229 [.agg [int b0.Duration, .yng 63 (.slice (b0.Usage.map int)), .yng 63 (.slice (b0.Consumption.map int))]] [(63, .yreg false false)] (.agg [int r.Duration, .fresh false 3 1 (r.Usage.map int), .fresh false 3 1 (r.Consumption.map int)]) [(63, .yreg false false)] := by
  unfold w_toMode at h
  refine PCM.start Try.func229 Try.ntmps229 rfl ok229 rfl (by rfl) (by rfl) (by rfl) (by rfl) (by rfl) ?_
  refine Run.seq ?_
  refine Run.reg ?_
  refine X.box (by rfl) (by rfl) (by repeat (first | trivial | refine ⟨by first | rfl | simp [setL], ?_⟩)) (by rfl) (by rfl) (by rfl) (by rfl) ?_
  refine X.alloc zer129 (by rfl) (by rfl) (by rfl) ?_
  refine X.nil ?_
  refine Run.seq ?_
  refine Run.reg ?_
  refine X.alloc zer129 (by rfl) (by rfl) (by rfl) ?_
  refine X.nil ?_
  refine Run.seq ?_
  refine Run.reg ?_
  refine X.fieldAddr_l fld224_0 (by rfl) (by rfl) ?_
  refine X.load_l shp3 (by rfl) (by rfl) (by rfl) (by rfl) (by rfl) (by rfl) ?_
  refine X.fieldAddr_l fld129_0 (by rfl) (by rfl) ?_
  refine X.store_l shp3 (by rfl) (by rfl) (by rfl) (by rfl) (by repeat (first | trivial | refine ⟨by first | rfl | simp [setL], ?_⟩)) (by rfl) (by rfl) (by rfl) ?_
  refine X.nil ?_
  refine Run.seq ?_
  refine Run.reg ?_
  refine X.fieldAddr_l fld224_1 (by rfl) (by rfl) ?_
  refine X.load_l shp25 (by rfl) (by rfl) (by rfl) (by rfl) (by rfl) (by rfl) ?_
  obtain ⟨v1, hv1, h⟩ := bindE h
  refine X.callM [(63, 63)] (w_toIntS_pc _ _ hv1) (by rfl) (by rfl) (.yngB 63 (by rfl) (by rfl) .nil) (by rfl) ⟨rfl, rfl, ⟨_, by rfl, by constructor⟩, by constructor, trivial⟩ (by rfl) (by rfl) (by rfl) (by rfl) (by rfl) (by rfl) (by rfl) (by rfl) (by rfl) ?_
  refine X.fieldAddr_l fld129_1 (by rfl) (by rfl) ?_
  refine X.store_l shp25 (by rfl) (by rfl) (by rfl) (by rfl) (by repeat (first | trivial | refine ⟨by first | rfl | simp [setL], ?_⟩)) (by rfl) (by rfl) (by rfl) ?_
  refine X.nil ?_
  refine Run.seq ?_
  refine Run.reg ?_
  refine X.fieldAddr_l fld224_2 (by rfl) (by rfl) ?_
  refine X.load_l shp25 (by rfl) (by rfl) (by rfl) (by rfl) (by rfl) (by rfl) ?_
  obtain ⟨v2, hv2, h⟩ := bindE h
  refine X.callM [(63, 63)] (w_toIntS_pc _ _ hv2) (by rfl) (by rfl) (.yngB 63 (by rfl) (by rfl) .nil) (by rfl) ⟨rfl, rfl, ⟨_, by rfl, by constructor⟩, by constructor, trivial⟩ (by rfl) (by rfl) (by rfl) (by rfl) (by rfl) (by rfl) (by rfl) (by rfl) (by rfl) ?_
  refine X.fieldAddr_l fld129_2 (by rfl) (by rfl) ?_
  refine X.store_l shp25 (by rfl) (by rfl) (by rfl) (by rfl) (by repeat (first | trivial | refine ⟨by first | rfl | simp [setL], ?_⟩)) (by rfl) (by rfl) (by rfl) ?_
  refine X.nil ?_
  refine Run.seq ?_
  refine Run.reg ?_
  refine X.load_l shp129 (by rfl) (by rfl) (by rfl) (by rfl) (by rfl) (by rfl) ?_
  refine X.store_l shp129 (by rfl) (by rfl) (by rfl) (by rfl) (by repeat (first | trivial | refine ⟨by first | rfl | simp [setL], ?_⟩)) (by rfl) (by rfl) (by rfl) ?_
  refine X.nil ?_
  cases h
  exact R.finMC Try.results229 shp129 (by rfl) (by rfl) (by rfl) (by rfl) (by repeat (first | trivial | refine ⟨by first | rfl | simp [setL], ?_⟩)) (by rfl) (by repeat (first | exact trivial | refine ⟨by rfl, ?_⟩)) rfl
theorem w_toModeS_pc (b0 : List TMode) (r : List TMode) (h : w_toModeS b0 = some r) : PCM Try.prog 201 [.yng 63 (.slice (b0.map eTMode))] [(63, .yreg false false)] (.fresh false 129 3 (r.map eTMode)) [(63, .yreg false false)] := by
  unfold w_toModeS at h
  refine PCM.start Try.func201 Try.ntmps201 rfl ok201 rfl (by rfl) (by rfl) (by rfl) (by rfl) (by rfl) ?_
  refine Run.seq ?_
  refine Run.reg ?_
  refine X.assign (by rfl) (by rfl) ?_
  refine X.nil ?_
  refine Run.seq ?_
  refine Run.reg ?_
  refine X.move (by rfl) (by rfl) ?_
  refine X.lenY false 63 elt163 (by rfl) (by exact List.length_map ..) (by rfl) ?_
  obtain ⟨v1, hv1, h⟩ := bindE h
  refine X.makeSlice2 eTMode hv1 elt125 zer129 (by rfl) (by rfl) (by rfl) (by simp [PV.plain]) (by rfl) (by rfl) (by rfl) (by rfl) (by rfl) (by rfl) ?_
  refine X.assign (by rfl) (by rfl) ?_
  refine X.nil ?_
  refine Run.seq ?_
  refine Run.seq ?_
  refine Run.reg ?_
  refine X.assign (by rfl) (by rfl) ?_
  refine X.nil ?_
  obtain ⟨o2, ho2, h⟩ := bindE h
  refine R.join2 (β := (List TMode)) [] [(63, .yreg false false)] (fun p16 S => (3, .own 448 (p16.map eTMode).length) :: S) (fun p16 M => (448, .obj true 129 3 (p16.map eTMode)) :: M) (fun p16 => p16 = o2) ?_ ?_
  · intro JJ5 hmeet4
    have hup3 := h; clear h; have h := ho2; clear ho2
    refine Run.block ?_
    refine R.bndY false 63 (t := 0) (by rfl) (fun hbd8 => ?_)
    replace hbd8 : b0.length ≤ 9223372036854775807 := by first | (rw [List.length_map] at hbd8; exact hbd8) | simp
    refine R.loop2 (β := Int × (List TMode)) [(0, .yng 63 (.slice (b0.map eTMode)))] [(63, .yreg false false)] (fun bb S => (3, .own 448 (bb.2.map eTMode).length) :: (4, int bb.1) :: S) (fun bb M => (448, .obj true 129 3 (bb.2.map eTMode)) :: M) (fun n bb => 0 ≤ bb.1 ∧ bb.1 + n = (b0.length : Int) ∧ w_toModeS_L1 (b0.drop bb.1.toNat) bb.1 bb.2 = some o2) b0.length (0, v1) (by repeat (first | trivial | refine ⟨by first | rfl | simp [setL], ?_⟩)) (by repeat (first | trivial | refine ⟨by first | rfl | simp [setL], ?_⟩)) (by rfl) (by rfl) ⟨Int.le_refl _, by simp, h⟩ ?_
    clear h
    rintro JJ8 n8 ⟨z9, a10⟩ hag8 ⟨hza8, hzb8, h⟩
    dsimp only at hza8 hzb8 h
    refine Run.seq ?_
    refine Run.seq ?_
    refine Run.reg ?_
    refine X.move (by rfl) (by rfl) ?_
    refine X.move (by rfl) (by rfl) ?_
    refine X.lenY false 63 elt163 (by rfl) (by exact List.length_map ..) (by rfl) ?_
    refine X.bin (by rfl) (by rfl) (by rfl) (by rfl) (by intro h; cases h) (by rfl) ?_
    refine X.nil ?_
    refine R.cond (by rfl) (fun hc13 => ?_) (fun hc13 => ?_)
    · obtain ⟨x11, xs12, hd8, hx8, hds8, hlt8⟩ := drop_atI hza8 hc13
      rw [hd8] at h
      rw [w_toModeS_L1] at h
      refine Run.skip ?_
      refine Run.seq ?_
      refine Run.block ?_
      refine Run.reg ?_
      refine X.move (by rfl) (by rfl) ?_
      refine X.move (by rfl) (by rfl) ?_
      refine X.move (by rfl) (by rfl) ?_
      refine X.move (by rfl) (by rfl) ?_
      refine X.indexY false 63 elt163 (by rfl) (by rfl) (idxL_spec hx8).1 (idxL_map eTMode hx8) (by rfl) (by rfl) ?_
      refine X.loadY false 63 shp224 (by rfl) (by rfl) (by rfl) (by rfl) ?_
      obtain ⟨v14, hv14, h⟩ := bindE h
      refine X.callM [(63, 63)] (w_toMode_pc _ _ hv14) (by rfl) (by rfl) (.agg _ _ _ _ _ _ (.pureB (by rfl) (by repeat (first | trivial | refine ⟨by first | rfl | simp [setL], ?_⟩)) (.yngB 63 (by rfl) (by rfl) (.yngB 63 (by rfl) (by rfl) .nil))) .nil) (by rfl) ⟨rfl, rfl, ⟨_, by rfl, by constructor⟩, by constructor, trivial⟩ (by rfl) (by rfl) (by rfl) (by rfl) (by rfl) (by rfl) (by rfl) (by rfl) (by rfl) ?_
      obtain ⟨v15, hv15, h⟩ := bindE h
      refine X.index_xs elt125 (by rfl) (by rfl) (by first | rfl | simp [setL] | omega) (by rfl) (by exact (Int.toNat_of_nonneg (idxL_spec hv15).1).symm) (by have := idxL_lt hv15; simpa using this) (by rfl) (by rfl) ?_
      refine X.store_es shp129 (by rfl) (by rfl) (by first | rfl | simp [setL] | omega) (idxL_map _ hv15) (by rfl) (by rfl) (by repeat (first | trivial | refine ⟨by first | rfl | simp [setL], ?_⟩)) (by rfl) (by rfl) (by rfl) (by rfl) (by exact setL_map _ _ _ v14) ?_
      refine X.nil ?_
      refine Run.blk ?_
      refine Run.reg ?_
      refine X.move (by rfl) (by rfl) ?_
      refine X.add (by rfl) (by rfl) (by omega) (by rfl) ?_
      refine X.assign (by rfl) (by rfl) ?_
      refine X.nil ?_
      refine R.castS (t := 3) (.own 448 ((setL a10 z9 v14).map eTMode).length) (by rfl) (.inl (by first | rfl | simp [setL])) ?_
      exact hag8 (n8 - 1) (z9 + 1, (setL a10 z9 v14)) _ _ (by omega) ⟨by first | omega | (dsimp only; omega), by first | omega | (dsimp only; omega), by first | (rw [hds8]; exact h) | (dsimp only; rw [hds8]; exact h)⟩ (by repeat (first | trivial | refine ⟨by first | rfl | simp [setL], ?_⟩)) (by repeat (first | trivial | refine ⟨by first | rfl | simp [setL], ?_⟩)) (by rfl) (by rfl)
    · rw [drop_endI hza8 hc13] at h
      rw [w_toModeS_L1] at h
      refine Run.exit (by rfl) ?_
      exact hmeet4 a10 _ _ (Option.some.inj h) (by repeat (first | trivial | refine ⟨by first | rfl | simp [setL], ?_⟩)) (by repeat (first | trivial | refine ⟨by first | rfl | simp [setL], ?_⟩)) (by rfl) (by rfl)
  rintro p16 rfl
  refine Run.seq ?_
  refine Run.reg ?_
  refine X.move (by rfl) (by rfl) ?_
  refine X.assign (by rfl) (by rfl) ?_
  refine X.nil ?_
  cases h
  refine R.pubObj (n := 448) (by rfl) ?_
  exact R.finM1o Try.results201 (by rfl) (by rfl) (by first | rfl | simp [setL] | omega) (by rfl) (by repeat (first | exact trivial | refine ⟨by rfl, ?_⟩)) rfl
theorem w_toActivity_pc (b0 : TActivity) (r : TActivity) (h : w_toActivity b0 = some r) : PCM Try.prog 144 [.agg [str b0.Name, int b0.Family, .yng 63 (.slice (b0.Modes.map eTMode))]] [(63, .yreg false false)] (.agg [str r.Name, int r.Family, .fresh false 129 3 (r.Modes.map eTMode)]) [(63, .yreg false false)] := by
  unfold w_toActivity at h
  refine PCM.start Try.func144 Try.ntmps144 rfl ok144 rfl (by rfl) (by rfl) (by rfl) (by rfl) (by rfl) ?_
  refine Run.seq ?_
  refine Run.reg ?_
  refine X.box (by rfl) (by rfl) (by repeat (first | trivial | refine ⟨by first | rfl | simp [setL], ?_⟩)) (by rfl) (by rfl) (by rfl) (by rfl) ?_
  refine X.alloc zer127 (by rfl) (by rfl) (by rfl) ?_
  refine X.nil ?_
  refine Run.seq ?_
  refine Run.reg ?_
  refine X.alloc zer127 (by rfl) (by rfl) (by rfl) ?_
  refine X.nil ?_
  refine Run.seq ?_
  refine Run.reg ?_
  refine X.fieldAddr_l fld165_0 (by rfl) (by rfl) ?_
  refine X.load_l shp9 (by rfl) (by rfl) (by rfl) (by rfl) (by rfl) (by rfl) ?_
  refine X.fieldAddr_l fld127_0 (by rfl) (by rfl) ?_
  refine X.store_l shp9 (by rfl) (by rfl) (by rfl) (by rfl) (by repeat (first | trivial | refine ⟨by first | rfl | simp [setL], ?_⟩)) (by rfl) (by rfl) (by rfl) ?_
  refine X.nil ?_
  refine Run.seq ?_
  refine Run.reg ?_
  refine X.fieldAddr_l fld165_1 (by rfl) (by rfl) ?_
  refine X.load_l shp3 (by rfl) (by rfl) (by rfl) (by rfl) (by rfl) (by rfl) ?_
  refine X.fieldAddr_l fld127_1 (by rfl) (by rfl) ?_
  refine X.store_l shp3 (by rfl) (by rfl) (by rfl) (by rfl) (by repeat (first | trivial | refine ⟨by first | rfl | simp [setL], ?_⟩)) (by rfl) (by rfl) (by rfl) ?_
  refine X.nil ?_
  refine Run.seq ?_
  refine Run.reg ?_
  refine X.fieldAddr_l fld165_2 (by rfl) (by rfl) ?_
  refine X.load_l shp163 (by rfl) (by rfl) (by rfl) (by rfl) (by rfl) (by rfl) ?_
  obtain ⟨v1, hv1, h⟩ := bindE h
  refine X.callM [(63, 63)] (w_toModeS_pc _ _ hv1) (by rfl) (by rfl) (.yngB 63 (by rfl) (by rfl) .nil) (by rfl) ⟨rfl, rfl, ⟨_, by rfl, by constructor⟩, by constructor, trivial⟩ (by rfl) (by rfl) (by rfl) (by rfl) (by rfl) (by rfl) (by rfl) (by rfl) (by rfl) ?_
  refine X.fieldAddr_l fld127_2 (by rfl) (by rfl) ?_
  refine X.store_l shp125 (by rfl) (by rfl) (by rfl) (by rfl) (by repeat (first | trivial | refine ⟨by first | rfl | simp [setL], ?_⟩)) (by rfl) (by rfl) (by rfl) ?_
  refine X.nil ?_
  refine Run.seq ?_
  refine Run.reg ?_
  refine X.load_l shp127 (by rfl) (by rfl) (by rfl) (by rfl) (by rfl) (by rfl) ?_
  refine X.store_l shp127 (by rfl) (by rfl) (by rfl) (by rfl) (by repeat (first | trivial | refine ⟨by first | rfl | simp [setL], ?_⟩)) (by rfl) (by rfl) (by rfl) ?_
  refine X.nil ?_
  cases h
  exact R.finMC Try.results144 shp127 (by rfl) (by rfl) (by rfl) (by rfl) (by repeat (first | trivial | refine ⟨by first | rfl | simp [setL], ?_⟩)) (by rfl) (by repeat (first | exact trivial | refine ⟨by rfl, ?_⟩)) rfl
theorem w_toActivityS_pc (b0 : List TActivity) (r : List TActivity) (h : w_toActivityS b0 = some r) : PCM Try.prog 71 [.yng 63 (.slice (b0.map eTActivity))] [(63, .yreg false false)] (.fresh false 127 3 (r.map eTActivity)) [(63, .yreg false false)] := by
  unfold w_toActivityS at h
  refine PCM.start Try.func71 Try.ntmps71 rfl ok71 rfl (by rfl) (by rfl) (by rfl) (by rfl) (by rfl) ?_
  refine Run.seq ?_
  refine Run.reg ?_
  refine X.assign (by rfl) (by rfl) ?_
  refine X.nil ?_
  refine Run.seq ?_
  refine Run.reg ?_
  refine X.move (by rfl) (by rfl) ?_
  refine X.lenY false 63 elt22 (by rfl) (by exact List.length_map ..) (by rfl) ?_
  obtain ⟨v1, hv1, h⟩ := bindE h
  refine X.makeSlice2 eTActivity hv1 elt30 zer127 (by rfl) (by rfl) (by rfl) (by simp [PV.plain]) (by rfl) (by rfl) (by rfl) (by rfl) (by rfl) (by rfl) ?_
  refine X.assign (by rfl) (by rfl) ?_
  refine X.nil ?_
  refine Run.seq ?_
  refine Run.seq ?_
  refine Run.reg ?_
  refine X.assign (by rfl) (by rfl) ?_
  refine X.nil ?_
  obtain ⟨o2, ho2, h⟩ := bindE h
  refine R.join2 (β := (List TActivity)) [] [(63, .yreg false false)] (fun p16 S => (3, .own 448 (p16.map eTActivity).length) :: S) (fun p16 M => (448, .obj true 127 3 (p16.map eTActivity)) :: M) (fun p16 => p16 = o2) ?_ ?_
  · intro JJ5 hmeet4
    have hup3 := h; clear h; have h := ho2; clear ho2
    refine Run.block ?_
    refine R.bndY false 63 (t := 0) (by rfl) (fun hbd8 => ?_)
    replace hbd8 : b0.length ≤ 9223372036854775807 := by first | (rw [List.length_map] at hbd8; exact hbd8) | simp
    refine R.loop2 (β := Int × (List TActivity)) [(0, .yng 63 (.slice (b0.map eTActivity)))] [(63, .yreg false false)] (fun bb S => (3, .own 448 (bb.2.map eTActivity).length) :: (4, int bb.1) :: S) (fun bb M => (448, .obj true 127 3 (bb.2.map eTActivity)) :: M) (fun n bb => 0 ≤ bb.1 ∧ bb.1 + n = (b0.length : Int) ∧ w_toActivityS_L1 (b0.drop bb.1.toNat) bb.1 bb.2 = some o2) b0.length (0, v1) (by repeat (first | trivial | refine ⟨by first | rfl | simp [setL], ?_⟩)) (by repeat (first | trivial | refine ⟨by first | rfl | simp [setL], ?_⟩)) (by rfl) (by rfl) ⟨Int.le_refl _, by simp, h⟩ ?_
    clear h
    rintro JJ8 n8 ⟨z9, a10⟩ hag8 ⟨hza8, hzb8, h⟩
    dsimp only at hza8 hzb8 h
    refine Run.seq ?_
    refine Run.seq ?_
    refine Run.reg ?_
    refine X.move (by rfl) (by rfl) ?_
    refine X.move (by rfl) (by rfl) ?_
    refine X.lenY false 63 elt22 (by rfl) (by exact List.length_map ..) (by rfl) ?_
    refine X.bin (by rfl) (by rfl) (by rfl) (by rfl) (by intro h; cases h) (by rfl) ?_
    refine X.nil ?_
    refine R.cond (by rfl) (fun hc13 => ?_) (fun hc13 => ?_)
    · obtain ⟨x11, xs12, hd8, hx8, hds8, hlt8⟩ := drop_atI hza8 hc13
      rw [hd8] at h
      rw [w_toActivityS_L1] at h
      refine Run.skip ?_
      refine Run.seq ?_
      refine Run.block ?_
      refine Run.reg ?_
      refine X.move (by rfl) (by rfl) ?_
      refine X.move (by rfl) (by rfl) ?_
      refine X.move (by rfl) (by rfl) ?_
      refine X.move (by rfl) (by rfl) ?_
      refine X.indexY false 63 elt22 (by rfl) (by rfl) (idxL_spec hx8).1 (idxL_map eTActivity hx8) (by rfl) (by rfl) ?_
      refine X.loadY false 63 shp165 (by rfl) (by rfl) (by rfl) (by rfl) ?_
      obtain ⟨v14, hv14, h⟩ := bindE h
      refine X.callM [(63, 63)] (w_toActivity_pc _ _ hv14) (by rfl) (by rfl) (.agg _ _ _ _ _ _ (.pureB (by rfl) (by repeat (first | trivial | refine ⟨by first | rfl | simp [setL], ?_⟩)) (.pureB (by rfl) (by repeat (first | trivial | refine ⟨by first | rfl | simp [setL], ?_⟩)) (.yngB 63 (by rfl) (by rfl) .nil))) .nil) (by rfl) ⟨rfl, rfl, ⟨_, by rfl, by constructor⟩, by constructor, trivial⟩ (by rfl) (by rfl) (by rfl) (by rfl) (by rfl) (by rfl) (by rfl) (by rfl) (by rfl) ?_
      obtain ⟨v15, hv15, h⟩ := bindE h
      refine X.index_xs elt30 (by rfl) (by rfl) (by first | rfl | simp [setL] | omega) (by rfl) (by exact (Int.toNat_of_nonneg (idxL_spec hv15).1).symm) (by have := idxL_lt hv15; simpa using this) (by rfl) (by rfl) ?_
      refine X.store_es shp127 (by rfl) (by rfl) (by first | rfl | simp [setL] | omega) (idxL_map _ hv15) (by rfl) (by rfl) (by repeat (first | trivial | refine ⟨by first | rfl | simp [setL], ?_⟩)) (by rfl) (by rfl) (by rfl) (by rfl) (by exact setL_map _ _ _ v14) ?_
      refine X.nil ?_
      refine Run.blk ?_
      refine Run.reg ?_
      refine X.move (by rfl) (by rfl) ?_
      refine X.add (by rfl) (by rfl) (by omega) (by rfl) ?_
      refine X.assign (by rfl) (by rfl) ?_
      refine X.nil ?_
      refine R.castS (t := 3) (.own 448 ((setL a10 z9 v14).map eTActivity).length) (by rfl) (.inl (by first | rfl | simp [setL])) ?_
      exact hag8 (n8 - 1) (z9 + 1, (setL a10 z9 v14)) _ _ (by omega) ⟨by first | omega | (dsimp only; omega), by first | omega | (dsimp only; omega), by first | (rw [hds8]; exact h) | (dsimp only; rw [hds8]; exact h)⟩ (by repeat (first | trivial | refine ⟨by first | rfl | simp [setL], ?_⟩)) (by repeat (first | trivial | refine ⟨by first | rfl | simp [setL], ?_⟩)) (by rfl) (by rfl)
    · rw [drop_endI hza8 hc13] at h
      rw [w_toActivityS_L1] at h
      refine Run.exit (by rfl) ?_
      exact hmeet4 a10 _ _ (Option.some.inj h) (by repeat (first | trivial | refine ⟨by first | rfl | simp [setL], ?_⟩)) (by repeat (first | trivial | refine ⟨by first | rfl | simp [setL], ?_⟩)) (by rfl) (by rfl)
  rintro p16 rfl
  refine Run.seq ?_
  refine Run.reg ?_
  refine X.move (by rfl) (by rfl) ?_
  refine X.assign (by rfl) (by rfl) ?_
  refine X.nil ?_
  cases h
  refine R.pubObj (n := 448) (by rfl) ?_
  exact R.finM1o Try.results71 (by rfl) (by rfl) (by first | rfl | simp [setL] | omega) (by rfl) (by repeat (first | exact trivial | refine ⟨by rfl, ?_⟩)) rfl
theorem w_toLink_pc (b0 : TLink) (r : TLink) (h : w_toLink b0 = some r) : PC Try.prog 145 [eTLink b0] (eTLink r) := by
  unfold w_toLink at h
  refine PC.start Try.func145 Try.ntmps145 rfl ok145 rfl ?_
  refine Run.seq ?_
  refine Run.reg ?_
  refine X.box (by rfl) (by rfl) (by repeat (first | trivial | refine ⟨by first | rfl | simp [setL], ?_⟩)) (by rfl) (by rfl) (by rfl) (by rfl) ?_
  refine X.alloc zer174 (by rfl) (by rfl) (by rfl) ?_
  refine X.nil ?_
  refine Run.seq ?_
  refine Run.reg ?_
  refine X.alloc zer174 (by rfl) (by rfl) (by rfl) ?_
  refine X.nil ?_
  refine Run.seq ?_
  refine Run.reg ?_
  refine X.fieldAddr_l fld179_0 (by rfl) (by rfl) ?_
  refine X.load_l shp3 (by rfl) (by rfl) (by rfl) (by rfl) (by rfl) (by rfl) ?_
  refine X.fieldAddr_l fld174_0 (by rfl) (by rfl) ?_
  refine X.store_l shp3 (by rfl) (by rfl) (by rfl) (by rfl) (by repeat (first | trivial | refine ⟨by first | rfl | simp [setL], ?_⟩)) (by rfl) (by rfl) (by rfl) ?_
  refine X.nil ?_
  refine Run.seq ?_
  refine Run.reg ?_
  refine X.fieldAddr_l fld179_1 (by rfl) (by rfl) ?_
  refine X.load_l shp3 (by rfl) (by rfl) (by rfl) (by rfl) (by rfl) (by rfl) ?_
  refine X.fieldAddr_l fld174_1 (by rfl) (by rfl) ?_
  refine X.store_l shp3 (by rfl) (by rfl) (by rfl) (by rfl) (by repeat (first | trivial | refine ⟨by first | rfl | simp [setL], ?_⟩)) (by rfl) (by rfl) (by rfl) ?_
  refine X.nil ?_
  refine Run.seq ?_
  refine Run.reg ?_
  refine X.fieldAddr_l fld179_2 (by rfl) (by rfl) ?_
  refine X.load_l shp4 (by rfl) (by rfl) (by rfl) (by rfl) (by rfl) (by rfl) ?_
  refine X.fieldAddr_l fld174_2 (by rfl) (by rfl) ?_
  refine X.store_l shp4 (by rfl) (by rfl) (by rfl) (by rfl) (by repeat (first | trivial | refine ⟨by first | rfl | simp [setL], ?_⟩)) (by rfl) (by rfl) (by rfl) ?_
  refine X.nil ?_
  refine Run.seq ?_
  refine Run.reg ?_
  refine X.fieldAddr_l fld179_3 (by rfl) (by rfl) ?_
  refine X.load_l shp3 (by rfl) (by rfl) (by rfl) (by rfl) (by rfl) (by rfl) ?_
  refine X.fieldAddr_l fld174_3 (by rfl) (by rfl) ?_
  refine X.store_l shp3 (by rfl) (by rfl) (by rfl) (by rfl) (by repeat (first | trivial | refine ⟨by first | rfl | simp [setL], ?_⟩)) (by rfl) (by rfl) (by rfl) ?_
  refine X.nil ?_
  refine Run.seq ?_
  refine Run.reg ?_
  refine X.load_l shp174 (by rfl) (by rfl) (by rfl) (by rfl) (by rfl) (by rfl) ?_
  refine X.store_l shp174 (by rfl) (by rfl) (by rfl) (by rfl) (by repeat (first | trivial | refine ⟨by first | rfl | simp [setL], ?_⟩)) (by rfl) (by rfl) (by rfl) ?_
  refine X.nil ?_
  cases h
  refine R.finC Try.results145 shp174 (by rfl) (by rfl) (by rfl) (by rfl) (by repeat (first | trivial | refine ⟨by first | rfl | simp [setL], ?_⟩)) ?_
  rfl
theorem w_toLinkS_pc (b0 : List TLink) (r : List TLink) (h : w_toLinkS b0 = some r) : PCM Try.prog 72 [.yng 63 (.slice (b0.map eTLink))] [(63, .yreg false false)] (.fresh false 174 4 (r.map eTLink)) [(63, .yreg false false)] := by
  unfold w_toLinkS at h
  refine PCM.start Try.func72 Try.ntmps72 rfl ok72 rfl (by rfl) (by rfl) (by rfl) (by rfl) (by rfl) ?_
  refine Run.seq ?_
  refine Run.reg ?_
  refine X.assign (by rfl) (by rfl) ?_
  refine X.nil ?_
  refine Run.seq ?_
  refine Run.reg ?_
  refine X.move (by rfl) (by rfl) ?_
  refine X.lenY false 63 elt23 (by rfl) (by exact List.length_map ..) (by rfl) ?_
  obtain ⟨v1, hv1, h⟩ := bindE h
  refine X.makeSlice2 eTLink hv1 elt31 zer174 (by rfl) (by rfl) (by rfl) (by simp [PV.plain]) (by rfl) (by rfl) (by rfl) (by rfl) (by rfl) (by rfl) ?_
  refine X.assign (by rfl) (by rfl) ?_
  refine X.nil ?_
  refine Run.seq ?_
  refine Run.seq ?_
  refine Run.reg ?_
  refine X.assign (by rfl) (by rfl) ?_
  refine X.nil ?_
  obtain ⟨o2, ho2, h⟩ := bindE h
  refine R.join2 (β := (List TLink)) [] [(63, .yreg false false)] (fun p16 S => (3, .own 448 (p16.map eTLink).length) :: S) (fun p16 M => (448, .obj true 174 4 (p16.map eTLink)) :: M) (fun p16 => p16 = o2) ?_ ?_
  · intro JJ5 hmeet4
    have hup3 := h; clear h; have h := ho2; clear ho2
    refine Run.block ?_
    refine R.bndY false 63 (t := 0) (by rfl) (fun hbd8 => ?_)
    replace hbd8 : b0.length ≤ 9223372036854775807 := by first | (rw [List.length_map] at hbd8; exact hbd8) | simp
    refine R.loop2 (β := Int × (List TLink)) [(0, .yng 63 (.slice (b0.map eTLink)))] [(63, .yreg false false)] (fun bb S => (3, .own 448 (bb.2.map eTLink).length) :: (4, int bb.1) :: S) (fun bb M => (448, .obj true 174 4 (bb.2.map eTLink)) :: M) (fun n bb => 0 ≤ bb.1 ∧ bb.1 + n = (b0.length : Int) ∧ w_toLinkS_L1 (b0.drop bb.1.toNat) bb.1 bb.2 = some o2) b0.length (0, v1) (by repeat (first | trivial | refine ⟨by first | rfl | simp [setL], ?_⟩)) (by repeat (first | trivial | refine ⟨by first | rfl | simp [setL], ?_⟩)) (by rfl) (by rfl) ⟨Int.le_refl _, by simp, h⟩ ?_
    clear h
    rintro JJ8 n8 ⟨z9, a10⟩ hag8 ⟨hza8, hzb8, h⟩
    dsimp only at hza8 hzb8 h
    refine Run.seq ?_
    refine Run.seq ?_
    refine Run.reg ?_
    refine X.move (by rfl) (by rfl) ?_
    refine X.move (by rfl) (by rfl) ?_
    refine X.lenY false 63 elt23 (by rfl) (by exact List.length_map ..) (by rfl) ?_
    refine X.bin (by rfl) (by rfl) (by rfl) (by rfl) (by intro h; cases h) (by rfl) ?_
    refine X.nil ?_
    refine R.cond (by rfl) (fun hc13 => ?_) (fun hc13 => ?_)
    · obtain ⟨x11, xs12, hd8, hx8, hds8, hlt8⟩ := drop_atI hza8 hc13
      rw [hd8] at h
      rw [w_toLinkS_L1] at h
      refine Run.skip ?_
      refine Run.seq ?_
      refine Run.block ?_
      refine Run.reg ?_
      refine X.move (by rfl) (by rfl) ?_
      refine X.move (by rfl) (by rfl) ?_
      refine X.move (by rfl) (by rfl) ?_
      refine X.move (by rfl) (by rfl) ?_
      refine X.indexY false 63 elt23 (by rfl) (by rfl) (idxL_spec hx8).1 (idxL_map eTLink hx8) (by rfl) (by rfl) ?_
      refine X.loadY false 63 shp179 (by rfl) (by rfl) (by rfl) (by rfl) ?_
      obtain ⟨v14, hv14, h⟩ := bindE h
      refine X.callA (w_toLink_pc _ _ hv14) (by rfl) (by rfl) (by rfl) (by trivial) (by rfl) (by rfl) (by rfl) (by rfl) (by rfl) (by rfl) ?_
      obtain ⟨v15, hv15, h⟩ := bindE h
      refine X.index_xs elt31 (by rfl) (by rfl) (by first | rfl | simp [setL] | omega) (by rfl) (by exact (Int.toNat_of_nonneg (idxL_spec hv15).1).symm) (by have := idxL_lt hv15; simpa using this) (by rfl) (by rfl) ?_
      refine X.store_es shp174 (by rfl) (by rfl) (by first | rfl | simp [setL] | omega) (idxL_map _ hv15) (by rfl) (by rfl) (by repeat (first | trivial | refine ⟨by first | rfl | simp [setL], ?_⟩)) (by rfl) (by rfl) (by rfl) (by rfl) (by exact setL_map _ _ _ v14) ?_
      refine X.nil ?_
      refine Run.blk ?_
      refine Run.reg ?_
      refine X.move (by rfl) (by rfl) ?_
      refine X.add (by rfl) (by rfl) (by omega) (by rfl) ?_
      refine X.assign (by rfl) (by rfl) ?_
      refine X.nil ?_
      refine R.castS (t := 3) (.own 448 ((setL a10 z9 v14).map eTLink).length) (by rfl) (.inl (by first | rfl | simp [setL])) ?_
      exact hag8 (n8 - 1) (z9 + 1, (setL a10 z9 v14)) _ _ (by omega) ⟨by first | omega | (dsimp only; omega), by first | omega | (dsimp only; omega), by first | (rw [hds8]; exact h) | (dsimp only; rw [hds8]; exact h)⟩ (by repeat (first | trivial | refine ⟨by first | rfl | simp [setL], ?_⟩)) (by repeat (first | trivial | refine ⟨by first | rfl | simp [setL], ?_⟩)) (by rfl) (by rfl)
    · rw [drop_endI hza8 hc13] at h
      rw [w_toLinkS_L1] at h
      refine Run.exit (by rfl) ?_
      exact hmeet4 a10 _ _ (Option.some.inj h) (by repeat (first | trivial | refine ⟨by first | rfl | simp [setL], ?_⟩)) (by repeat (first | trivial | refine ⟨by first | rfl | simp [setL], ?_⟩)) (by rfl) (by rfl)
  rintro p16 rfl
  refine Run.seq ?_
  refine Run.reg ?_
  refine X.move (by rfl) (by rfl) ?_
  refine X.assign (by rfl) (by rfl) ?_
  refine X.nil ?_
  cases h
  refine R.pubObj (n := 448) (by rfl) ?_
  exact R.finM1o Try.results72 (by rfl) (by rfl) (by first | rfl | simp [setL] | omega) (by rfl) (by repeat (first | exact trivial | refine ⟨by rfl, ?_⟩)) rfl
theorem w_toStep_pc (b0 : TStep) (r : TStep) (h : w_toStep b0 = some r) : PC Try.prog 230 [eTStep b0] (eTStep r) := by
  unfold w_toStep at h
  refine PC.start Try.func230 Try.ntmps230 rfl ok230 rfl ?_
  refine Run.seq ?_
  refine Run.reg ?_
  refine X.box (by rfl) (by rfl) (by repeat (first | trivial | refine ⟨by first | rfl | simp [setL], ?_⟩)) (by rfl) (by rfl) (by rfl) (by rfl) ?_
  refine X.alloc zer208 (by rfl) (by rfl) (by rfl) ?_
  refine X.nil ?_
  refine Run.seq ?_
  refine Run.reg ?_
  refine X.alloc zer208 (by rfl) (by rfl) (by rfl) ?_
  refine X.nil ?_
  refine Run.seq ?_
  refine Run.reg ?_
  refine X.fieldAddr_l fld227_0 (by rfl) (by rfl) ?_
  refine X.load_l shp3 (by rfl) (by rfl) (by rfl) (by rfl) (by rfl) (by rfl) ?_
  refine X.fieldAddr_l fld208_0 (by rfl) (by rfl) ?_
  refine X.store_l shp3 (by rfl) (by rfl) (by rfl) (by rfl) (by repeat (first | trivial | refine ⟨by first | rfl | simp [setL], ?_⟩)) (by rfl) (by rfl) (by rfl) ?_
  refine X.nil ?_
  refine Run.seq ?_
  refine Run.reg ?_
  refine X.fieldAddr_l fld227_1 (by rfl) (by rfl) ?_
  refine X.load_l shp3 (by rfl) (by rfl) (by rfl) (by rfl) (by rfl) (by rfl) ?_
  refine X.fieldAddr_l fld208_1 (by rfl) (by rfl) ?_
  refine X.store_l shp3 (by rfl) (by rfl) (by rfl) (by rfl) (by repeat (first | trivial | refine ⟨by first | rfl | simp [setL], ?_⟩)) (by rfl) (by rfl) (by rfl) ?_
  refine X.nil ?_
  refine Run.seq ?_
  refine Run.reg ?_
  refine X.load_l shp208 (by rfl) (by rfl) (by rfl) (by rfl) (by rfl) (by rfl) ?_
  refine X.store_l shp208 (by rfl) (by rfl) (by rfl) (by rfl) (by repeat (first | trivial | refine ⟨by first | rfl | simp [setL], ?_⟩)) (by rfl) (by rfl) (by rfl) ?_
  refine X.nil ?_
  cases h
  refine R.finC Try.results230 shp208 (by rfl) (by rfl) (by rfl) (by rfl) (by repeat (first | trivial | refine ⟨by first | rfl | simp [setL], ?_⟩)) ?_
  rfl
theorem w_toStepS_pc (b0 : List TStep) (r : List TStep) (h : w_toStepS b0 = some r) : PCM Try.prog 202 [.yng 63 (.slice (b0.map eTStep))] [(63, .yreg false false)] (.fresh false 208 2 (r.map eTStep)) [(63, .yreg false false)] := by
  unfold w_toStepS at h
  refine PCM.start Try.func202 Try.ntmps202 rfl ok202 rfl (by rfl) (by rfl) (by rfl) (by rfl) (by rfl) ?_
  refine Run.seq ?_
  refine Run.reg ?_
  refine X.assign (by rfl) (by rfl) ?_
  refine X.nil ?_
  refine Run.seq ?_
  refine Run.reg ?_
  refine X.move (by rfl) (by rfl) ?_
  refine X.lenY false 63 elt167 (by rfl) (by exact List.length_map ..) (by rfl) ?_
  obtain ⟨v1, hv1, h⟩ := bindE h
  refine X.makeSlice2 eTStep hv1 elt113 zer208 (by rfl) (by rfl) (by rfl) (by simp [PV.plain]) (by rfl) (by rfl) (by rfl) (by rfl) (by rfl) (by rfl) ?_
  refine X.assign (by rfl) (by rfl) ?_
  refine X.nil ?_
  refine Run.seq ?_
  refine Run.seq ?_
  refine Run.reg ?_
  refine X.assign (by rfl) (by rfl) ?_
  refine X.nil ?_
  obtain ⟨o2, ho2, h⟩ := bindE h
  refine R.join2 (β := (List TStep)) [] [(63, .yreg false false)] (fun p16 S => (3, .own 448 (p16.map eTStep).length) :: S) (fun p16 M => (448, .obj true 208 2 (p16.map eTStep)) :: M) (fun p16 => p16 = o2) ?_ ?_
  · intro JJ5 hmeet4
    have hup3 := h; clear h; have h := ho2; clear ho2
    refine Run.block ?_
    refine R.bndY false 63 (t := 0) (by rfl) (fun hbd8 => ?_)
    replace hbd8 : b0.length ≤ 9223372036854775807 := by first | (rw [List.length_map] at hbd8; exact hbd8) | simp
    refine R.loop2 (β := Int × (List TStep)) [(0, .yng 63 (.slice (b0.map eTStep)))] [(63, .yreg false false)] (fun bb S => (3, .own 448 (bb.2.map eTStep).length) :: (4, int bb.1) :: S) (fun bb M => (448, .obj true 208 2 (bb.2.map eTStep)) :: M) (fun n bb => 0 ≤ bb.1 ∧ bb.1 + n = (b0.length : Int) ∧ w_toStepS_L1 (b0.drop bb.1.toNat) bb.1 bb.2 = some o2) b0.length (0, v1) (by repeat (first | trivial | refine ⟨by first | rfl | simp [setL], ?_⟩)) (by repeat (first | trivial | refine ⟨by first | rfl | simp [setL], ?_⟩)) (by rfl) (by rfl) ⟨Int.le_refl _, by simp, h⟩ ?_
    clear h
    rintro JJ8 n8 ⟨z9, a10⟩ hag8 ⟨hza8, hzb8, h⟩
    dsimp only at hza8 hzb8 h
    refine Run.seq ?_
    refine Run.seq ?_
    refine Run.reg ?_
    refine X.move (by rfl) (by rfl) ?_
    refine X.move (by rfl) (by rfl) ?_
    refine X.lenY false 63 elt167 (by rfl) (by exact List.length_map ..) (by rfl) ?_
    refine X.bin (by rfl) (by rfl) (by rfl) (by rfl) (by intro h; cases h) (by rfl) ?_
    refine X.nil ?_
    refine R.cond (by rfl) (fun hc13 => ?_) (fun hc13 => ?_)
    · obtain ⟨x11, xs12, hd8, hx8, hds8, hlt8⟩ := drop_atI hza8 hc13
      rw [hd8] at h
      rw [w_toStepS_L1] at h
      refine Run.skip ?_
      refine Run.seq ?_
      refine Run.block ?_
      refine Run.reg ?_
      refine X.move (by rfl) (by rfl) ?_
      refine X.move (by rfl) (by rfl) ?_
      refine X.move (by rfl) (by rfl) ?_
      refine X.move (by rfl) (by rfl) ?_
      refine X.indexY false 63 elt167 (by rfl) (by rfl) (idxL_spec hx8).1 (idxL_map eTStep hx8) (by rfl) (by rfl) ?_
      refine X.loadY false 63 shp227 (by rfl) (by rfl) (by rfl) (by rfl) ?_
      obtain ⟨v14, hv14, h⟩ := bindE h
      refine X.callA (w_toStep_pc _ _ hv14) (by rfl) (by rfl) (by rfl) (by trivial) (by rfl) (by rfl) (by rfl) (by rfl) (by rfl) (by rfl) ?_
      obtain ⟨v15, hv15, h⟩ := bindE h
      refine X.index_xs elt113 (by rfl) (by rfl) (by first | rfl | simp [setL] | omega) (by rfl) (by exact (Int.toNat_of_nonneg (idxL_spec hv15).1).symm) (by have := idxL_lt hv15; simpa using this) (by rfl) (by rfl) ?_
      refine X.store_es shp208 (by rfl) (by rfl) (by first | rfl | simp [setL] | omega) (idxL_map _ hv15) (by rfl) (by rfl) (by repeat (first | trivial | refine ⟨by first | rfl | simp [setL], ?_⟩)) (by rfl) (by rfl) (by rfl) (by rfl) (by exact setL_map _ _ _ v14) ?_
      refine X.nil ?_
      refine Run.blk ?_
      refine Run.reg ?_
      refine X.move (by rfl) (by rfl) ?_
      refine X.add (by rfl) (by rfl) (by omega) (by rfl) ?_
      refine X.assign (by rfl) (by rfl) ?_
      refine X.nil ?_
      refine R.castS (t := 3) (.own 448 ((setL a10 z9 v14).map eTStep).length) (by rfl) (.inl (by first | rfl | simp [setL])) ?_
      exact hag8 (n8 - 1) (z9 + 1, (setL a10 z9 v14)) _ _ (by omega) ⟨by first | omega | (dsimp only; omega), by first | omega | (dsimp only; omega), by first | (rw [hds8]; exact h) | (dsimp only; rw [hds8]; exact h)⟩ (by repeat (first | trivial | refine ⟨by first | rfl | simp [setL], ?_⟩)) (by repeat (first | trivial | refine ⟨by first | rfl | simp [setL], ?_⟩)) (by rfl) (by rfl)
    · rw [drop_endI hza8 hc13] at h
      rw [w_toStepS_L1] at h
      refine Run.exit (by rfl) ?_
      exact hmeet4 a10 _ _ (Option.some.inj h) (by repeat (first | trivial | refine ⟨by first | rfl | simp [setL], ?_⟩)) (by repeat (first | trivial | refine ⟨by first | rfl | simp [setL], ?_⟩)) (by rfl) (by rfl)
  rintro p16 rfl
  refine Run.seq ?_
  refine Run.reg ?_
  refine X.move (by rfl) (by rfl) ?_
  refine X.assign (by rfl) (by rfl) ?_
  refine X.nil ?_
  cases h
  refine R.pubObj (n := 448) (by rfl) ?_
  exact R.finM1o Try.results202 (by rfl) (by rfl) (by first | rfl | simp [setL] | omega) (by rfl) (by repeat (first | exact trivial | refine ⟨by rfl, ?_⟩)) rfl
theorem w_toIntSS_pc (b0 : List (List Int)) (r : List (List Int)) (h : w_toIntSS b0 = some r) : PCM Try.prog 125 [.yng 63 (.slice (b0.map l_int))] [(63, .yreg false false)] (.fresh false 25 1 (r.map l_int)) [(63, .yreg false false)] := by
  unfold w_toIntSS at h
  refine PCM.start Try.func125 Try.ntmps125 rfl ok125 rfl (by rfl) (by rfl) (by rfl) (by rfl) (by rfl) ?_
  refine Run.seq ?_
  refine Run.reg ?_
  refine X.assign (by rfl) (by rfl) ?_
  refine X.nil ?_
  refine Run.seq ?_
  refine Run.reg ?_
  refine X.move (by rfl) (by rfl) ?_
  refine X.lenY false 63 elt63 (by rfl) (by exact List.length_map ..) (by rfl) ?_
  obtain ⟨v1, hv1, h⟩ := bindE h
  refine X.makeSlice2 l_int hv1 elt63 zer25 (by rfl) (by rfl) (by rfl) (by simp [PV.plain]) (by rfl) (by rfl) (by rfl) (by rfl) (by rfl) (by rfl) ?_
  refine X.assign (by rfl) (by rfl) ?_
  refine X.nil ?_
  refine Run.seq ?_
  refine Run.seq ?_
  refine Run.reg ?_
  refine X.assign (by rfl) (by rfl) ?_
  refine X.nil ?_
  obtain ⟨o2, ho2, h⟩ := bindE h
  refine R.join2 (β := (List (List Int))) [] [(63, .yreg false false)] (fun p16 S => (3, .own 448 (p16.map l_int).length) :: S) (fun p16 M => (448, .obj true 25 1 (p16.map l_int)) :: M) (fun p16 => p16 = o2) ?_ ?_
  · intro JJ5 hmeet4
    have hup3 := h; clear h; have h := ho2; clear ho2
    refine Run.block ?_
    refine R.bndY false 63 (t := 0) (by rfl) (fun hbd8 => ?_)
    replace hbd8 : b0.length ≤ 9223372036854775807 := by first | (rw [List.length_map] at hbd8; exact hbd8) | simp
    refine R.loop2 (β := Int × (List (List Int))) [(0, .yng 63 (.slice (b0.map l_int)))] [(63, .yreg false false)] (fun bb S => (3, .own 448 (bb.2.map l_int).length) :: (4, int bb.1) :: S) (fun bb M => (448, .obj true 25 1 (bb.2.map l_int)) :: M) (fun n bb => 0 ≤ bb.1 ∧ bb.1 + n = (b0.length : Int) ∧ w_toIntSS_L1 (b0.drop bb.1.toNat) bb.1 bb.2 = some o2) b0.length (0, v1) (by repeat (first | trivial | refine ⟨by first | rfl | simp [setL], ?_⟩)) (by repeat (first | trivial | refine ⟨by first | rfl | simp [setL], ?_⟩)) (by rfl) (by rfl) ⟨Int.le_refl _, by simp, h⟩ ?_
    clear h
    rintro JJ8 n8 ⟨z9, a10⟩ hag8 ⟨hza8, hzb8, h⟩
    dsimp only at hza8 hzb8 h
    refine Run.seq ?_
    refine Run.seq ?_
    refine Run.reg ?_
    refine X.move (by rfl) (by rfl) ?_
    refine X.move (by rfl) (by rfl) ?_
    refine X.lenY false 63 elt63 (by rfl) (by exact List.length_map ..) (by rfl) ?_
    refine X.bin (by rfl) (by rfl) (by rfl) (by rfl) (by intro h; cases h) (by rfl) ?_
    refine X.nil ?_
    refine R.cond (by rfl) (fun hc13 => ?_) (fun hc13 => ?_)
    · obtain ⟨x11, xs12, hd8, hx8, hds8, hlt8⟩ := drop_atI hza8 hc13
      rw [hd8] at h
      rw [w_toIntSS_L1] at h
      refine Run.skip ?_
      refine Run.seq ?_
      refine Run.block ?_
      refine Run.reg ?_
      refine X.move (by rfl) (by rfl) ?_
      refine X.move (by rfl) (by rfl) ?_
      refine X.move (by rfl) (by rfl) ?_
      refine X.move (by rfl) (by rfl) ?_
      refine X.indexY false 63 elt63 (by rfl) (by rfl) (idxL_spec hx8).1 (idxL_map l_int hx8) (by rfl) (by rfl) ?_
      refine X.loadY false 63 shp25 (by rfl) (by rfl) (by rfl) (by rfl) ?_
      obtain ⟨v14, hv14, h⟩ := bindE h
      refine X.callM [(63, 63)] (w_toIntS_pc _ _ hv14) (by rfl) (by rfl) (.yngB 63 (by rfl) (by rfl) .nil) (by rfl) ⟨rfl, rfl, ⟨_, by rfl, by constructor⟩, by constructor, trivial⟩ (by rfl) (by rfl) (by rfl) (by rfl) (by rfl) (by rfl) (by rfl) (by rfl) (by rfl) ?_
      obtain ⟨v15, hv15, h⟩ := bindE h
      refine X.index_xs elt63 (by rfl) (by rfl) (by first | rfl | simp [setL] | omega) (by rfl) (by exact (Int.toNat_of_nonneg (idxL_spec hv15).1).symm) (by have := idxL_lt hv15; simpa using this) (by rfl) (by rfl) ?_
      refine X.store_es shp25 (by rfl) (by rfl) (by first | rfl | simp [setL] | omega) (idxL_map _ hv15) (by rfl) (by rfl) (by repeat (first | trivial | refine ⟨by first | rfl | simp [setL], ?_⟩)) (by rfl) (by rfl) (by rfl) (by rfl) (by exact setL_map _ _ _ v14) ?_
      refine X.nil ?_
      refine Run.blk ?_
      refine Run.reg ?_
      refine X.move (by rfl) (by rfl) ?_
      refine X.add (by rfl) (by rfl) (by omega) (by rfl) ?_
      refine X.assign (by rfl) (by rfl) ?_
      refine X.nil ?_
      refine R.castS (t := 3) (.own 448 ((setL a10 z9 v14).map l_int).length) (by rfl) (.inl (by first | rfl | simp [setL])) ?_
      exact hag8 (n8 - 1) (z9 + 1, (setL a10 z9 v14)) _ _ (by omega) ⟨by first | omega | (dsimp only; omega), by first | omega | (dsimp only; omega), by first | (rw [hds8]; exact h) | (dsimp only; rw [hds8]; exact h)⟩ (by repeat (first | trivial | refine ⟨by first | rfl | simp [setL], ?_⟩)) (by repeat (first | trivial | refine ⟨by first | rfl | simp [setL], ?_⟩)) (by rfl) (by rfl)
    · rw [drop_endI hza8 hc13] at h
      rw [w_toIntSS_L1] at h
      refine Run.exit (by rfl) ?_
      exact hmeet4 a10 _ _ (Option.some.inj h) (by repeat (first | trivial | refine ⟨by first | rfl | simp [setL], ?_⟩)) (by repeat (first | trivial | refine ⟨by first | rfl | simp [setL], ?_⟩)) (by rfl) (by rfl)
  rintro p16 rfl
  refine Run.seq ?_
  refine Run.reg ?_
  refine X.move (by rfl) (by rfl) ?_
  refine X.assign (by rfl) (by rfl) ?_
  refine X.nil ?_
  cases h
  refine R.pubObj (n := 448) (by rfl) ?_
  exact R.finM1o Try.results125 (by rfl) (by rfl) (by first | rfl | simp [setL] | omega) (by rfl) (by repeat (first | exact trivial | refine ⟨by rfl, ?_⟩)) rfl
theorem w_toResource_pc (b0 : TResource) (r : TResource) (h : w_toResource b0 = some r) : PCM Try.prog 146 [.agg [.yng 63 (.slice (b0.Steps.map eTStep)), .yng 63 (.slice (b0.Setup.map l_int))]] [(63, .yreg false false)] (.agg [.fresh false 208 2 (r.Steps.map eTStep), .fresh false 25 1 (r.Setup.map l_int)]) [(63, .yreg false false)] := by
  unfold w_toResource at h
  refine PCM.start Try.func146 Try.ntmps146 rfl ok146 rfl (by rfl) (by rfl) (by rfl) (by rfl) (by rfl) ?_
  refine Run.seq ?_
  refine Run.reg ?_
  refine X.box (by rfl) (by rfl) (by repeat (first | trivial | refine ⟨by first | rfl | simp [setL], ?_⟩)) (by rfl) (by rfl) (by rfl) (by rfl) ?_
  refine X.alloc zer115 (by rfl) (by rfl) (by rfl) ?_
  refine X.nil ?_
  refine Run.seq ?_
  refine Run.reg ?_
  refine X.alloc zer115 (by rfl) (by rfl) (by rfl) ?_
  refine X.nil ?_
  refine Run.seq ?_
  refine Run.reg ?_
  refine X.fieldAddr_l fld169_0 (by rfl) (by rfl) ?_
  refine X.load_l shp167 (by rfl) (by rfl) (by rfl) (by rfl) (by rfl) (by rfl) ?_
  obtain ⟨v1, hv1, h⟩ := bindE h
  refine X.callM [(63, 63)] (w_toStepS_pc _ _ hv1) (by rfl) (by rfl) (.yngB 63 (by rfl) (by rfl) .nil) (by rfl) ⟨rfl, rfl, ⟨_, by rfl, by constructor⟩, by constructor, trivial⟩ (by rfl) (by rfl) (by rfl) (by rfl) (by rfl) (by rfl) (by rfl) (by rfl) (by rfl) ?_
  refine X.fieldAddr_l fld115_0 (by rfl) (by rfl) ?_
  refine X.store_l shp113 (by rfl) (by rfl) (by rfl) (by rfl) (by repeat (first | trivial | refine ⟨by first | rfl | simp [setL], ?_⟩)) (by rfl) (by rfl) (by rfl) ?_
  refine X.nil ?_
  refine Run.seq ?_
  refine Run.reg ?_
  refine X.fieldAddr_l fld169_1 (by rfl) (by rfl) ?_
  refine X.load_l shp63 (by rfl) (by rfl) (by rfl) (by rfl) (by rfl) (by rfl) ?_
  obtain ⟨v2, hv2, h⟩ := bindE h
  refine X.callM [(63, 63)] (w_toIntSS_pc _ _ hv2) (by rfl) (by rfl) (.yngB 63 (by rfl) (by rfl) .nil) (by rfl) ⟨rfl, rfl, ⟨_, by rfl, by constructor⟩, by constructor, trivial⟩ (by rfl) (by rfl) (by rfl) (by rfl) (by rfl) (by rfl) (by rfl) (by rfl) (by rfl) ?_
  refine X.fieldAddr_l fld115_1 (by rfl) (by rfl) ?_
  refine X.store_l shp63 (by rfl) (by rfl) (by rfl) (by rfl) (by repeat (first | trivial | refine ⟨by first | rfl | simp [setL], ?_⟩)) (by rfl) (by rfl) (by rfl) ?_
  refine X.nil ?_
  refine Run.seq ?_
  refine Run.reg ?_
  refine X.load_l shp115 (by rfl) (by rfl) (by rfl) (by rfl) (by rfl) (by rfl) ?_
  refine X.store_l shp115 (by rfl) (by rfl) (by rfl) (by rfl) (by repeat (first | trivial | refine ⟨by first | rfl | simp [setL], ?_⟩)) (by rfl) (by rfl) (by rfl) ?_
  refine X.nil ?_
  cases h
  exact R.finMC Try.results146 shp115 (by rfl) (by rfl) (by rfl) (by rfl) (by repeat (first | trivial | refine ⟨by first | rfl | simp [setL], ?_⟩)) (by rfl) (by repeat (first | exact trivial | refine ⟨by rfl, ?_⟩)) rfl
theorem w_toResourceS_pc (b0 : List TResource) (r : List TResource) (h : w_toResourceS b0 = some r) : PCM Try.prog 73 [.yng 63 (.slice (b0.map eTResource))] [(63, .yreg false false)] (.fresh false 115 2 (r.map eTResource)) [(63, .yreg false false)] := by
  unfold w_toResourceS at h
  refine PCM.start Try.func73 Try.ntmps73 rfl ok73 rfl (by rfl) (by rfl) (by rfl) (by rfl) (by rfl) ?_
  refine Run.seq ?_
  refine Run.reg ?_
  refine X.assign (by rfl) (by rfl) ?_
  refine X.nil ?_
  refine Run.seq ?_
  refine Run.reg ?_
  refine X.move (by rfl) (by rfl) ?_
  refine X.lenY false 63 elt24 (by rfl) (by exact List.length_map ..) (by rfl) ?_
  obtain ⟨v1, hv1, h⟩ := bindE h
  refine X.makeSlice2 eTResource hv1 elt32 zer115 (by rfl) (by rfl) (by rfl) (by simp [PV.plain]) (by rfl) (by rfl) (by rfl) (by rfl) (by rfl) (by rfl) ?_
  refine X.assign (by rfl) (by rfl) ?_
  refine X.nil ?_
  refine Run.seq ?_
  refine Run.seq ?_
  refine Run.reg ?_
  refine X.assign (by rfl) (by rfl) ?_
  refine X.nil ?_
  obtain ⟨o2, ho2, h⟩ := bindE h
  refine R.join2 (β := (List TResource)) [] [(63, .yreg false false)] (fun p16 S => (3, .own 448 (p16.map eTResource).length) :: S) (fun p16 M => (448, .obj true 115 2 (p16.map eTResource)) :: M) (fun p16 => p16 = o2) ?_ ?_
  · intro JJ5 hmeet4
    have hup3 := h; clear h; have h := ho2; clear ho2
    refine Run.block ?_
    refine R.bndY false 63 (t := 0) (by rfl) (fun hbd8 => ?_)
    replace hbd8 : b0.length ≤ 9223372036854775807 := by first | (rw [List.length_map] at hbd8; exact hbd8) | simp
    refine R.loop2 (β := Int × (List TResource)) [(0, .yng 63 (.slice (b0.map eTResource)))] [(63, .yreg false false)] (fun bb S => (3, .own 448 (bb.2.map eTResource).length) :: (4, int bb.1) :: S) (fun bb M => (448, .obj true 115 2 (bb.2.map eTResource)) :: M) (fun n bb => 0 ≤ bb.1 ∧ bb.1 + n = (b0.length : Int) ∧ w_toResourceS_L1 (b0.drop bb.1.toNat) bb.1 bb.2 = some o2) b0.length (0, v1) (by repeat (first | trivial | refine ⟨by first | rfl | simp [setL], ?_⟩)) (by repeat (first | trivial | refine ⟨by first | rfl | simp [setL], ?_⟩)) (by rfl) (by rfl) ⟨Int.le_refl _, by simp, h⟩ ?_
    clear h
    rintro JJ8 n8 ⟨z9, a10⟩ hag8 ⟨hza8, hzb8, h⟩
    dsimp only at hza8 hzb8 h
    refine Run.seq ?_
    refine Run.seq ?_
    refine Run.reg ?_
    refine X.move (by rfl) (by rfl) ?_
    refine X.move (by rfl) (by rfl) ?_
    refine X.lenY false 63 elt24 (by rfl) (by exact List.length_map ..) (by rfl) ?_
    refine X.bin (by rfl) (by rfl) (by rfl) (by rfl) (by intro h; cases h) (by rfl) ?_
    refine X.nil ?_
    refine R.cond (by rfl) (fun hc13 => ?_) (fun hc13 => ?_)
    · obtain ⟨x11, xs12, hd8, hx8, hds8, hlt8⟩ := drop_atI hza8 hc13
      rw [hd8] at h
      rw [w_toResourceS_L1] at h
      refine Run.skip ?_
      refine Run.seq ?_
      refine Run.block ?_
      refine Run.reg ?_
      refine X.move (by rfl) (by rfl) ?_
      refine X.move (by rfl) (by rfl) ?_
      refine X.move (by rfl) (by rfl) ?_
      refine X.move (by rfl) (by rfl) ?_
      refine X.indexY false 63 elt24 (by rfl) (by rfl) (idxL_spec hx8).1 (idxL_map eTResource hx8) (by rfl) (by rfl) ?_
      refine X.loadY false 63 shp169 (by rfl) (by rfl) (by rfl) (by rfl) ?_
      obtain ⟨v14, hv14, h⟩ := bindE h
      refine X.callM [(63, 63)] (w_toResource_pc _ _ hv14) (by rfl) (by rfl) (.agg _ _ _ _ _ _ (.yngB 63 (by rfl) (by rfl) (.yngB 63 (by rfl) (by rfl) .nil)) .nil) (by rfl) ⟨rfl, rfl, ⟨_, by rfl, by constructor⟩, by constructor, trivial⟩ (by rfl) (by rfl) (by rfl) (by rfl) (by rfl) (by rfl) (by rfl) (by rfl) (by rfl) ?_
      obtain ⟨v15, hv15, h⟩ := bindE h
      refine X.index_xs elt32 (by rfl) (by rfl) (by first | rfl | simp [setL] | omega) (by rfl) (by exact (Int.toNat_of_nonneg (idxL_spec hv15).1).symm) (by have := idxL_lt hv15; simpa using this) (by rfl) (by rfl) ?_
      refine X.store_es shp115 (by rfl) (by rfl) (by first | rfl | simp [setL] | omega) (idxL_map _ hv15) (by rfl) (by rfl) (by repeat (first | trivial | refine ⟨by first | rfl | simp [setL], ?_⟩)) (by rfl) (by rfl) (by rfl) (by rfl) (by exact setL_map _ _ _ v14) ?_
      refine X.nil ?_
      refine Run.blk ?_
      refine Run.reg ?_
      refine X.move (by rfl) (by rfl) ?_
      refine X.add (by rfl) (by rfl) (by omega) (by rfl) ?_
      refine X.assign (by rfl) (by rfl) ?_
      refine X.nil ?_
      refine R.castS (t := 3) (.own 448 ((setL a10 z9 v14).map eTResource).length) (by rfl) (.inl (by first | rfl | simp [setL])) ?_
      exact hag8 (n8 - 1) (z9 + 1, (setL a10 z9 v14)) _ _ (by omega) ⟨by first | omega | (dsimp only; omega), by first | omega | (dsimp only; omega), by first | (rw [hds8]; exact h) | (dsimp only; rw [hds8]; exact h)⟩ (by repeat (first | trivial | refine ⟨by first | rfl | simp [setL], ?_⟩)) (by repeat (first | trivial | refine ⟨by first | rfl | simp [setL], ?_⟩)) (by rfl) (by rfl)
    · rw [drop_endI hza8 hc13] at h
      rw [w_toResourceS_L1] at h
      refine Run.exit (by rfl) ?_
      exact hmeet4 a10 _ _ (Option.some.inj h) (by repeat (first | trivial | refine ⟨by first | rfl | simp [setL], ?_⟩)) (by repeat (first | trivial | refine ⟨by first | rfl | simp [setL], ?_⟩)) (by rfl) (by rfl)
  rintro p16 rfl
  refine Run.seq ?_
  refine Run.reg ?_
  refine X.move (by rfl) (by rfl) ?_
  refine X.assign (by rfl) (by rfl) ?_
  refine X.nil ?_
  cases h
  refine R.pubObj (n := 448) (by rfl) ?_
  exact R.finM1o Try.results73 (by rfl) (by rfl) (by first | rfl | simp [setL] | omega) (by rfl) (by repeat (first | exact trivial | refine ⟨by rfl, ?_⟩)) rfl
theorem w_toProject_pc (b0 : TProject) (r : TProject) (h : w_toProject b0 = some r) : PCM Try.prog 18 [.agg [int b0.Deadline, .yng 63 (.slice (b0.Activities.map eTActivity)), .yng 63 (.slice (b0.Links.map eTLink)), .yng 63 (.slice (b0.Resources.map eTResource)), .yng 63 (.slice (b0.Stocks.map int))]] [(63, .yreg false false)] (.agg [int r.Deadline, .fresh false 127 3 (r.Activities.map eTActivity), .fresh false 174 4 (r.Links.map eTLink), .fresh false 115 2 (r.Resources.map eTResource), .fresh false 3 1 (r.Stocks.map int)]) [(63, .yreg false false)] := by
  unfold w_toProject at h
  refine PCM.start Try.func18 Try.ntmps18 rfl ok18 rfl (by rfl) (by rfl) (by rfl) (by rfl) (by rfl) ?_
  refine Run.seq ?_
  refine Run.reg ?_
  refine X.box (by rfl) (by rfl) (by repeat (first | trivial | refine ⟨by first | rfl | simp [setL], ?_⟩)) (by rfl) (by rfl) (by rfl) (by rfl) ?_
  refine X.alloc zer34 (by rfl) (by rfl) (by rfl) ?_
  refine X.nil ?_
  refine Run.seq ?_
  refine Run.reg ?_
  refine X.alloc zer34 (by rfl) (by rfl) (by rfl) ?_
  refine X.nil ?_
  refine Run.seq ?_
  refine Run.reg ?_
  refine X.fieldAddr_l fld27_0 (by rfl) (by rfl) ?_
  refine X.load_l shp3 (by rfl) (by rfl) (by rfl) (by rfl) (by rfl) (by rfl) ?_
  refine X.fieldAddr_l fld34_0 (by rfl) (by rfl) ?_
  refine X.store_l shp3 (by rfl) (by rfl) (by rfl) (by rfl) (by repeat (first | trivial | refine ⟨by first | rfl | simp [setL], ?_⟩)) (by rfl) (by rfl) (by rfl) ?_
  refine X.nil ?_
  refine Run.seq ?_
  refine Run.reg ?_
  refine X.fieldAddr_l fld27_1 (by rfl) (by rfl) ?_
  refine X.load_l shp22 (by rfl) (by rfl) (by rfl) (by rfl) (by rfl) (by rfl) ?_
  obtain ⟨v1, hv1, h⟩ := bindE h
  refine X.callM [(63, 63)] (w_toActivityS_pc _ _ hv1) (by rfl) (by rfl) (.yngB 63 (by rfl) (by rfl) .nil) (by rfl) ⟨rfl, rfl, ⟨_, by rfl, by constructor⟩, by constructor, trivial⟩ (by rfl) (by rfl) (by rfl) (by rfl) (by rfl) (by rfl) (by rfl) (by rfl) (by rfl) ?_
  refine X.fieldAddr_l fld34_1 (by rfl) (by rfl) ?_
  refine X.store_l shp30 (by rfl) (by rfl) (by rfl) (by rfl) (by repeat (first | trivial | refine ⟨by first | rfl | simp [setL], ?_⟩)) (by rfl) (by rfl) (by rfl) ?_
  refine X.nil ?_
  refine Run.seq ?_
  refine Run.reg ?_
  refine X.fieldAddr_l fld27_2 (by rfl) (by rfl) ?_
  refine X.load_l shp23 (by rfl) (by rfl) (by rfl) (by rfl) (by rfl) (by rfl) ?_
  obtain ⟨v2, hv2, h⟩ := bindE h
  refine X.callM [(63, 63)] (w_toLinkS_pc _ _ hv2) (by rfl) (by rfl) (.yngB 63 (by rfl) (by rfl) .nil) (by rfl) ⟨rfl, rfl, ⟨_, by rfl, by constructor⟩, by constructor, trivial⟩ (by rfl) (by rfl) (by rfl) (by rfl) (by rfl) (by rfl) (by rfl) (by rfl) (by rfl) ?_
  refine X.fieldAddr_l fld34_2 (by rfl) (by rfl) ?_
  refine X.store_l shp31 (by rfl) (by rfl) (by rfl) (by rfl) (by repeat (first | trivial | refine ⟨by first | rfl | simp [setL], ?_⟩)) (by rfl) (by rfl) (by rfl) ?_
  refine X.nil ?_
  refine Run.seq ?_
  refine Run.reg ?_
  refine X.fieldAddr_l fld27_3 (by rfl) (by rfl) ?_
  refine X.load_l shp24 (by rfl) (by rfl) (by rfl) (by rfl) (by rfl) (by rfl) ?_
  obtain ⟨v3, hv3, h⟩ := bindE h
  refine X.callM [(63, 63)] (w_toResourceS_pc _ _ hv3) (by rfl) (by rfl) (.yngB 63 (by rfl) (by rfl) .nil) (by rfl) ⟨rfl, rfl, ⟨_, by rfl, by constructor⟩, by constructor, trivial⟩ (by rfl) (by rfl) (by rfl) (by rfl) (by rfl) (by rfl) (by rfl) (by rfl) (by rfl) ?_
  refine X.fieldAddr_l fld34_3 (by rfl) (by rfl) ?_
  refine X.store_l shp32 (by rfl) (by rfl) (by rfl) (by rfl) (by repeat (first | trivial | refine ⟨by first | rfl | simp [setL], ?_⟩)) (by rfl) (by rfl) (by rfl) ?_
  refine X.nil ?_
  refine Run.seq ?_
  refine Run.reg ?_
  refine X.fieldAddr_l fld27_4 (by rfl) (by rfl) ?_
  refine X.load_l shp25 (by rfl) (by rfl) (by rfl) (by rfl) (by rfl) (by rfl) ?_
  obtain ⟨v4, hv4, h⟩ := bindE h
  refine X.callM [(63, 63)] (w_toIntS_pc _ _ hv4) (by rfl) (by rfl) (.yngB 63 (by rfl) (by rfl) .nil) (by rfl) ⟨rfl, rfl, ⟨_, by rfl, by constructor⟩, by constructor, trivial⟩ (by rfl) (by rfl) (by rfl) (by rfl) (by rfl) (by rfl) (by rfl) (by rfl) (by rfl) ?_
  refine X.fieldAddr_l fld34_4 (by rfl) (by rfl) ?_
  refine X.store_l shp25 (by rfl) (by rfl) (by rfl) (by rfl) (by repeat (first | trivial | refine ⟨by first | rfl | simp [setL], ?_⟩)) (by rfl) (by rfl) (by rfl) ?_
  refine X.nil ?_
  refine Run.seq ?_
  refine Run.reg ?_
  refine X.load_l shp34 (by rfl) (by rfl) (by rfl) (by rfl) (by rfl) (by rfl) ?_
  refine X.store_l shp34 (by rfl) (by rfl) (by rfl) (by rfl) (by repeat (first | trivial | refine ⟨by first | rfl | simp [setL], ?_⟩)) (by rfl) (by rfl) (by rfl) ?_
  refine X.nil ?_
  cases h
  exact R.finMC Try.results18 shp34 (by rfl) (by rfl) (by rfl) (by rfl) (by repeat (first | trivial | refine ⟨by first | rfl | simp [setL], ?_⟩)) (by rfl) (by repeat (first | exact trivial | refine ⟨by rfl, ?_⟩)) rfl
theorem s_l01In_pc (b0 : Int) (b1 : Int) (b2 : Int) (r : Bool) (h : s_l01In b0 b1 b2 = some r) : PC Try.prog 69 [int b0, int b1, int b2] (bool r) := by
  unfold s_l01In at h
  refine PC.start Try.func69 Try.ntmps69 rfl ok69 rfl ?_
  refine Run.seq ?_
  refine Run.reg ?_
  refine X.assign (by rfl) (by rfl) ?_
  refine X.nil ?_
  refine Run.seq ?_
  obtain ⟨e1, he1, h2⟩ := bindE h
  refine R.regG [(6, bool e1)] [] ?_ ?_
  · clear h; have h := he1; clear he1 h2
    refine X.move (by rfl) (by rfl) ?_
    refine X.move (by rfl) (by rfl) ?_
    refine X.bin (by rfl) (by rfl) (by rfl) (by rfl) (by intro h; cases h) (by rfl) ?_
    refine X.move (by rfl) (by rfl) ?_
    refine X.ifG (by rfl) (by rfl) (by rfl) (fun hb2 => ?_) (fun hb2 => ?_)
    · replace h := condT hb2 h
      refine X.move (by rfl) (by rfl) ?_
      refine X.gyes (by rfl) (by rfl) (by first | rfl | assumption) ?_
      refine X.move (by rfl) (by rfl) ?_
      refine X.gyes (by rfl) (by rfl) (by first | rfl | assumption) ?_
      refine X.bin (by rfl) (by rfl) (by rfl) (by rfl) (by intro h; cases h) (by rfl) ?_
      refine X.pickT (by rfl) (by first | rfl | assumption) (by rfl) (by rfl) ?_
      refine X.assign (by rfl) (by rfl) ?_
      cases h
      exact X.endG (by trivial) (by trivial) (by rfl) (by rfl)
    · replace h := condF hb2 h
      refine X.gno (by rfl) (by rfl) (by first | rfl | assumption) (by rfl) ?_
      refine X.gno (by rfl) (by rfl) (by first | rfl | assumption) (by rfl) ?_
      refine X.pickF (by rfl) (by first | rfl | assumption) (by rfl) (by rfl) ?_
      refine X.assign (by rfl) (by rfl) ?_
      cases h
      exact X.endG (by trivial) (by trivial) (by rfl) (by rfl)
  replace h := h2; clear h2
  cases h
  refine R.fin1 Try.results69 (by rfl) (by rfl) ?_
  rfl
theorem s_l04Nums_pc (b0 : List Int) (b1 : Int) (r : Bool) (h : s_l04Nums b0 b1 = some r) : PC Try.prog 228 [.slice (b0.map int), int b1] (bool r) := by
  unfold s_l04Nums at h
  refine PC.start Try.func228 Try.ntmps228 rfl ok228 rfl ?_
  refine Run.seq ?_
  refine Run.reg ?_
  refine X.assign (by rfl) (by rfl) ?_
  refine X.nil ?_
  refine Run.seq ?_
  refine Run.seq ?_
  refine Run.reg ?_
  refine X.move (by rfl) (by rfl) ?_
  refine X.len_s elt25 (by rfl) (by exact List.length_map ..) (by rfl) ?_
  refine X.move (by rfl) (by rfl) ?_
  refine X.nil ?_
  obtain ⟨o1, ho1, h⟩ := bindE h
  refine R.join2 (β := Unit) [(0, .slice (b0.map int)), (1, int b1)] [] (fun p14 S => S) (fun p14 M => M) (fun p14 => (Sum.inl p14) = o1) ?_ ?_
  · intro JJ4 hmeet3
    have hup2 := h; clear h; have h := ho1; clear ho1
    refine Run.block ?_
    refine R.bndS (t := 0) (by rfl) (fun hbd7 => ?_)
    replace hbd7 : b0.length ≤ 9223372036854775807 := by first | (rw [List.length_map] at hbd7; exact hbd7) | simp
    refine R.loop2 (β := Int) [(0, .slice (b0.map int)), (1, int b1), (7, .slice (b0.map int)), (8, int (b0.length : Int))] [] (fun bb S => (9, int bb) :: S) (fun bb M => M) (fun n bb => 0 ≤ bb ∧ bb + n = (b0.length : Int) ∧ s_l04Nums_L1 (b0.drop bb.toNat) bb = some o1) b0.length (0 : Int) (by repeat (first | trivial | refine ⟨by first | rfl | simp [setL], ?_⟩)) (by repeat (first | trivial | refine ⟨by first | rfl | simp [setL], ?_⟩)) (by rfl) (by rfl) ⟨Int.le_refl _, by simp, h⟩ ?_
    clear h
    rintro JJ7 n7 z8 hag7 ⟨hza7, hzb7, h⟩
    refine Run.seq ?_
    refine Run.reg ?_
    refine X.bin (by rfl) (by rfl) (by rfl) (by rfl) (by intro h; cases h) (by rfl) ?_
    refine X.nil ?_
    refine Run.seq ?_
    refine R.cond (by rfl) (fun hc11 => ?_) (fun hc11 => ?_)
    · obtain ⟨x9, xs10, hd7, hx7, hds7, hlt7⟩ := drop_atI hza7 hc11
      rw [hd7] at h
      rw [s_l04Nums_L1] at h
      refine Run.skip ?_
      refine Run.seq ?_
      refine Run.block ?_
      refine Run.seq ?_
      refine Run.reg ?_
      refine X.index_s elt25 (by rfl) (by rfl) (idxL_spec hx7).1 (idxL_map int hx7) (by rfl) (by rfl) (by rfl) ?_
      refine X.load_c shp3 (by rfl) (by rfl) (by rfl) (by rfl) ?_
      refine X.assign (by rfl) (by rfl) ?_
      refine X.nil ?_
      refine Run.seq ?_
      refine Run.reg ?_
      refine X.move (by rfl) (by rfl) ?_
      obtain ⟨v12, hv12, h⟩ := bindE h
      refine X.callP (s_l01In_pc _ _ _ _ hv12) (by rfl) (by rfl) (by rfl) (by trivial) (by rfl) (by rfl) (by rfl) (by rfl) ?_
      refine X.un (by rfl) (by rfl) (by rfl) ?_
      refine X.nil ?_
      refine R.cond (by rfl) (fun hc13 => ?_) (fun hc13 => ?_)
      · replace h := condT hc13 h
        refine Run.seq ?_
        refine Run.reg ?_
        refine X.assign (by rfl) (by rfl) ?_
        refine X.nil ?_
        cases h
        have h := hup2
        replace h := elimR h
        cases h
        refine R.fin1 Try.results228 (by rfl) (by rfl) ?_
        rfl
      · replace h := condF hc13 h
        refine Run.skip ?_
        refine Run.blk ?_
        refine Run.reg ?_
        refine X.add (by rfl) (by rfl) (by omega) (by rfl) ?_
        refine X.move (by rfl) (by rfl) ?_
        refine X.nil ?_
        exact hag7 (n7 - 1) (z8 + 1) _ _ (by omega) ⟨by first | omega | (dsimp only; omega), by first | omega | (dsimp only; omega), by first | (rw [hds7]; exact h) | (dsimp only; rw [hds7]; exact h)⟩ (by trivial) (by trivial) (by rfl) (by rfl)
    · rw [drop_endI hza7 hc11] at h
      rw [s_l04Nums_L1] at h
      refine Run.exit (by rfl) ?_
      exact hmeet3 () _ _ (Option.some.inj h) (by trivial) (by trivial) (by rfl) (by rfl)
  rintro p14 rfl
  replace h := elimL h
  refine Run.seq ?_
  refine Run.reg ?_
  refine X.move (by rfl) (by rfl) ?_
  refine X.len_s elt25 (by rfl) (by exact List.length_map ..) (by rfl) ?_
  refine X.move (by rfl) (by rfl) ?_
  refine X.bin (by rfl) (by rfl) (by rfl) (by rfl) (by intro h; cases h) (by rfl) ?_
  refine X.assign (by rfl) (by rfl) ?_
  refine X.nil ?_
  cases h
  refine R.fin1 Try.results228 (by rfl) (by rfl) ?_
  rfl
theorem s_ModeOk_pc (b0 : TMode) (b1 : Int) (b2 : Int) (r : Bool) (h : s_ModeOk b0 b1 b2 = some r) : PC Try.prog 198 [eTMode b0, int b1, int b2] (bool r) := by
  unfold s_ModeOk at h
  refine PC.start Try.func198 Try.ntmps198 rfl ok198 rfl ?_
  refine Run.seq ?_
  refine Run.reg ?_
  refine X.box (by rfl) (by rfl) (by repeat (first | trivial | refine ⟨by first | rfl | simp [setL], ?_⟩)) (by rfl) (by rfl) (by rfl) (by rfl) ?_
  refine X.assign (by rfl) (by rfl) ?_
  refine X.nil ?_
  refine Run.seq ?_
  obtain ⟨v1, hv1, h⟩ := bindE h
  obtain ⟨e2, he2, h2⟩ := bindE h
  refine R.regG [(6, bool e2)] [] ?_ ?_
  · clear h; have h := he2; clear he2 h2
    refine X.fieldAddr_l fld129_0 (by rfl) (by rfl) ?_
    refine X.load_l shp3 (by rfl) (by rfl) (by rfl) (by rfl) (by rfl) (by rfl) ?_
    refine X.callP (s_l01In_pc _ _ _ _ hv1) (by rfl) (by rfl) (by rfl) (by trivial) (by rfl) (by rfl) (by rfl) (by rfl) ?_
    refine X.move (by rfl) (by rfl) ?_
    refine X.ifG (by rfl) (by rfl) (by rfl) (fun hb3 => ?_) (fun hb3 => ?_)
    · replace h := condT hb3 h
      refine X.fieldAddr_l fld129_1 (by rfl) (by rfl) ?_
      refine X.gyes (by rfl) (by rfl) (by first | rfl | assumption) ?_
      refine X.load_l shp25 (by rfl) (by rfl) (by rfl) (by rfl) (by rfl) (by rfl) ?_
      refine X.gyes (by rfl) (by rfl) (by first | rfl | assumption) ?_
      refine X.move (by rfl) (by rfl) ?_
      refine X.gyes (by rfl) (by rfl) (by first | rfl | assumption) ?_
      obtain ⟨v4, hv4, h⟩ := bindE h
      refine X.callP (s_l04Nums_pc _ _ _ hv4) (by rfl) (by rfl) (by rfl) (by trivial) (by rfl) (by rfl) (by rfl) (by rfl) ?_
      refine X.pickT (by rfl) (by first | rfl | assumption) (by rfl) (by rfl) ?_
      refine X.move (by rfl) (by rfl) ?_
      refine X.ifG (by rfl) (by rfl) (by rfl) (fun hb5 => ?_) (fun hb5 => ?_)
      · replace h := condT hb5 h
        refine X.fieldAddr_l fld129_2 (by rfl) (by rfl) ?_
        refine X.gyes (by rfl) (by rfl) (by first | rfl | assumption) ?_
        refine X.load_l shp25 (by rfl) (by rfl) (by rfl) (by rfl) (by rfl) (by rfl) ?_
        refine X.gyes (by rfl) (by rfl) (by first | rfl | assumption) ?_
        refine X.move (by rfl) (by rfl) ?_
        refine X.gyes (by rfl) (by rfl) (by first | rfl | assumption) ?_
        obtain ⟨v6, hv6, h⟩ := bindE h
        refine X.callP (s_l04Nums_pc _ _ _ hv6) (by rfl) (by rfl) (by rfl) (by trivial) (by rfl) (by rfl) (by rfl) (by rfl) ?_
        refine X.pickT (by rfl) (by first | rfl | assumption) (by rfl) (by rfl) ?_
        refine X.assign (by rfl) (by rfl) ?_
        cases h
        exact X.endG (by trivial) (by trivial) (by rfl) (by rfl)
      · replace h := condF hb5 h
        refine X.gno (by rfl) (by rfl) (by first | rfl | assumption) (by rfl) ?_
        refine X.gno (by rfl) (by rfl) (by first | rfl | assumption) (by rfl) ?_
        refine X.gno (by rfl) (by rfl) (by first | rfl | assumption) (by rfl) ?_
        refine X.pickF (by rfl) (by first | rfl | assumption) (by rfl) (by rfl) ?_
        refine X.assign (by rfl) (by rfl) ?_
        cases h
        exact X.endG (by trivial) (by trivial) (by rfl) (by rfl)
    · replace h := condF hb3 h
      refine X.gno (by rfl) (by rfl) (by first | rfl | assumption) (by rfl) ?_
      refine X.gno (by rfl) (by rfl) (by first | rfl | assumption) (by rfl) ?_
      refine X.gno (by rfl) (by rfl) (by first | rfl | assumption) (by rfl) ?_
      refine X.pickF (by rfl) (by first | rfl | assumption) (by rfl) (by rfl) ?_
      refine X.move (by rfl) (by rfl) ?_
      refine X.gno (by rfl) (by rfl) (by first | rfl | assumption) (by rfl) ?_
      refine X.gno (by rfl) (by rfl) (by first | rfl | assumption) (by rfl) ?_
      refine X.gno (by rfl) (by rfl) (by first | rfl | assumption) (by rfl) ?_
      refine X.gno (by rfl) (by rfl) (by first | rfl | assumption) (by rfl) ?_
      refine X.pickF (by rfl) (by first | rfl | assumption) (by rfl) (by rfl) ?_
      refine X.assign (by rfl) (by rfl) ?_
      cases h
      exact X.endG (by trivial) (by trivial) (by rfl) (by rfl)
  replace h := h2; clear h2
  cases h
  refine R.fin1 Try.results198 (by rfl) (by rfl) ?_
  rfl
theorem s_IsName_pc (b0 : ByteArray) (r : Bool) (h : s_IsName b0 = some r) : PC Try.prog 199 [str b0] (bool r) := by
  unfold s_IsName at h
  refine PC.start Try.func199 Try.ntmps199 rfl ok199 rfl ?_
  refine Run.seq ?_
  refine Run.reg ?_
  refine X.assign (by rfl) (by rfl) ?_
  refine X.nil ?_
  refine Run.seq ?_
  refine Run.seq ?_
  refine Run.reg ?_
  refine X.assign (by rfl) (by rfl) ?_
  refine X.nil ?_
  obtain ⟨o1, ho1, h⟩ := bindE h
  refine R.join2 (β := Unit) [(0, str b0)] [] (fun p19 S => S) (fun p19 M => M) (fun p19 => (Sum.inl p19) = o1) ?_ ?_
  · intro JJ4 hmeet3
    have hup2 := h; clear h; have h := ho1; clear ho1
    refine Run.block ?_
    refine R.loop2 (β := Int) [(0, str b0)] [] (fun bb S => (3, int bb) :: S) (fun bb M => M) (fun n bb => s_IsName_L1 b0 n bb = some o1) F0 0 (by repeat (first | trivial | refine ⟨by first | rfl | simp [setL], ?_⟩)) (by repeat (first | trivial | refine ⟨by first | rfl | simp [setL], ?_⟩)) (by rfl) (by rfl) h ?_
    clear h
    rintro JJ5 n5 a7 hag5 h
    obtain _ | n5 := n5
    · exact absurd h (by simp [s_IsName_L1])
    rw [s_IsName_L1] at h
    refine Run.seq ?_
    refine Run.seq ?_
    refine Run.reg ?_
    refine X.move (by rfl) (by rfl) ?_
    refine X.move (by rfl) (by rfl) ?_
    refine X.lenStr Try.underlying9 (by rfl) (by rfl) ?_
    refine X.bin (by rfl) (by rfl) (by rfl) (by rfl) (by intro h; cases h) (by rfl) ?_
    refine X.nil ?_
    refine R.cond (by rfl) (fun hc10 => ?_) (fun hc10 => ?_)
    · replace h := condT hc10 h
      refine Run.skip ?_
      refine Run.seq ?_
      refine Run.block ?_
      refine Run.seq ?_
      obtain ⟨v11, hv11, h⟩ := bindE h
      obtain ⟨e12, he12, h2⟩ := bindE h
      refine R.regG [(0, str b0), (3, int a7), (4, bool e12)] [] ?_ ?_
      · clear h; have h := he12; clear he12 h2
        refine X.move (by rfl) (by rfl) ?_
        refine X.move (by rfl) (by rfl) ?_
        refine X.indexStr2 hv11 Try.underlying9 (by rfl) (by rfl) (by rfl) ?_
        refine X.bin (by rfl) (by rfl) (by rfl) (by rfl) (by intro h; cases h) (by rfl) ?_
        refine X.move (by rfl) (by rfl) ?_
        refine X.ifG (by rfl) (by rfl) (by rfl) (fun hb13 => ?_) (fun hb13 => ?_)
        · replace h := condT hb13 h
          refine X.move (by rfl) (by rfl) ?_
          refine X.gyes (by rfl) (by rfl) (by first | rfl | assumption) ?_
          refine X.move (by rfl) (by rfl) ?_
          refine X.gyes (by rfl) (by rfl) (by first | rfl | assumption) ?_
          refine X.indexStr2 hv11 Try.underlying9 (by rfl) (by rfl) (by rfl) ?_
          refine X.gyes (by rfl) (by rfl) (by first | rfl | assumption) ?_
          refine X.bin (by rfl) (by rfl) (by rfl) (by rfl) (by intro h; cases h) (by rfl) ?_
          refine X.pickT (by rfl) (by first | rfl | assumption) (by rfl) (by rfl) ?_
          refine X.assign (by rfl) (by rfl) ?_
          cases h
          exact X.endG (by trivial) (by trivial) (by rfl) (by rfl)
        · replace h := condF hb13 h
          refine X.gno (by rfl) (by rfl) (by first | rfl | assumption) (by rfl) ?_
          refine X.gno (by rfl) (by rfl) (by first | rfl | assumption) (by rfl) ?_
          refine X.gno (by rfl) (by rfl) (by first | rfl | assumption) (by rfl) ?_
          refine X.pickF (by rfl) (by first | rfl | assumption) (by rfl) (by rfl) ?_
          refine X.assign (by rfl) (by rfl) ?_
          cases h
          exact X.endG (by trivial) (by trivial) (by rfl) (by rfl)
      replace h := h2; clear h2
      refine Run.seq ?_
      obtain ⟨e14, he14, h2⟩ := bindE h
      refine R.regG [(0, str b0), (3, int a7), (38, bool e14)] [] ?_ ?_
      · clear h; have h := he14; clear he14 h2
        refine X.move (by rfl) (by rfl) ?_
        refine X.un (by rfl) (by rfl) (by rfl) ?_
        refine X.move (by rfl) (by rfl) ?_
        refine X.ifG (by rfl) (by rfl) (by rfl) (fun hb15 => ?_) (fun hb15 => ?_)
        · replace h := condT hb15 h
          refine X.move (by rfl) (by rfl) ?_
          refine X.gyes (by rfl) (by rfl) (by first | rfl | assumption) ?_
          refine X.bin (by rfl) (by rfl) (by rfl) (by rfl) (by intro h; cases h) (by rfl) ?_
          refine X.gyes (by rfl) (by rfl) (by first | rfl | assumption) ?_
          refine X.move (by rfl) (by rfl) ?_
          refine X.ifG (by rfl) (by rfl) (by rfl) (fun hb16 => ?_) (fun hb16 => ?_)
          · replace h := condF hb16 h
            refine X.move (by rfl) (by rfl) ?_
            refine X.gyes (by rfl) (by rfl) (by first | rfl | assumption) ?_
            refine X.move (by rfl) (by rfl) ?_
            refine X.gyes (by rfl) (by rfl) (by first | rfl | assumption) ?_
            refine X.indexStr2 hv11 Try.underlying9 (by rfl) (by rfl) (by rfl) ?_
            refine X.gyes (by rfl) (by rfl) (by first | rfl | assumption) ?_
            refine X.bin (by rfl) (by rfl) (by rfl) (by rfl) (by intro h; cases h) (by rfl) ?_
            refine X.gyes (by rfl) (by rfl) (by first | rfl | assumption) ?_
            refine X.pickF (by rfl) (by first | rfl | assumption) (by rfl) (by rfl) ?_
            refine X.gyes (by rfl) (by rfl) (by first | rfl | assumption) ?_
            refine X.move (by rfl) (by rfl) ?_
            refine X.ifG (by rfl) (by rfl) (by rfl) (fun hb17 => ?_) (fun hb17 => ?_)
            · replace h := condF hb17 h
              refine X.move (by rfl) (by rfl) ?_
              refine X.gyes (by rfl) (by rfl) (by first | rfl | assumption) ?_
              refine X.move (by rfl) (by rfl) ?_
              refine X.gyes (by rfl) (by rfl) (by first | rfl | assumption) ?_
              refine X.indexStr2 hv11 Try.underlying9 (by rfl) (by rfl) (by rfl) ?_
              refine X.gyes (by rfl) (by rfl) (by first | rfl | assumption) ?_
              refine X.bin (by rfl) (by rfl) (by rfl) (by rfl) (by intro h; cases h) (by rfl) ?_
              refine X.gyes (by rfl) (by rfl) (by first | rfl | assumption) ?_
              refine X.pickF (by rfl) (by first | rfl | assumption) (by rfl) (by rfl) ?_
              refine X.pickT (by rfl) (by first | rfl | assumption) (by rfl) (by rfl) ?_
              cases h
              exact X.endG (by trivial) (by trivial) (by rfl) (by rfl)
            · replace h := condT hb17 h
              refine X.gno (by rfl) (by rfl) (by first | rfl | assumption) (by rfl) ?_
              refine X.gno (by rfl) (by rfl) (by first | rfl | assumption) (by rfl) ?_
              refine X.gno (by rfl) (by rfl) (by first | rfl | assumption) (by rfl) ?_
              refine X.gyes (by rfl) (by rfl) (by first | rfl | assumption) ?_
              refine X.pickT (by rfl) (by first | rfl | assumption) (by rfl) (by rfl) ?_
              refine X.pickT (by rfl) (by first | rfl | assumption) (by rfl) (by rfl) ?_
              cases h
              exact X.endG (by trivial) (by trivial) (by rfl) (by rfl)
          · replace h := condT hb16 h
            refine X.gno (by rfl) (by rfl) (by first | rfl | assumption) (by rfl) ?_
            refine X.gno (by rfl) (by rfl) (by first | rfl | assumption) (by rfl) ?_
            refine X.gno (by rfl) (by rfl) (by first | rfl | assumption) (by rfl) ?_
            refine X.gyes (by rfl) (by rfl) (by first | rfl | assumption) ?_
            refine X.pickT (by rfl) (by first | rfl | assumption) (by rfl) (by rfl) ?_
            refine X.gyes (by rfl) (by rfl) (by first | rfl | assumption) ?_
            refine X.move (by rfl) (by rfl) ?_
            refine X.gno (by rfl) (by rfl) (by first | rfl | assumption) (by rfl) ?_
            refine X.gno (by rfl) (by rfl) (by first | rfl | assumption) (by rfl) ?_
            refine X.gno (by rfl) (by rfl) (by first | rfl | assumption) (by rfl) ?_
            refine X.gno (by rfl) (by rfl) (by first | rfl | assumption) (by rfl) ?_
            refine X.gyes (by rfl) (by rfl) (by first | rfl | assumption) ?_
            refine X.pickT (by rfl) (by first | rfl | assumption) (by rfl) (by rfl) ?_
            refine X.pickT (by rfl) (by first | rfl | assumption) (by rfl) (by rfl) ?_
            cases h
            exact X.endG (by trivial) (by trivial) (by rfl) (by rfl)
        · replace h := condF hb15 h
          refine X.gno (by rfl) (by rfl) (by first | rfl | assumption) (by rfl) ?_
          refine X.gno (by rfl) (by rfl) (by first | rfl | assumption) (by rfl) ?_
          refine X.gU (by rfl) (by rfl) (by rfl) ?_
          refine X.gU (by rfl) (by rfl) (by rfl) ?_
          refine X.gU (by rfl) (by rfl) (by rfl) ?_
          refine X.gU (by rfl) (by rfl) (by rfl) ?_
          refine X.gno (by rfl) (by rfl) (by first | rfl | assumption) (by rfl) ?_
          refine X.gno (by rfl) (by rfl) (by first | rfl | assumption) (by rfl) ?_
          refine X.gU (by rfl) (by rfl) (by rfl) ?_
          refine X.gU (by rfl) (by rfl) (by rfl) ?_
          refine X.gU (by rfl) (by rfl) (by rfl) ?_
          refine X.gU (by rfl) (by rfl) (by rfl) ?_
          refine X.gno (by rfl) (by rfl) (by first | rfl | assumption) (by rfl) ?_
          refine X.pickF (by rfl) (by first | rfl | assumption) (by rfl) (by rfl) ?_
          cases h
          exact X.endG (by trivial) (by trivial) (by rfl) (by rfl)
      replace h := h2; clear h2
      refine R.cond (by rfl) (fun hc18 => ?_) (fun hc18 => ?_)
      · replace h := condT hc18 h
        refine Run.seq ?_
        refine Run.reg ?_
        refine X.assign (by rfl) (by rfl) ?_
        refine X.nil ?_
        cases h
        have h := hup2
        replace h := elimR h
        cases h
        refine R.fin1 Try.results199 (by rfl) (by rfl) ?_
        rfl
      · replace h := condF hc18 h
        refine Run.skip ?_
        refine Run.blk ?_
        refine Run.reg ?_
        refine X.move (by rfl) (by rfl) ?_
        refine X.addW (by rfl) (by rfl) (by rfl) ?_
        refine X.assign (by rfl) (by rfl) ?_
        refine X.nil ?_
        exact hag5 n5 (W (a7 + 1)) _ _ (by omega) h (by trivial) (by trivial) (by rfl) (by rfl)
    · replace h := condF hc10 h
      refine Run.exit (by rfl) ?_
      exact hmeet3 () _ _ (Option.some.inj h) (by trivial) (by trivial) (by rfl) (by rfl)
  rintro p19 rfl
  replace h := elimL h
  refine Run.seq ?_
  refine Run.reg ?_
  refine X.move (by rfl) (by rfl) ?_
  refine X.lenStr Try.underlying9 (by rfl) (by rfl) ?_
  obtain ⟨v21, hv21, h⟩ := bindE h
  refine X.callP (s_l01In_pc _ _ _ _ hv21) (by rfl) (by rfl) (by rfl) (by trivial) (by rfl) (by rfl) (by rfl) (by rfl) ?_
  refine X.assign (by rfl) (by rfl) ?_
  refine X.nil ?_
  cases h
  refine R.fin1 Try.results199 (by rfl) (by rfl) ?_
  rfl
theorem s_ActivityOk_pc (b0 : TActivity) (b1 : Int) (b2 : Int) (r : Bool) (h : s_ActivityOk b0 b1 b2 = some r) : PC Try.prog 139 [eTActivity b0, int b1, int b2] (bool r) := by
  unfold s_ActivityOk at h
  refine PC.start Try.func139 Try.ntmps139 rfl ok139 rfl ?_
  refine Run.seq ?_
  refine Run.reg ?_
  refine X.box (by rfl) (by rfl) (by repeat (first | trivial | refine ⟨by first | rfl | simp [setL], ?_⟩)) (by rfl) (by rfl) (by rfl) (by rfl) ?_
  refine X.assign (by rfl) (by rfl) ?_
  refine X.nil ?_
  refine Run.seq ?_
  refine Run.seq ?_
  refine Run.reg ?_
  refine X.fieldAddr_l fld127_2 (by rfl) (by rfl) ?_
  refine X.load_l shp125 (by rfl) (by rfl) (by rfl) (by rfl) (by rfl) (by rfl) ?_
  refine X.len_s elt125 (by rfl) (by exact List.length_map ..) (by rfl) ?_
  refine X.move (by rfl) (by rfl) ?_
  refine X.nil ?_
  obtain ⟨o1, ho1, h⟩ := bindE h
  refine R.join2 (β := Unit) [(3, .lptr 192 0)] [(192, .blk true [str b0.Name, int b0.Family, .slice (b0.Modes.map eTMode)])] (fun p14 S => S) (fun p14 M => M) (fun p14 => (Sum.inl p14) = o1) ?_ ?_
  · intro JJ4 hmeet3
    have hup2 := h; clear h; have h := ho1; clear ho1
    refine Run.block ?_
    refine R.bndS (t := 10) (by rfl) (fun hbd7 => ?_)
    replace hbd7 : b0.Modes.length ≤ 9223372036854775807 := by first | (rw [List.length_map] at hbd7; exact hbd7) | simp
    refine R.loop2 (β := Int) [(1, int b1), (2, int b2), (3, .lptr 192 0), (10, .slice (b0.Modes.map eTMode)), (11, int (b0.Modes.length : Int))] [(192, .blk true [str b0.Name, int b0.Family, .slice (b0.Modes.map eTMode)])] (fun bb S => (12, int bb) :: S) (fun bb M => M) (fun n bb => 0 ≤ bb ∧ bb + n = (b0.Modes.length : Int) ∧ s_ActivityOk_L1 b1 b2 (b0.Modes.drop bb.toNat) bb = some o1) b0.Modes.length (0 : Int) (by repeat (first | trivial | refine ⟨by first | rfl | simp [setL], ?_⟩)) (by repeat (first | trivial | refine ⟨by first | rfl | simp [setL], ?_⟩)) (by rfl) (by rfl) ⟨Int.le_refl _, by simp, h⟩ ?_
    clear h
    rintro JJ7 n7 z8 hag7 ⟨hza7, hzb7, h⟩
    refine Run.seq ?_
    refine Run.reg ?_
    refine X.bin (by rfl) (by rfl) (by rfl) (by rfl) (by intro h; cases h) (by rfl) ?_
    refine X.nil ?_
    refine Run.seq ?_
    refine R.cond (by rfl) (fun hc11 => ?_) (fun hc11 => ?_)
    · obtain ⟨x9, xs10, hd7, hx7, hds7, hlt7⟩ := drop_atI hza7 hc11
      rw [hd7] at h
      rw [s_ActivityOk_L1] at h
      refine Run.skip ?_
      refine Run.seq ?_
      refine Run.block ?_
      refine Run.seq ?_
      refine Run.reg ?_
      refine X.index_s elt125 (by rfl) (by rfl) (idxL_spec hx7).1 (idxL_map eTMode hx7) (by rfl) (by rfl) (by rfl) ?_
      refine X.load_c shp129 (by rfl) (by rfl) (by rfl) (by rfl) ?_
      refine X.alloc zer129 (by rfl) (by rfl) (by rfl) ?_
      refine X.store_l shp129 (by rfl) (by rfl) (by rfl) (by rfl) (by repeat (first | trivial | refine ⟨by first | rfl | simp [setL], ?_⟩)) (by rfl) (by rfl) (by rfl) ?_
      refine X.nil ?_
      refine Run.seq ?_
      refine Run.reg ?_
      refine X.load_l shp129 (by rfl) (by rfl) (by rfl) (by rfl) (by rfl) (by rfl) ?_
      refine X.move (by rfl) (by rfl) ?_
      refine X.move (by rfl) (by rfl) ?_
      obtain ⟨v12, hv12, h⟩ := bindE h
      refine X.callP (s_ModeOk_pc _ _ _ _ hv12) (by rfl) (by rfl) (by rfl) (by trivial) (by rfl) (by rfl) (by rfl) (by rfl) ?_
      refine X.un (by rfl) (by rfl) (by rfl) ?_
      refine X.nil ?_
      refine R.cond (by rfl) (fun hc13 => ?_) (fun hc13 => ?_)
      · replace h := condT hc13 h
        refine Run.seq ?_
        refine Run.reg ?_
        refine X.assign (by rfl) (by rfl) ?_
        refine X.nil ?_
        cases h
        have h := hup2
        replace h := elimR h
        cases h
        refine R.fin1 Try.results139 (by rfl) (by rfl) ?_
        rfl
      · replace h := condF hc13 h
        refine Run.skip ?_
        refine Run.blk ?_
        refine Run.reg ?_
        refine X.add (by rfl) (by rfl) (by omega) (by rfl) ?_
        refine X.move (by rfl) (by rfl) ?_
        refine X.nil ?_
        exact hag7 (n7 - 1) (z8 + 1) _ _ (by omega) ⟨by first | omega | (dsimp only; omega), by first | omega | (dsimp only; omega), by first | (rw [hds7]; exact h) | (dsimp only; rw [hds7]; exact h)⟩ (by trivial) (by trivial) (by rfl) (by rfl)
    · rw [drop_endI hza7 hc11] at h
      rw [s_ActivityOk_L1] at h
      refine Run.exit (by rfl) ?_
      exact hmeet3 () _ _ (Option.some.inj h) (by trivial) (by trivial) (by rfl) (by rfl)
  rintro p14 rfl
  replace h := elimL h
  refine Run.seq ?_
  obtain ⟨v16, hv16, h⟩ := bindE h
  obtain ⟨e17, he17, h2⟩ := bindE h
  refine R.regG [(6, bool e17)] [] ?_ ?_
  · clear h; have h := he17; clear he17 h2
    refine X.fieldAddr_l fld127_0 (by rfl) (by rfl) ?_
    refine X.load_l shp9 (by rfl) (by rfl) (by rfl) (by rfl) (by rfl) (by rfl) ?_
    refine X.callP (s_IsName_pc _ _ hv16) (by rfl) (by rfl) (by rfl) (by trivial) (by rfl) (by rfl) (by rfl) (by rfl) ?_
    refine X.move (by rfl) (by rfl) ?_
    refine X.ifG (by rfl) (by rfl) (by rfl) (fun hb18 => ?_) (fun hb18 => ?_)
    · replace h := condT hb18 h
      refine X.fieldAddr_l fld127_1 (by rfl) (by rfl) ?_
      refine X.gyes (by rfl) (by rfl) (by first | rfl | assumption) ?_
      refine X.load_l shp3 (by rfl) (by rfl) (by rfl) (by rfl) (by rfl) (by rfl) ?_
      refine X.gyes (by rfl) (by rfl) (by first | rfl | assumption) ?_
      obtain ⟨v19, hv19, h⟩ := bindE h
      refine X.callP (s_l01In_pc _ _ _ _ hv19) (by rfl) (by rfl) (by rfl) (by trivial) (by rfl) (by rfl) (by rfl) (by rfl) ?_
      refine X.pickT (by rfl) (by first | rfl | assumption) (by rfl) (by rfl) ?_
      refine X.move (by rfl) (by rfl) ?_
      refine X.ifG (by rfl) (by rfl) (by rfl) (fun hb20 => ?_) (fun hb20 => ?_)
      · replace h := condT hb20 h
        refine X.fieldAddr_l fld127_2 (by rfl) (by rfl) ?_
        refine X.gyes (by rfl) (by rfl) (by first | rfl | assumption) ?_
        refine X.load_l shp125 (by rfl) (by rfl) (by rfl) (by rfl) (by rfl) (by rfl) ?_
        refine X.gyes (by rfl) (by rfl) (by first | rfl | assumption) ?_
        refine X.len_s elt125 (by rfl) (by exact List.length_map ..) (by rfl) ?_
        refine X.gyes (by rfl) (by rfl) (by first | rfl | assumption) ?_
        obtain ⟨v21, hv21, h⟩ := bindE h
        refine X.callP (s_l01In_pc _ _ _ _ hv21) (by rfl) (by rfl) (by rfl) (by trivial) (by rfl) (by rfl) (by rfl) (by rfl) ?_
        refine X.pickT (by rfl) (by first | rfl | assumption) (by rfl) (by rfl) ?_
        refine X.assign (by rfl) (by rfl) ?_
        cases h
        exact X.endG (by trivial) (by trivial) (by rfl) (by rfl)
      · replace h := condF hb20 h
        refine X.gno (by rfl) (by rfl) (by first | rfl | assumption) (by rfl) ?_
        refine X.gno (by rfl) (by rfl) (by first | rfl | assumption) (by rfl) ?_
        refine X.gno (by rfl) (by rfl) (by first | rfl | assumption) (by rfl) ?_
        refine X.pickF (by rfl) (by first | rfl | assumption) (by rfl) (by rfl) ?_
        refine X.assign (by rfl) (by rfl) ?_
        cases h
        exact X.endG (by trivial) (by trivial) (by rfl) (by rfl)
    · replace h := condF hb18 h
      refine X.gno (by rfl) (by rfl) (by first | rfl | assumption) (by rfl) ?_
      refine X.gno (by rfl) (by rfl) (by first | rfl | assumption) (by rfl) ?_
      refine X.pickF (by rfl) (by first | rfl | assumption) (by rfl) (by rfl) ?_
      refine X.move (by rfl) (by rfl) ?_
      refine X.gno (by rfl) (by rfl) (by first | rfl | assumption) (by rfl) ?_
      refine X.gno (by rfl) (by rfl) (by first | rfl | assumption) (by rfl) ?_
      refine X.gno (by rfl) (by rfl) (by first | rfl | assumption) (by rfl) ?_
      refine X.gno (by rfl) (by rfl) (by first | rfl | assumption) (by rfl) ?_
      refine X.pickF (by rfl) (by first | rfl | assumption) (by rfl) (by rfl) ?_
      refine X.assign (by rfl) (by rfl) ?_
      cases h
      exact X.endG (by trivial) (by trivial) (by rfl) (by rfl)
  replace h := h2; clear h2
  cases h
  refine R.fin1 Try.results139 (by rfl) (by rfl) ?_
  rfl
theorem s_ActivityIndex_pc (b0 : TProject) (b1 : ByteArray) (r : Int) (h : s_ActivityIndex b0 b1 = some r) : PC Try.prog 140 [eTProject b0, str b1] (int r) := by
  unfold s_ActivityIndex at h
  refine PC.start Try.func140 Try.ntmps140 rfl ok140 rfl ?_
  refine Run.seq ?_
  refine Run.reg ?_
  refine X.box (by rfl) (by rfl) (by repeat (first | trivial | refine ⟨by first | rfl | simp [setL], ?_⟩)) (by rfl) (by rfl) (by rfl) (by rfl) ?_
  refine X.assign (by rfl) (by rfl) ?_
  refine X.nil ?_
  refine Run.seq ?_
  refine Run.seq ?_
  refine Run.reg ?_
  refine X.fieldAddr_l fld34_1 (by rfl) (by rfl) ?_
  refine X.load_l shp30 (by rfl) (by rfl) (by rfl) (by rfl) (by rfl) (by rfl) ?_
  refine X.len_s elt30 (by rfl) (by exact List.length_map ..) (by rfl) ?_
  refine X.move (by rfl) (by rfl) ?_
  refine X.nil ?_
  obtain ⟨o1, ho1, h⟩ := bindE h
  refine R.join2 (β := Unit) [] [] (fun p13 S => S) (fun p13 M => M) (fun p13 => (Sum.inl p13) = o1) ?_ ?_
  · intro JJ4 hmeet3
    have hup2 := h; clear h; have h := ho1; clear ho1
    refine Run.block ?_
    refine R.bndS (t := 8) (by rfl) (fun hbd7 => ?_)
    replace hbd7 : b0.Activities.length ≤ 9223372036854775807 := by first | (rw [List.length_map] at hbd7; exact hbd7) | simp
    refine R.loop2 (β := Int) [(1, str b1), (8, .slice (b0.Activities.map eTActivity)), (9, int (b0.Activities.length : Int))] [] (fun bb S => (10, int bb) :: S) (fun bb M => M) (fun n bb => 0 ≤ bb ∧ bb + n = (b0.Activities.length : Int) ∧ s_ActivityIndex_L1 b1 (b0.Activities.drop bb.toNat) bb = some o1) b0.Activities.length (0 : Int) (by repeat (first | trivial | refine ⟨by first | rfl | simp [setL], ?_⟩)) (by repeat (first | trivial | refine ⟨by first | rfl | simp [setL], ?_⟩)) (by rfl) (by rfl) ⟨Int.le_refl _, by simp, h⟩ ?_
    clear h
    rintro JJ7 n7 z8 hag7 ⟨hza7, hzb7, h⟩
    refine Run.seq ?_
    refine Run.reg ?_
    refine X.bin (by rfl) (by rfl) (by rfl) (by rfl) (by intro h; cases h) (by rfl) ?_
    refine X.nil ?_
    refine Run.seq ?_
    refine R.cond (by rfl) (fun hc11 => ?_) (fun hc11 => ?_)
    · obtain ⟨x9, xs10, hd7, hx7, hds7, hlt7⟩ := drop_atI hza7 hc11
      rw [hd7] at h
      rw [s_ActivityIndex_L1] at h
      refine Run.skip ?_
      refine Run.seq ?_
      refine Run.block ?_
      refine Run.seq ?_
      refine Run.reg ?_
      refine X.move (by rfl) (by rfl) ?_
      refine X.index_s elt30 (by rfl) (by rfl) (idxL_spec hx7).1 (idxL_map eTActivity hx7) (by rfl) (by rfl) (by rfl) ?_
      refine X.load_c shp127 (by rfl) (by rfl) (by rfl) (by rfl) ?_
      refine X.alloc zer127 (by rfl) (by rfl) (by rfl) ?_
      refine X.assign (by rfl) (by rfl) ?_
      refine X.store_l shp127 (by rfl) (by rfl) (by rfl) (by rfl) (by repeat (first | trivial | refine ⟨by first | rfl | simp [setL], ?_⟩)) (by rfl) (by rfl) (by rfl) ?_
      refine X.nil ?_
      refine Run.seq ?_
      refine Run.reg ?_
      refine X.fieldAddr_l fld127_0 (by rfl) (by rfl) ?_
      refine X.load_l shp9 (by rfl) (by rfl) (by rfl) (by rfl) (by rfl) (by rfl) ?_
      refine X.move (by rfl) (by rfl) ?_
      refine X.bin (by rfl) (by rfl) (by rfl) (by rfl) (by intro h; cases h) (by rfl) ?_
      refine X.nil ?_
      refine R.cond (by rfl) (fun hc12 => ?_) (fun hc12 => ?_)
      · replace h := condT hc12 h
        refine Run.seq ?_
        refine Run.reg ?_
        refine X.move (by rfl) (by rfl) ?_
        refine X.assign (by rfl) (by rfl) ?_
        refine X.nil ?_
        cases h
        have h := hup2
        replace h := elimR h
        cases h
        refine R.fin1 Try.results140 (by rfl) (by rfl) ?_
        rfl
      · replace h := condF hc12 h
        refine Run.skip ?_
        refine Run.blk ?_
        refine Run.reg ?_
        refine X.add (by rfl) (by rfl) (by omega) (by rfl) ?_
        refine X.move (by rfl) (by rfl) ?_
        refine X.nil ?_
        exact hag7 (n7 - 1) (z8 + 1) _ _ (by omega) ⟨by first | omega | (dsimp only; omega), by first | omega | (dsimp only; omega), by first | (rw [hds7]; exact h) | (dsimp only; rw [hds7]; exact h)⟩ (by trivial) (by trivial) (by rfl) (by rfl)
    · rw [drop_endI hza7 hc11] at h
      rw [s_ActivityIndex_L1] at h
      refine Run.exit (by rfl) ?_
      exact hmeet3 () _ _ (Option.some.inj h) (by trivial) (by trivial) (by rfl) (by rfl)
  rintro p13 rfl
  replace h := elimL h
  refine Run.seq ?_
  refine Run.reg ?_
  refine X.assign (by rfl) (by rfl) ?_
  refine X.nil ?_
  cases h
  refine R.fin1 Try.results140 (by rfl) (by rfl) ?_
  rfl
theorem s_StepsOk_pc (b0 : List TStep) (r : Bool) (h : s_StepsOk b0 = some r) : PC Try.prog 200 [.slice (b0.map eTStep)] (bool r) := by
  unfold s_StepsOk at h
  refine PC.start Try.func200 Try.ntmps200 rfl ok200 rfl ?_
  refine Run.seq ?_
  refine Run.reg ?_
  refine X.assign (by rfl) (by rfl) ?_
  refine X.nil ?_
  refine Run.seq ?_
  refine Run.seq ?_
  refine Run.reg ?_
  refine X.move (by rfl) (by rfl) ?_
  refine X.len_s elt113 (by rfl) (by exact List.length_map ..) (by rfl) ?_
  refine X.move (by rfl) (by rfl) ?_
  refine X.nil ?_
  obtain ⟨o1, ho1, h⟩ := bindE h
  refine R.join2 (β := Unit) [(0, .slice (b0.map eTStep))] [] (fun p20 S => S) (fun p20 M => M) (fun p20 => (Sum.inl p20) = o1) ?_ ?_
  · intro JJ4 hmeet3
    have hup2 := h; clear h; have h := ho1; clear ho1
    refine Run.block ?_
    refine R.bndS (t := 0) (by rfl) (fun hbd7 => ?_)
    replace hbd7 : b0.length ≤ 9223372036854775807 := by first | (rw [List.length_map] at hbd7; exact hbd7) | simp
    refine R.loop2 (β := Int) [(0, .slice (b0.map eTStep)), (5, .slice (b0.map eTStep)), (6, int (b0.length : Int))] [] (fun bb S => (7, int bb) :: S) (fun bb M => M) (fun n bb => 0 ≤ bb ∧ bb + n = (b0.length : Int) ∧ s_StepsOk_L1 b0 (b0.drop bb.toNat) bb = some o1) b0.length (0 : Int) (by repeat (first | trivial | refine ⟨by first | rfl | simp [setL], ?_⟩)) (by repeat (first | trivial | refine ⟨by first | rfl | simp [setL], ?_⟩)) (by rfl) (by rfl) ⟨Int.le_refl _, by simp, h⟩ ?_
    clear h
    rintro JJ7 n7 z8 hag7 ⟨hza7, hzb7, h⟩
    refine Run.seq ?_
    refine Run.reg ?_
    refine X.bin (by rfl) (by rfl) (by rfl) (by rfl) (by intro h; cases h) (by rfl) ?_
    refine X.nil ?_
    refine Run.seq ?_
    refine R.cond (by rfl) (fun hc11 => ?_) (fun hc11 => ?_)
    · obtain ⟨x9, xs10, hd7, hx7, hds7, hlt7⟩ := drop_atI hza7 hc11
      rw [hd7] at h
      rw [s_StepsOk_L1] at h
      refine Run.skip ?_
      refine Run.seq ?_
      refine Run.block ?_
      refine Run.seq ?_
      refine Run.reg ?_
      refine X.move (by rfl) (by rfl) ?_
      refine X.index_s elt113 (by rfl) (by rfl) (idxL_spec hx7).1 (idxL_map eTStep hx7) (by rfl) (by rfl) (by rfl) ?_
      refine X.load_c shp208 (by rfl) (by rfl) (by rfl) (by rfl) ?_
      refine X.alloc zer208 (by rfl) (by rfl) (by rfl) ?_
      refine X.assign (by rfl) (by rfl) ?_
      refine X.store_l shp208 (by rfl) (by rfl) (by rfl) (by rfl) (by repeat (first | trivial | refine ⟨by first | rfl | simp [setL], ?_⟩)) (by rfl) (by rfl) (by rfl) ?_
      refine X.nil ?_
      refine Run.seq ?_
      obtain ⟨v12, hv12, h⟩ := bindE h
      obtain ⟨e13, he13, h2⟩ := bindE h
      refine R.drawG [(0, .slice (b0.map eTStep)), (5, .slice (b0.map eTStep)), (6, int (b0.length : Int)), (7, int z8), (36, bool e13)] [] (footOf [(1, ([256], [], [], [])), (6, ([256], [], [], [])), (21, ([256], [], [], []))]) mixed (by kernel_rfl) (by kernel_rfl) ?_ ?_
      · clear h; have h := he13; clear he13 h2
        refine X.fieldAddr_l fld208_0 (by rfl) (by rfl) ?_
        refine X.load_l shp3 (by rfl) (by rfl) (by rfl) (by rfl) (by rfl) (by rfl) ?_
        refine X.callP (s_l01In_pc _ _ _ _ hv12) (by rfl) (by rfl) (by rfl) (by trivial) (by rfl) (by rfl) (by rfl) (by rfl) ?_
        refine X.un (by rfl) (by rfl) (by rfl) ?_
        refine X.move (by rfl) (by rfl) ?_
        refine X.ifG (by rfl) (by rfl) (by rfl) (fun hb14 => ?_) (fun hb14 => ?_)
        · replace h := condF hb14 h
          refine X.fieldAddr_l fld208_1 (by rfl) (by rfl) ?_
          refine X.gyes (by rfl) (by rfl) (by first | rfl | assumption) ?_
          refine X.load_l shp3 (by rfl) (by rfl) (by rfl) (by rfl) (by rfl) (by rfl) ?_
          refine X.gyes (by rfl) (by rfl) (by first | rfl | assumption) ?_
          obtain ⟨v15, hv15, h⟩ := bindE h
          refine X.callP (s_l01In_pc _ _ _ _ hv15) (by rfl) (by rfl) (by rfl) (by trivial) (by rfl) (by rfl) (by rfl) (by rfl) ?_
          refine X.gyes (by rfl) (by rfl) (by first | rfl | assumption) ?_
          refine X.un (by rfl) (by rfl) (by rfl) ?_
          refine X.pickF (by rfl) (by first | rfl | assumption) (by rfl) (by rfl) ?_
          refine X.move (by rfl) (by rfl) ?_
          refine X.ifG (by rfl) (by rfl) (by rfl) (fun hb16 => ?_) (fun hb16 => ?_)
          · replace h := condF hb16 h
            refine X.move (by rfl) (by rfl) ?_
            refine X.gyes (by rfl) (by rfl) (by first | rfl | assumption) ?_
            refine X.bin (by rfl) (by rfl) (by rfl) (by rfl) (by intro h; cases h) (by rfl) ?_
            refine X.gyes (by rfl) (by rfl) (by first | rfl | assumption) ?_
            refine X.move (by rfl) (by rfl) ?_
            refine X.ifG (by rfl) (by rfl) (by rfl) (fun hb17 => ?_) (fun hb17 => ?_)
            · replace h := condT hb17 h
              refine X.move (by rfl) (by rfl) ?_
              refine X.gyes (by rfl) (by rfl) (by first | rfl | assumption) ?_
              refine X.move (by rfl) (by rfl) ?_
              refine X.gyes (by rfl) (by rfl) (by first | rfl | assumption) ?_
              refine X.sub (by rfl) (by rfl) (by omega) (by rfl) ?_
              refine X.gyes (by rfl) (by rfl) (by first | rfl | assumption) ?_
              obtain ⟨v18, hv18, h⟩ := bindE h
              refine X.index_s elt113 (by rfl) (by rfl) (idxL_spec hv18).1 (idxL_map eTStep hv18) (by rfl) (by rfl) (by rfl) ?_
              refine X.gyes (by rfl) (by rfl) (by first | rfl | assumption) ?_
              refine X.fieldAddr_c fld208_0 (by rfl) (by rfl) ?_
              refine X.gyes (by rfl) (by rfl) (by first | rfl | assumption) ?_
              refine X.load_c shp3 (by rfl) (by rfl) (by rfl) (by rfl) ?_
              refine X.gyes (by rfl) (by rfl) (by first | rfl | assumption) ?_
              refine X.fieldAddr_l fld208_0 (by rfl) (by rfl) ?_
              refine X.gyes (by rfl) (by rfl) (by first | rfl | assumption) ?_
              refine X.load_l shp3 (by rfl) (by rfl) (by rfl) (by rfl) (by rfl) (by rfl) ?_
              refine X.gyes (by rfl) (by rfl) (by first | rfl | assumption) ?_
              refine X.bin (by rfl) (by rfl) (by rfl) (by rfl) (by intro h; cases h) (by rfl) ?_
              refine X.gyes (by rfl) (by rfl) (by first | rfl | assumption) ?_
              refine X.pickT (by rfl) (by first | rfl | assumption) (by rfl) (by rfl) ?_
              refine X.pickF (by rfl) (by first | rfl | assumption) (by rfl) (by rfl) ?_
              cases h
              exact X.endG (by trivial) (by trivial) (by rfl) (by rfl)
            · replace h := condF hb17 h
              refine X.gno (by rfl) (by rfl) (by first | rfl | assumption) (by rfl) ?_
              refine X.gno (by rfl) (by rfl) (by first | rfl | assumption) (by rfl) ?_
              refine X.gno (by rfl) (by rfl) (by first | rfl | assumption) (by rfl) ?_
              refine X.gno (by rfl) (by rfl) (by first | rfl | assumption) (by rfl) ?_
              refine X.gno (by rfl) (by rfl) (by first | rfl | assumption) (by rfl) ?_
              refine X.gno (by rfl) (by rfl) (by first | rfl | assumption) (by rfl) ?_
              refine X.gno (by rfl) (by rfl) (by first | rfl | assumption) (by rfl) ?_
              refine X.gno (by rfl) (by rfl) (by first | rfl | assumption) (by rfl) ?_
              refine X.gyes (by rfl) (by rfl) (by first | rfl | assumption) ?_
              refine X.pickF (by rfl) (by first | rfl | assumption) (by rfl) (by rfl) ?_
              refine X.pickF (by rfl) (by first | rfl | assumption) (by rfl) (by rfl) ?_
              cases h
              exact X.endG (by trivial) (by trivial) (by rfl) (by rfl)
          · replace h := condT hb16 h
            refine X.gno (by rfl) (by rfl) (by first | rfl | assumption) (by rfl) ?_
            refine X.gno (by rfl) (by rfl) (by first | rfl | assumption) (by rfl) ?_
            refine X.gU (by rfl) (by rfl) (by rfl) ?_
            refine X.gU (by rfl) (by rfl) (by rfl) ?_
            refine X.gU (by rfl) (by rfl) (by rfl) ?_
            refine X.gU (by rfl) (by rfl) (by rfl) ?_
            refine X.gU (by rfl) (by rfl) (by rfl) ?_
            refine X.gU (by rfl) (by rfl) (by rfl) ?_
            refine X.gU (by rfl) (by rfl) (by rfl) ?_
            refine X.gU (by rfl) (by rfl) (by rfl) ?_
            refine X.gU (by rfl) (by rfl) (by rfl) ?_
            refine X.gno (by rfl) (by rfl) (by first | rfl | assumption) (by rfl) ?_
            refine X.pickT (by rfl) (by first | rfl | assumption) (by rfl) (by rfl) ?_
            cases h
            exact X.endG (by trivial) (by trivial) (by rfl) (by rfl)
        · replace h := condT hb14 h
          refine X.gno (by rfl) (by rfl) (by first | rfl | assumption) (by rfl) ?_
          refine X.gno (by rfl) (by rfl) (by first | rfl | assumption) (by rfl) ?_
          refine X.gno (by rfl) (by rfl) (by first | rfl | assumption) (by rfl) ?_
          refine X.pickT (by rfl) (by first | rfl | assumption) (by rfl) (by rfl) ?_
          refine X.move (by rfl) (by rfl) ?_
          refine X.gno (by rfl) (by rfl) (by first | rfl | assumption) (by rfl) ?_
          refine X.gno (by rfl) (by rfl) (by first | rfl | assumption) (by rfl) ?_
          refine X.gno (by rfl) (by rfl) (by first | rfl | assumption) (by rfl) ?_
          refine X.gU (by rfl) (by rfl) (by rfl) ?_
          refine X.gU (by rfl) (by rfl) (by rfl) ?_
          refine X.gU (by rfl) (by rfl) (by rfl) ?_
          refine X.gU (by rfl) (by rfl) (by rfl) ?_
          refine X.gU (by rfl) (by rfl) (by rfl) ?_
          refine X.gU (by rfl) (by rfl) (by rfl) ?_
          refine X.gU (by rfl) (by rfl) (by rfl) ?_
          refine X.gU (by rfl) (by rfl) (by rfl) ?_
          refine X.gU (by rfl) (by rfl) (by rfl) ?_
          refine X.gno (by rfl) (by rfl) (by first | rfl | assumption) (by rfl) ?_
          refine X.pickT (by rfl) (by first | rfl | assumption) (by rfl) (by rfl) ?_
          cases h
          exact X.endG (by trivial) (by trivial) (by rfl) (by rfl)
      replace h := h2; clear h2
      refine R.cond (by rfl) (fun hc19 => ?_) (fun hc19 => ?_)
      · replace h := condT hc19 h
        refine Run.seq ?_
        refine Run.reg ?_
        refine X.assign (by rfl) (by rfl) ?_
        refine X.nil ?_
        cases h
        have h := hup2
        replace h := elimR h
        cases h
        refine R.fin1 Try.results200 (by rfl) (by rfl) ?_
        rfl
      · replace h := condF hc19 h
        refine Run.skip ?_
        refine Run.blk ?_
        refine Run.reg ?_
        refine X.add (by rfl) (by rfl) (by omega) (by rfl) ?_
        refine X.move (by rfl) (by rfl) ?_
        refine X.nil ?_
        exact hag7 (n7 - 1) (z8 + 1) _ _ (by omega) ⟨by first | omega | (dsimp only; omega), by first | omega | (dsimp only; omega), by first | (rw [hds7]; exact h) | (dsimp only; rw [hds7]; exact h)⟩ (by trivial) (by trivial) (by rfl) (by rfl)
    · rw [drop_endI hza7 hc11] at h
      rw [s_StepsOk_L1] at h
      refine Run.exit (by rfl) ?_
      exact hmeet3 () _ _ (Option.some.inj h) (by trivial) (by trivial) (by rfl) (by rfl)
  rintro p20 rfl
  replace h := elimL h
  refine Run.seq ?_
  obtain ⟨v22, hv22, h⟩ := bindE h
  obtain ⟨e23, he23, h2⟩ := bindE h
  refine R.regG [(2, bool e23)] [] ?_ ?_
  · clear h; have h := he23; clear he23 h2
    refine X.move (by rfl) (by rfl) ?_
    refine X.len_s elt113 (by rfl) (by exact List.length_map ..) (by rfl) ?_
    refine X.callP (s_l01In_pc _ _ _ _ hv22) (by rfl) (by rfl) (by rfl) (by trivial) (by rfl) (by rfl) (by rfl) (by rfl) ?_
    refine X.move (by rfl) (by rfl) ?_
    refine X.ifG (by rfl) (by rfl) (by rfl) (fun hb24 => ?_) (fun hb24 => ?_)
    · replace h := condT hb24 h
      refine X.move (by rfl) (by rfl) ?_
      refine X.gyes (by rfl) (by rfl) (by first | rfl | assumption) ?_
      obtain ⟨v25, hv25, h⟩ := bindE h
      refine X.index_s elt113 (by rfl) (by rfl) (idxL_spec hv25).1 (idxL_map eTStep hv25) (by rfl) (by rfl) (by rfl) ?_
      refine X.gyes (by rfl) (by rfl) (by first | rfl | assumption) ?_
      refine X.fieldAddr_c fld208_0 (by rfl) (by rfl) ?_
      refine X.gyes (by rfl) (by rfl) (by first | rfl | assumption) ?_
      refine X.load_c shp3 (by rfl) (by rfl) (by rfl) (by rfl) ?_
      refine X.gyes (by rfl) (by rfl) (by first | rfl | assumption) ?_
      refine X.bin (by rfl) (by rfl) (by rfl) (by rfl) (by intro h; cases h) (by rfl) ?_
      refine X.pickT (by rfl) (by first | rfl | assumption) (by rfl) (by rfl) ?_
      refine X.assign (by rfl) (by rfl) ?_
      cases h
      exact X.endG (by trivial) (by trivial) (by rfl) (by rfl)
    · replace h := condF hb24 h
      refine X.gno (by rfl) (by rfl) (by first | rfl | assumption) (by rfl) ?_
      refine X.gno (by rfl) (by rfl) (by first | rfl | assumption) (by rfl) ?_
      refine X.gno (by rfl) (by rfl) (by first | rfl | assumption) (by rfl) ?_
      refine X.gno (by rfl) (by rfl) (by first | rfl | assumption) (by rfl) ?_
      refine X.pickF (by rfl) (by first | rfl | assumption) (by rfl) (by rfl) ?_
      refine X.assign (by rfl) (by rfl) ?_
      cases h
      exact X.endG (by trivial) (by trivial) (by rfl) (by rfl)
  replace h := h2; clear h2
  cases h
  refine R.fin1 Try.results200 (by rfl) (by rfl) ?_
  rfl
theorem s_ResourceOk_pc (b0 : TResource) (r : Bool) (h : s_ResourceOk b0 = some r) : PC Try.prog 141 [eTResource b0] (bool r) := by
  unfold s_ResourceOk at h
  refine PC.start Try.func141 Try.ntmps141 rfl ok141 rfl ?_
  refine Run.seq ?_
  refine Run.reg ?_
  refine X.box (by rfl) (by rfl) (by repeat (first | trivial | refine ⟨by first | rfl | simp [setL], ?_⟩)) (by rfl) (by rfl) (by rfl) (by rfl) ?_
  refine X.assign (by rfl) (by rfl) ?_
  refine X.nil ?_
  refine Run.seq ?_
  refine Run.seq ?_
  refine Run.reg ?_
  refine X.fieldAddr_l fld115_1 (by rfl) (by rfl) ?_
  refine X.load_l shp63 (by rfl) (by rfl) (by rfl) (by rfl) (by rfl) (by rfl) ?_
  refine X.len_s elt63 (by rfl) (by exact List.length_map ..) (by rfl) ?_
  refine X.move (by rfl) (by rfl) ?_
  refine X.nil ?_
  obtain ⟨o1, ho1, h⟩ := bindE h
  refine R.join2 (β := Unit) [(1, .lptr 64 0)] [(64, .blk true [.slice (b0.Steps.map eTStep), .slice (b0.Setup.map l_int)])] (fun p28 S => S) (fun p28 M => M) (fun p28 => (Sum.inl p28) = o1) ?_ ?_
  · intro JJ4 hmeet3
    have hup2 := h; clear h; have h := ho1; clear ho1
    refine Run.block ?_
    refine R.bndS (t := 8) (by rfl) (fun hbd7 => ?_)
    replace hbd7 : b0.Setup.length ≤ 9223372036854775807 := by first | (rw [List.length_map] at hbd7; exact hbd7) | simp
    refine R.loop2 (β := Int) [(1, .lptr 64 0), (8, .slice (b0.Setup.map l_int)), (9, int (b0.Setup.length : Int))] [(64, .blk true [.slice (b0.Steps.map eTStep), .slice (b0.Setup.map l_int)])] (fun bb S => (10, int bb) :: S) (fun bb M => M) (fun n bb => 0 ≤ bb ∧ bb + n = (b0.Setup.length : Int) ∧ s_ResourceOk_L1 (b0.Setup.drop bb.toNat) bb = some o1) b0.Setup.length (0 : Int) (by repeat (first | trivial | refine ⟨by first | rfl | simp [setL], ?_⟩)) (by repeat (first | trivial | refine ⟨by first | rfl | simp [setL], ?_⟩)) (by rfl) (by rfl) ⟨Int.le_refl _, by simp, h⟩ ?_
    clear h
    rintro JJ7 n7 z8 hag7 ⟨hza7, hzb7, h⟩
    refine Run.seq ?_
    refine Run.reg ?_
    refine X.bin (by rfl) (by rfl) (by rfl) (by rfl) (by intro h; cases h) (by rfl) ?_
    refine X.nil ?_
    refine Run.seq ?_
    refine R.cond (by rfl) (fun hc11 => ?_) (fun hc11 => ?_)
    · obtain ⟨x9, xs10, hd7, hx7, hds7, hlt7⟩ := drop_atI hza7 hc11
      rw [hd7] at h
      rw [s_ResourceOk_L1] at h
      refine Run.skip ?_
      refine Run.seq ?_
      refine Run.block ?_
      refine Run.seq ?_
      refine Run.reg ?_
      refine X.index_s elt63 (by rfl) (by rfl) (idxL_spec hx7).1 (idxL_map l_int hx7) (by rfl) (by rfl) (by rfl) ?_
      refine X.load_c shp25 (by rfl) (by rfl) (by rfl) (by rfl) ?_
      refine X.assign (by rfl) (by rfl) ?_
      refine X.nil ?_
      refine Run.seq ?_
      refine Run.seq ?_
      refine Run.reg ?_
      refine X.move (by rfl) (by rfl) ?_
      refine X.len_s elt25 (by rfl) (by exact List.length_map ..) (by rfl) ?_
      refine X.bin (by rfl) (by rfl) (by rfl) (by rfl) (by intro h; cases h) (by rfl) ?_
      refine X.nil ?_
      refine R.cond (by rfl) (fun hc12 => ?_) (fun hc12 => ?_)
      · replace h := condT hc12 h
        refine Run.seq ?_
        refine Run.reg ?_
        refine X.assign (by rfl) (by rfl) ?_
        refine X.nil ?_
        cases h
        have h := hup2
        replace h := elimR h
        cases h
        refine R.fin1 Try.results141 (by rfl) (by rfl) ?_
        rfl
      · replace h := condF hc12 h
        refine Run.skip ?_
        refine Run.seq ?_
        refine Run.reg ?_
        refine X.move (by rfl) (by rfl) ?_
        refine X.len_s elt25 (by rfl) (by exact List.length_map ..) (by rfl) ?_
        refine X.move (by rfl) (by rfl) ?_
        refine X.nil ?_
        obtain ⟨o13, ho13, h⟩ := bindE h
        refine R.join2 (β := Unit) [(1, .lptr 64 0), (8, .slice (b0.Setup.map l_int)), (9, int (b0.Setup.length : Int)), (10, int z8)] [(64, .blk true [.slice (b0.Steps.map eTStep), .slice (b0.Setup.map l_int)])] (fun p26 S => S) (fun p26 M => M) (fun p26 => (Sum.inl p26) = o13) ?_ ?_
        · intro JJ16 hmeet15
          have hup14 := h; clear h; have h := ho13; clear ho13
          refine Run.block ?_
          refine R.bndS (t := 4) (by rfl) (fun hbd19 => ?_)
          replace hbd19 : x9.length ≤ 9223372036854775807 := by first | (rw [List.length_map] at hbd19; exact hbd19) | simp
          refine R.loop2 (β := Int) [(1, .lptr 64 0), (8, .slice (b0.Setup.map l_int)), (9, int (b0.Setup.length : Int)), (10, int z8), (17, .slice (x9.map int)), (18, int (x9.length : Int))] [(64, .blk true [.slice (b0.Steps.map eTStep), .slice (b0.Setup.map l_int)])] (fun bb S => (19, int bb) :: S) (fun bb M => M) (fun n bb => 0 ≤ bb ∧ bb + n = (x9.length : Int) ∧ s_ResourceOk_L2 (x9.drop bb.toNat) bb = some o13) x9.length (0 : Int) (by repeat (first | trivial | refine ⟨by first | rfl | simp [setL], ?_⟩)) (by repeat (first | trivial | refine ⟨by first | rfl | simp [setL], ?_⟩)) (by rfl) (by rfl) ⟨Int.le_refl _, by simp, h⟩ ?_
          clear h
          rintro JJ19 n19 z20 hag19 ⟨hza19, hzb19, h⟩
          refine Run.seq ?_
          refine Run.reg ?_
          refine X.bin (by rfl) (by rfl) (by rfl) (by rfl) (by intro h; cases h) (by rfl) ?_
          refine X.nil ?_
          refine Run.seq ?_
          refine R.cond (by rfl) (fun hc23 => ?_) (fun hc23 => ?_)
          · obtain ⟨x21, xs22, hd19, hx19, hds19, hlt19⟩ := drop_atI hza19 hc23
            rw [hd19] at h
            rw [s_ResourceOk_L2] at h
            refine Run.skip ?_
            refine Run.seq ?_
            refine Run.block ?_
            refine Run.seq ?_
            refine Run.reg ?_
            refine X.index_s elt25 (by rfl) (by rfl) (idxL_spec hx19).1 (idxL_map int hx19) (by rfl) (by rfl) (by rfl) ?_
            refine X.load_c shp3 (by rfl) (by rfl) (by rfl) (by rfl) ?_
            refine X.assign (by rfl) (by rfl) ?_
            refine X.nil ?_
            refine Run.seq ?_
            refine Run.reg ?_
            refine X.move (by rfl) (by rfl) ?_
            obtain ⟨v24, hv24, h⟩ := bindE h
            refine X.callP (s_l01In_pc _ _ _ _ hv24) (by rfl) (by rfl) (by rfl) (by trivial) (by rfl) (by rfl) (by rfl) (by rfl) ?_
            refine X.un (by rfl) (by rfl) (by rfl) ?_
            refine X.nil ?_
            refine R.cond (by rfl) (fun hc25 => ?_) (fun hc25 => ?_)
            · replace h := condT hc25 h
              refine Run.seq ?_
              refine Run.reg ?_
              refine X.assign (by rfl) (by rfl) ?_
              refine X.nil ?_
              cases h
              have h := hup14
              replace h := elimR h
              cases h
              have h := hup2
              replace h := elimR h
              cases h
              refine R.fin1 Try.results141 (by rfl) (by rfl) ?_
              rfl
            · replace h := condF hc25 h
              refine Run.skip ?_
              refine Run.blk ?_
              refine Run.reg ?_
              refine X.add (by rfl) (by rfl) (by omega) (by rfl) ?_
              refine X.move (by rfl) (by rfl) ?_
              refine X.nil ?_
              exact hag19 (n19 - 1) (z20 + 1) _ _ (by omega) ⟨by first | omega | (dsimp only; omega), by first | omega | (dsimp only; omega), by first | (rw [hds19]; exact h) | (dsimp only; rw [hds19]; exact h)⟩ (by trivial) (by trivial) (by rfl) (by rfl)
          · rw [drop_endI hza19 hc23] at h
            rw [s_ResourceOk_L2] at h
            refine Run.exit (by rfl) ?_
            exact hmeet15 () _ _ (Option.some.inj h) (by trivial) (by trivial) (by rfl) (by rfl)
        rintro p26 rfl
        replace h := elimL h
        refine Run.blk ?_
        refine Run.reg ?_
        refine X.add (by rfl) (by rfl) (by omega) (by rfl) ?_
        refine X.move (by rfl) (by rfl) ?_
        refine X.nil ?_
        exact hag7 (n7 - 1) (z8 + 1) _ _ (by omega) ⟨by first | omega | (dsimp only; omega), by first | omega | (dsimp only; omega), by first | (rw [hds7]; exact h) | (dsimp only; rw [hds7]; exact h)⟩ (by trivial) (by trivial) (by rfl) (by rfl)
    · rw [drop_endI hza7 hc11] at h
      rw [s_ResourceOk_L1] at h
      refine Run.exit (by rfl) ?_
      exact hmeet3 () _ _ (Option.some.inj h) (by trivial) (by trivial) (by rfl) (by rfl)
  rintro p28 rfl
  replace h := elimL h
  refine Run.seq ?_
  obtain ⟨v30, hv30, h⟩ := bindE h
  obtain ⟨e31, he31, h2⟩ := bindE h
  refine R.regG [(2, bool e31)] [] ?_ ?_
  · clear h; have h := he31; clear he31 h2
    refine X.fieldAddr_l fld115_0 (by rfl) (by rfl) ?_
    refine X.load_l shp113 (by rfl) (by rfl) (by rfl) (by rfl) (by rfl) (by rfl) ?_
    refine X.callP (s_StepsOk_pc _ _ hv30) (by rfl) (by rfl) (by rfl) (by trivial) (by rfl) (by rfl) (by rfl) (by rfl) ?_
    refine X.move (by rfl) (by rfl) ?_
    refine X.ifG (by rfl) (by rfl) (by rfl) (fun hb32 => ?_) (fun hb32 => ?_)
    · replace h := condT hb32 h
      refine X.fieldAddr_l fld115_1 (by rfl) (by rfl) ?_
      refine X.gyes (by rfl) (by rfl) (by first | rfl | assumption) ?_
      refine X.load_l shp63 (by rfl) (by rfl) (by rfl) (by rfl) (by rfl) (by rfl) ?_
      refine X.gyes (by rfl) (by rfl) (by first | rfl | assumption) ?_
      refine X.len_s elt63 (by rfl) (by exact List.length_map ..) (by rfl) ?_
      refine X.gyes (by rfl) (by rfl) (by first | rfl | assumption) ?_
      refine X.bin (by rfl) (by rfl) (by rfl) (by rfl) (by intro h; cases h) (by rfl) ?_
      refine X.gyes (by rfl) (by rfl) (by first | rfl | assumption) ?_
      refine X.move (by rfl) (by rfl) ?_
      refine X.ifG (by rfl) (by rfl) (by rfl) (fun hb33 => ?_) (fun hb33 => ?_)
      · replace h := condF hb33 h
        refine X.fieldAddr_l fld115_1 (by rfl) (by rfl) ?_
        refine X.gyes (by rfl) (by rfl) (by first | rfl | assumption) ?_
        refine X.load_l shp63 (by rfl) (by rfl) (by rfl) (by rfl) (by rfl) (by rfl) ?_
        refine X.gyes (by rfl) (by rfl) (by first | rfl | assumption) ?_
        refine X.len_s elt63 (by rfl) (by exact List.length_map ..) (by rfl) ?_
        refine X.gyes (by rfl) (by rfl) (by first | rfl | assumption) ?_
        refine X.bin (by rfl) (by rfl) (by rfl) (by rfl) (by intro h; cases h) (by rfl) ?_
        refine X.gyes (by rfl) (by rfl) (by first | rfl | assumption) ?_
        refine X.pickF (by rfl) (by first | rfl | assumption) (by rfl) (by rfl) ?_
        refine X.pickT (by rfl) (by first | rfl | assumption) (by rfl) (by rfl) ?_
        refine X.assign (by rfl) (by rfl) ?_
        cases h
        exact X.endG (by trivial) (by trivial) (by rfl) (by rfl)
      · replace h := condT hb33 h
        refine X.gno (by rfl) (by rfl) (by first | rfl | assumption) (by rfl) ?_
        refine X.gno (by rfl) (by rfl) (by first | rfl | assumption) (by rfl) ?_
        refine X.gno (by rfl) (by rfl) (by first | rfl | assumption) (by rfl) ?_
        refine X.gyes (by rfl) (by rfl) (by first | rfl | assumption) ?_
        refine X.pickT (by rfl) (by first | rfl | assumption) (by rfl) (by rfl) ?_
        refine X.pickT (by rfl) (by first | rfl | assumption) (by rfl) (by rfl) ?_
        refine X.assign (by rfl) (by rfl) ?_
        cases h
        exact X.endG (by trivial) (by trivial) (by rfl) (by rfl)
    · replace h := condF hb32 h
      refine X.gno (by rfl) (by rfl) (by first | rfl | assumption) (by rfl) ?_
      refine X.gno (by rfl) (by rfl) (by first | rfl | assumption) (by rfl) ?_
      refine X.gno (by rfl) (by rfl) (by first | rfl | assumption) (by rfl) ?_
      refine X.gno (by rfl) (by rfl) (by first | rfl | assumption) (by rfl) ?_
      refine X.gU (by rfl) (by rfl) (by rfl) ?_
      refine X.gU (by rfl) (by rfl) (by rfl) ?_
      refine X.gU (by rfl) (by rfl) (by rfl) ?_
      refine X.gU (by rfl) (by rfl) (by rfl) ?_
      refine X.gno (by rfl) (by rfl) (by first | rfl | assumption) (by rfl) ?_
      refine X.pickF (by rfl) (by first | rfl | assumption) (by rfl) (by rfl) ?_
      refine X.assign (by rfl) (by rfl) ?_
      cases h
      exact X.endG (by trivial) (by trivial) (by rfl) (by rfl)
  replace h := h2; clear h2
  cases h
  refine R.fin1 Try.results141 (by rfl) (by rfl) ?_
  rfl
theorem s_ProjectOk_pc (b0 : TProject) (r : Bool) (h : s_ProjectOk b0 = some r) : PC Try.prog 68 [eTProject b0] (bool r) := by
  unfold s_ProjectOk at h
  refine PC.start Try.func68 Try.ntmps68 rfl ok68 rfl ?_
  refine Run.seq ?_
  refine Run.reg ?_
  refine X.box (by rfl) (by rfl) (by repeat (first | trivial | refine ⟨by first | rfl | simp [setL], ?_⟩)) (by rfl) (by rfl) (by rfl) (by rfl) ?_
  refine X.assign (by rfl) (by rfl) ?_
  refine X.nil ?_
  refine Run.seq ?_
  refine Run.reg ?_
  refine X.fieldAddr_l fld34_1 (by rfl) (by rfl) ?_
  refine X.load_l shp30 (by rfl) (by rfl) (by rfl) (by rfl) (by rfl) (by rfl) ?_
  refine X.len_s elt30 (by rfl) (by exact List.length_map ..) (by rfl) ?_
  refine X.assign (by rfl) (by rfl) ?_
  refine X.nil ?_
  refine Run.seq ?_
  refine Run.seq ?_
  obtain ⟨v1, hv1, h⟩ := bindE h
  obtain ⟨e2, he2, h2⟩ := bindE h
  refine R.regG [(1, .lptr 64 0), (3, int (b0.Activities.length : Int)), (41, bool e2)] [(64, .blk true [int b0.Deadline, .slice (b0.Activities.map eTActivity), .slice (b0.Links.map eTLink), .slice (b0.Resources.map eTResource), .slice (b0.Stocks.map int)])] ?_ ?_
  · clear h; have h := he2; clear he2 h2
    refine X.fieldAddr_l fld34_0 (by rfl) (by rfl) ?_
    refine X.load_l shp3 (by rfl) (by rfl) (by rfl) (by rfl) (by rfl) (by rfl) ?_
    refine X.callP (s_l01In_pc _ _ _ _ hv1) (by rfl) (by rfl) (by rfl) (by trivial) (by rfl) (by rfl) (by rfl) (by rfl) ?_
    refine X.un (by rfl) (by rfl) (by rfl) ?_
    refine X.move (by rfl) (by rfl) ?_
    refine X.ifG (by rfl) (by rfl) (by rfl) (fun hb3 => ?_) (fun hb3 => ?_)
    · replace h := condF hb3 h
      refine X.move (by rfl) (by rfl) ?_
      refine X.gyes (by rfl) (by rfl) (by first | rfl | assumption) ?_
      obtain ⟨v4, hv4, h⟩ := bindE h
      refine X.callP (s_l01In_pc _ _ _ _ hv4) (by rfl) (by rfl) (by rfl) (by trivial) (by rfl) (by rfl) (by rfl) (by rfl) ?_
      refine X.gyes (by rfl) (by rfl) (by first | rfl | assumption) ?_
      refine X.un (by rfl) (by rfl) (by rfl) ?_
      refine X.pickF (by rfl) (by first | rfl | assumption) (by rfl) (by rfl) ?_
      refine X.move (by rfl) (by rfl) ?_
      refine X.ifG (by rfl) (by rfl) (by rfl) (fun hb5 => ?_) (fun hb5 => ?_)
      · replace h := condF hb5 h
        refine X.fieldAddr_l fld34_3 (by rfl) (by rfl) ?_
        refine X.gyes (by rfl) (by rfl) (by first | rfl | assumption) ?_
        refine X.load_l shp32 (by rfl) (by rfl) (by rfl) (by rfl) (by rfl) (by rfl) ?_
        refine X.gyes (by rfl) (by rfl) (by first | rfl | assumption) ?_
        refine X.len_s elt32 (by rfl) (by exact List.length_map ..) (by rfl) ?_
        refine X.gyes (by rfl) (by rfl) (by first | rfl | assumption) ?_
        refine X.bin (by rfl) (by rfl) (by rfl) (by rfl) (by intro h; cases h) (by rfl) ?_
        refine X.pickF (by rfl) (by first | rfl | assumption) (by rfl) (by rfl) ?_
        refine X.move (by rfl) (by rfl) ?_
        refine X.ifG (by rfl) (by rfl) (by rfl) (fun hb6 => ?_) (fun hb6 => ?_)
        · replace h := condF hb6 h
          refine X.fieldAddr_l fld34_4 (by rfl) (by rfl) ?_
          refine X.gyes (by rfl) (by rfl) (by first | rfl | assumption) ?_
          refine X.load_l shp25 (by rfl) (by rfl) (by rfl) (by rfl) (by rfl) (by rfl) ?_
          refine X.gyes (by rfl) (by rfl) (by first | rfl | assumption) ?_
          refine X.len_s elt25 (by rfl) (by exact List.length_map ..) (by rfl) ?_
          refine X.gyes (by rfl) (by rfl) (by first | rfl | assumption) ?_
          refine X.bin (by rfl) (by rfl) (by rfl) (by rfl) (by intro h; cases h) (by rfl) ?_
          refine X.pickF (by rfl) (by first | rfl | assumption) (by rfl) (by rfl) ?_
          refine X.move (by rfl) (by rfl) ?_
          refine X.ifG (by rfl) (by rfl) (by rfl) (fun hb7 => ?_) (fun hb7 => ?_)
          · replace h := condF hb7 h
            refine X.fieldAddr_l fld34_2 (by rfl) (by rfl) ?_
            refine X.gyes (by rfl) (by rfl) (by first | rfl | assumption) ?_
            refine X.load_l shp31 (by rfl) (by rfl) (by rfl) (by rfl) (by rfl) (by rfl) ?_
            refine X.gyes (by rfl) (by rfl) (by first | rfl | assumption) ?_
            refine X.len_s elt31 (by rfl) (by exact List.length_map ..) (by rfl) ?_
            refine X.gyes (by rfl) (by rfl) (by first | rfl | assumption) ?_
            refine X.bin (by rfl) (by rfl) (by rfl) (by rfl) (by intro h; cases h) (by rfl) ?_
            refine X.pickF (by rfl) (by first | rfl | assumption) (by rfl) (by rfl) ?_
            cases h
            exact X.endG (by trivial) (by trivial) (by rfl) (by rfl)
          · replace h := condT hb7 h
            refine X.gno (by rfl) (by rfl) (by first | rfl | assumption) (by rfl) ?_
            refine X.gno (by rfl) (by rfl) (by first | rfl | assumption) (by rfl) ?_
            refine X.gno (by rfl) (by rfl) (by first | rfl | assumption) (by rfl) ?_
            refine X.pickT (by rfl) (by first | rfl | assumption) (by rfl) (by rfl) ?_
            cases h
            exact X.endG (by trivial) (by trivial) (by rfl) (by rfl)
        · replace h := condT hb6 h
          refine X.gno (by rfl) (by rfl) (by first | rfl | assumption) (by rfl) ?_
          refine X.gno (by rfl) (by rfl) (by first | rfl | assumption) (by rfl) ?_
          refine X.gno (by rfl) (by rfl) (by first | rfl | assumption) (by rfl) ?_
          refine X.pickT (by rfl) (by first | rfl | assumption) (by rfl) (by rfl) ?_
          refine X.move (by rfl) (by rfl) ?_
          refine X.gno (by rfl) (by rfl) (by first | rfl | assumption) (by rfl) ?_
          refine X.gno (by rfl) (by rfl) (by first | rfl | assumption) (by rfl) ?_
          refine X.gno (by rfl) (by rfl) (by first | rfl | assumption) (by rfl) ?_
          refine X.gno (by rfl) (by rfl) (by first | rfl | assumption) (by rfl) ?_
          refine X.pickT (by rfl) (by first | rfl | assumption) (by rfl) (by rfl) ?_
          cases h
          exact X.endG (by trivial) (by trivial) (by rfl) (by rfl)
      · replace h := condT hb5 h
        refine X.gno (by rfl) (by rfl) (by first | rfl | assumption) (by rfl) ?_
        refine X.gno (by rfl) (by rfl) (by first | rfl | assumption) (by rfl) ?_
        refine X.gno (by rfl) (by rfl) (by first | rfl | assumption) (by rfl) ?_
        refine X.pickT (by rfl) (by first | rfl | assumption) (by rfl) (by rfl) ?_
        refine X.move (by rfl) (by rfl) ?_
        refine X.gno (by rfl) (by rfl) (by first | rfl | assumption) (by rfl) ?_
        refine X.gno (by rfl) (by rfl) (by first | rfl | assumption) (by rfl) ?_
        refine X.gno (by rfl) (by rfl) (by first | rfl | assumption) (by rfl) ?_
        refine X.gno (by rfl) (by rfl) (by first | rfl | assumption) (by rfl) ?_
        refine X.pickT (by rfl) (by first | rfl | assumption) (by rfl) (by rfl) ?_
        refine X.move (by rfl) (by rfl) ?_
        refine X.gno (by rfl) (by rfl) (by first | rfl | assumption) (by rfl) ?_
        refine X.gno (by rfl) (by rfl) (by first | rfl | assumption) (by rfl) ?_
        refine X.gno (by rfl) (by rfl) (by first | rfl | assumption) (by rfl) ?_
        refine X.gno (by rfl) (by rfl) (by first | rfl | assumption) (by rfl) ?_
        refine X.pickT (by rfl) (by first | rfl | assumption) (by rfl) (by rfl) ?_
        cases h
        exact X.endG (by trivial) (by trivial) (by rfl) (by rfl)
    · replace h := condT hb3 h
      refine X.gno (by rfl) (by rfl) (by first | rfl | assumption) (by rfl) ?_
      refine X.gno (by rfl) (by rfl) (by first | rfl | assumption) (by rfl) ?_
      refine X.pickT (by rfl) (by first | rfl | assumption) (by rfl) (by rfl) ?_
      refine X.move (by rfl) (by rfl) ?_
      refine X.gno (by rfl) (by rfl) (by first | rfl | assumption) (by rfl) ?_
      refine X.gno (by rfl) (by rfl) (by first | rfl | assumption) (by rfl) ?_
      refine X.gno (by rfl) (by rfl) (by first | rfl | assumption) (by rfl) ?_
      refine X.gno (by rfl) (by rfl) (by first | rfl | assumption) (by rfl) ?_
      refine X.pickT (by rfl) (by first | rfl | assumption) (by rfl) (by rfl) ?_
      refine X.move (by rfl) (by rfl) ?_
      refine X.gno (by rfl) (by rfl) (by first | rfl | assumption) (by rfl) ?_
      refine X.gno (by rfl) (by rfl) (by first | rfl | assumption) (by rfl) ?_
      refine X.gno (by rfl) (by rfl) (by first | rfl | assumption) (by rfl) ?_
      refine X.gno (by rfl) (by rfl) (by first | rfl | assumption) (by rfl) ?_
      refine X.pickT (by rfl) (by first | rfl | assumption) (by rfl) (by rfl) ?_
      refine X.move (by rfl) (by rfl) ?_
      refine X.gno (by rfl) (by rfl) (by first | rfl | assumption) (by rfl) ?_
      refine X.gno (by rfl) (by rfl) (by first | rfl | assumption) (by rfl) ?_
      refine X.gno (by rfl) (by rfl) (by first | rfl | assumption) (by rfl) ?_
      refine X.gno (by rfl) (by rfl) (by first | rfl | assumption) (by rfl) ?_
      refine X.pickT (by rfl) (by first | rfl | assumption) (by rfl) (by rfl) ?_
      cases h
      exact X.endG (by trivial) (by trivial) (by rfl) (by rfl)
  replace h := h2; clear h2
  refine R.cond (by rfl) (fun hc8 => ?_) (fun hc8 => ?_)
  · replace h := condT hc8 h
    refine Run.seq ?_
    refine Run.reg ?_
    refine X.assign (by rfl) (by rfl) ?_
    refine X.nil ?_
    cases h
    refine R.fin1 Try.results68 (by rfl) (by rfl) ?_
    rfl
  · replace h := condF hc8 h
    refine Run.skip ?_
    refine Run.seq ?_
    refine Run.seq ?_
    refine Run.reg ?_
    refine X.fieldAddr_l fld34_1 (by rfl) (by rfl) ?_
    refine X.load_l shp30 (by rfl) (by rfl) (by rfl) (by rfl) (by rfl) (by rfl) ?_
    refine X.len_s elt30 (by rfl) (by exact List.length_map ..) (by rfl) ?_
    refine X.move (by rfl) (by rfl) ?_
    refine X.nil ?_
    obtain ⟨o9, ho9, h⟩ := bindE h
    refine R.join2 (β := Unit) [(1, .lptr 64 0), (3, int (b0.Activities.length : Int))] [(64, .blk true [int b0.Deadline, .slice (b0.Activities.map eTActivity), .slice (b0.Links.map eTLink), .slice (b0.Resources.map eTResource), .slice (b0.Stocks.map int)])] (fun p25 S => S) (fun p25 M => M) (fun p25 => (Sum.inl p25) = o9) ?_ ?_
    · intro JJ12 hmeet11
      have hup10 := h; clear h; have h := ho9; clear ho9
      refine Run.block ?_
      refine R.bndS (t := 43) (by rfl) (fun hbd15 => ?_)
      replace hbd15 : b0.Activities.length ≤ 9223372036854775807 := by first | (rw [List.length_map] at hbd15; exact hbd15) | simp
      refine R.loop2 (β := Int) [(1, .lptr 64 0), (3, int (b0.Activities.length : Int)), (43, .slice (b0.Activities.map eTActivity)), (44, int (b0.Activities.length : Int))] [(64, .blk true [int b0.Deadline, .slice (b0.Activities.map eTActivity), .slice (b0.Links.map eTLink), .slice (b0.Resources.map eTResource), .slice (b0.Stocks.map int)])] (fun bb S => (45, int bb) :: S) (fun bb M => M) (fun n bb => 0 ≤ bb ∧ bb + n = (b0.Activities.length : Int) ∧ s_ProjectOk_L1 b0 (b0.Activities.drop bb.toNat) bb = some o9) b0.Activities.length (0 : Int) (by repeat (first | trivial | refine ⟨by first | rfl | simp [setL], ?_⟩)) (by repeat (first | trivial | refine ⟨by first | rfl | simp [setL], ?_⟩)) (by rfl) (by rfl) ⟨Int.le_refl _, by simp, h⟩ ?_
      clear h
      rintro JJ15 n15 z16 hag15 ⟨hza15, hzb15, h⟩
      refine Run.seq ?_
      refine Run.reg ?_
      refine X.bin (by rfl) (by rfl) (by rfl) (by rfl) (by intro h; cases h) (by rfl) ?_
      refine X.nil ?_
      refine Run.seq ?_
      refine R.cond (by rfl) (fun hc19 => ?_) (fun hc19 => ?_)
      · obtain ⟨x17, xs18, hd15, hx15, hds15, hlt15⟩ := drop_atI hza15 hc19
        rw [hd15] at h
        rw [s_ProjectOk_L1] at h
        refine Run.skip ?_
        refine Run.seq ?_
        refine Run.block ?_
        refine Run.seq ?_
        refine Run.reg ?_
        refine X.move (by rfl) (by rfl) ?_
        refine X.index_s elt30 (by rfl) (by rfl) (idxL_spec hx15).1 (idxL_map eTActivity hx15) (by rfl) (by rfl) (by rfl) ?_
        refine X.load_c shp127 (by rfl) (by rfl) (by rfl) (by rfl) ?_
        refine X.alloc zer127 (by rfl) (by rfl) (by rfl) ?_
        refine X.assign (by rfl) (by rfl) ?_
        refine X.store_l shp127 (by rfl) (by rfl) (by rfl) (by rfl) (by repeat (first | trivial | refine ⟨by first | rfl | simp [setL], ?_⟩)) (by rfl) (by rfl) (by rfl) ?_
        refine X.nil ?_
        refine Run.seq ?_
        obtain ⟨v20, hv20, h⟩ := bindE h
        obtain ⟨e21, he21, h2⟩ := bindE h
        refine R.regG [(1, .lptr 64 0), (3, int (b0.Activities.length : Int)), (43, .slice (b0.Activities.map eTActivity)), (44, int (b0.Activities.length : Int)), (45, int z16), (66, bool e21)] [(64, .blk true [int b0.Deadline, .slice (b0.Activities.map eTActivity), .slice (b0.Links.map eTLink), .slice (b0.Resources.map eTResource), .slice (b0.Stocks.map int)])] ?_ ?_
        · clear h; have h := he21; clear he21 h2
          refine X.load_l shp127 (by rfl) (by rfl) (by rfl) (by rfl) (by rfl) (by rfl) ?_
          refine X.fieldAddr_l fld34_3 (by rfl) (by rfl) ?_
          refine X.load_l shp32 (by rfl) (by rfl) (by rfl) (by rfl) (by rfl) (by rfl) ?_
          refine X.len_s elt32 (by rfl) (by exact List.length_map ..) (by rfl) ?_
          refine X.fieldAddr_l fld34_4 (by rfl) (by rfl) ?_
          refine X.load_l shp25 (by rfl) (by rfl) (by rfl) (by rfl) (by rfl) (by rfl) ?_
          refine X.len_s elt25 (by rfl) (by exact List.length_map ..) (by rfl) ?_
          refine X.callP (s_ActivityOk_pc _ _ _ _ hv20) (by rfl) (by rfl) (by rfl) (by trivial) (by rfl) (by rfl) (by rfl) (by rfl) ?_
          refine X.un (by rfl) (by rfl) (by rfl) ?_
          refine X.move (by rfl) (by rfl) ?_
          refine X.ifG (by rfl) (by rfl) (by rfl) (fun hb22 => ?_) (fun hb22 => ?_)
          · replace h := condF hb22 h
            refine X.load_l shp34 (by rfl) (by rfl) (by rfl) (by rfl) (by rfl) (by rfl) ?_
            refine X.gyes (by rfl) (by rfl) (by first | rfl | assumption) ?_
            refine X.fieldAddr_l fld127_0 (by rfl) (by rfl) ?_
            refine X.gyes (by rfl) (by rfl) (by first | rfl | assumption) ?_
            refine X.load_l shp9 (by rfl) (by rfl) (by rfl) (by rfl) (by rfl) (by rfl) ?_
            refine X.gyes (by rfl) (by rfl) (by first | rfl | assumption) ?_
            obtain ⟨v23, hv23, h⟩ := bindE h
            refine X.callP (s_ActivityIndex_pc _ _ _ hv23) (by rfl) (by rfl) (by rfl) (by trivial) (by rfl) (by rfl) (by rfl) (by rfl) ?_
            refine X.gyes (by rfl) (by rfl) (by first | rfl | assumption) ?_
            refine X.move (by rfl) (by rfl) ?_
            refine X.gyes (by rfl) (by rfl) (by first | rfl | assumption) ?_
            refine X.bin (by rfl) (by rfl) (by rfl) (by rfl) (by intro h; cases h) (by rfl) ?_
            refine X.pickF (by rfl) (by first | rfl | assumption) (by rfl) (by rfl) ?_
            cases h
            exact X.endG (by trivial) (by trivial) (by rfl) (by rfl)
          · replace h := condT hb22 h
            refine X.gno (by rfl) (by rfl) (by first | rfl | assumption) (by rfl) ?_
            refine X.gno (by rfl) (by rfl) (by first | rfl | assumption) (by rfl) ?_
            refine X.gno (by rfl) (by rfl) (by first | rfl | assumption) (by rfl) ?_
            refine X.gno (by rfl) (by rfl) (by first | rfl | assumption) (by rfl) ?_
            refine X.gno (by rfl) (by rfl) (by first | rfl | assumption) (by rfl) ?_
            refine X.pickT (by rfl) (by first | rfl | assumption) (by rfl) (by rfl) ?_
            cases h
            exact X.endG (by trivial) (by trivial) (by rfl) (by rfl)
        replace h := h2; clear h2
        refine R.cond (by rfl) (fun hc24 => ?_) (fun hc24 => ?_)
        · replace h := condT hc24 h
          refine Run.seq ?_
          refine Run.reg ?_
          refine X.assign (by rfl) (by rfl) ?_
          refine X.nil ?_
          cases h
          have h := hup10
          replace h := elimR h
          cases h
          refine R.fin1 Try.results68 (by rfl) (by rfl) ?_
          rfl
        · replace h := condF hc24 h
          refine Run.skip ?_
          refine Run.blk ?_
          refine Run.reg ?_
          refine X.add (by rfl) (by rfl) (by omega) (by rfl) ?_
          refine X.move (by rfl) (by rfl) ?_
          refine X.nil ?_
          exact hag15 (n15 - 1) (z16 + 1) _ _ (by omega) ⟨by first | omega | (dsimp only; omega), by first | omega | (dsimp only; omega), by first | (rw [hds15]; exact h) | (dsimp only; rw [hds15]; exact h)⟩ (by trivial) (by trivial) (by rfl) (by rfl)
      · rw [drop_endI hza15 hc19] at h
        rw [s_ProjectOk_L1] at h
        refine Run.exit (by rfl) ?_
        exact hmeet11 () _ _ (Option.some.inj h) (by trivial) (by trivial) (by rfl) (by rfl)
    rintro p25 rfl
    replace h := elimL h
    refine Run.seq ?_
    refine Run.seq ?_
    refine Run.reg ?_
    refine X.fieldAddr_l fld34_3 (by rfl) (by rfl) ?_
    refine X.load_l shp32 (by rfl) (by rfl) (by rfl) (by rfl) (by rfl) (by rfl) ?_
    refine X.len_s elt32 (by rfl) (by exact List.length_map ..) (by rfl) ?_
    refine X.move (by rfl) (by rfl) ?_
    refine X.nil ?_
    obtain ⟨o27, ho27, h⟩ := bindE h
    refine R.join2 (β := Unit) [(1, .lptr 64 0), (3, int (b0.Activities.length : Int))] [(64, .blk true [int b0.Deadline, .slice (b0.Activities.map eTActivity), .slice (b0.Links.map eTLink), .slice (b0.Resources.map eTResource), .slice (b0.Stocks.map int)])] (fun p40 S => S) (fun p40 M => M) (fun p40 => (Sum.inl p40) = o27) ?_ ?_
    · intro JJ30 hmeet29
      have hup28 := h; clear h; have h := ho27; clear ho27
      refine Run.block ?_
      refine R.bndS (t := 69) (by rfl) (fun hbd33 => ?_)
      replace hbd33 : b0.Resources.length ≤ 9223372036854775807 := by first | (rw [List.length_map] at hbd33; exact hbd33) | simp
      refine R.loop2 (β := Int) [(1, .lptr 64 0), (3, int (b0.Activities.length : Int)), (69, .slice (b0.Resources.map eTResource)), (70, int (b0.Resources.length : Int))] [(64, .blk true [int b0.Deadline, .slice (b0.Activities.map eTActivity), .slice (b0.Links.map eTLink), .slice (b0.Resources.map eTResource), .slice (b0.Stocks.map int)])] (fun bb S => (71, int bb) :: S) (fun bb M => M) (fun n bb => 0 ≤ bb ∧ bb + n = (b0.Resources.length : Int) ∧ s_ProjectOk_L2 (b0.Resources.drop bb.toNat) bb = some o27) b0.Resources.length (0 : Int) (by repeat (first | trivial | refine ⟨by first | rfl | simp [setL], ?_⟩)) (by repeat (first | trivial | refine ⟨by first | rfl | simp [setL], ?_⟩)) (by rfl) (by rfl) ⟨Int.le_refl _, by simp, h⟩ ?_
      clear h
      rintro JJ33 n33 z34 hag33 ⟨hza33, hzb33, h⟩
      refine Run.seq ?_
      refine Run.reg ?_
      refine X.bin (by rfl) (by rfl) (by rfl) (by rfl) (by intro h; cases h) (by rfl) ?_
      refine X.nil ?_
      refine Run.seq ?_
      refine R.cond (by rfl) (fun hc37 => ?_) (fun hc37 => ?_)
      · obtain ⟨x35, xs36, hd33, hx33, hds33, hlt33⟩ := drop_atI hza33 hc37
        rw [hd33] at h
        rw [s_ProjectOk_L2] at h
        refine Run.skip ?_
        refine Run.seq ?_
        refine Run.block ?_
        refine Run.seq ?_
        refine Run.reg ?_
        refine X.index_s elt32 (by rfl) (by rfl) (idxL_spec hx33).1 (idxL_map eTResource hx33) (by rfl) (by rfl) (by rfl) ?_
        refine X.load_c shp115 (by rfl) (by rfl) (by rfl) (by rfl) ?_
        refine X.alloc zer115 (by rfl) (by rfl) (by rfl) ?_
        refine X.store_l shp115 (by rfl) (by rfl) (by rfl) (by rfl) (by repeat (first | trivial | refine ⟨by first | rfl | simp [setL], ?_⟩)) (by rfl) (by rfl) (by rfl) ?_
        refine X.nil ?_
        refine Run.seq ?_
        refine Run.reg ?_
        refine X.load_l shp115 (by rfl) (by rfl) (by rfl) (by rfl) (by rfl) (by rfl) ?_
        obtain ⟨v38, hv38, h⟩ := bindE h
        refine X.callP (s_ResourceOk_pc _ _ hv38) (by rfl) (by rfl) (by rfl) (by trivial) (by rfl) (by rfl) (by rfl) (by rfl) ?_
        refine X.un (by rfl) (by rfl) (by rfl) ?_
        refine X.nil ?_
        refine R.cond (by rfl) (fun hc39 => ?_) (fun hc39 => ?_)
        · replace h := condT hc39 h
          refine Run.seq ?_
          refine Run.reg ?_
          refine X.assign (by rfl) (by rfl) ?_
          refine X.nil ?_
          cases h
          have h := hup28
          replace h := elimR h
          cases h
          refine R.fin1 Try.results68 (by rfl) (by rfl) ?_
          rfl
        · replace h := condF hc39 h
          refine Run.skip ?_
          refine Run.blk ?_
          refine Run.reg ?_
          refine X.add (by rfl) (by rfl) (by omega) (by rfl) ?_
          refine X.move (by rfl) (by rfl) ?_
          refine X.nil ?_
          exact hag33 (n33 - 1) (z34 + 1) _ _ (by omega) ⟨by first | omega | (dsimp only; omega), by first | omega | (dsimp only; omega), by first | (rw [hds33]; exact h) | (dsimp only; rw [hds33]; exact h)⟩ (by trivial) (by trivial) (by rfl) (by rfl)
      · rw [drop_endI hza33 hc37] at h
        rw [s_ProjectOk_L2] at h
        refine Run.exit (by rfl) ?_
        exact hmeet29 () _ _ (Option.some.inj h) (by trivial) (by trivial) (by rfl) (by rfl)
    rintro p40 rfl
    replace h := elimL h
    refine Run.seq ?_
    refine Run.seq ?_
    refine Run.reg ?_
    refine X.fieldAddr_l fld34_4 (by rfl) (by rfl) ?_
    refine X.load_l shp25 (by rfl) (by rfl) (by rfl) (by rfl) (by rfl) (by rfl) ?_
    refine X.len_s elt25 (by rfl) (by exact List.length_map ..) (by rfl) ?_
    refine X.move (by rfl) (by rfl) ?_
    refine X.nil ?_
    obtain ⟨o42, ho42, h⟩ := bindE h
    refine R.join2 (β := Unit) [(1, .lptr 64 0), (3, int (b0.Activities.length : Int))] [(64, .blk true [int b0.Deadline, .slice (b0.Activities.map eTActivity), .slice (b0.Links.map eTLink), .slice (b0.Resources.map eTResource), .slice (b0.Stocks.map int)])] (fun p55 S => S) (fun p55 M => M) (fun p55 => (Sum.inl p55) = o42) ?_ ?_
    · intro JJ45 hmeet44
      have hup43 := h; clear h; have h := ho42; clear ho42
      refine Run.block ?_
      refine R.bndS (t := 80) (by rfl) (fun hbd48 => ?_)
      replace hbd48 : b0.Stocks.length ≤ 9223372036854775807 := by first | (rw [List.length_map] at hbd48; exact hbd48) | simp
      refine R.loop2 (β := Int) [(1, .lptr 64 0), (3, int (b0.Activities.length : Int)), (80, .slice (b0.Stocks.map int)), (81, int (b0.Stocks.length : Int))] [(64, .blk true [int b0.Deadline, .slice (b0.Activities.map eTActivity), .slice (b0.Links.map eTLink), .slice (b0.Resources.map eTResource), .slice (b0.Stocks.map int)])] (fun bb S => (82, int bb) :: S) (fun bb M => M) (fun n bb => 0 ≤ bb ∧ bb + n = (b0.Stocks.length : Int) ∧ s_ProjectOk_L3 (b0.Stocks.drop bb.toNat) bb = some o42) b0.Stocks.length (0 : Int) (by repeat (first | trivial | refine ⟨by first | rfl | simp [setL], ?_⟩)) (by repeat (first | trivial | refine ⟨by first | rfl | simp [setL], ?_⟩)) (by rfl) (by rfl) ⟨Int.le_refl _, by simp, h⟩ ?_
      clear h
      rintro JJ48 n48 z49 hag48 ⟨hza48, hzb48, h⟩
      refine Run.seq ?_
      refine Run.reg ?_
      refine X.bin (by rfl) (by rfl) (by rfl) (by rfl) (by intro h; cases h) (by rfl) ?_
      refine X.nil ?_
      refine Run.seq ?_
      refine R.cond (by rfl) (fun hc52 => ?_) (fun hc52 => ?_)
      · obtain ⟨x50, xs51, hd48, hx48, hds48, hlt48⟩ := drop_atI hza48 hc52
        rw [hd48] at h
        rw [s_ProjectOk_L3] at h
        refine Run.skip ?_
        refine Run.seq ?_
        refine Run.block ?_
        refine Run.seq ?_
        refine Run.reg ?_
        refine X.index_s elt25 (by rfl) (by rfl) (idxL_spec hx48).1 (idxL_map int hx48) (by rfl) (by rfl) (by rfl) ?_
        refine X.load_c shp3 (by rfl) (by rfl) (by rfl) (by rfl) ?_
        refine X.assign (by rfl) (by rfl) ?_
        refine X.nil ?_
        refine Run.seq ?_
        refine Run.reg ?_
        refine X.move (by rfl) (by rfl) ?_
        obtain ⟨v53, hv53, h⟩ := bindE h
        refine X.callP (s_l01In_pc _ _ _ _ hv53) (by rfl) (by rfl) (by rfl) (by trivial) (by rfl) (by rfl) (by rfl) (by rfl) ?_
        refine X.un (by rfl) (by rfl) (by rfl) ?_
        refine X.nil ?_
        refine R.cond (by rfl) (fun hc54 => ?_) (fun hc54 => ?_)
        · replace h := condT hc54 h
          refine Run.seq ?_
          refine Run.reg ?_
          refine X.assign (by rfl) (by rfl) ?_
          refine X.nil ?_
          cases h
          have h := hup43
          replace h := elimR h
          cases h
          refine R.fin1 Try.results68 (by rfl) (by rfl) ?_
          rfl
        · replace h := condF hc54 h
          refine Run.skip ?_
          refine Run.blk ?_
          refine Run.reg ?_
          refine X.add (by rfl) (by rfl) (by omega) (by rfl) ?_
          refine X.move (by rfl) (by rfl) ?_
          refine X.nil ?_
          exact hag48 (n48 - 1) (z49 + 1) _ _ (by omega) ⟨by first | omega | (dsimp only; omega), by first | omega | (dsimp only; omega), by first | (rw [hds48]; exact h) | (dsimp only; rw [hds48]; exact h)⟩ (by trivial) (by trivial) (by rfl) (by rfl)
      · rw [drop_endI hza48 hc52] at h
        rw [s_ProjectOk_L3] at h
        refine Run.exit (by rfl) ?_
        exact hmeet44 () _ _ (Option.some.inj h) (by trivial) (by trivial) (by rfl) (by rfl)
    rintro p55 rfl
    replace h := elimL h
    refine Run.seq ?_
    refine Run.seq ?_
    refine Run.reg ?_
    refine X.fieldAddr_l fld34_2 (by rfl) (by rfl) ?_
    refine X.load_l shp31 (by rfl) (by rfl) (by rfl) (by rfl) (by rfl) (by rfl) ?_
    refine X.len_s elt31 (by rfl) (by exact List.length_map ..) (by rfl) ?_
    refine X.move (by rfl) (by rfl) ?_
    refine X.nil ?_
    obtain ⟨o57, ho57, h⟩ := bindE h
    refine R.join2 (β := Unit) [] [] (fun p76 S => S) (fun p76 M => M) (fun p76 => (Sum.inl p76) = o57) ?_ ?_
    · intro JJ60 hmeet59
      have hup58 := h; clear h; have h := ho57; clear ho57
      refine Run.block ?_
      refine R.bndS (t := 91) (by rfl) (fun hbd63 => ?_)
      replace hbd63 : b0.Links.length ≤ 9223372036854775807 := by first | (rw [List.length_map] at hbd63; exact hbd63) | simp
      refine R.loop2 (β := Int) [(3, int (b0.Activities.length : Int)), (91, .slice (b0.Links.map eTLink)), (92, int (b0.Links.length : Int))] [] (fun bb S => (93, int bb) :: S) (fun bb M => M) (fun n bb => 0 ≤ bb ∧ bb + n = (b0.Links.length : Int) ∧ s_ProjectOk_L4 b0 (b0.Links.drop bb.toNat) bb = some o57) b0.Links.length (0 : Int) (by repeat (first | trivial | refine ⟨by first | rfl | simp [setL], ?_⟩)) (by repeat (first | trivial | refine ⟨by first | rfl | simp [setL], ?_⟩)) (by rfl) (by rfl) ⟨Int.le_refl _, by simp, h⟩ ?_
      clear h
      rintro JJ63 n63 z64 hag63 ⟨hza63, hzb63, h⟩
      refine Run.seq ?_
      refine Run.reg ?_
      refine X.bin (by rfl) (by rfl) (by rfl) (by rfl) (by intro h; cases h) (by rfl) ?_
      refine X.nil ?_
      refine Run.seq ?_
      refine R.cond (by rfl) (fun hc67 => ?_) (fun hc67 => ?_)
      · obtain ⟨x65, xs66, hd63, hx63, hds63, hlt63⟩ := drop_atI hza63 hc67
        rw [hd63] at h
        rw [s_ProjectOk_L4] at h
        refine Run.skip ?_
        refine Run.seq ?_
        refine Run.block ?_
        refine Run.seq ?_
        refine Run.reg ?_
        refine X.index_s elt31 (by rfl) (by rfl) (idxL_spec hx63).1 (idxL_map eTLink hx63) (by rfl) (by rfl) (by rfl) ?_
        refine X.load_c shp174 (by rfl) (by rfl) (by rfl) (by rfl) ?_
        refine X.alloc zer174 (by rfl) (by rfl) (by rfl) ?_
        refine X.store_l shp174 (by rfl) (by rfl) (by rfl) (by rfl) (by repeat (first | trivial | refine ⟨by first | rfl | simp [setL], ?_⟩)) (by rfl) (by rfl) (by rfl) ?_
        refine X.nil ?_
        refine Run.seq ?_
        obtain ⟨v68, hv68, h⟩ := bindE h
        obtain ⟨e69, he69, h2⟩ := bindE h
        refine R.regG [(3, int (b0.Activities.length : Int)), (91, .slice (b0.Links.map eTLink)), (92, int (b0.Links.length : Int)), (93, int z64), (123, bool e69)] [] ?_ ?_
        · clear h; have h := he69; clear he69 h2
          refine X.fieldAddr_l fld174_0 (by rfl) (by rfl) ?_
          refine X.load_l shp3 (by rfl) (by rfl) (by rfl) (by rfl) (by rfl) (by rfl) ?_
          refine X.move (by rfl) (by rfl) ?_
          refine X.subW (by rfl) (by rfl) (by rfl) ?_
          refine X.callP (s_l01In_pc _ _ _ _ hv68) (by rfl) (by rfl) (by rfl) (by trivial) (by rfl) (by rfl) (by rfl) (by rfl) ?_
          refine X.un (by rfl) (by rfl) (by rfl) ?_
          refine X.move (by rfl) (by rfl) ?_
          refine X.ifG (by rfl) (by rfl) (by rfl) (fun hb70 => ?_) (fun hb70 => ?_)
          · replace h := condF hb70 h
            refine X.fieldAddr_l fld174_1 (by rfl) (by rfl) ?_
            refine X.gyes (by rfl) (by rfl) (by first | rfl | assumption) ?_
            refine X.load_l shp3 (by rfl) (by rfl) (by rfl) (by rfl) (by rfl) (by rfl) ?_
            refine X.gyes (by rfl) (by rfl) (by first | rfl | assumption) ?_
            refine X.move (by rfl) (by rfl) ?_
            refine X.gyes (by rfl) (by rfl) (by first | rfl | assumption) ?_
            refine X.subW (by rfl) (by rfl) (by rfl) ?_
            refine X.gyes (by rfl) (by rfl) (by first | rfl | assumption) ?_
            obtain ⟨v71, hv71, h⟩ := bindE h
            refine X.callP (s_l01In_pc _ _ _ _ hv71) (by rfl) (by rfl) (by rfl) (by trivial) (by rfl) (by rfl) (by rfl) (by rfl) ?_
            refine X.gyes (by rfl) (by rfl) (by first | rfl | assumption) ?_
            refine X.un (by rfl) (by rfl) (by rfl) ?_
            refine X.pickF (by rfl) (by first | rfl | assumption) (by rfl) (by rfl) ?_
            refine X.move (by rfl) (by rfl) ?_
            refine X.ifG (by rfl) (by rfl) (by rfl) (fun hb72 => ?_) (fun hb72 => ?_)
            · replace h := condF hb72 h
              refine X.fieldAddr_l fld174_0 (by rfl) (by rfl) ?_
              refine X.gyes (by rfl) (by rfl) (by first | rfl | assumption) ?_
              refine X.load_l shp3 (by rfl) (by rfl) (by rfl) (by rfl) (by rfl) (by rfl) ?_
              refine X.gyes (by rfl) (by rfl) (by first | rfl | assumption) ?_
              refine X.fieldAddr_l fld174_1 (by rfl) (by rfl) ?_
              refine X.gyes (by rfl) (by rfl) (by first | rfl | assumption) ?_
              refine X.load_l shp3 (by rfl) (by rfl) (by rfl) (by rfl) (by rfl) (by rfl) ?_
              refine X.gyes (by rfl) (by rfl) (by first | rfl | assumption) ?_
              refine X.bin (by rfl) (by rfl) (by rfl) (by rfl) (by intro h; cases h) (by rfl) ?_
              refine X.pickF (by rfl) (by first | rfl | assumption) (by rfl) (by rfl) ?_
              refine X.move (by rfl) (by rfl) ?_
              refine X.ifG (by rfl) (by rfl) (by rfl) (fun hb73 => ?_) (fun hb73 => ?_)
              · replace h := condF hb73 h
                refine X.fieldAddr_l fld174_3 (by rfl) (by rfl) ?_
                refine X.gyes (by rfl) (by rfl) (by first | rfl | assumption) ?_
                refine X.load_l shp3 (by rfl) (by rfl) (by rfl) (by rfl) (by rfl) (by rfl) ?_
                refine X.gyes (by rfl) (by rfl) (by first | rfl | assumption) ?_
                obtain ⟨v74, hv74, h⟩ := bindE h
                refine X.callP (s_l01In_pc _ _ _ _ hv74) (by rfl) (by rfl) (by rfl) (by trivial) (by rfl) (by rfl) (by rfl) (by rfl) ?_
                refine X.gyes (by rfl) (by rfl) (by first | rfl | assumption) ?_
                refine X.un (by rfl) (by rfl) (by rfl) ?_
                refine X.pickF (by rfl) (by first | rfl | assumption) (by rfl) (by rfl) ?_
                cases h
                exact X.endG (by trivial) (by trivial) (by rfl) (by rfl)
              · replace h := condT hb73 h
                refine X.gno (by rfl) (by rfl) (by first | rfl | assumption) (by rfl) ?_
                refine X.gno (by rfl) (by rfl) (by first | rfl | assumption) (by rfl) ?_
                refine X.gno (by rfl) (by rfl) (by first | rfl | assumption) (by rfl) ?_
                refine X.pickT (by rfl) (by first | rfl | assumption) (by rfl) (by rfl) ?_
                cases h
                exact X.endG (by trivial) (by trivial) (by rfl) (by rfl)
            · replace h := condT hb72 h
              refine X.gno (by rfl) (by rfl) (by first | rfl | assumption) (by rfl) ?_
              refine X.gno (by rfl) (by rfl) (by first | rfl | assumption) (by rfl) ?_
              refine X.gno (by rfl) (by rfl) (by first | rfl | assumption) (by rfl) ?_
              refine X.gno (by rfl) (by rfl) (by first | rfl | assumption) (by rfl) ?_
              refine X.pickT (by rfl) (by first | rfl | assumption) (by rfl) (by rfl) ?_
              refine X.move (by rfl) (by rfl) ?_
              refine X.gno (by rfl) (by rfl) (by first | rfl | assumption) (by rfl) ?_
              refine X.gno (by rfl) (by rfl) (by first | rfl | assumption) (by rfl) ?_
              refine X.gno (by rfl) (by rfl) (by first | rfl | assumption) (by rfl) ?_
              refine X.gno (by rfl) (by rfl) (by first | rfl | assumption) (by rfl) ?_
              refine X.pickT (by rfl) (by first | rfl | assumption) (by rfl) (by rfl) ?_
              cases h
              exact X.endG (by trivial) (by trivial) (by rfl) (by rfl)
          · replace h := condT hb70 h
            refine X.gno (by rfl) (by rfl) (by first | rfl | assumption) (by rfl) ?_
            refine X.gno (by rfl) (by rfl) (by first | rfl | assumption) (by rfl) ?_
            refine X.gno (by rfl) (by rfl) (by first | rfl | assumption) (by rfl) ?_
            refine X.gno (by rfl) (by rfl) (by first | rfl | assumption) (by rfl) ?_
            refine X.gno (by rfl) (by rfl) (by first | rfl | assumption) (by rfl) ?_
            refine X.pickT (by rfl) (by first | rfl | assumption) (by rfl) (by rfl) ?_
            refine X.move (by rfl) (by rfl) ?_
            refine X.gno (by rfl) (by rfl) (by first | rfl | assumption) (by rfl) ?_
            refine X.gno (by rfl) (by rfl) (by first | rfl | assumption) (by rfl) ?_
            refine X.gno (by rfl) (by rfl) (by first | rfl | assumption) (by rfl) ?_
            refine X.gno (by rfl) (by rfl) (by first | rfl | assumption) (by rfl) ?_
            refine X.gno (by rfl) (by rfl) (by first | rfl | assumption) (by rfl) ?_
            refine X.pickT (by rfl) (by first | rfl | assumption) (by rfl) (by rfl) ?_
            refine X.move (by rfl) (by rfl) ?_
            refine X.gno (by rfl) (by rfl) (by first | rfl | assumption) (by rfl) ?_
            refine X.gno (by rfl) (by rfl) (by first | rfl | assumption) (by rfl) ?_
            refine X.gno (by rfl) (by rfl) (by first | rfl | assumption) (by rfl) ?_
            refine X.gno (by rfl) (by rfl) (by first | rfl | assumption) (by rfl) ?_
            refine X.pickT (by rfl) (by first | rfl | assumption) (by rfl) (by rfl) ?_
            cases h
            exact X.endG (by trivial) (by trivial) (by rfl) (by rfl)
        replace h := h2; clear h2
        refine R.cond (by rfl) (fun hc75 => ?_) (fun hc75 => ?_)
        · replace h := condT hc75 h
          refine Run.seq ?_
          refine Run.reg ?_
          refine X.assign (by rfl) (by rfl) ?_
          refine X.nil ?_
          cases h
          have h := hup58
          replace h := elimR h
          cases h
          refine R.fin1 Try.results68 (by rfl) (by rfl) ?_
          rfl
        · replace h := condF hc75 h
          refine Run.skip ?_
          refine Run.blk ?_
          refine Run.reg ?_
          refine X.add (by rfl) (by rfl) (by omega) (by rfl) ?_
          refine X.move (by rfl) (by rfl) ?_
          refine X.nil ?_
          exact hag63 (n63 - 1) (z64 + 1) _ _ (by omega) ⟨by first | omega | (dsimp only; omega), by first | omega | (dsimp only; omega), by first | (rw [hds63]; exact h) | (dsimp only; rw [hds63]; exact h)⟩ (by trivial) (by trivial) (by rfl) (by rfl)
      · rw [drop_endI hza63 hc67] at h
        rw [s_ProjectOk_L4] at h
        refine Run.exit (by rfl) ?_
        exact hmeet59 () _ _ (Option.some.inj h) (by trivial) (by trivial) (by rfl) (by rfl)
    rintro p76 rfl
    replace h := elimL h
    refine Run.seq ?_
    refine Run.reg ?_
    refine X.assign (by rfl) (by rfl) ?_
    refine X.nil ?_
    cases h
    refine R.fin1 Try.results68 (by rfl) (by rfl) ?_
    rfl
theorem i_within_pc (b0 : Int) (b1 : Int) (b2 : Int) (r : Bool) (h : i_within b0 b1 b2 = some r) : PC Try.prog 147 [int b0, int b1, int b2] (bool r) := by
  unfold i_within at h
  refine PC.start Try.func147 Try.ntmps147 rfl ok147 rfl ?_
  refine Run.seq ?_
  refine Run.reg ?_
  refine X.assign (by rfl) (by rfl) ?_
  refine X.nil ?_
  refine Run.seq ?_
  obtain ⟨e1, he1, h2⟩ := bindE h
  refine R.regG [(6, bool e1)] [] ?_ ?_
  · clear h; have h := he1; clear he1 h2
    refine X.move (by rfl) (by rfl) ?_
    refine X.move (by rfl) (by rfl) ?_
    refine X.bin (by rfl) (by rfl) (by rfl) (by rfl) (by intro h; cases h) (by rfl) ?_
    refine X.move (by rfl) (by rfl) ?_
    refine X.ifG (by rfl) (by rfl) (by rfl) (fun hb2 => ?_) (fun hb2 => ?_)
    · replace h := condT hb2 h
      refine X.move (by rfl) (by rfl) ?_
      refine X.gyes (by rfl) (by rfl) (by first | rfl | assumption) ?_
      refine X.move (by rfl) (by rfl) ?_
      refine X.gyes (by rfl) (by rfl) (by first | rfl | assumption) ?_
      refine X.bin (by rfl) (by rfl) (by rfl) (by rfl) (by intro h; cases h) (by rfl) ?_
      refine X.pickT (by rfl) (by first | rfl | assumption) (by rfl) (by rfl) ?_
      refine X.assign (by rfl) (by rfl) ?_
      cases h
      exact X.endG (by trivial) (by trivial) (by rfl) (by rfl)
    · replace h := condF hb2 h
      refine X.gno (by rfl) (by rfl) (by first | rfl | assumption) (by rfl) ?_
      refine X.gno (by rfl) (by rfl) (by first | rfl | assumption) (by rfl) ?_
      refine X.pickF (by rfl) (by first | rfl | assumption) (by rfl) (by rfl) ?_
      refine X.assign (by rfl) (by rfl) ?_
      cases h
      exact X.endG (by trivial) (by trivial) (by rfl) (by rfl)
  replace h := h2; clear h2
  cases h
  refine R.fin1 Try.results147 (by rfl) (by rfl) ?_
  rfl
theorem i_isAmount_pc (b0 : Int) (r : Bool) (h : i_isAmount b0 = some r) : PC Try.prog 208 [int b0] (bool r) := by
  unfold i_isAmount at h
  refine PC.start Try.func208 Try.ntmps208 rfl ok208 rfl ?_
  refine Run.seq ?_
  refine Run.reg ?_
  refine X.assign (by rfl) (by rfl) ?_
  refine X.nil ?_
  refine Run.seq ?_
  refine Run.reg ?_
  refine X.move (by rfl) (by rfl) ?_
  obtain ⟨v1, hv1, h⟩ := bindE h
  refine X.callP (i_within_pc _ _ _ _ hv1) (by rfl) (by rfl) (by rfl) (by trivial) (by rfl) (by rfl) (by rfl) (by rfl) ?_
  refine X.assign (by rfl) (by rfl) ?_
  refine X.nil ?_
  cases h
  refine R.fin1 Try.results208 (by rfl) (by rfl) ?_
  rfl
theorem i_areAmounts_pc (b0 : List Int) (b1 : Int) (r : Bool) (h : i_areAmounts b0 b1 = some r) : PC Try.prog 231 [.slice (b0.map int), int b1] (bool r) := by
  unfold i_areAmounts at h
  refine PC.start Try.func231 Try.ntmps231 rfl ok231 rfl ?_
  refine Run.seq ?_
  refine Run.reg ?_
  refine X.assign (by rfl) (by rfl) ?_
  refine X.nil ?_
  refine Run.seq ?_
  refine Run.seq ?_
  refine Run.reg ?_
  refine X.move (by rfl) (by rfl) ?_
  refine X.len_s elt25 (by rfl) (by exact List.length_map ..) (by rfl) ?_
  refine X.move (by rfl) (by rfl) ?_
  refine X.nil ?_
  obtain ⟨o1, ho1, h⟩ := bindE h
  refine R.join2 (β := Unit) [(0, .slice (b0.map int)), (1, int b1)] [] (fun p14 S => S) (fun p14 M => M) (fun p14 => (Sum.inl p14) = o1) ?_ ?_
  · intro JJ4 hmeet3
    have hup2 := h; clear h; have h := ho1; clear ho1
    refine Run.block ?_
    refine R.bndS (t := 0) (by rfl) (fun hbd7 => ?_)
    replace hbd7 : b0.length ≤ 9223372036854775807 := by first | (rw [List.length_map] at hbd7; exact hbd7) | simp
    refine R.loop2 (β := Int) [(0, .slice (b0.map int)), (1, int b1), (7, .slice (b0.map int)), (8, int (b0.length : Int))] [] (fun bb S => (9, int bb) :: S) (fun bb M => M) (fun n bb => 0 ≤ bb ∧ bb + n = (b0.length : Int) ∧ i_areAmounts_L1 (b0.drop bb.toNat) bb = some o1) b0.length (0 : Int) (by repeat (first | trivial | refine ⟨by first | rfl | simp [setL], ?_⟩)) (by repeat (first | trivial | refine ⟨by first | rfl | simp [setL], ?_⟩)) (by rfl) (by rfl) ⟨Int.le_refl _, by simp, h⟩ ?_
    clear h
    rintro JJ7 n7 z8 hag7 ⟨hza7, hzb7, h⟩
    refine Run.seq ?_
    refine Run.reg ?_
    refine X.bin (by rfl) (by rfl) (by rfl) (by rfl) (by intro h; cases h) (by rfl) ?_
    refine X.nil ?_
    refine Run.seq ?_
    refine R.cond (by rfl) (fun hc11 => ?_) (fun hc11 => ?_)
    · obtain ⟨x9, xs10, hd7, hx7, hds7, hlt7⟩ := drop_atI hza7 hc11
      rw [hd7] at h
      rw [i_areAmounts_L1] at h
      refine Run.skip ?_
      refine Run.seq ?_
      refine Run.block ?_
      refine Run.seq ?_
      refine Run.reg ?_
      refine X.index_s elt25 (by rfl) (by rfl) (idxL_spec hx7).1 (idxL_map int hx7) (by rfl) (by rfl) (by rfl) ?_
      refine X.load_c shp3 (by rfl) (by rfl) (by rfl) (by rfl) ?_
      refine X.assign (by rfl) (by rfl) ?_
      refine X.nil ?_
      refine Run.seq ?_
      refine Run.reg ?_
      refine X.move (by rfl) (by rfl) ?_
      obtain ⟨v12, hv12, h⟩ := bindE h
      refine X.callP (i_isAmount_pc _ _ hv12) (by rfl) (by rfl) (by rfl) (by trivial) (by rfl) (by rfl) (by rfl) (by rfl) ?_
      refine X.un (by rfl) (by rfl) (by rfl) ?_
      refine X.nil ?_
      refine R.cond (by rfl) (fun hc13 => ?_) (fun hc13 => ?_)
      · replace h := condT hc13 h
        refine Run.seq ?_
        refine Run.reg ?_
        refine X.assign (by rfl) (by rfl) ?_
        refine X.nil ?_
        cases h
        have h := hup2
        replace h := elimR h
        cases h
        refine R.fin1 Try.results231 (by rfl) (by rfl) ?_
        rfl
      · replace h := condF hc13 h
        refine Run.skip ?_
        refine Run.blk ?_
        refine Run.reg ?_
        refine X.add (by rfl) (by rfl) (by omega) (by rfl) ?_
        refine X.move (by rfl) (by rfl) ?_
        refine X.nil ?_
        exact hag7 (n7 - 1) (z8 + 1) _ _ (by omega) ⟨by first | omega | (dsimp only; omega), by first | omega | (dsimp only; omega), by first | (rw [hds7]; exact h) | (dsimp only; rw [hds7]; exact h)⟩ (by trivial) (by trivial) (by rfl) (by rfl)
    · rw [drop_endI hza7 hc11] at h
      rw [i_areAmounts_L1] at h
      refine Run.exit (by rfl) ?_
      exact hmeet3 () _ _ (Option.some.inj h) (by trivial) (by trivial) (by rfl) (by rfl)
  rintro p14 rfl
  replace h := elimL h
  refine Run.seq ?_
  refine Run.reg ?_
  refine X.move (by rfl) (by rfl) ?_
  refine X.len_s elt25 (by rfl) (by exact List.length_map ..) (by rfl) ?_
  refine X.move (by rfl) (by rfl) ?_
  refine X.bin (by rfl) (by rfl) (by rfl) (by rfl) (by intro h; cases h) (by rfl) ?_
  refine X.assign (by rfl) (by rfl) ?_
  refine X.nil ?_
  cases h
  refine R.fin1 Try.results231 (by rfl) (by rfl) ?_
  rfl
theorem i_ModeOk_pc (b0 : TMode) (b1 : Int) (b2 : Int) (r : Bool) (h : i_ModeOk b0 b1 b2 = some r) : PC Try.prog 203 [eTMode b0, int b1, int b2] (bool r) := by
  unfold i_ModeOk at h
  refine PC.start Try.func203 Try.ntmps203 rfl ok203 rfl ?_
  refine Run.seq ?_
  refine Run.reg ?_
  refine X.box (by rfl) (by rfl) (by repeat (first | trivial | refine ⟨by first | rfl | simp [setL], ?_⟩)) (by rfl) (by rfl) (by rfl) (by rfl) ?_
  refine X.assign (by rfl) (by rfl) ?_
  refine X.nil ?_
  refine Run.seq ?_
  obtain ⟨v1, hv1, h⟩ := bindE h
  obtain ⟨e2, he2, h2⟩ := bindE h
  refine R.regG [(6, bool e2)] [] ?_ ?_
  · clear h; have h := he2; clear he2 h2
    refine X.fieldAddr_l fld129_0 (by rfl) (by rfl) ?_
    refine X.load_l shp3 (by rfl) (by rfl) (by rfl) (by rfl) (by rfl) (by rfl) ?_
    refine X.callP (i_within_pc _ _ _ _ hv1) (by rfl) (by rfl) (by rfl) (by trivial) (by rfl) (by rfl) (by rfl) (by rfl) ?_
    refine X.move (by rfl) (by rfl) ?_
    refine X.ifG (by rfl) (by rfl) (by rfl) (fun hb3 => ?_) (fun hb3 => ?_)
    · replace h := condT hb3 h
      refine X.fieldAddr_l fld129_1 (by rfl) (by rfl) ?_
      refine X.gyes (by rfl) (by rfl) (by first | rfl | assumption) ?_
      refine X.load_l shp25 (by rfl) (by rfl) (by rfl) (by rfl) (by rfl) (by rfl) ?_
      refine X.gyes (by rfl) (by rfl) (by first | rfl | assumption) ?_
      refine X.move (by rfl) (by rfl) ?_
      refine X.gyes (by rfl) (by rfl) (by first | rfl | assumption) ?_
      obtain ⟨v4, hv4, h⟩ := bindE h
      refine X.callP (i_areAmounts_pc _ _ _ hv4) (by rfl) (by rfl) (by rfl) (by trivial) (by rfl) (by rfl) (by rfl) (by rfl) ?_
      refine X.pickT (by rfl) (by first | rfl | assumption) (by rfl) (by rfl) ?_
      refine X.move (by rfl) (by rfl) ?_
      refine X.ifG (by rfl) (by rfl) (by rfl) (fun hb5 => ?_) (fun hb5 => ?_)
      · replace h := condT hb5 h
        refine X.fieldAddr_l fld129_2 (by rfl) (by rfl) ?_
        refine X.gyes (by rfl) (by rfl) (by first | rfl | assumption) ?_
        refine X.load_l shp25 (by rfl) (by rfl) (by rfl) (by rfl) (by rfl) (by rfl) ?_
        refine X.gyes (by rfl) (by rfl) (by first | rfl | assumption) ?_
        refine X.move (by rfl) (by rfl) ?_
        refine X.gyes (by rfl) (by rfl) (by first | rfl | assumption) ?_
        obtain ⟨v6, hv6, h⟩ := bindE h
        refine X.callP (i_areAmounts_pc _ _ _ hv6) (by rfl) (by rfl) (by rfl) (by trivial) (by rfl) (by rfl) (by rfl) (by rfl) ?_
        refine X.pickT (by rfl) (by first | rfl | assumption) (by rfl) (by rfl) ?_
        refine X.assign (by rfl) (by rfl) ?_
        cases h
        exact X.endG (by trivial) (by trivial) (by rfl) (by rfl)
      · replace h := condF hb5 h
        refine X.gno (by rfl) (by rfl) (by first | rfl | assumption) (by rfl) ?_
        refine X.gno (by rfl) (by rfl) (by first | rfl | assumption) (by rfl) ?_
        refine X.gno (by rfl) (by rfl) (by first | rfl | assumption) (by rfl) ?_
        refine X.pickF (by rfl) (by first | rfl | assumption) (by rfl) (by rfl) ?_
        refine X.assign (by rfl) (by rfl) ?_
        cases h
        exact X.endG (by trivial) (by trivial) (by rfl) (by rfl)
    · replace h := condF hb3 h
      refine X.gno (by rfl) (by rfl) (by first | rfl | assumption) (by rfl) ?_
      refine X.gno (by rfl) (by rfl) (by first | rfl | assumption) (by rfl) ?_
      refine X.gno (by rfl) (by rfl) (by first | rfl | assumption) (by rfl) ?_
      refine X.pickF (by rfl) (by first | rfl | assumption) (by rfl) (by rfl) ?_
      refine X.move (by rfl) (by rfl) ?_
      refine X.gno (by rfl) (by rfl) (by first | rfl | assumption) (by rfl) ?_
      refine X.gno (by rfl) (by rfl) (by first | rfl | assumption) (by rfl) ?_
      refine X.gno (by rfl) (by rfl) (by first | rfl | assumption) (by rfl) ?_
      refine X.gno (by rfl) (by rfl) (by first | rfl | assumption) (by rfl) ?_
      refine X.pickF (by rfl) (by first | rfl | assumption) (by rfl) (by rfl) ?_
      refine X.assign (by rfl) (by rfl) ?_
      cases h
      exact X.endG (by trivial) (by trivial) (by rfl) (by rfl)
  replace h := h2; clear h2
  cases h
  refine R.fin1 Try.results203 (by rfl) (by rfl) ?_
  rfl
theorem i_IsName_pc (b0 : ByteArray) (r : Bool) (h : i_IsName b0 = some r) : PC Try.prog 204 [str b0] (bool r) := by
  unfold i_IsName at h
  refine PC.start Try.func204 Try.ntmps204 rfl ok204 rfl ?_
  refine Run.seq ?_
  refine Run.reg ?_
  refine X.assign (by rfl) (by rfl) ?_
  refine X.nil ?_
  refine Run.seq ?_
  refine Run.seq ?_
  refine Run.reg ?_
  refine X.move (by rfl) (by rfl) ?_
  refine X.lenStr Try.underlying9 (by rfl) (by rfl) ?_
  refine X.move (by rfl) (by rfl) ?_
  refine X.nil ?_
  obtain ⟨o1, ho1, h⟩ := bindE h
  refine R.join2 (β := Unit) [(0, str b0)] [] (fun p19 S => S) (fun p19 M => M) (fun p19 => (Sum.inl p19) = o1) ?_ ?_
  · intro JJ4 hmeet3
    have hup2 := h; clear h; have h := ho1; clear ho1
    refine Run.block ?_
    refine R.loop2 (β := Int) [(0, str b0), (6, int (b0.size : Int))] [] (fun bb S => (7, int bb) :: S) (fun bb M => M) (fun n bb => i_IsName_L1 b0 n bb = some o1) F0 0 (by repeat (first | trivial | refine ⟨by first | rfl | simp [setL], ?_⟩)) (by repeat (first | trivial | refine ⟨by first | rfl | simp [setL], ?_⟩)) (by rfl) (by rfl) h ?_
    clear h
    rintro JJ5 n5 a7 hag5 h
    obtain _ | n5 := n5
    · exact absurd h (by simp [i_IsName_L1])
    rw [i_IsName_L1] at h
    refine Run.seq ?_
    refine Run.reg ?_
    refine X.bin (by rfl) (by rfl) (by rfl) (by rfl) (by intro h; cases h) (by rfl) ?_
    refine X.nil ?_
    refine Run.seq ?_
    refine R.cond (by rfl) (fun hc10 => ?_) (fun hc10 => ?_)
    · replace h := condT hc10 h
      refine Run.skip ?_
      refine Run.seq ?_
      refine Run.block ?_
      refine Run.seq ?_
      refine Run.reg ?_
      refine X.move (by rfl) (by rfl) ?_
      refine X.assign (by rfl) (by rfl) ?_
      refine X.nil ?_
      refine Run.seq ?_
      obtain ⟨v11, hv11, h⟩ := bindE h
      obtain ⟨e12, he12, h2⟩ := bindE h
      refine R.regG [(0, str b0), (3, int a7), (4, bool e12), (6, int (b0.size : Int)), (7, int a7)] [] ?_ ?_
      · clear h; have h := he12; clear he12 h2
        refine X.move (by rfl) (by rfl) ?_
        refine X.move (by rfl) (by rfl) ?_
        refine X.indexStr2 hv11 Try.underlying9 (by rfl) (by rfl) (by rfl) ?_
        refine X.bin (by rfl) (by rfl) (by rfl) (by rfl) (by intro h; cases h) (by rfl) ?_
        refine X.move (by rfl) (by rfl) ?_
        refine X.ifG (by rfl) (by rfl) (by rfl) (fun hb13 => ?_) (fun hb13 => ?_)
        · replace h := condT hb13 h
          refine X.move (by rfl) (by rfl) ?_
          refine X.gyes (by rfl) (by rfl) (by first | rfl | assumption) ?_
          refine X.move (by rfl) (by rfl) ?_
          refine X.gyes (by rfl) (by rfl) (by first | rfl | assumption) ?_
          refine X.indexStr2 hv11 Try.underlying9 (by rfl) (by rfl) (by rfl) ?_
          refine X.gyes (by rfl) (by rfl) (by first | rfl | assumption) ?_
          refine X.bin (by rfl) (by rfl) (by rfl) (by rfl) (by intro h; cases h) (by rfl) ?_
          refine X.pickT (by rfl) (by first | rfl | assumption) (by rfl) (by rfl) ?_
          refine X.assign (by rfl) (by rfl) ?_
          cases h
          exact X.endG (by trivial) (by trivial) (by rfl) (by rfl)
        · replace h := condF hb13 h
          refine X.gno (by rfl) (by rfl) (by first | rfl | assumption) (by rfl) ?_
          refine X.gno (by rfl) (by rfl) (by first | rfl | assumption) (by rfl) ?_
          refine X.gno (by rfl) (by rfl) (by first | rfl | assumption) (by rfl) ?_
          refine X.pickF (by rfl) (by first | rfl | assumption) (by rfl) (by rfl) ?_
          refine X.assign (by rfl) (by rfl) ?_
          cases h
          exact X.endG (by trivial) (by trivial) (by rfl) (by rfl)
      replace h := h2; clear h2
      refine Run.seq ?_
      obtain ⟨e14, he14, h2⟩ := bindE h
      refine R.regG [(0, str b0), (6, int (b0.size : Int)), (7, int a7), (37, bool e14)] [] ?_ ?_
      · clear h; have h := he14; clear he14 h2
        refine X.move (by rfl) (by rfl) ?_
        refine X.un (by rfl) (by rfl) (by rfl) ?_
        refine X.move (by rfl) (by rfl) ?_
        refine X.ifG (by rfl) (by rfl) (by rfl) (fun hb15 => ?_) (fun hb15 => ?_)
        · replace h := condT hb15 h
          refine X.move (by rfl) (by rfl) ?_
          refine X.gyes (by rfl) (by rfl) (by first | rfl | assumption) ?_
          refine X.bin (by rfl) (by rfl) (by rfl) (by rfl) (by intro h; cases h) (by rfl) ?_
          refine X.gyes (by rfl) (by rfl) (by first | rfl | assumption) ?_
          refine X.move (by rfl) (by rfl) ?_
          refine X.ifG (by rfl) (by rfl) (by rfl) (fun hb16 => ?_) (fun hb16 => ?_)
          · replace h := condF hb16 h
            refine X.move (by rfl) (by rfl) ?_
            refine X.gyes (by rfl) (by rfl) (by first | rfl | assumption) ?_
            refine X.move (by rfl) (by rfl) ?_
            refine X.gyes (by rfl) (by rfl) (by first | rfl | assumption) ?_
            refine X.indexStr2 hv11 Try.underlying9 (by rfl) (by rfl) (by rfl) ?_
            refine X.gyes (by rfl) (by rfl) (by first | rfl | assumption) ?_
            refine X.bin (by rfl) (by rfl) (by rfl) (by rfl) (by intro h; cases h) (by rfl) ?_
            refine X.gyes (by rfl) (by rfl) (by first | rfl | assumption) ?_
            refine X.pickF (by rfl) (by first | rfl | assumption) (by rfl) (by rfl) ?_
            refine X.gyes (by rfl) (by rfl) (by first | rfl | assumption) ?_
            refine X.move (by rfl) (by rfl) ?_
            refine X.ifG (by rfl) (by rfl) (by rfl) (fun hb17 => ?_) (fun hb17 => ?_)
            · replace h := condF hb17 h
              refine X.move (by rfl) (by rfl) ?_
              refine X.gyes (by rfl) (by rfl) (by first | rfl | assumption) ?_
              refine X.move (by rfl) (by rfl) ?_
              refine X.gyes (by rfl) (by rfl) (by first | rfl | assumption) ?_
              refine X.indexStr2 hv11 Try.underlying9 (by rfl) (by rfl) (by rfl) ?_
              refine X.gyes (by rfl) (by rfl) (by first | rfl | assumption) ?_
              refine X.bin (by rfl) (by rfl) (by rfl) (by rfl) (by intro h; cases h) (by rfl) ?_
              refine X.gyes (by rfl) (by rfl) (by first | rfl | assumption) ?_
              refine X.pickF (by rfl) (by first | rfl | assumption) (by rfl) (by rfl) ?_
              refine X.pickT (by rfl) (by first | rfl | assumption) (by rfl) (by rfl) ?_
              cases h
              exact X.endG (by trivial) (by trivial) (by rfl) (by rfl)
            · replace h := condT hb17 h
              refine X.gno (by rfl) (by rfl) (by first | rfl | assumption) (by rfl) ?_
              refine X.gno (by rfl) (by rfl) (by first | rfl | assumption) (by rfl) ?_
              refine X.gno (by rfl) (by rfl) (by first | rfl | assumption) (by rfl) ?_
              refine X.gyes (by rfl) (by rfl) (by first | rfl | assumption) ?_
              refine X.pickT (by rfl) (by first | rfl | assumption) (by rfl) (by rfl) ?_
              refine X.pickT (by rfl) (by first | rfl | assumption) (by rfl) (by rfl) ?_
              cases h
              exact X.endG (by trivial) (by trivial) (by rfl) (by rfl)
          · replace h := condT hb16 h
            refine X.gno (by rfl) (by rfl) (by first | rfl | assumption) (by rfl) ?_
            refine X.gno (by rfl) (by rfl) (by first | rfl | assumption) (by rfl) ?_
            refine X.gno (by rfl) (by rfl) (by first | rfl | assumption) (by rfl) ?_
            refine X.gyes (by rfl) (by rfl) (by first | rfl | assumption) ?_
            refine X.pickT (by rfl) (by first | rfl | assumption) (by rfl) (by rfl) ?_
            refine X.gyes (by rfl) (by rfl) (by first | rfl | assumption) ?_
            refine X.move (by rfl) (by rfl) ?_
            refine X.gno (by rfl) (by rfl) (by first | rfl | assumption) (by rfl) ?_
            refine X.gno (by rfl) (by rfl) (by first | rfl | assumption) (by rfl) ?_
            refine X.gno (by rfl) (by rfl) (by first | rfl | assumption) (by rfl) ?_
            refine X.gno (by rfl) (by rfl) (by first | rfl | assumption) (by rfl) ?_
            refine X.gyes (by rfl) (by rfl) (by first | rfl | assumption) ?_
            refine X.pickT (by rfl) (by first | rfl | assumption) (by rfl) (by rfl) ?_
            refine X.pickT (by rfl) (by first | rfl | assumption) (by rfl) (by rfl) ?_
            cases h
            exact X.endG (by trivial) (by trivial) (by rfl) (by rfl)
        · replace h := condF hb15 h
          refine X.gno (by rfl) (by rfl) (by first | rfl | assumption) (by rfl) ?_
          refine X.gno (by rfl) (by rfl) (by first | rfl | assumption) (by rfl) ?_
          refine X.gU (by rfl) (by rfl) (by rfl) ?_
          refine X.gU (by rfl) (by rfl) (by rfl) ?_
          refine X.gU (by rfl) (by rfl) (by rfl) ?_
          refine X.gU (by rfl) (by rfl) (by rfl) ?_
          refine X.gno (by rfl) (by rfl) (by first | rfl | assumption) (by rfl) ?_
          refine X.gno (by rfl) (by rfl) (by first | rfl | assumption) (by rfl) ?_
          refine X.gU (by rfl) (by rfl) (by rfl) ?_
          refine X.gU (by rfl) (by rfl) (by rfl) ?_
          refine X.gU (by rfl) (by rfl) (by rfl) ?_
          refine X.gU (by rfl) (by rfl) (by rfl) ?_
          refine X.gno (by rfl) (by rfl) (by first | rfl | assumption) (by rfl) ?_
          refine X.pickF (by rfl) (by first | rfl | assumption) (by rfl) (by rfl) ?_
          cases h
          exact X.endG (by trivial) (by trivial) (by rfl) (by rfl)
      replace h := h2; clear h2
      refine R.cond (by rfl) (fun hc18 => ?_) (fun hc18 => ?_)
      · replace h := condT hc18 h
        refine Run.seq ?_
        refine Run.reg ?_
        refine X.assign (by rfl) (by rfl) ?_
        refine X.nil ?_
        cases h
        have h := hup2
        replace h := elimR h
        cases h
        refine R.fin1 Try.results204 (by rfl) (by rfl) ?_
        rfl
      · replace h := condF hc18 h
        refine Run.skip ?_
        refine Run.blk ?_
        refine Run.reg ?_
        refine X.addW (by rfl) (by rfl) (by rfl) ?_
        refine X.move (by rfl) (by rfl) ?_
        refine X.nil ?_
        exact hag5 n5 (W (a7 + 1)) _ _ (by omega) h (by trivial) (by trivial) (by rfl) (by rfl)
    · replace h := condF hc10 h
      refine Run.exit (by rfl) ?_
      exact hmeet3 () _ _ (Option.some.inj h) (by trivial) (by trivial) (by rfl) (by rfl)
  rintro p19 rfl
  replace h := elimL h
  refine Run.seq ?_
  refine Run.reg ?_
  refine X.move (by rfl) (by rfl) ?_
  refine X.lenStr Try.underlying9 (by rfl) (by rfl) ?_
  obtain ⟨v21, hv21, h⟩ := bindE h
  refine X.callP (i_within_pc _ _ _ _ hv21) (by rfl) (by rfl) (by rfl) (by trivial) (by rfl) (by rfl) (by rfl) (by rfl) ?_
  refine X.assign (by rfl) (by rfl) ?_
  refine X.nil ?_
  cases h
  refine R.fin1 Try.results204 (by rfl) (by rfl) ?_
  rfl
theorem i_ActivityOk_pc (b0 : TActivity) (b1 : Int) (b2 : Int) (r : Bool) (h : i_ActivityOk b0 b1 b2 = some r) : PC Try.prog 148 [eTActivity b0, int b1, int b2] (bool r) := by
  unfold i_ActivityOk at h
  refine PC.start Try.func148 Try.ntmps148 rfl ok148 rfl ?_
  refine Run.seq ?_
  refine Run.reg ?_
  refine X.box (by rfl) (by rfl) (by repeat (first | trivial | refine ⟨by first | rfl | simp [setL], ?_⟩)) (by rfl) (by rfl) (by rfl) (by rfl) ?_
  refine X.assign (by rfl) (by rfl) ?_
  refine X.nil ?_
  refine Run.seq ?_
  refine Run.seq ?_
  refine Run.reg ?_
  refine X.fieldAddr_l fld127_2 (by rfl) (by rfl) ?_
  refine X.load_l shp125 (by rfl) (by rfl) (by rfl) (by rfl) (by rfl) (by rfl) ?_
  refine X.len_s elt125 (by rfl) (by exact List.length_map ..) (by rfl) ?_
  refine X.move (by rfl) (by rfl) ?_
  refine X.nil ?_
  obtain ⟨o1, ho1, h⟩ := bindE h
  refine R.join2 (β := Unit) [(3, .lptr 192 0)] [(192, .blk true [str b0.Name, int b0.Family, .slice (b0.Modes.map eTMode)])] (fun p14 S => S) (fun p14 M => M) (fun p14 => (Sum.inl p14) = o1) ?_ ?_
  · intro JJ4 hmeet3
    have hup2 := h; clear h; have h := ho1; clear ho1
    refine Run.block ?_
    refine R.bndS (t := 10) (by rfl) (fun hbd7 => ?_)
    replace hbd7 : b0.Modes.length ≤ 9223372036854775807 := by first | (rw [List.length_map] at hbd7; exact hbd7) | simp
    refine R.loop2 (β := Int) [(1, int b1), (2, int b2), (3, .lptr 192 0), (10, .slice (b0.Modes.map eTMode)), (11, int (b0.Modes.length : Int))] [(192, .blk true [str b0.Name, int b0.Family, .slice (b0.Modes.map eTMode)])] (fun bb S => (12, int bb) :: S) (fun bb M => M) (fun n bb => 0 ≤ bb ∧ bb + n = (b0.Modes.length : Int) ∧ i_ActivityOk_L1 b1 b2 (b0.Modes.drop bb.toNat) bb = some o1) b0.Modes.length (0 : Int) (by repeat (first | trivial | refine ⟨by first | rfl | simp [setL], ?_⟩)) (by repeat (first | trivial | refine ⟨by first | rfl | simp [setL], ?_⟩)) (by rfl) (by rfl) ⟨Int.le_refl _, by simp, h⟩ ?_
    clear h
    rintro JJ7 n7 z8 hag7 ⟨hza7, hzb7, h⟩
    refine Run.seq ?_
    refine Run.reg ?_
    refine X.bin (by rfl) (by rfl) (by rfl) (by rfl) (by intro h; cases h) (by rfl) ?_
    refine X.nil ?_
    refine Run.seq ?_
    refine R.cond (by rfl) (fun hc11 => ?_) (fun hc11 => ?_)
    · obtain ⟨x9, xs10, hd7, hx7, hds7, hlt7⟩ := drop_atI hza7 hc11
      rw [hd7] at h
      rw [i_ActivityOk_L1] at h
      refine Run.skip ?_
      refine Run.seq ?_
      refine Run.block ?_
      refine Run.seq ?_
      refine Run.reg ?_
      refine X.index_s elt125 (by rfl) (by rfl) (idxL_spec hx7).1 (idxL_map eTMode hx7) (by rfl) (by rfl) (by rfl) ?_
      refine X.load_c shp129 (by rfl) (by rfl) (by rfl) (by rfl) ?_
      refine X.alloc zer129 (by rfl) (by rfl) (by rfl) ?_
      refine X.store_l shp129 (by rfl) (by rfl) (by rfl) (by rfl) (by repeat (first | trivial | refine ⟨by first | rfl | simp [setL], ?_⟩)) (by rfl) (by rfl) (by rfl) ?_
      refine X.nil ?_
      refine Run.seq ?_
      refine Run.reg ?_
      refine X.load_l shp129 (by rfl) (by rfl) (by rfl) (by rfl) (by rfl) (by rfl) ?_
      refine X.move (by rfl) (by rfl) ?_
      refine X.move (by rfl) (by rfl) ?_
      obtain ⟨v12, hv12, h⟩ := bindE h
      refine X.callP (i_ModeOk_pc _ _ _ _ hv12) (by rfl) (by rfl) (by rfl) (by trivial) (by rfl) (by rfl) (by rfl) (by rfl) ?_
      refine X.un (by rfl) (by rfl) (by rfl) ?_
      refine X.nil ?_
      refine R.cond (by rfl) (fun hc13 => ?_) (fun hc13 => ?_)
      · replace h := condT hc13 h
        refine Run.seq ?_
        refine Run.reg ?_
        refine X.assign (by rfl) (by rfl) ?_
        refine X.nil ?_
        cases h
        have h := hup2
        replace h := elimR h
        cases h
        refine R.fin1 Try.results148 (by rfl) (by rfl) ?_
        rfl
      · replace h := condF hc13 h
        refine Run.skip ?_
        refine Run.blk ?_
        refine Run.reg ?_
        refine X.add (by rfl) (by rfl) (by omega) (by rfl) ?_
        refine X.move (by rfl) (by rfl) ?_
        refine X.nil ?_
        exact hag7 (n7 - 1) (z8 + 1) _ _ (by omega) ⟨by first | omega | (dsimp only; omega), by first | omega | (dsimp only; omega), by first | (rw [hds7]; exact h) | (dsimp only; rw [hds7]; exact h)⟩ (by trivial) (by trivial) (by rfl) (by rfl)
    · rw [drop_endI hza7 hc11] at h
      rw [i_ActivityOk_L1] at h
      refine Run.exit (by rfl) ?_
      exact hmeet3 () _ _ (Option.some.inj h) (by trivial) (by trivial) (by rfl) (by rfl)
  rintro p14 rfl
  replace h := elimL h
  refine Run.seq ?_
  obtain ⟨v16, hv16, h⟩ := bindE h
  obtain ⟨e17, he17, h2⟩ := bindE h
  refine R.regG [(6, bool e17)] [] ?_ ?_
  · clear h; have h := he17; clear he17 h2
    refine X.fieldAddr_l fld127_0 (by rfl) (by rfl) ?_
    refine X.load_l shp9 (by rfl) (by rfl) (by rfl) (by rfl) (by rfl) (by rfl) ?_
    refine X.callP (i_IsName_pc _ _ hv16) (by rfl) (by rfl) (by rfl) (by trivial) (by rfl) (by rfl) (by rfl) (by rfl) ?_
    refine X.move (by rfl) (by rfl) ?_
    refine X.ifG (by rfl) (by rfl) (by rfl) (fun hb18 => ?_) (fun hb18 => ?_)
    · replace h := condT hb18 h
      refine X.fieldAddr_l fld127_1 (by rfl) (by rfl) ?_
      refine X.gyes (by rfl) (by rfl) (by first | rfl | assumption) ?_
      refine X.load_l shp3 (by rfl) (by rfl) (by rfl) (by rfl) (by rfl) (by rfl) ?_
      refine X.gyes (by rfl) (by rfl) (by first | rfl | assumption) ?_
      obtain ⟨v19, hv19, h⟩ := bindE h
      refine X.callP (i_within_pc _ _ _ _ hv19) (by rfl) (by rfl) (by rfl) (by trivial) (by rfl) (by rfl) (by rfl) (by rfl) ?_
      refine X.pickT (by rfl) (by first | rfl | assumption) (by rfl) (by rfl) ?_
      refine X.move (by rfl) (by rfl) ?_
      refine X.ifG (by rfl) (by rfl) (by rfl) (fun hb20 => ?_) (fun hb20 => ?_)
      · replace h := condT hb20 h
        refine X.fieldAddr_l fld127_2 (by rfl) (by rfl) ?_
        refine X.gyes (by rfl) (by rfl) (by first | rfl | assumption) ?_
        refine X.load_l shp125 (by rfl) (by rfl) (by rfl) (by rfl) (by rfl) (by rfl) ?_
        refine X.gyes (by rfl) (by rfl) (by first | rfl | assumption) ?_
        refine X.len_s elt125 (by rfl) (by exact List.length_map ..) (by rfl) ?_
        refine X.gyes (by rfl) (by rfl) (by first | rfl | assumption) ?_
        obtain ⟨v21, hv21, h⟩ := bindE h
        refine X.callP (i_within_pc _ _ _ _ hv21) (by rfl) (by rfl) (by rfl) (by trivial) (by rfl) (by rfl) (by rfl) (by rfl) ?_
        refine X.pickT (by rfl) (by first | rfl | assumption) (by rfl) (by rfl) ?_
        refine X.assign (by rfl) (by rfl) ?_
        cases h
        exact X.endG (by trivial) (by trivial) (by rfl) (by rfl)
      · replace h := condF hb20 h
        refine X.gno (by rfl) (by rfl) (by first | rfl | assumption) (by rfl) ?_
        refine X.gno (by rfl) (by rfl) (by first | rfl | assumption) (by rfl) ?_
        refine X.gno (by rfl) (by rfl) (by first | rfl | assumption) (by rfl) ?_
        refine X.pickF (by rfl) (by first | rfl | assumption) (by rfl) (by rfl) ?_
        refine X.assign (by rfl) (by rfl) ?_
        cases h
        exact X.endG (by trivial) (by trivial) (by rfl) (by rfl)
    · replace h := condF hb18 h
      refine X.gno (by rfl) (by rfl) (by first | rfl | assumption) (by rfl) ?_
      refine X.gno (by rfl) (by rfl) (by first | rfl | assumption) (by rfl) ?_
      refine X.pickF (by rfl) (by first | rfl | assumption) (by rfl) (by rfl) ?_
      refine X.move (by rfl) (by rfl) ?_
      refine X.gno (by rfl) (by rfl) (by first | rfl | assumption) (by rfl) ?_
      refine X.gno (by rfl) (by rfl) (by first | rfl | assumption) (by rfl) ?_
      refine X.gno (by rfl) (by rfl) (by first | rfl | assumption) (by rfl) ?_
      refine X.gno (by rfl) (by rfl) (by first | rfl | assumption) (by rfl) ?_
      refine X.pickF (by rfl) (by first | rfl | assumption) (by rfl) (by rfl) ?_
      refine X.assign (by rfl) (by rfl) ?_
      cases h
      exact X.endG (by trivial) (by trivial) (by rfl) (by rfl)
  replace h := h2; clear h2
  cases h
  refine R.fin1 Try.results148 (by rfl) (by rfl) ?_
  rfl
theorem i_ActivityIndex_c1_pc (b0 : TActivity) (c1 : ByteArray) (r : Bool) (h : i_ActivityIndex_c1 b0 c1 = some r) : PC Try.prog 206 [eTActivity b0, .cptr (str c1).cells 0] (bool r) := by
  unfold i_ActivityIndex_c1 at h
  refine PC.start Try.func206 Try.ntmps206 rfl ok206 rfl ?_
  refine Run.seq ?_
  refine Run.reg ?_
  refine X.box (by rfl) (by rfl) (by repeat (first | trivial | refine ⟨by first | rfl | simp [setL], ?_⟩)) (by rfl) (by rfl) (by rfl) (by rfl) ?_
  refine X.assign (by rfl) (by rfl) ?_
  refine X.nil ?_
  refine Run.seq ?_
  refine Run.reg ?_
  refine X.fieldAddr_l fld127_0 (by rfl) (by rfl) ?_
  refine X.load_l shp9 (by rfl) (by rfl) (by rfl) (by rfl) (by rfl) (by rfl) ?_
  refine X.load_c shp9 (by rfl) (by rfl) (by rfl) (by rfl) ?_
  refine X.bin (by rfl) (by rfl) (by rfl) (by rfl) (by intro h; cases h) (by rfl) ?_
  refine X.assign (by rfl) (by rfl) ?_
  refine X.nil ?_
  cases h
  refine R.fin1 Try.results206 (by rfl) (by rfl) ?_
  rfl
theorem slices_IndexFunc_Activity_pc (b0 : List TActivity) (g1 : TActivity → Option Bool) (g1id : Nat) (g1c : List PV) (hg1 : ∀ (x0 : TActivity) v, g1 x0 = some v → PC Try.prog g1id ([eTActivity x0] ++ g1c) (bool v)) (r : Int) (h : slices_IndexFunc_Activity b0 g1 = some r) : PC Try.prog 205 [.slice (b0.map eTActivity), .fn g1id g1c] (int r) := by
  unfold slices_IndexFunc_Activity at h
  refine PC.start Try.func205 Try.ntmps205 rfl ok205 rfl ?_
  refine Run.seq ?_
  refine Run.reg ?_
  refine X.assign (by rfl) (by rfl) ?_
  refine X.nil ?_
  refine Run.seq ?_
  refine Run.seq ?_
  refine Run.reg ?_
  refine X.move (by rfl) (by rfl) ?_
  refine X.len_s elt30 (by rfl) (by exact List.length_map ..) (by rfl) ?_
  refine X.move (by rfl) (by rfl) ?_
  refine X.nil ?_
  obtain ⟨o1, ho1, h⟩ := bindE h
  refine R.join2 (β := Unit) [] [] (fun p14 S => S) (fun p14 M => M) (fun p14 => (Sum.inl p14) = o1) ?_ ?_
  · intro JJ4 hmeet3
    have hup2 := h; clear h; have h := ho1; clear ho1
    refine Run.block ?_
    refine R.bndS (t := 0) (by rfl) (fun hbd7 => ?_)
    replace hbd7 : b0.length ≤ 9223372036854775807 := by first | (rw [List.length_map] at hbd7; exact hbd7) | simp
    refine R.loop2 (β := Int) [(0, .slice (b0.map eTActivity)), (1, .fn g1id g1c), (7, int (b0.length : Int))] [] (fun bb S => (8, int bb) :: S) (fun bb M => M) (fun n bb => 0 ≤ bb ∧ bb + n = (b0.length : Int) ∧ slices_IndexFunc_Activity_L1 g1 (b0.drop bb.toNat) bb = some o1) b0.length (0 : Int) (by repeat (first | trivial | refine ⟨by first | rfl | simp [setL], ?_⟩)) (by repeat (first | trivial | refine ⟨by first | rfl | simp [setL], ?_⟩)) (by rfl) (by rfl) ⟨Int.le_refl _, by simp, h⟩ ?_
    clear h
    rintro JJ7 n7 z8 hag7 ⟨hza7, hzb7, h⟩
    refine Run.seq ?_
    refine Run.reg ?_
    refine X.bin (by rfl) (by rfl) (by rfl) (by rfl) (by intro h; cases h) (by rfl) ?_
    refine X.nil ?_
    refine Run.seq ?_
    refine R.cond (by rfl) (fun hc11 => ?_) (fun hc11 => ?_)
    · obtain ⟨x9, xs10, hd7, hx7, hds7, hlt7⟩ := drop_atI hza7 hc11
      rw [hd7] at h
      rw [slices_IndexFunc_Activity_L1] at h
      refine Run.skip ?_
      refine Run.seq ?_
      refine Run.block ?_
      refine Run.seq ?_
      refine Run.reg ?_
      refine X.move (by rfl) (by rfl) ?_
      refine X.assign (by rfl) (by rfl) ?_
      refine X.nil ?_
      refine Run.seq ?_
      refine Run.reg ?_
      refine X.move (by rfl) (by rfl) ?_
      refine X.move (by rfl) (by rfl) ?_
      refine X.move (by rfl) (by rfl) ?_
      refine X.index_s elt30 (by rfl) (by rfl) (idxL_spec hx7).1 (idxL_map eTActivity hx7) (by rfl) (by rfl) (by rfl) ?_
      refine X.load_c shp127 (by rfl) (by rfl) (by rfl) (by rfl) ?_
      obtain ⟨v12, hv12, h⟩ := bindE h
      refine X.callP (hg1 _ _ hv12) (by rfl) (by rfl) (by rfl) (by trivial) (by rfl) (by rfl) (by rfl) (by rfl) ?_
      refine X.nil ?_
      refine R.cond (by rfl) (fun hc13 => ?_) (fun hc13 => ?_)
      · replace h := condT hc13 h
        refine Run.seq ?_
        refine Run.reg ?_
        refine X.move (by rfl) (by rfl) ?_
        refine X.assign (by rfl) (by rfl) ?_
        refine X.nil ?_
        cases h
        have h := hup2
        replace h := elimR h
        cases h
        refine R.fin1 Try.results205 (by rfl) (by rfl) ?_
        rfl
      · replace h := condF hc13 h
        refine Run.skip ?_
        refine Run.blk ?_
        refine Run.reg ?_
        refine X.add (by rfl) (by rfl) (by omega) (by rfl) ?_
        refine X.move (by rfl) (by rfl) ?_
        refine X.nil ?_
        exact hag7 (n7 - 1) (z8 + 1) _ _ (by omega) ⟨by first | omega | (dsimp only; omega), by first | omega | (dsimp only; omega), by first | (rw [hds7]; exact h) | (dsimp only; rw [hds7]; exact h)⟩ (by trivial) (by trivial) (by rfl) (by rfl)
    · rw [drop_endI hza7 hc11] at h
      rw [slices_IndexFunc_Activity_L1] at h
      refine Run.exit (by rfl) ?_
      exact hmeet3 () _ _ (Option.some.inj h) (by trivial) (by trivial) (by rfl) (by rfl)
  rintro p14 rfl
  replace h := elimL h
  refine Run.seq ?_
  refine Run.reg ?_
  refine X.assign (by rfl) (by rfl) ?_
  refine X.nil ?_
  cases h
  refine R.fin1 Try.results205 (by rfl) (by rfl) ?_
  rfl
theorem i_ActivityIndex_pc (b0 : TProject) (b1 : ByteArray) (r : Int) (h : i_ActivityIndex b0 b1 = some r) : PC Try.prog 149 [eTProject b0, str b1] (int r) := by
  unfold i_ActivityIndex at h
  refine PC.start Try.func149 Try.ntmps149 rfl ok149 rfl ?_
  refine Run.seq ?_
  refine Run.reg ?_
  refine X.box (by rfl) (by rfl) (by repeat (first | trivial | refine ⟨by first | rfl | simp [setL], ?_⟩)) (by rfl) (by rfl) (by rfl) (by rfl) ?_
  refine X.box (by rfl) (by rfl) (by repeat (first | trivial | refine ⟨by first | rfl | simp [setL], ?_⟩)) (by rfl) (by rfl) (by rfl) (by rfl) ?_
  refine X.assign (by rfl) (by rfl) ?_
  refine X.nil ?_
  refine Run.seq ?_
  refine R.pubBlk (n := 192) (by rfl) (by rfl) (by repeat (first | trivial | refine ⟨by first | rfl | simp [setL], ?_⟩)) ?_
  refine Run.reg ?_
  refine X.fieldAddr_l fld34_1 (by rfl) (by rfl) ?_
  refine X.load_l shp30 (by rfl) (by rfl) (by rfl) (by rfl) (by rfl) (by rfl) ?_
  refine X.makeFunc (by rfl) (by rfl) (by repeat (first | trivial | refine ⟨by first | rfl | simp [setL], ?_⟩)) (by rfl) (by rfl) ?_
  obtain ⟨v1, hv1, h⟩ := bindE h
  refine X.callP (slices_IndexFunc_Activity_pc _ (fun x0 => i_ActivityIndex_c1 x0 b1) _ _ (fun x0 v hv => i_ActivityIndex_c1_pc _ _ _ hv) _ hv1) (by rfl) (by rfl) (by rfl) (by trivial) (by rfl) (by rfl) (by rfl) (by rfl) ?_
  refine X.assign (by rfl) (by rfl) ?_
  refine X.nil ?_
  cases h
  refine R.fin1 Try.results149 (by rfl) (by rfl) ?_
  rfl
theorem i_isTime_pc (b0 : Int) (r : Bool) (h : i_isTime b0 = some r) : PC Try.prog 155 [int b0] (bool r) := by
  unfold i_isTime at h
  refine PC.start Try.func155 Try.ntmps155 rfl ok155 rfl ?_
  refine Run.seq ?_
  refine Run.reg ?_
  refine X.assign (by rfl) (by rfl) ?_
  refine X.nil ?_
  refine Run.seq ?_
  refine Run.reg ?_
  refine X.move (by rfl) (by rfl) ?_
  obtain ⟨v1, hv1, h⟩ := bindE h
  refine X.callP (i_within_pc _ _ _ _ hv1) (by rfl) (by rfl) (by rfl) (by trivial) (by rfl) (by rfl) (by rfl) (by rfl) ?_
  refine X.assign (by rfl) (by rfl) ?_
  refine X.nil ?_
  cases h
  refine R.fin1 Try.results155 (by rfl) (by rfl) ?_
  rfl
theorem i_StepsOk_pc (b0 : List TStep) (r : Bool) (h : i_StepsOk b0 = some r) : PC Try.prog 154 [.slice (b0.map eTStep)] (bool r) := by
  unfold i_StepsOk at h
  refine PC.start Try.func154 Try.ntmps154 rfl ok154 rfl ?_
  refine Run.seq ?_
  refine Run.reg ?_
  refine X.assign (by rfl) (by rfl) ?_
  refine X.nil ?_
  refine Run.seq ?_
  refine Run.seq ?_
  refine Run.reg ?_
  refine X.move (by rfl) (by rfl) ?_
  refine X.len_s elt113 (by rfl) (by exact List.length_map ..) (by rfl) ?_
  refine X.move (by rfl) (by rfl) ?_
  refine X.nil ?_
  obtain ⟨o1, ho1, h⟩ := bindE h
  refine R.join2 (β := Unit) [(0, .slice (b0.map eTStep))] [] (fun p24 S => S) (fun p24 M => M) (fun p24 => (Sum.inl p24) = o1) ?_ ?_
  · intro JJ4 hmeet3
    have hup2 := h; clear h; have h := ho1; clear ho1
    refine Run.block ?_
    refine R.bndS (t := 0) (by rfl) (fun hbd7 => ?_)
    replace hbd7 : b0.length ≤ 9223372036854775807 := by first | (rw [List.length_map] at hbd7; exact hbd7) | simp
    refine R.loop2 (β := Int) [(0, .slice (b0.map eTStep)), (5, .slice (b0.map eTStep)), (6, int (b0.length : Int))] [] (fun bb S => (7, int bb) :: S) (fun bb M => M) (fun n bb => 0 ≤ bb ∧ bb + n = (b0.length : Int) ∧ i_StepsOk_L1 b0 (b0.drop bb.toNat) bb = some o1) b0.length (0 : Int) (by repeat (first | trivial | refine ⟨by first | rfl | simp [setL], ?_⟩)) (by repeat (first | trivial | refine ⟨by first | rfl | simp [setL], ?_⟩)) (by rfl) (by rfl) ⟨Int.le_refl _, by simp, h⟩ ?_
    clear h
    rintro JJ7 n7 z8 hag7 ⟨hza7, hzb7, h⟩
    refine Run.seq ?_
    refine Run.reg ?_
    refine X.bin (by rfl) (by rfl) (by rfl) (by rfl) (by intro h; cases h) (by rfl) ?_
    refine X.nil ?_
    refine Run.seq ?_
    refine R.cond (by rfl) (fun hc11 => ?_) (fun hc11 => ?_)
    · obtain ⟨x9, xs10, hd7, hx7, hds7, hlt7⟩ := drop_atI hza7 hc11
      rw [hd7] at h
      rw [i_StepsOk_L1] at h
      refine Run.skip ?_
      refine Run.seq ?_
      refine Run.block ?_
      refine Run.seq ?_
      refine Run.reg ?_
      refine X.move (by rfl) (by rfl) ?_
      refine X.index_s elt113 (by rfl) (by rfl) (idxL_spec hx7).1 (idxL_map eTStep hx7) (by rfl) (by rfl) (by rfl) ?_
      refine X.load_c shp208 (by rfl) (by rfl) (by rfl) (by rfl) ?_
      refine X.alloc zer208 (by rfl) (by rfl) (by rfl) ?_
      refine X.assign (by rfl) (by rfl) ?_
      refine X.store_l shp208 (by rfl) (by rfl) (by rfl) (by rfl) (by repeat (first | trivial | refine ⟨by first | rfl | simp [setL], ?_⟩)) (by rfl) (by rfl) (by rfl) ?_
      refine X.nil ?_
      refine Run.seq ?_
      obtain ⟨v12, hv12, h⟩ := bindE h
      obtain ⟨e13, he13, h2⟩ := bindE h
      refine R.drawG [(0, .slice (b0.map eTStep)), (5, .slice (b0.map eTStep)), (6, int (b0.length : Int)), (7, int z8), (45, bool e13)] [] (footOf [(1, ([256], [], [], [])), (6, ([256], [], [], [])), (15, ([256], [], [], [])), (24, ([256], [], [], []))]) mixed (by kernel_rfl) (by kernel_rfl) ?_ ?_
      · clear h; have h := he13; clear he13 h2
        refine X.fieldAddr_l fld208_0 (by rfl) (by rfl) ?_
        refine X.load_l shp3 (by rfl) (by rfl) (by rfl) (by rfl) (by rfl) (by rfl) ?_
        refine X.callP (i_isTime_pc _ _ hv12) (by rfl) (by rfl) (by rfl) (by trivial) (by rfl) (by rfl) (by rfl) (by rfl) ?_
        refine X.un (by rfl) (by rfl) (by rfl) ?_
        refine X.move (by rfl) (by rfl) ?_
        refine X.ifG (by rfl) (by rfl) (by rfl) (fun hb14 => ?_) (fun hb14 => ?_)
        · replace h := condF hb14 h
          refine X.fieldAddr_l fld208_1 (by rfl) (by rfl) ?_
          refine X.gyes (by rfl) (by rfl) (by first | rfl | assumption) ?_
          refine X.load_l shp3 (by rfl) (by rfl) (by rfl) (by rfl) (by rfl) (by rfl) ?_
          refine X.gyes (by rfl) (by rfl) (by first | rfl | assumption) ?_
          obtain ⟨v15, hv15, h⟩ := bindE h
          refine X.callP (i_isAmount_pc _ _ hv15) (by rfl) (by rfl) (by rfl) (by trivial) (by rfl) (by rfl) (by rfl) (by rfl) ?_
          refine X.gyes (by rfl) (by rfl) (by first | rfl | assumption) ?_
          refine X.un (by rfl) (by rfl) (by rfl) ?_
          refine X.pickF (by rfl) (by first | rfl | assumption) (by rfl) (by rfl) ?_
          refine X.move (by rfl) (by rfl) ?_
          refine X.ifG (by rfl) (by rfl) (by rfl) (fun hb16 => ?_) (fun hb16 => ?_)
          · replace h := condF hb16 h
            refine X.move (by rfl) (by rfl) ?_
            refine X.gyes (by rfl) (by rfl) (by first | rfl | assumption) ?_
            refine X.bin (by rfl) (by rfl) (by rfl) (by rfl) (by intro h; cases h) (by rfl) ?_
            refine X.gyes (by rfl) (by rfl) (by first | rfl | assumption) ?_
            refine X.move (by rfl) (by rfl) ?_
            refine X.ifG (by rfl) (by rfl) (by rfl) (fun hb17 => ?_) (fun hb17 => ?_)
            · replace h := condT hb17 h
              refine X.fieldAddr_l fld208_0 (by rfl) (by rfl) ?_
              refine X.gyes (by rfl) (by rfl) (by first | rfl | assumption) ?_
              refine X.load_l shp3 (by rfl) (by rfl) (by rfl) (by rfl) (by rfl) (by rfl) ?_
              refine X.gyes (by rfl) (by rfl) (by first | rfl | assumption) ?_
              refine X.bin (by rfl) (by rfl) (by rfl) (by rfl) (by intro h; cases h) (by rfl) ?_
              refine X.gyes (by rfl) (by rfl) (by first | rfl | assumption) ?_
              refine X.pickT (by rfl) (by first | rfl | assumption) (by rfl) (by rfl) ?_
              refine X.pickF (by rfl) (by first | rfl | assumption) (by rfl) (by rfl) ?_
              refine X.move (by rfl) (by rfl) ?_
              refine X.ifG (by rfl) (by rfl) (by rfl) (fun hb18 => ?_) (fun hb18 => ?_)
              · replace h := condF hb18 h
                refine X.move (by rfl) (by rfl) ?_
                refine X.gyes (by rfl) (by rfl) (by first | rfl | assumption) ?_
                refine X.bin (by rfl) (by rfl) (by rfl) (by rfl) (by intro h; cases h) (by rfl) ?_
                refine X.gyes (by rfl) (by rfl) (by first | rfl | assumption) ?_
                refine X.move (by rfl) (by rfl) ?_
                refine X.ifG (by rfl) (by rfl) (by rfl) (fun hb19 => ?_) (fun hb19 => ?_)
                · replace h := condT hb19 h
                  refine X.fieldAddr_l fld208_0 (by rfl) (by rfl) ?_
                  refine X.gyes (by rfl) (by rfl) (by first | rfl | assumption) ?_
                  refine X.load_l shp3 (by rfl) (by rfl) (by rfl) (by rfl) (by rfl) (by rfl) ?_
                  refine X.gyes (by rfl) (by rfl) (by first | rfl | assumption) ?_
                  refine X.move (by rfl) (by rfl) ?_
                  refine X.gyes (by rfl) (by rfl) (by first | rfl | assumption) ?_
                  refine X.move (by rfl) (by rfl) ?_
                  refine X.gyes (by rfl) (by rfl) (by first | rfl | assumption) ?_
                  refine X.sub (by rfl) (by rfl) (by omega) (by rfl) ?_
                  refine X.gyes (by rfl) (by rfl) (by first | rfl | assumption) ?_
                  obtain ⟨v20, hv20, h⟩ := bindE h
                  refine X.index_s elt113 (by rfl) (by rfl) (idxL_spec hv20).1 (idxL_map eTStep hv20) (by rfl) (by rfl) (by rfl) ?_
                  refine X.gyes (by rfl) (by rfl) (by first | rfl | assumption) ?_
                  refine X.fieldAddr_c fld208_0 (by rfl) (by rfl) ?_
                  refine X.gyes (by rfl) (by rfl) (by first | rfl | assumption) ?_
                  refine X.load_c shp3 (by rfl) (by rfl) (by rfl) (by rfl) ?_
                  refine X.gyes (by rfl) (by rfl) (by first | rfl | assumption) ?_
                  refine X.bin (by rfl) (by rfl) (by rfl) (by rfl) (by intro h; cases h) (by rfl) ?_
                  refine X.gyes (by rfl) (by rfl) (by first | rfl | assumption) ?_
                  refine X.pickT (by rfl) (by first | rfl | assumption) (by rfl) (by rfl) ?_
                  refine X.pickF (by rfl) (by first | rfl | assumption) (by rfl) (by rfl) ?_
                  cases h
                  exact X.endG (by trivial) (by trivial) (by rfl) (by rfl)
                · replace h := condF hb19 h
                  refine X.gno (by rfl) (by rfl) (by first | rfl | assumption) (by rfl) ?_
                  refine X.gno (by rfl) (by rfl) (by first | rfl | assumption) (by rfl) ?_
                  refine X.gno (by rfl) (by rfl) (by first | rfl | assumption) (by rfl) ?_
                  refine X.gno (by rfl) (by rfl) (by first | rfl | assumption) (by rfl) ?_
                  refine X.gno (by rfl) (by rfl) (by first | rfl | assumption) (by rfl) ?_
                  refine X.gno (by rfl) (by rfl) (by first | rfl | assumption) (by rfl) ?_
                  refine X.gno (by rfl) (by rfl) (by first | rfl | assumption) (by rfl) ?_
                  refine X.gno (by rfl) (by rfl) (by first | rfl | assumption) (by rfl) ?_
                  refine X.gyes (by rfl) (by rfl) (by first | rfl | assumption) ?_
                  refine X.pickF (by rfl) (by first | rfl | assumption) (by rfl) (by rfl) ?_
                  refine X.pickF (by rfl) (by first | rfl | assumption) (by rfl) (by rfl) ?_
                  cases h
                  exact X.endG (by trivial) (by trivial) (by rfl) (by rfl)
              · replace h := condT hb18 h
                refine X.gno (by rfl) (by rfl) (by first | rfl | assumption) (by rfl) ?_
                refine X.gno (by rfl) (by rfl) (by first | rfl | assumption) (by rfl) ?_
                refine X.gU (by rfl) (by rfl) (by rfl) ?_
                refine X.gU (by rfl) (by rfl) (by rfl) ?_
                refine X.gU (by rfl) (by rfl) (by rfl) ?_
                refine X.gU (by rfl) (by rfl) (by rfl) ?_
                refine X.gU (by rfl) (by rfl) (by rfl) ?_
                refine X.gU (by rfl) (by rfl) (by rfl) ?_
                refine X.gU (by rfl) (by rfl) (by rfl) ?_
                refine X.gU (by rfl) (by rfl) (by rfl) ?_
                refine X.gU (by rfl) (by rfl) (by rfl) ?_
                refine X.gno (by rfl) (by rfl) (by first | rfl | assumption) (by rfl) ?_
                refine X.pickT (by rfl) (by first | rfl | assumption) (by rfl) (by rfl) ?_
                cases h
                exact X.endG (by trivial) (by trivial) (by rfl) (by rfl)
            · replace h := condF hb17 h
              refine X.gno (by rfl) (by rfl) (by first | rfl | assumption) (by rfl) ?_
              refine X.gno (by rfl) (by rfl) (by first | rfl | assumption) (by rfl) ?_
              refine X.gyes (by rfl) (by rfl) (by first | rfl | assumption) ?_
              refine X.pickF (by rfl) (by first | rfl | assumption) (by rfl) (by rfl) ?_
              refine X.pickF (by rfl) (by first | rfl | assumption) (by rfl) (by rfl) ?_
              refine X.move (by rfl) (by rfl) ?_
              refine X.gyes (by rfl) (by rfl) (by first | rfl | assumption) ?_
              refine X.move (by rfl) (by rfl) ?_
              refine X.gyes (by rfl) (by rfl) (by first | rfl | assumption) ?_
              refine X.bin (by rfl) (by rfl) (by rfl) (by rfl) (by intro h; cases h) (by rfl) ?_
              refine X.gyes (by rfl) (by rfl) (by first | rfl | assumption) ?_
              refine X.move (by rfl) (by rfl) ?_
              refine X.ifG (by rfl) (by rfl) (by rfl) (fun hb21 => ?_) (fun hb21 => ?_)
              · replace h := condT hb21 h
                refine X.fieldAddr_l fld208_0 (by rfl) (by rfl) ?_
                refine X.gyes (by rfl) (by rfl) (by first | rfl | assumption) ?_
                refine X.load_l shp3 (by rfl) (by rfl) (by rfl) (by rfl) (by rfl) (by rfl) ?_
                refine X.gyes (by rfl) (by rfl) (by first | rfl | assumption) ?_
                refine X.move (by rfl) (by rfl) ?_
                refine X.gyes (by rfl) (by rfl) (by first | rfl | assumption) ?_
                refine X.move (by rfl) (by rfl) ?_
                refine X.gyes (by rfl) (by rfl) (by first | rfl | assumption) ?_
                refine X.sub (by rfl) (by rfl) (by omega) (by rfl) ?_
                refine X.gyes (by rfl) (by rfl) (by first | rfl | assumption) ?_
                obtain ⟨v22, hv22, h⟩ := bindE h
                refine X.index_s elt113 (by rfl) (by rfl) (idxL_spec hv22).1 (idxL_map eTStep hv22) (by rfl) (by rfl) (by rfl) ?_
                refine X.gyes (by rfl) (by rfl) (by first | rfl | assumption) ?_
                refine X.fieldAddr_c fld208_0 (by rfl) (by rfl) ?_
                refine X.gyes (by rfl) (by rfl) (by first | rfl | assumption) ?_
                refine X.load_c shp3 (by rfl) (by rfl) (by rfl) (by rfl) ?_
                refine X.gyes (by rfl) (by rfl) (by first | rfl | assumption) ?_
                refine X.bin (by rfl) (by rfl) (by rfl) (by rfl) (by intro h; cases h) (by rfl) ?_
                refine X.gyes (by rfl) (by rfl) (by first | rfl | assumption) ?_
                refine X.pickT (by rfl) (by first | rfl | assumption) (by rfl) (by rfl) ?_
                refine X.pickF (by rfl) (by first | rfl | assumption) (by rfl) (by rfl) ?_
                cases h
                exact X.endG (by trivial) (by trivial) (by rfl) (by rfl)
              · replace h := condF hb21 h
                refine X.gno (by rfl) (by rfl) (by first | rfl | assumption) (by rfl) ?_
                refine X.gno (by rfl) (by rfl) (by first | rfl | assumption) (by rfl) ?_
                refine X.gno (by rfl) (by rfl) (by first | rfl | assumption) (by rfl) ?_
                refine X.gno (by rfl) (by rfl) (by first | rfl | assumption) (by rfl) ?_
                refine X.gno (by rfl) (by rfl) (by first | rfl | assumption) (by rfl) ?_
                refine X.gno (by rfl) (by rfl) (by first | rfl | assumption) (by rfl) ?_
                refine X.gno (by rfl) (by rfl) (by first | rfl | assumption) (by rfl) ?_
                refine X.gno (by rfl) (by rfl) (by first | rfl | assumption) (by rfl) ?_
                refine X.gyes (by rfl) (by rfl) (by first | rfl | assumption) ?_
                refine X.pickF (by rfl) (by first | rfl | assumption) (by rfl) (by rfl) ?_
                refine X.pickF (by rfl) (by first | rfl | assumption) (by rfl) (by rfl) ?_
                cases h
                exact X.endG (by trivial) (by trivial) (by rfl) (by rfl)
          · replace h := condT hb16 h
            refine X.gno (by rfl) (by rfl) (by first | rfl | assumption) (by rfl) ?_
            refine X.gno (by rfl) (by rfl) (by first | rfl | assumption) (by rfl) ?_
            refine X.gU (by rfl) (by rfl) (by rfl) ?_
            refine X.gU (by rfl) (by rfl) (by rfl) ?_
            refine X.gU (by rfl) (by rfl) (by rfl) ?_
            refine X.gno (by rfl) (by rfl) (by first | rfl | assumption) (by rfl) ?_
            refine X.pickT (by rfl) (by first | rfl | assumption) (by rfl) (by rfl) ?_
            refine X.move (by rfl) (by rfl) ?_
            refine X.gno (by rfl) (by rfl) (by first | rfl | assumption) (by rfl) ?_
            refine X.gno (by rfl) (by rfl) (by first | rfl | assumption) (by rfl) ?_
            refine X.gno (by rfl) (by rfl) (by first | rfl | assumption) (by rfl) ?_
            refine X.gU (by rfl) (by rfl) (by rfl) ?_
            refine X.gU (by rfl) (by rfl) (by rfl) ?_
            refine X.gU (by rfl) (by rfl) (by rfl) ?_
            refine X.gU (by rfl) (by rfl) (by rfl) ?_
            refine X.gU (by rfl) (by rfl) (by rfl) ?_
            refine X.gU (by rfl) (by rfl) (by rfl) ?_
            refine X.gU (by rfl) (by rfl) (by rfl) ?_
            refine X.gU (by rfl) (by rfl) (by rfl) ?_
            refine X.gU (by rfl) (by rfl) (by rfl) ?_
            refine X.gno (by rfl) (by rfl) (by first | rfl | assumption) (by rfl) ?_
            refine X.pickT (by rfl) (by first | rfl | assumption) (by rfl) (by rfl) ?_
            cases h
            exact X.endG (by trivial) (by trivial) (by rfl) (by rfl)
        · replace h := condT hb14 h
          refine X.gno (by rfl) (by rfl) (by first | rfl | assumption) (by rfl) ?_
          refine X.gno (by rfl) (by rfl) (by first | rfl | assumption) (by rfl) ?_
          refine X.gno (by rfl) (by rfl) (by first | rfl | assumption) (by rfl) ?_
          refine X.pickT (by rfl) (by first | rfl | assumption) (by rfl) (by rfl) ?_
          refine X.move (by rfl) (by rfl) ?_
          refine X.gno (by rfl) (by rfl) (by first | rfl | assumption) (by rfl) ?_
          refine X.gno (by rfl) (by rfl) (by first | rfl | assumption) (by rfl) ?_
          refine X.gno (by rfl) (by rfl) (by first | rfl | assumption) (by rfl) ?_
          refine X.gU (by rfl) (by rfl) (by rfl) ?_
          refine X.gU (by rfl) (by rfl) (by rfl) ?_
          refine X.gU (by rfl) (by rfl) (by rfl) ?_
          refine X.gno (by rfl) (by rfl) (by first | rfl | assumption) (by rfl) ?_
          refine X.pickT (by rfl) (by first | rfl | assumption) (by rfl) (by rfl) ?_
          refine X.move (by rfl) (by rfl) ?_
          refine X.gno (by rfl) (by rfl) (by first | rfl | assumption) (by rfl) ?_
          refine X.gno (by rfl) (by rfl) (by first | rfl | assumption) (by rfl) ?_
          refine X.gno (by rfl) (by rfl) (by first | rfl | assumption) (by rfl) ?_
          refine X.gU (by rfl) (by rfl) (by rfl) ?_
          refine X.gU (by rfl) (by rfl) (by rfl) ?_
          refine X.gU (by rfl) (by rfl) (by rfl) ?_
          refine X.gU (by rfl) (by rfl) (by rfl) ?_
          refine X.gU (by rfl) (by rfl) (by rfl) ?_
          refine X.gU (by rfl) (by rfl) (by rfl) ?_
          refine X.gU (by rfl) (by rfl) (by rfl) ?_
          refine X.gU (by rfl) (by rfl) (by rfl) ?_
          refine X.gU (by rfl) (by rfl) (by rfl) ?_
          refine X.gno (by rfl) (by rfl) (by first | rfl | assumption) (by rfl) ?_
          refine X.pickT (by rfl) (by first | rfl | assumption) (by rfl) (by rfl) ?_
          cases h
          exact X.endG (by trivial) (by trivial) (by rfl) (by rfl)
      replace h := h2; clear h2
      refine R.cond (by rfl) (fun hc23 => ?_) (fun hc23 => ?_)
      · replace h := condT hc23 h
        refine Run.seq ?_
        refine Run.reg ?_
        refine X.assign (by rfl) (by rfl) ?_
        refine X.nil ?_
        cases h
        have h := hup2
        replace h := elimR h
        cases h
        refine R.fin1 Try.results154 (by rfl) (by rfl) ?_
        rfl
      · replace h := condF hc23 h
        refine Run.skip ?_
        refine Run.blk ?_
        refine Run.reg ?_
        refine X.add (by rfl) (by rfl) (by omega) (by rfl) ?_
        refine X.move (by rfl) (by rfl) ?_
        refine X.nil ?_
        exact hag7 (n7 - 1) (z8 + 1) _ _ (by omega) ⟨by first | omega | (dsimp only; omega), by first | omega | (dsimp only; omega), by first | (rw [hds7]; exact h) | (dsimp only; rw [hds7]; exact h)⟩ (by trivial) (by trivial) (by rfl) (by rfl)
    · rw [drop_endI hza7 hc11] at h
      rw [i_StepsOk_L1] at h
      refine Run.exit (by rfl) ?_
      exact hmeet3 () _ _ (Option.some.inj h) (by trivial) (by trivial) (by rfl) (by rfl)
  rintro p24 rfl
  replace h := elimL h
  refine Run.seq ?_
  refine Run.reg ?_
  refine X.move (by rfl) (by rfl) ?_
  refine X.len_s elt113 (by rfl) (by exact List.length_map ..) (by rfl) ?_
  obtain ⟨v26, hv26, h⟩ := bindE h
  refine X.callP (i_within_pc _ _ _ _ hv26) (by rfl) (by rfl) (by rfl) (by trivial) (by rfl) (by rfl) (by rfl) (by rfl) ?_
  refine X.assign (by rfl) (by rfl) ?_
  refine X.nil ?_
  cases h
  refine R.fin1 Try.results154 (by rfl) (by rfl) ?_
  rfl
theorem i_ResourceOk_pc (b0 : TResource) (r : Bool) (h : i_ResourceOk b0 = some r) : PC Try.prog 150 [eTResource b0] (bool r) := by
  unfold i_ResourceOk at h
  refine PC.start Try.func150 Try.ntmps150 rfl ok150 rfl ?_
  refine Run.seq ?_
  refine Run.reg ?_
  refine X.box (by rfl) (by rfl) (by repeat (first | trivial | refine ⟨by first | rfl | simp [setL], ?_⟩)) (by rfl) (by rfl) (by rfl) (by rfl) ?_
  refine X.assign (by rfl) (by rfl) ?_
  refine X.nil ?_
  refine Run.seq ?_
  refine Run.seq ?_
  refine Run.reg ?_
  refine X.fieldAddr_l fld115_1 (by rfl) (by rfl) ?_
  refine X.load_l shp63 (by rfl) (by rfl) (by rfl) (by rfl) (by rfl) (by rfl) ?_
  refine X.len_s elt63 (by rfl) (by exact List.length_map ..) (by rfl) ?_
  refine X.move (by rfl) (by rfl) ?_
  refine X.nil ?_
  obtain ⟨o1, ho1, h⟩ := bindE h
  refine R.join2 (β := Unit) [(1, .lptr 64 0)] [(64, .blk true [.slice (b0.Steps.map eTStep), .slice (b0.Setup.map l_int)])] (fun p28 S => S) (fun p28 M => M) (fun p28 => (Sum.inl p28) = o1) ?_ ?_
  · intro JJ4 hmeet3
    have hup2 := h; clear h; have h := ho1; clear ho1
    refine Run.block ?_
    refine R.bndS (t := 8) (by rfl) (fun hbd7 => ?_)
    replace hbd7 : b0.Setup.length ≤ 9223372036854775807 := by first | (rw [List.length_map] at hbd7; exact hbd7) | simp
    refine R.loop2 (β := Int) [(1, .lptr 64 0), (8, .slice (b0.Setup.map l_int)), (9, int (b0.Setup.length : Int))] [(64, .blk true [.slice (b0.Steps.map eTStep), .slice (b0.Setup.map l_int)])] (fun bb S => (10, int bb) :: S) (fun bb M => M) (fun n bb => 0 ≤ bb ∧ bb + n = (b0.Setup.length : Int) ∧ i_ResourceOk_L1 (b0.Setup.drop bb.toNat) bb = some o1) b0.Setup.length (0 : Int) (by repeat (first | trivial | refine ⟨by first | rfl | simp [setL], ?_⟩)) (by repeat (first | trivial | refine ⟨by first | rfl | simp [setL], ?_⟩)) (by rfl) (by rfl) ⟨Int.le_refl _, by simp, h⟩ ?_
    clear h
    rintro JJ7 n7 z8 hag7 ⟨hza7, hzb7, h⟩
    refine Run.seq ?_
    refine Run.reg ?_
    refine X.bin (by rfl) (by rfl) (by rfl) (by rfl) (by intro h; cases h) (by rfl) ?_
    refine X.nil ?_
    refine Run.seq ?_
    refine R.cond (by rfl) (fun hc11 => ?_) (fun hc11 => ?_)
    · obtain ⟨x9, xs10, hd7, hx7, hds7, hlt7⟩ := drop_atI hza7 hc11
      rw [hd7] at h
      rw [i_ResourceOk_L1] at h
      refine Run.skip ?_
      refine Run.seq ?_
      refine Run.block ?_
      refine Run.seq ?_
      refine Run.reg ?_
      refine X.index_s elt63 (by rfl) (by rfl) (idxL_spec hx7).1 (idxL_map l_int hx7) (by rfl) (by rfl) (by rfl) ?_
      refine X.load_c shp25 (by rfl) (by rfl) (by rfl) (by rfl) ?_
      refine X.assign (by rfl) (by rfl) ?_
      refine X.nil ?_
      refine Run.seq ?_
      refine Run.seq ?_
      refine Run.reg ?_
      refine X.move (by rfl) (by rfl) ?_
      refine X.len_s elt25 (by rfl) (by exact List.length_map ..) (by rfl) ?_
      refine X.bin (by rfl) (by rfl) (by rfl) (by rfl) (by intro h; cases h) (by rfl) ?_
      refine X.nil ?_
      refine R.cond (by rfl) (fun hc12 => ?_) (fun hc12 => ?_)
      · replace h := condT hc12 h
        refine Run.seq ?_
        refine Run.reg ?_
        refine X.assign (by rfl) (by rfl) ?_
        refine X.nil ?_
        cases h
        have h := hup2
        replace h := elimR h
        cases h
        refine R.fin1 Try.results150 (by rfl) (by rfl) ?_
        rfl
      · replace h := condF hc12 h
        refine Run.skip ?_
        refine Run.seq ?_
        refine Run.reg ?_
        refine X.move (by rfl) (by rfl) ?_
        refine X.len_s elt25 (by rfl) (by exact List.length_map ..) (by rfl) ?_
        refine X.move (by rfl) (by rfl) ?_
        refine X.nil ?_
        obtain ⟨o13, ho13, h⟩ := bindE h
        refine R.join2 (β := Unit) [(1, .lptr 64 0), (8, .slice (b0.Setup.map l_int)), (9, int (b0.Setup.length : Int)), (10, int z8)] [(64, .blk true [.slice (b0.Steps.map eTStep), .slice (b0.Setup.map l_int)])] (fun p26 S => S) (fun p26 M => M) (fun p26 => (Sum.inl p26) = o13) ?_ ?_
        · intro JJ16 hmeet15
          have hup14 := h; clear h; have h := ho13; clear ho13
          refine Run.block ?_
          refine R.bndS (t := 4) (by rfl) (fun hbd19 => ?_)
          replace hbd19 : x9.length ≤ 9223372036854775807 := by first | (rw [List.length_map] at hbd19; exact hbd19) | simp
          refine R.loop2 (β := Int) [(1, .lptr 64 0), (8, .slice (b0.Setup.map l_int)), (9, int (b0.Setup.length : Int)), (10, int z8), (17, .slice (x9.map int)), (18, int (x9.length : Int))] [(64, .blk true [.slice (b0.Steps.map eTStep), .slice (b0.Setup.map l_int)])] (fun bb S => (19, int bb) :: S) (fun bb M => M) (fun n bb => 0 ≤ bb ∧ bb + n = (x9.length : Int) ∧ i_ResourceOk_L2 (x9.drop bb.toNat) bb = some o13) x9.length (0 : Int) (by repeat (first | trivial | refine ⟨by first | rfl | simp [setL], ?_⟩)) (by repeat (first | trivial | refine ⟨by first | rfl | simp [setL], ?_⟩)) (by rfl) (by rfl) ⟨Int.le_refl _, by simp, h⟩ ?_
          clear h
          rintro JJ19 n19 z20 hag19 ⟨hza19, hzb19, h⟩
          refine Run.seq ?_
          refine Run.reg ?_
          refine X.bin (by rfl) (by rfl) (by rfl) (by rfl) (by intro h; cases h) (by rfl) ?_
          refine X.nil ?_
          refine Run.seq ?_
          refine R.cond (by rfl) (fun hc23 => ?_) (fun hc23 => ?_)
          · obtain ⟨x21, xs22, hd19, hx19, hds19, hlt19⟩ := drop_atI hza19 hc23
            rw [hd19] at h
            rw [i_ResourceOk_L2] at h
            refine Run.skip ?_
            refine Run.seq ?_
            refine Run.block ?_
            refine Run.seq ?_
            refine Run.reg ?_
            refine X.index_s elt25 (by rfl) (by rfl) (idxL_spec hx19).1 (idxL_map int hx19) (by rfl) (by rfl) (by rfl) ?_
            refine X.load_c shp3 (by rfl) (by rfl) (by rfl) (by rfl) ?_
            refine X.assign (by rfl) (by rfl) ?_
            refine X.nil ?_
            refine Run.seq ?_
            refine Run.reg ?_
            refine X.move (by rfl) (by rfl) ?_
            obtain ⟨v24, hv24, h⟩ := bindE h
            refine X.callP (i_within_pc _ _ _ _ hv24) (by rfl) (by rfl) (by rfl) (by trivial) (by rfl) (by rfl) (by rfl) (by rfl) ?_
            refine X.un (by rfl) (by rfl) (by rfl) ?_
            refine X.nil ?_
            refine R.cond (by rfl) (fun hc25 => ?_) (fun hc25 => ?_)
            · replace h := condT hc25 h
              refine Run.seq ?_
              refine Run.reg ?_
              refine X.assign (by rfl) (by rfl) ?_
              refine X.nil ?_
              cases h
              have h := hup14
              replace h := elimR h
              cases h
              have h := hup2
              replace h := elimR h
              cases h
              refine R.fin1 Try.results150 (by rfl) (by rfl) ?_
              rfl
            · replace h := condF hc25 h
              refine Run.skip ?_
              refine Run.blk ?_
              refine Run.reg ?_
              refine X.add (by rfl) (by rfl) (by omega) (by rfl) ?_
              refine X.move (by rfl) (by rfl) ?_
              refine X.nil ?_
              exact hag19 (n19 - 1) (z20 + 1) _ _ (by omega) ⟨by first | omega | (dsimp only; omega), by first | omega | (dsimp only; omega), by first | (rw [hds19]; exact h) | (dsimp only; rw [hds19]; exact h)⟩ (by trivial) (by trivial) (by rfl) (by rfl)
          · rw [drop_endI hza19 hc23] at h
            rw [i_ResourceOk_L2] at h
            refine Run.exit (by rfl) ?_
            exact hmeet15 () _ _ (Option.some.inj h) (by trivial) (by trivial) (by rfl) (by rfl)
        rintro p26 rfl
        replace h := elimL h
        refine Run.blk ?_
        refine Run.reg ?_
        refine X.add (by rfl) (by rfl) (by omega) (by rfl) ?_
        refine X.move (by rfl) (by rfl) ?_
        refine X.nil ?_
        exact hag7 (n7 - 1) (z8 + 1) _ _ (by omega) ⟨by first | omega | (dsimp only; omega), by first | omega | (dsimp only; omega), by first | (rw [hds7]; exact h) | (dsimp only; rw [hds7]; exact h)⟩ (by trivial) (by trivial) (by rfl) (by rfl)
    · rw [drop_endI hza7 hc11] at h
      rw [i_ResourceOk_L1] at h
      refine Run.exit (by rfl) ?_
      exact hmeet3 () _ _ (Option.some.inj h) (by trivial) (by trivial) (by rfl) (by rfl)
  rintro p28 rfl
  replace h := elimL h
  refine Run.seq ?_
  obtain ⟨v30, hv30, h⟩ := bindE h
  obtain ⟨e31, he31, h2⟩ := bindE h
  refine R.regG [(2, bool e31)] [] ?_ ?_
  · clear h; have h := he31; clear he31 h2
    refine X.fieldAddr_l fld115_0 (by rfl) (by rfl) ?_
    refine X.load_l shp113 (by rfl) (by rfl) (by rfl) (by rfl) (by rfl) (by rfl) ?_
    refine X.callP (i_StepsOk_pc _ _ hv30) (by rfl) (by rfl) (by rfl) (by trivial) (by rfl) (by rfl) (by rfl) (by rfl) ?_
    refine X.move (by rfl) (by rfl) ?_
    refine X.ifG (by rfl) (by rfl) (by rfl) (fun hb32 => ?_) (fun hb32 => ?_)
    · replace h := condT hb32 h
      refine X.fieldAddr_l fld115_1 (by rfl) (by rfl) ?_
      refine X.gyes (by rfl) (by rfl) (by first | rfl | assumption) ?_
      refine X.load_l shp63 (by rfl) (by rfl) (by rfl) (by rfl) (by rfl) (by rfl) ?_
      refine X.gyes (by rfl) (by rfl) (by first | rfl | assumption) ?_
      refine X.len_s elt63 (by rfl) (by exact List.length_map ..) (by rfl) ?_
      refine X.gyes (by rfl) (by rfl) (by first | rfl | assumption) ?_
      refine X.bin (by rfl) (by rfl) (by rfl) (by rfl) (by intro h; cases h) (by rfl) ?_
      refine X.gyes (by rfl) (by rfl) (by first | rfl | assumption) ?_
      refine X.move (by rfl) (by rfl) ?_
      refine X.ifG (by rfl) (by rfl) (by rfl) (fun hb33 => ?_) (fun hb33 => ?_)
      · replace h := condF hb33 h
        refine X.fieldAddr_l fld115_1 (by rfl) (by rfl) ?_
        refine X.gyes (by rfl) (by rfl) (by first | rfl | assumption) ?_
        refine X.load_l shp63 (by rfl) (by rfl) (by rfl) (by rfl) (by rfl) (by rfl) ?_
        refine X.gyes (by rfl) (by rfl) (by first | rfl | assumption) ?_
        refine X.len_s elt63 (by rfl) (by exact List.length_map ..) (by rfl) ?_
        refine X.gyes (by rfl) (by rfl) (by first | rfl | assumption) ?_
        refine X.bin (by rfl) (by rfl) (by rfl) (by rfl) (by intro h; cases h) (by rfl) ?_
        refine X.gyes (by rfl) (by rfl) (by first | rfl | assumption) ?_
        refine X.pickF (by rfl) (by first | rfl | assumption) (by rfl) (by rfl) ?_
        refine X.pickT (by rfl) (by first | rfl | assumption) (by rfl) (by rfl) ?_
        refine X.assign (by rfl) (by rfl) ?_
        cases h
        exact X.endG (by trivial) (by trivial) (by rfl) (by rfl)
      · replace h := condT hb33 h
        refine X.gno (by rfl) (by rfl) (by first | rfl | assumption) (by rfl) ?_
        refine X.gno (by rfl) (by rfl) (by first | rfl | assumption) (by rfl) ?_
        refine X.gno (by rfl) (by rfl) (by first | rfl | assumption) (by rfl) ?_
        refine X.gyes (by rfl) (by rfl) (by first | rfl | assumption) ?_
        refine X.pickT (by rfl) (by first | rfl | assumption) (by rfl) (by rfl) ?_
        refine X.pickT (by rfl) (by first | rfl | assumption) (by rfl) (by rfl) ?_
        refine X.assign (by rfl) (by rfl) ?_
        cases h
        exact X.endG (by trivial) (by trivial) (by rfl) (by rfl)
    · replace h := condF hb32 h
      refine X.gno (by rfl) (by rfl) (by first | rfl | assumption) (by rfl) ?_
      refine X.gno (by rfl) (by rfl) (by first | rfl | assumption) (by rfl) ?_
      refine X.gno (by rfl) (by rfl) (by first | rfl | assumption) (by rfl) ?_
      refine X.gno (by rfl) (by rfl) (by first | rfl | assumption) (by rfl) ?_
      refine X.gU (by rfl) (by rfl) (by rfl) ?_
      refine X.gU (by rfl) (by rfl) (by rfl) ?_
      refine X.gU (by rfl) (by rfl) (by rfl) ?_
      refine X.gU (by rfl) (by rfl) (by rfl) ?_
      refine X.gno (by rfl) (by rfl) (by first | rfl | assumption) (by rfl) ?_
      refine X.pickF (by rfl) (by first | rfl | assumption) (by rfl) (by rfl) ?_
      refine X.assign (by rfl) (by rfl) ?_
      cases h
      exact X.endG (by trivial) (by trivial) (by rfl) (by rfl)
  replace h := h2; clear h2
  cases h
  refine R.fin1 Try.results150 (by rfl) (by rfl) ?_
  rfl
theorem i_Project_hasActivity_pc (b0 : TProject) (b1 : Int) (r : Bool) (h : i_Project_hasActivity b0 b1 = some r) : PC Try.prog 83 [eTProject b0, int b1] (bool r) := by
  unfold i_Project_hasActivity at h
  refine PC.start Try.func83 Try.ntmps83 rfl ok83 rfl ?_
  refine Run.seq ?_
  refine Run.reg ?_
  refine X.box (by rfl) (by rfl) (by repeat (first | trivial | refine ⟨by first | rfl | simp [setL], ?_⟩)) (by rfl) (by rfl) (by rfl) (by rfl) ?_
  refine X.assign (by rfl) (by rfl) ?_
  refine X.nil ?_
  refine Run.seq ?_
  refine Run.reg ?_
  refine X.move (by rfl) (by rfl) ?_
  refine X.fieldAddr_l fld34_1 (by rfl) (by rfl) ?_
  refine X.load_l shp30 (by rfl) (by rfl) (by rfl) (by rfl) (by rfl) (by rfl) ?_
  refine X.len_s elt30 (by rfl) (by exact List.length_map ..) (by rfl) ?_
  refine X.subW (by rfl) (by rfl) (by rfl) ?_
  obtain ⟨v1, hv1, h⟩ := bindE h
  refine X.callP (i_within_pc _ _ _ _ hv1) (by rfl) (by rfl) (by rfl) (by trivial) (by rfl) (by rfl) (by rfl) (by rfl) ?_
  refine X.assign (by rfl) (by rfl) ?_
  refine X.nil ?_
  cases h
  refine R.fin1 Try.results83 (by rfl) (by rfl) ?_
  rfl
end Go.Px.Ytjncefleglnnjaa
