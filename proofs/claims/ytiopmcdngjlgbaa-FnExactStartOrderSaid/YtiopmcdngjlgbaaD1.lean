/-
  PROVED: definitions that say what functions of the program compute. No condition.
-/
import Derived.Test.YtiopmcdngjlgbaaQ3
namespace Go.Px.Ytiopmcdngjlgbaa
set_option linter.unusedSimpArgs false
set_option linter.unusedVariables false
open Go.Px
structure TSchedule where
 Starts : List Int
 Modes : List Int
 deriving DecidableEq
structure TboundsError where
 x : Int
 y : Int
 signed : Bool
 code : Int
 deriving DecidableEq
structure TerrorAddressString where
 msg : ByteArray
 addr : Int
 deriving DecidableEq
abbrev eTSchedule (x : TSchedule) : PV := .agg [.slice (x.Starts.map int), .slice (x.Modes.map int)]
abbrev l_int (x : List Int) : PV := .slice (x.map int)
def w_szIntS (b0 : List Int) (b1 : Int) : Option Int :=
 (bif (decide ((W (b1 - (b0.length : Int))) < 0)) then
 some (-1)
 else
 some (W (b1 - (b0.length : Int))))
def w_szSchedule (b0 : TSchedule) (b1 : Int) : Option Int :=
 (w_szIntS b0.Starts b1).bind fun v1 =>
 (bif (decide (v1 < 0)) then
 some (-1)
 else
 (w_szIntS b0.Modes v1).bind fun v3 =>
 (bif (decide (v3 < 0)) then
 some (-1)
 else
 some v3))
def w_toIntS_L1  : List Int → Int → (List Int) → Option (List Int)
 | [], z9, a10 =>
  some a10
 | x11 :: xs12, z9, a10 =>
  (idxL a10 z9).bind fun v14 =>
  w_toIntS_L1 xs12 (z9 + 1) (setL a10 z9 x11)
def w_toIntS (b0 : List Int) : Option (List Int) :=
 (makeL 0 (b0.length : Int)).bind fun v1 =>
 Option.bind
 (w_toIntS_L1 b0 0 v1) fun p15 =>
 some p15
def w_toSchedule (b0 : TSchedule) : Option TSchedule :=
 (w_toIntS b0.Starts).bind fun v1 =>
 (w_toIntS b0.Modes).bind fun v2 =>
 some (TSchedule.mk v1 v2)
def s_StartOrder_L2 (b0 : TSchedule) (a9 : List Int) (x10 : Int) : Nat → Int → Option Int
 | 0, _ => none
 | fuel + 1, a18 =>
  Option.bind
  ((bif (decide (0 < a18)) then
  (idxL a9 (W (a18 - 1))).bind fun v23 =>
  (idxL b0.Starts v23).bind fun v24 =>
  some (decide (x10 < v24))
  else
  some false)) fun e21 =>
  (bif e21 then
  s_StartOrder_L2 b0 a9 x10 fuel (W (a18 - 1))
  else
  some a18)
def s_StartOrder_L1 (b0 : TSchedule) : List Int → Int → (List Int) → Option (List Int)
 | [], z8, a9 =>
  some a9
 | x10 :: xs11, z8, a9 =>
  Option.bind
  (s_StartOrder_L2 b0 a9 x10 F0 (a9.length : Int)) fun p26 =>
  (subL a9 0 p26).bind fun v27 =>
  (appL ([] : List Int) v27).bind fun v28 =>
  (appL v28 ([z8] : List Int)).bind fun v29 =>
  (subL a9 p26 (a9.length : Int)).bind fun v30 =>
  (appL v29 v30).bind fun v31 =>
  s_StartOrder_L1 b0 xs11 (z8 + 1) v31
def s_StartOrder (b0 : TSchedule) : Option (List Int) :=
 Option.bind
 (s_StartOrder_L1 b0 b0.Starts 0 ([] : List Int)) fun p32 =>
 some p32
def cmp_isNaN_int (b0 : Int) : Option Bool :=
 some (b0 != b0)
def cmp_Compare_int (b0 : Int) (b1 : Int) : Option Int :=
 (cmp_isNaN_int b0).bind fun v1 =>
 (cmp_isNaN_int b1).bind fun v2 =>
 (bif v1 then
 (bif v2 then
 some 0
 else
 some (-1))
 else
 (bif v2 then
 some 1
 else
 (bif (decide (b0 < b1)) then
 some (-1)
 else
 (bif (decide (b1 < b0)) then
 some 1
 else
 some 0))))
def i_StartOrder_c1 (b0 : Int) (b1 : Int) (c2 : TSchedule) : Option Int :=
 (idxL c2.Starts b0).bind fun v1 =>
 (idxL c2.Starts b1).bind fun v2 =>
 (cmp_Compare_int v1 v2).bind fun v3 =>
 some v3
def slices_insertionSortCmpFunc_int_L2 (b1 : Int) (g3 : Int → Int → Option Int) : Nat → Int → (List Int) → Option (List Int)
 | 0, _, _ => none
 | fuel + 1, a16, a17 =>
  Option.bind
  ((bif (decide (b1 < a16)) then
  (idxL a17 a16).bind fun v22 =>
  (idxL a17 (W (a16 - 1))).bind fun v23 =>
  (g3 v22 v23).bind fun v24 =>
  some (decide (v24 < 0))
  else
  some false)) fun e20 =>
  (bif e20 then
  (idxL a17 (W (a16 - 1))).bind fun v26 =>
  (idxL a17 a16).bind fun v27 =>
  (idxL (setL a17 a16 v26) (W (a16 - 1))).bind fun v28 =>
  slices_insertionSortCmpFunc_int_L2 b1 g3 fuel (W (a16 - 1)) (setL (setL a17 a16 v26) (W (a16 - 1)) v27)
  else
  some a17)
def slices_insertionSortCmpFunc_int_L1 (b1 : Int) (b2 : Int) (g3 : Int → Int → Option Int) : Nat → Int → (List Int) → Option (List Int)
 | 0, _, _ => none
 | fuel + 1, a6, a7 =>
  (bif (decide (a6 < b2)) then
  Option.bind
  (slices_insertionSortCmpFunc_int_L2 b1 g3 F0 a6 a7) fun p29 =>
  slices_insertionSortCmpFunc_int_L1 b1 b2 g3 fuel (W (a6 + 1)) p29
  else
  some a7)
def slices_insertionSortCmpFunc_int (b0 : List Int) (b1 : Int) (b2 : Int) (g3 : Int → Int → Option Int) : Option (List Int) :=
 Option.bind
 (slices_insertionSortCmpFunc_int_L1 b1 b2 g3 F0 (W (b1 + 1)) b0) fun p30 =>
 some p30
def slices_swapRangeCmpFunc_int_L1 (b1 : Int) (b2 : Int) (b3 : Int) : Nat → Int → (List Int) → Option (List Int)
 | 0, _, _ => none
 | fuel + 1, a7, a8 =>
  (bif (decide (a7 < b3)) then
  (idxL a8 (W (b2 + a7))).bind fun v12 =>
  (idxL a8 (W (b1 + a7))).bind fun v13 =>
  (idxL (setL a8 (W (b1 + a7)) v12) (W (b2 + a7))).bind fun v14 =>
  slices_swapRangeCmpFunc_int_L1 b1 b2 b3 fuel (W (a7 + 1)) (setL (setL a8 (W (b1 + a7)) v12) (W (b2 + a7)) v13)
  else
  some a8)
def slices_swapRangeCmpFunc_int (b0 : List Int) (b1 : Int) (b2 : Int) (b3 : Int) (g4 : Int → Int → Option Int) : Option (List Int) :=
 Option.bind
 (slices_swapRangeCmpFunc_int_L1 b1 b2 b3 F0 0 b0) fun p15 =>
 some p15
def slices_rotateCmpFunc_int_L1 (b2 : Int) (g4 : Int → Int → Option Int) : Nat → Int → Int → (List Int) → Option (Int × (List Int))
 | 0, _, _, _ => none
 | fuel + 1, a6, a7, a8 =>
  (bif (a6 != a7) then
  (bif (decide (a7 < a6)) then
  (slices_swapRangeCmpFunc_int a8 (W (b2 - a6)) b2 a7 g4).bind fun v13 =>
  slices_rotateCmpFunc_int_L1 b2 g4 fuel (W (a6 - a7)) a7 v13
  else
  (slices_swapRangeCmpFunc_int a8 (W (b2 - a6)) (W ((W (b2 + a7)) - a6)) a6 g4).bind fun v14 =>
  slices_rotateCmpFunc_int_L1 b2 g4 fuel a6 (W (a7 - a6)) v14)
  else
  some (a6, a8))
def slices_rotateCmpFunc_int (b0 : List Int) (b1 : Int) (b2 : Int) (b3 : Int) (g4 : Int → Int → Option Int) : Option (List Int) :=
 Option.bind
 (slices_rotateCmpFunc_int_L1 b2 g4 F0 (W (b2 - b1)) (W (b3 - b2)) b0) fun p15 =>
 (slices_swapRangeCmpFunc_int p15.2 (W (b2 - p15.1)) b2 p15.1 g4).bind fun v16 =>
 some v16
def slices_symMergeCmpFunc_int_L1 (b0 : List Int) (b1 : Int) (g4 : Int → Int → Option Int) : Nat → Int → Int → Option Int
 | 0, _, _ => none
 | fuel + 1, a7, a8 =>
  (bif (decide (a7 < a8)) then
  (idxL b0 (IntKind.i64.wrap (Int.fdiv (IntKind.u64.wrap (W (a7 + a8))) (2 ^ min (Int.toNat 1) (IntKind.bits .u64))))).bind fun v12 =>
  (idxL b0 b1).bind fun v13 =>
  (g4 v12 v13).bind fun v14 =>
  (bif (decide (v14 < 0)) then
  slices_symMergeCmpFunc_int_L1 b0 b1 g4 fuel (W ((IntKind.i64.wrap (Int.fdiv (IntKind.u64.wrap (W (a7 + a8))) (2 ^ min (Int.toNat 1) (IntKind.bits .u64)))) + 1)) a8
  else
  slices_symMergeCmpFunc_int_L1 b0 b1 g4 fuel a7 (IntKind.i64.wrap (Int.fdiv (IntKind.u64.wrap (W (a7 + a8))) (2 ^ min (Int.toNat 1) (IntKind.bits .u64)))))
  else
  some a7)
def slices_symMergeCmpFunc_int_L2 (p16 : Int) : Nat → Int → (List Int) → Option (List Int)
 | 0, _, _ => none
 | fuel + 1, a22, a23 =>
  (bif (decide (a22 < (W (p16 - 1)))) then
  (idxL a23 (W (a22 + 1))).bind fun v27 =>
  (idxL a23 a22).bind fun v28 =>
  (idxL (setL a23 a22 v27) (W (a22 + 1))).bind fun v29 =>
  slices_symMergeCmpFunc_int_L2 p16 fuel (W (a22 + 1)) (setL (setL a23 a22 v27) (W (a22 + 1)) v28)
  else
  some a23)
def slices_symMergeCmpFunc_int_L3 (b0 : List Int) (b2 : Int) (g4 : Int → Int → Option Int) : Nat → Int → Int → Option Int
 | 0, _, _ => none
 | fuel + 1, a37, a38 =>
  (bif (decide (a37 < a38)) then
  (idxL b0 b2).bind fun v42 =>
  (idxL b0 (IntKind.i64.wrap (Int.fdiv (IntKind.u64.wrap (W (a37 + a38))) (2 ^ min (Int.toNat 1) (IntKind.bits .u64))))).bind fun v43 =>
  (g4 v42 v43).bind fun v44 =>
  (bif (!(decide (v44 < 0))) then
  slices_symMergeCmpFunc_int_L3 b0 b2 g4 fuel (W ((IntKind.i64.wrap (Int.fdiv (IntKind.u64.wrap (W (a37 + a38))) (2 ^ min (Int.toNat 1) (IntKind.bits .u64)))) + 1)) a38
  else
  slices_symMergeCmpFunc_int_L3 b0 b2 g4 fuel a37 (IntKind.i64.wrap (Int.fdiv (IntKind.u64.wrap (W (a37 + a38))) (2 ^ min (Int.toNat 1) (IntKind.bits .u64)))))
  else
  some a37)
def slices_symMergeCmpFunc_int_L4 (p46 : Int) : Nat → Int → (List Int) → Option (List Int)
 | 0, _, _ => none
 | fuel + 1, a52, a53 =>
  (bif (decide (p46 < a52)) then
  (idxL a53 (W (a52 - 1))).bind fun v57 =>
  (idxL a53 a52).bind fun v58 =>
  (idxL (setL a53 a52 v57) (W (a52 - 1))).bind fun v59 =>
  slices_symMergeCmpFunc_int_L4 p46 fuel (W (a52 - 1)) (setL (setL a53 a52 v57) (W (a52 - 1)) v58)
  else
  some a53)
def slices_symMergeCmpFunc_int_L5 (b0 : List Int) (b1 : Int) (b2 : Int) (b3 : Int) (g4 : Int → Int → Option Int) : Nat → Int → Int → Option Int
 | 0, _, _ => none
 | fuel + 1, a72, a73 =>
  (bif (decide (a72 < a73)) then
  (idxL b0 (W ((W ((W ((IntKind.i64.wrap (Int.fdiv (IntKind.u64.wrap (W (b1 + b3))) (2 ^ min (Int.toNat 1) (IntKind.bits .u64)))) + b2)) - 1)) - (IntKind.i64.wrap (Int.fdiv (IntKind.u64.wrap (W (a72 + a73))) (2 ^ min (Int.toNat 1) (IntKind.bits .u64))))))).bind fun v77 =>
  (idxL b0 (IntKind.i64.wrap (Int.fdiv (IntKind.u64.wrap (W (a72 + a73))) (2 ^ min (Int.toNat 1) (IntKind.bits .u64))))).bind fun v78 =>
  (g4 v77 v78).bind fun v79 =>
  (bif (!(decide (v79 < 0))) then
  slices_symMergeCmpFunc_int_L5 b0 b1 b2 b3 g4 fuel (W ((IntKind.i64.wrap (Int.fdiv (IntKind.u64.wrap (W (a72 + a73))) (2 ^ min (Int.toNat 1) (IntKind.bits .u64)))) + 1)) a73
  else
  slices_symMergeCmpFunc_int_L5 b0 b1 b2 b3 g4 fuel a72 (IntKind.i64.wrap (Int.fdiv (IntKind.u64.wrap (W (a72 + a73))) (2 ^ min (Int.toNat 1) (IntKind.bits .u64)))))
  else
  some a72)
def slices_symMergeCmpFunc_int_S (rec : (List Int) → Int → Int → Int → (Int → Int → Option Int) → Option (List Int)) (b0 : List Int) (b1 : Int) (b2 : Int) (b3 : Int) (g4 : Int → Int → Option Int) : Option (List Int) :=
 (bif ((W (b2 - b1)) == 1) then
 Option.bind
 (slices_symMergeCmpFunc_int_L1 b0 b1 g4 F0 b2 b3) fun p16 =>
 Option.bind
 (slices_symMergeCmpFunc_int_L2 p16 F0 b1 b0) fun p30 =>
 some p30
 else
 (bif ((W (b3 - b2)) == 1) then
 Option.bind
 (slices_symMergeCmpFunc_int_L3 b0 b2 g4 F0 b1 b2) fun p46 =>
 Option.bind
 (slices_symMergeCmpFunc_int_L4 p46 F0 b2 b0) fun p60 =>
 some p60
 else
 Option.bind
 ((bif (decide ((IntKind.i64.wrap (Int.fdiv (IntKind.u64.wrap (W (b1 + b3))) (2 ^ min (Int.toNat 1) (IntKind.bits .u64)))) < b2)) then
 some ((W ((W ((IntKind.i64.wrap (Int.fdiv (IntKind.u64.wrap (W (b1 + b3))) (2 ^ min (Int.toNat 1) (IntKind.bits .u64)))) + b2)) - b3)), (IntKind.i64.wrap (Int.fdiv (IntKind.u64.wrap (W (b1 + b3))) (2 ^ min (Int.toNat 1) (IntKind.bits .u64)))))
 else
 some (b1, b2))) fun p66 =>
 Option.bind
 (slices_symMergeCmpFunc_int_L5 b0 b1 b2 b3 g4 F0 p66.1 p66.2) fun p81 =>
 Option.bind
 ((bif (decide (p81 < b2)) then
 some (decide (b2 < (W ((W ((IntKind.i64.wrap (Int.fdiv (IntKind.u64.wrap (W (b1 + b3))) (2 ^ min (Int.toNat 1) (IntKind.bits .u64)))) + b2)) - p81))))
 else
 some false)) fun e82 =>
 Option.bind
 ((bif e82 then
 (slices_rotateCmpFunc_int b0 p81 b2 (W ((W ((IntKind.i64.wrap (Int.fdiv (IntKind.u64.wrap (W (b1 + b3))) (2 ^ min (Int.toNat 1) (IntKind.bits .u64)))) + b2)) - p81)) g4).bind fun v89 =>
 some v89
 else
 some b0)) fun p90 =>
 Option.bind
 ((bif (decide (b1 < p81)) then
 some (decide (p81 < (IntKind.i64.wrap (Int.fdiv (IntKind.u64.wrap (W (b1 + b3))) (2 ^ min (Int.toNat 1) (IntKind.bits .u64))))))
 else
 some false)) fun e91 =>
 Option.bind
 ((bif e91 then
 (rec p90 b1 p81 (IntKind.i64.wrap (Int.fdiv (IntKind.u64.wrap (W (b1 + b3))) (2 ^ min (Int.toNat 1) (IntKind.bits .u64)))) g4).bind fun v98 =>
 some v98
 else
 some p90)) fun p99 =>
 Option.bind
 ((bif (decide ((IntKind.i64.wrap (Int.fdiv (IntKind.u64.wrap (W (b1 + b3))) (2 ^ min (Int.toNat 1) (IntKind.bits .u64)))) < (W ((W ((IntKind.i64.wrap (Int.fdiv (IntKind.u64.wrap (W (b1 + b3))) (2 ^ min (Int.toNat 1) (IntKind.bits .u64)))) + b2)) - p81)))) then
 some (decide ((W ((W ((IntKind.i64.wrap (Int.fdiv (IntKind.u64.wrap (W (b1 + b3))) (2 ^ min (Int.toNat 1) (IntKind.bits .u64)))) + b2)) - p81)) < b3))
 else
 some false)) fun e100 =>
 (bif e100 then
 (rec p99 (IntKind.i64.wrap (Int.fdiv (IntKind.u64.wrap (W (b1 + b3))) (2 ^ min (Int.toNat 1) (IntKind.bits .u64)))) (W ((W ((IntKind.i64.wrap (Int.fdiv (IntKind.u64.wrap (W (b1 + b3))) (2 ^ min (Int.toNat 1) (IntKind.bits .u64)))) + b2)) - p81)) b3 g4).bind fun v103 =>
 some v103
 else
 some p99)))
def slices_symMergeCmpFunc_int_R : Nat → (List Int) → Int → Int → Int → (Int → Int → Option Int) → Option (List Int)
 | 0 => fun _ _ _ _ _ => none
 | fuel + 1 => slices_symMergeCmpFunc_int_S (slices_symMergeCmpFunc_int_R fuel)
def slices_symMergeCmpFunc_int (b0 : List Int) (b1 : Int) (b2 : Int) (b3 : Int) (g4 : Int → Int → Option Int) : Option (List Int) := slices_symMergeCmpFunc_int_R F0 b0 b1 b2 b3 g4
def slices_stableCmpFunc_int_L1 (b1 : Int) (g2 : Int → Int → Option Int) : Nat → Int → Int → (List Int) → Option (Int × (List Int))
 | 0, _, _, _ => none
 | fuel + 1, a6, a7, a8 =>
  (bif (decide (a7 ≤ b1)) then
  (slices_insertionSortCmpFunc_int a8 a6 a7 g2).bind fun v12 =>
  slices_stableCmpFunc_int_L1 b1 g2 fuel a7 (W (a7 + 20)) v12
  else
  some (a6, a8))
def slices_stableCmpFunc_int_L3 (b1 : Int) (g2 : Int → Int → Option Int) (a20 : Int) : Nat → Int → Int → (List Int) → Option (Int × (List Int))
 | 0, _, _, _ => none
 | fuel + 1, a30, a31, a32 =>
  (bif (decide (a31 ≤ b1)) then
  (slices_symMergeCmpFunc_int a32 a30 (W (a30 + a20)) a31 g2).bind fun v36 =>
  slices_stableCmpFunc_int_L3 b1 g2 a20 fuel a31 (W (a31 + (W (2 * a20)))) v36
  else
  some (a30, a32))
def slices_stableCmpFunc_int_L2 (b1 : Int) (g2 : Int → Int → Option Int) : Nat → Int → (List Int) → Option (List Int)
 | 0, _, _ => none
 | fuel + 1, a20, a21 =>
  (bif (decide (a20 < b1)) then
  Option.bind
  (slices_stableCmpFunc_int_L3 b1 g2 a20 F0 0 (W (2 * a20)) a21) fun p37 =>
  (bif (decide ((W (p37.1 + a20)) < b1)) then
  (slices_symMergeCmpFunc_int p37.2 p37.1 (W (p37.1 + a20)) b1 g2).bind fun v39 =>
  slices_stableCmpFunc_int_L2 b1 g2 fuel (W (a20 * 2)) v39
  else
  slices_stableCmpFunc_int_L2 b1 g2 fuel (W (a20 * 2)) p37.2)
  else
  some a21)
def slices_stableCmpFunc_int (b0 : List Int) (b1 : Int) (g2 : Int → Int → Option Int) : Option (List Int) :=
 Option.bind
 (slices_stableCmpFunc_int_L1 b1 g2 F0 0 20 b0) fun p13 =>
 (slices_insertionSortCmpFunc_int p13.2 p13.1 b1 g2).bind fun v14 =>
 Option.bind
 (slices_stableCmpFunc_int_L2 b1 g2 F0 20 v14) fun p40 =>
 some p40
def slices_SortStableFunc_int (b0 : List Int) (g1 : Int → Int → Option Int) : Option (List Int) :=
 (slices_stableCmpFunc_int b0 (b0.length : Int) g1).bind fun v1 =>
 some v1
def i_StartOrder_L1  : List Int → Int → (List Int) → Option (List Int)
 | [], z8, a9 =>
  some a9
 | x10 :: xs11, z8, a9 =>
  (appL a9 ([z8] : List Int)).bind fun v13 =>
  i_StartOrder_L1 xs11 (z8 + 1) v13
def i_StartOrder (b0 : TSchedule) : Option (List Int) :=
 Option.bind
 (i_StartOrder_L1 b0.Starts 0 ([] : List Int)) fun p14 =>
 (slices_SortStableFunc_int p14 (fun x0 x1 => i_StartOrder_c1 x0 x1 b0)).bind fun v15 =>
 some v15
def w_eqIntS_L1 (b1 : List Int) : List Int → Int → Option (Unit ⊕ Bool)
 | [], z9 =>
  some (Sum.inl ())
 | x10 :: xs11, z9 =>
  (idxL b1 z9).bind fun v13 =>
  (bif (x10 != v13) then
  some (Sum.inr false)
  else
  w_eqIntS_L1 b1 xs11 (z9 + 1))
def w_eqIntS (b0 : List Int) (b1 : List Int) : Option Bool :=
 (bif ((b0.length : Int) != (b1.length : Int)) then
 some false
 else
 sumBind
 (w_eqIntS_L1 b1 b0 0)
 (fun q16 => some q16) fun p15 =>
 some true)
def w_eqSchedule (b0 : TSchedule) (b1 : TSchedule) : Option Bool :=
 (w_eqIntS b0.Starts b1.Starts).bind fun v1 =>
 (bif (!v1) then
 some false
 else
 (w_eqIntS b0.Modes b1.Modes).bind fun v3 =>
 (bif (!v3) then
 some false
 else
 some true))
def w_markIntS_k_L1  : List Int → Int → Int → Option Int
 | [], z8, a9 =>
  some a9
 | x10 :: xs11, z8, a9 =>
  w_markIntS_k_L1 xs11 (z8 + 1) (W (a9 + 1))
def w_markIntS_k (b0 : List Int) (b1 : Int) : Option Int :=
 Option.bind
 (w_markIntS_k_L1 b0 0 b1) fun p13 =>
 some p13
def w_markSchedule_k (b0 : TSchedule) (b1 : Int) : Option Int :=
 (w_markIntS_k b0.Starts b1).bind fun v1 =>
 (w_markIntS_k b0.Modes v1).bind fun v2 =>
 some v2
def w_markIntS_L1  : Nat → Int → Int → (List Int) → Option (Int × (List Int))
 | 0, _, _, _ => none
 | fuel + 1, a7, a8, a9 =>
  (bif (decide (a8 < (a9.length : Int))) then
  (idxL a9 a8).bind fun v13 =>
  w_markIntS_L1 fuel (W (a7 + 1)) (W (a8 + 1)) (setL a9 a8 a7)
  else
  some (a7, a9))
def w_markIntS (b0 : List Int) (b1 : Int) : Option (Int × (List Int)) :=
 Option.bind
 (w_markIntS_L1 F0 b1 0 b0) fun p14 =>
 some (p14.1, p14.2)
def w_heldIntS_L1  : List Int → Int → Int → Option (Int ⊕ Int)
 | [], z8, a9 =>
  some (Sum.inl a9)
 | x10 :: xs11, z8, a9 =>
  (bif (x10 != a9) then
  some (Sum.inr (-1))
  else
  w_heldIntS_L1 xs11 (z8 + 1) (W (a9 + 1)))
def w_heldIntS (b0 : List Int) (b1 : Int) : Option Int :=
 sumBind
 (w_heldIntS_L1 b0 0 b1)
 (fun q15 => some q15) fun p14 =>
 some p14
def w_FnExactStartOrder (b0 : TSchedule) : Option Bool :=
 (w_szSchedule b0 1048576).bind fun v1 =>
 (bif (decide (v1 < 0)) then
 some true
 else
 (w_toSchedule b0).bind fun v3 =>
 (s_StartOrder v3).bind fun v4 =>
 (w_toSchedule b0).bind fun v5 =>
 (i_StartOrder v5).bind fun v6 =>
 (w_eqIntS v6 v4).bind fun v7 =>
 (bif (!v7) then
 some false
 else
 (w_toSchedule b0).bind fun v9 =>
 (w_eqSchedule v5 v9).bind fun v10 =>
 (bif (!v10) then
 some false
 else
 (w_markSchedule_k v5 1).bind fun v12 =>
 Option.bind
 ((bif (decide (v12 < 0)) then
 some true
 else
 (w_eqIntS v6 v4).bind fun v15 =>
 some (!v15))) fun e13 =>
 (bif e13 then
 some false
 else
 (w_markIntS v6 1).bind fun v17 =>
 (w_heldIntS v17.2 1).bind fun v18 =>
 (bif (decide (v18 < 0)) then
 some false
 else
 (bif (v18 != v17.1) then
 some false
 else
 (w_toSchedule b0).bind fun v21 =>
 (i_StartOrder v21).bind fun v22 =>
 (w_eqIntS v22 v4).bind fun v23 =>
 (bif (!v23) then
 some false
 else
 (w_heldIntS v17.2 1).bind fun v25 =>
 (bif (decide (v25 < 0)) then
 some false
 else
 (bif (v25 != v17.1) then
 some false
 else
 some true)))))))))
def w_markSchedule (b0 : TSchedule) (b1 : Int) : Option (Int × (List Int) × (List Int)) :=
 (w_markIntS b0.Starts b1).bind fun v1 =>
 (w_markIntS b0.Modes v1.1).bind fun v2 =>
 some (v2.1, v1.2, v2.2)
def b_l_int (M : Nat) (l : List Int) : Prop := l.length ≤ M
theorem w_szIntS_ok (x : List Int) (h : b_l_int 9223372036854775807 x) : SzOk w_szIntS (b_l_int 1048576) x := szFlat x (fun _ => rfl) h
def b_str (M : Nat) (x : ByteArray) : Prop := x.size ≤ M
def bTSchedule (M : Nat) (x : TSchedule) : Prop := b_l_int M x.Starts ∧ b_l_int M x.Modes ∧  True
theorem w_szSchedule_ok (x : TSchedule) (h : bTSchedule 9223372036854775807 x) : SzOk w_szSchedule (bTSchedule 1048576) x := fun n m0 hn => by
 unfold w_szSchedule bTSchedule
 unfold bTSchedule at h
 exact szThen (w_szIntS_ok _ h.1) m0 (by omega) (fun n1 m1 _ _ => szThen (w_szIntS_ok _ h.2.1) m1 (by omega) (fun n2 m2 _ _ => szEnd m2))
theorem w_toIntS_eq (x : List Int) (h : b_l_int 1048576 x) : w_toIntS x = some x := fillList (F := w_toIntS_L1) (Q := fun _ => True) (fun _ _ => rfl) (fun x xs z a y hq hy => by simp only [w_toIntS_L1, hy, Option.bind_some]) h (fun _ _ => trivial) rfl
theorem w_toSchedule_eq (x : TSchedule) (h : bTSchedule 1048576 x) : w_toSchedule x = some x := by
 unfold bTSchedule at h
 unfold w_toSchedule
 try simp only [w_toIntS_eq _ (h.1), w_toIntS_eq _ (h.2.1), Option.bind_some]
theorem w_eqIntS_eq (a b : List Int) : w_eqIntS a b = some (decide (a = b)) := eqList (F := w_eqIntS_L1 b) (fun _ => rfl) (fun x xs z y h => by simp only [w_eqIntS_L1, h, Option.bind_some, int_bne]; by_cases hxy : x = y <;> simp [hxy]) rfl
theorem w_eqSchedule_eq (a b : TSchedule) : w_eqSchedule a b = some (decide (a = b)) := by
 obtain ⟨a0, a1⟩ := a
 obtain ⟨b0, b1⟩ := b
 simp only [w_eqSchedule, w_eqIntS_eq, w_eqIntS_eq, TSchedule.mk.injEq, Option.bind_some, int_bne, bool_bne, ba_bne]
 by_cases h0 : a0 = b0 <;> by_cases h1 : a1 = b1 <;> simp [h0, h1]
theorem w_markIntS_k_ok (x : List Int) (h : b_l_int 1048576 x) : MkOk w_markIntS_k 1048576 x :=
 MkOk.list (L1 := w_markIntS_k_L1) (e := 1) (Q := fun _ => True) (fun _ _ => rfl) (fun x xs z k hx h0 hb => by
  skip
  refine ⟨(k + 1), by omega, by omega, ?_⟩
  simp only [w_markIntS_k_L1]
  rw [W_of (n := (k + 1)) ⟨by omega, by omega⟩])
  (fun l k => by unfold w_markIntS_k; cases w_markIntS_k_L1 l 0 k <;> rfl) h (fun _ _ => trivial) (by decide)
theorem w_markSchedule_k_ok (x : TSchedule) (h : bTSchedule 1048576 x) : MkOk w_markSchedule_k 2097152 x := fun k h0 hb => by
 unfold bTSchedule at h
 obtain ⟨k0, e0, l0, u0⟩ := w_markIntS_k_ok x.Starts (h.1) k (by omega) (by omega)
 obtain ⟨k1, e1, l1, u1⟩ := w_markIntS_k_ok x.Modes (h.2.1) k0 (by omega) (by omega)
 refine ⟨k1, ?_, by omega, by omega⟩
 unfold w_markSchedule_k
 rw [e0, Option.bind_some, e1, Option.bind_some]
theorem w_markIntS_res (x : List Int) (h : b_l_int 1048576 x) (k0 : Int) (hk0 : 0 ≤ k0) (hk1 : k0 + 1048576 ≤ 1099511627776) : ∃ k ys, w_markIntS x k0 = some (k, ys) ∧ w_heldIntS ys k0 = some k ∧ k0 ≤ k ∧ k ≤ k0 + 1048576 := by
 replace h : x.length ≤ 1048576 := h
 have e1 := markFlat (G := w_markIntS_L1) (c := 1) (up := (fun k _ => k)) (by decide) (fun fuel k i l x hi hil hl h0 hb hx => by
  have hd : decide (i < (l.length : Int)) = true := decide_eq_true hil
  have hlt : i.toNat < l.length := by omega
  have hx2 : ∀ y, idxL (l.set i.toNat y) i = some y := fun y => by simp [idxL, hi, hlt]
  replace hx : idxL l i = some x := by simp [idxL, hi, hx]
  simp only [w_markIntS_L1, hd, cond_true, hx, Option.bind_some, W_of (n := k + 1) ⟨by omega, by omega⟩, W_of (n := i + 1) ⟨by omega, by omega⟩, setL]; rfl)
  (fun fuel k i l hi => by
  have hd : decide (i < (l.length : Int)) = false := decide_eq_false (by omega)
  simp only [w_markIntS_L1, hd, cond_false]) h hk0 (by omega)
 have hb : (1 : Int) * (x.length : Int) ≤ 1048576 := by omega
 have e2 := heldFlat (H := w_heldIntS_L1) (c := 1) (up := (fun k _ => k)) (by decide) (fun x xs z k h0 hb => by
  simp only [w_heldIntS_L1, int_bne, decide_true, Bool.not_true, cond_false, W_of (n := k + 1) ⟨by omega, by omega⟩]; rfl) (fun _ _ => rfl) x 0 k0 hk0 (by omega)
 refine ⟨_, _, by unfold w_markIntS; rw [e1]; rfl, by unfold w_heldIntS; rw [e2]; rfl, by omega, by omega⟩
theorem decb_int : ∀ p, Val .int p → ∃ x : Int, p = int x ∧ True := fun p h => by obtain ⟨n, e⟩ := dec_int h; exact ⟨n, e, trivial⟩
theorem decb_l_int : ∀ p, Val (.slice .int) p → ∃ x : List Int, p = .slice (x.map int) ∧ b_l_int 9223372036854775807 x := fun p h => by
 obtain ⟨l, e, h1, h2⟩ := dec_slice decb_int h
 exact ⟨l, e, h1⟩
theorem decb_TSchedule : ∀ p, Val (.agg [.slice .int, .slice .int]) p → ∃ x : TSchedule, p = eTSchedule x ∧ bTSchedule 9223372036854775807 x := fun p h => by
 obtain ⟨zs0, rfl, hv0⟩ := h
 obtain ⟨x0, zs1, rfl, h0, hv1⟩ := vals_cons hv0
 obtain ⟨y0, rfl, b0⟩ := decb_l_int _ h0
 obtain ⟨x1, zs2, rfl, h1, hv2⟩ := vals_cons hv1
 obtain ⟨y1, rfl, b1⟩ := decb_l_int _ h1
 obtain rfl := vals_nil hv2
 exact ⟨⟨y0, y1⟩, rfl, ⟨b0, b1, trivial⟩⟩
end Go.Px.Ytiopmcdngjlgbaa
