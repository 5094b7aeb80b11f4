/-
  PROVED: definitions that say what functions of the program compute. No condition.
-/
import Derived.Test.YthdejnjjdihmfabQ3
namespace Go.Px.Ythdejnjjdihmfab
set_option linter.unusedSimpArgs false
set_option linter.unusedVariables false
open Go.Px
structure TRule where
  Kind : Int
  A : Int
  B : Int
  C : Int
  deriving DecidableEq
structure TLiteral where
  Kind : Int
  Activity : Int
  Value : Int
  deriving DecidableEq
structure TLine where
  Kind : Int
  Rule : TRule
  Clause : List TLiteral
  deriving DecidableEq
structure TSchedule where
  Starts : List Int
  Modes : List Int
  deriving DecidableEq
abbrev eTLiteral (x : TLiteral) : PV := .agg [int x.Kind, int x.Activity, int x.Value]
abbrev eTLine (x : TLine) : PV := .agg [int x.Kind, int x.Rule.Kind, int x.Rule.A, int x.Rule.B, int x.Rule.C, .slice (x.Clause.map eTLiteral)]
abbrev eTRule (x : TRule) : PV := .agg [int x.Kind, int x.A, int x.B, int x.C]
abbrev l_eTLiteral (x : List TLiteral) : PV := .slice (x.map eTLiteral)
abbrev eTSchedule (x : TSchedule) : PV := .agg [.slice (x.Starts.map int), .slice (x.Modes.map int)]
abbrev e_u64 (x : Int) : PV := .lit (.int .u64 x)
abbrev e_u32 (x : Int) : PV := .lit (.int .u32 x)
abbrev l_eTLine (x : List TLine) : PV := .slice (x.map eTLine)
abbrev l_int (x : List Int) : PV := .slice (x.map int)
def w_szLiteralS (b0 : List TLiteral) (b1 : Int) : Option Int :=
  (bif (decide ((W (b1 - (b0.length : Int))) < 0)) then
  some (-1)
  else
  some (W (b1 - (b0.length : Int))))
def w_szLine (b0 : TLine) (b1 : Int) : Option Int :=
  (w_szLiteralS b0.Clause b1).bind fun v1 =>
  (bif (decide (v1 < 0)) then
  some (-1)
  else
  some v1)
def w_szLineS_L1  : List TLine → Int → Int → Option (Int ⊕ Int)
  | [], z9, a10 =>
    some (Sum.inl a10)
  | x11 :: xs12, z9, a10 =>
    (w_szLine x11 a10).bind fun v14 =>
    (bif (decide (v14 < 0)) then
    some (Sum.inr (-1))
    else
    w_szLineS_L1 xs12 (z9 + 1) v14)
def w_szLineS (b0 : List TLine) (b1 : Int) : Option Int :=
  (bif (decide ((W (b1 - (b0.length : Int))) < 0)) then
  some (-1)
  else
  sumBind
  (w_szLineS_L1 b0 0 (W (b1 - (b0.length : Int))))
  (fun q17 => some q17) fun p16 =>
  some p16)
def w_toRule (b0 : TRule) : Option TRule :=
  some b0
def w_toLiteral (b0 : TLiteral) : Option TLiteral :=
  some b0
def w_toLiteralS_L1  : List TLiteral → Int → (List TLiteral) → Option (List TLiteral)
  | [], z9, a10 =>
    some a10
  | x11 :: xs12, z9, a10 =>
    (w_toLiteral x11).bind fun v14 =>
    (idxL a10 z9).bind fun v15 =>
    w_toLiteralS_L1 xs12 (z9 + 1) (setL a10 z9 v14)
def w_toLiteralS (b0 : List TLiteral) : Option (List TLiteral) :=
  (makeL (TLiteral.mk 0 0 0) (b0.length : Int)).bind fun v1 =>
  Option.bind
  (w_toLiteralS_L1 b0 0 v1) fun p16 =>
  some p16
def w_toLine (b0 : TLine) : Option TLine :=
  (w_toRule b0.Rule).bind fun v1 =>
  (w_toLiteralS b0.Clause).bind fun v2 =>
  some (TLine.mk b0.Kind v1 v2)
def w_toLineS_L1  : List TLine → Int → (List TLine) → Option (List TLine)
  | [], z9, a10 =>
    some a10
  | x11 :: xs12, z9, a10 =>
    (w_toLine x11).bind fun v14 =>
    (idxL a10 z9).bind fun v15 =>
    w_toLineS_L1 xs12 (z9 + 1) (setL a10 z9 v14)
def w_toLineS (b0 : List TLine) : Option (List TLine) :=
  (makeL (TLine.mk 0 (TRule.mk 0 0 0 0) []) (b0.length : Int)).bind fun v1 =>
  Option.bind
  (w_toLineS_L1 b0 0 v1) fun p16 =>
  some p16
def s_l01In (b0 : Int) (b1 : Int) (b2 : Int) : Option Bool :=
  Option.bind
  ((bif (decide (b1 ≤ b0)) then
  some (decide (b0 ≤ b2))
  else
  some false)) fun e1 =>
  some e1
def s_RuleName (b0 : Int) : Option ByteArray :=
  (s_l01In b0 0 6).bind fun v1 =>
  (bif (!v1) then
  some ByteArray.empty
  else
  (idxL ([(⟨#[110, 111, 110, 101]⟩ : ByteArray), (⟨#[108, 105, 110, 107]⟩ : ByteArray), (⟨#[101, 110, 100]⟩ : ByteArray), (⟨#[116, 105, 109, 101]⟩ : ByteArray), (⟨#[119, 111, 114, 107]⟩ : ByteArray), (⟨#[112, 97, 105, 114]⟩ : ByteArray), (⟨#[115, 116, 111, 99, 107]⟩ : ByteArray)] : List ByteArray) b0).bind fun v3 =>
  some v3)
def s_ProofStats_L1  : List TLine → Int → (List Int) → Option (List Int)
  | [], z9, a10 =>
    some a10
  | x11 :: xs12, z9, a10 =>
    Option.bind
    ((bif (x11.Kind == 2) then
    (idxL a10 0).bind fun v19 =>
    some (setL a10 0 (W (v19 + 1)))
    else
    some a10)) fun p20 =>
    Option.bind
    ((bif (x11.Kind == 1) then
    (s_RuleName x11.Rule.Kind).bind fun v23 =>
    some (v23 != ByteArray.empty)
    else
    some false)) fun e21 =>
    (bif e21 then
    (idxL p20 (W (1 + x11.Rule.Kind))).bind fun v25 =>
    s_ProofStats_L1 xs12 (z9 + 1) (setL p20 (W (1 + x11.Rule.Kind)) (W (v25 + 1)))
    else
    s_ProofStats_L1 xs12 (z9 + 1) p20)
def s_ProofStats (b0 : List TLine) : Option (List Int) :=
  (makeL 0 8).bind fun v1 =>
  Option.bind
  (s_ProofStats_L1 b0 0 v1) fun p26 =>
  some p26
def i_within (b0 : Int) (b1 : Int) (b2 : Int) : Option Bool :=
  Option.bind
  ((bif (decide (b1 ≤ b0)) then
  some (decide (b0 ≤ b2))
  else
  some false)) fun e1 =>
  some e1
def i_ProofStats_L1  : List TLine → Int → (List Int) → Option (List Int)
  | [], z9, a10 =>
    some a10
  | x11 :: xs12, z9, a10 =>
    (bif (x11.Kind == 2) then
    (idxL a10 0).bind fun v15 =>
    i_ProofStats_L1 xs12 (z9 + 1) (setL a10 0 (W (v15 + 1)))
    else
    Option.bind
    ((bif (x11.Kind == 1) then
    (i_within x11.Rule.Kind 0 6).bind fun v18 =>
    some v18
    else
    some false)) fun e16 =>
    (bif e16 then
    (idxL a10 (W (x11.Rule.Kind + 1))).bind fun v20 =>
    i_ProofStats_L1 xs12 (z9 + 1) (setL a10 (W (x11.Rule.Kind + 1)) (W (v20 + 1)))
    else
    i_ProofStats_L1 xs12 (z9 + 1) a10))
def i_ProofStats (b0 : List TLine) : Option (List Int) :=
  (makeL 0 8).bind fun v1 =>
  Option.bind
  (i_ProofStats_L1 b0 0 v1) fun p21 =>
  some p21
def w_eqIntS_L1 (b1 : List Int) : List Int → Int → Option (Unit ⊕ Bool)
  | [], z9 =>
    some (Sum.inl ())
  | x10 :: xs11, z9 =>
    (idxL b1 z9).bind fun v13 =>
    (bif (x10 != v13) then
    some (Sum.inr false)
    else
    w_eqIntS_L1 b1 xs11 (z9 + 1))
def w_eqIntS (b0 : List Int) (b1 : List Int) : Option Bool :=
  (bif ((b0.length : Int) != (b1.length : Int)) then
  some false
  else
  sumBind
  (w_eqIntS_L1 b1 b0 0)
  (fun q16 => some q16) fun p15 =>
  some true)
def w_eqRule (b0 : TRule) (b1 : TRule) : Option Bool :=
  (bif (b0.Kind != b1.Kind) then
  some false
  else
  (bif (b0.A != b1.A) then
  some false
  else
  (bif (b0.B != b1.B) then
  some false
  else
  (bif (b0.C != b1.C) then
  some false
  else
  some true))))
def w_eqLiteral (b0 : TLiteral) (b1 : TLiteral) : Option Bool :=
  (bif (b0.Kind != b1.Kind) then
  some false
  else
  (bif (b0.Activity != b1.Activity) then
  some false
  else
  (bif (b0.Value != b1.Value) then
  some false
  else
  some true)))
def w_eqLiteralS_L1 (b1 : List TLiteral) : List TLiteral → Int → Option (Unit ⊕ Bool)
  | [], z9 =>
    some (Sum.inl ())
  | x10 :: xs11, z9 =>
    (idxL b1 z9).bind fun v13 =>
    (w_eqLiteral x10 v13).bind fun v14 =>
    (bif (!v14) then
    some (Sum.inr false)
    else
    w_eqLiteralS_L1 b1 xs11 (z9 + 1))
def w_eqLiteralS (b0 : List TLiteral) (b1 : List TLiteral) : Option Bool :=
  (bif ((b0.length : Int) != (b1.length : Int)) then
  some false
  else
  sumBind
  (w_eqLiteralS_L1 b1 b0 0)
  (fun q17 => some q17) fun p16 =>
  some true)
def w_eqLine (b0 : TLine) (b1 : TLine) : Option Bool :=
  (bif (b0.Kind != b1.Kind) then
  some false
  else
  (w_eqRule b0.Rule b1.Rule).bind fun v2 =>
  (bif (!v2) then
  some false
  else
  (w_eqLiteralS b0.Clause b1.Clause).bind fun v4 =>
  (bif (!v4) then
  some false
  else
  some true)))
def w_eqLineS_L1 (b1 : List TLine) : List TLine → Int → Option (Unit ⊕ Bool)
  | [], z9 =>
    some (Sum.inl ())
  | x10 :: xs11, z9 =>
    (idxL b1 z9).bind fun v13 =>
    (w_eqLine x10 v13).bind fun v14 =>
    (bif (!v14) then
    some (Sum.inr false)
    else
    w_eqLineS_L1 b1 xs11 (z9 + 1))
def w_eqLineS (b0 : List TLine) (b1 : List TLine) : Option Bool :=
  (bif ((b0.length : Int) != (b1.length : Int)) then
  some false
  else
  sumBind
  (w_eqLineS_L1 b1 b0 0)
  (fun q17 => some q17) fun p16 =>
  some true)
def w_markLiteralS_k_L1  : List TLiteral → Int → Int → Option Int
  | [], z8, a9 =>
    some a9
  | x10 :: xs11, z8, a9 =>
    w_markLiteralS_k_L1 xs11 (z8 + 1) (W ((W ((W (a9 + 1)) + 1)) + 1))
def w_markLiteralS_k (b0 : List TLiteral) (b1 : Int) : Option Int :=
  Option.bind
  (w_markLiteralS_k_L1 b0 0 b1) fun p13 =>
  some p13
def w_markLineS_k_L1  : List TLine → Int → Int → Option Int
  | [], z8, a9 =>
    some a9
  | x10 :: xs11, z8, a9 =>
    (w_markLiteralS_k x10.Clause (W ((W ((W ((W ((W (a9 + 1)) + 1)) + 1)) + 1)) + 1))).bind fun v13 =>
    w_markLineS_k_L1 xs11 (z8 + 1) v13
def w_markLineS_k (b0 : List TLine) (b1 : Int) : Option Int :=
  Option.bind
  (w_markLineS_k_L1 b0 0 b1) fun p14 =>
  some p14
def w_markIntS_L1  : Nat → Int → Int → (List Int) → Option (Int × (List Int))
  | 0, _, _, _ => none
  | fuel + 1, a7, a8, a9 =>
    (bif (decide (a8 < (a9.length : Int))) then
    (idxL a9 a8).bind fun v13 =>
    w_markIntS_L1 fuel (W (a7 + 1)) (W (a8 + 1)) (setL a9 a8 a7)
    else
    some (a7, a9))
def w_markIntS (b0 : List Int) (b1 : Int) : Option (Int × (List Int)) :=
  Option.bind
  (w_markIntS_L1 F0 b1 0 b0) fun p14 =>
  some (p14.1, p14.2)
def w_heldIntS_L1  : List Int → Int → Int → Option (Int ⊕ Int)
  | [], z8, a9 =>
    some (Sum.inl a9)
  | x10 :: xs11, z8, a9 =>
    (bif (x10 != a9) then
    some (Sum.inr (-1))
    else
    w_heldIntS_L1 xs11 (z8 + 1) (W (a9 + 1)))
def w_heldIntS (b0 : List Int) (b1 : Int) : Option Int :=
  sumBind
  (w_heldIntS_L1 b0 0 b1)
  (fun q15 => some q15) fun p14 =>
  some p14
def w_FnExactProofStats (b0 : List TLine) : Option Bool :=
  (w_szLineS b0 1048576).bind fun v1 =>
  (bif (decide (v1 < 0)) then
  some true
  else
  (w_toLineS b0).bind fun v3 =>
  (s_ProofStats v3).bind fun v4 =>
  (w_toLineS b0).bind fun v5 =>
  (i_ProofStats v5).bind fun v6 =>
  (w_eqIntS v6 v4).bind fun v7 =>
  (bif (!v7) then
  some false
  else
  (w_toLineS b0).bind fun v9 =>
  (w_eqLineS v5 v9).bind fun v10 =>
  (bif (!v10) then
  some false
  else
  (w_markLineS_k v5 1).bind fun v12 =>
  Option.bind
  ((bif (decide (v12 < 0)) then
  some true
  else
  (w_eqIntS v6 v4).bind fun v15 =>
  some (!v15))) fun e13 =>
  (bif e13 then
  some false
  else
  (w_markIntS v6 1).bind fun v17 =>
  (w_heldIntS v17.2 1).bind fun v18 =>
  (bif (decide (v18 < 0)) then
  some false
  else
  (bif (v18 != v17.1) then
  some false
  else
  (w_toLineS b0).bind fun v21 =>
  (i_ProofStats v21).bind fun v22 =>
  (w_eqIntS v22 v4).bind fun v23 =>
  (bif (!v23) then
  some false
  else
  (w_heldIntS v17.2 1).bind fun v25 =>
  (bif (decide (v25 < 0)) then
  some false
  else
  (bif (v25 != v17.1) then
  some false
  else
  some true)))))))))
def s_Clauses_L1  : List TLine → Int → (List (List TLiteral)) → Option (List (List TLiteral))
  | [], z8, a9 =>
    some a9
  | x10 :: xs11, z8, a9 =>
    (appL ([] : List TLiteral) x10.Clause).bind fun v13 =>
    (appL a9 ([v13] : List (List TLiteral))).bind fun v14 =>
    s_Clauses_L1 xs11 (z8 + 1) v14
def s_Clauses (b0 : List TLine) : Option (List (List TLiteral)) :=
  Option.bind
  (s_Clauses_L1 b0 0 ([] : List (List TLiteral))) fun p15 =>
  some p15
def w_szIntS (b0 : List Int) (b1 : Int) : Option Int :=
  (bif (decide ((W (b1 - (b0.length : Int))) < 0)) then
  some (-1)
  else
  some (W (b1 - (b0.length : Int))))
def w_szSchedule (b0 : TSchedule) (b1 : Int) : Option Int :=
  (w_szIntS b0.Starts b1).bind fun v1 =>
  (bif (decide (v1 < 0)) then
  some (-1)
  else
  (w_szIntS b0.Modes v1).bind fun v3 =>
  (bif (decide (v3 < 0)) then
  some (-1)
  else
  some v3))
def w_toIntS_L1  : List Int → Int → (List Int) → Option (List Int)
  | [], z9, a10 =>
    some a10
  | x11 :: xs12, z9, a10 =>
    (idxL a10 z9).bind fun v14 =>
    w_toIntS_L1 xs12 (z9 + 1) (setL a10 z9 x11)
def w_toIntS (b0 : List Int) : Option (List Int) :=
  (makeL 0 (b0.length : Int)).bind fun v1 =>
  Option.bind
  (w_toIntS_L1 b0 0 v1) fun p15 =>
  some p15
def w_toSchedule (b0 : TSchedule) : Option TSchedule :=
  (w_toIntS b0.Starts).bind fun v1 =>
  (w_toIntS b0.Modes).bind fun v2 =>
  some (TSchedule.mk v1 v2)
def s_StartOrder_L2 (b0 : TSchedule) (a9 : List Int) (x10 : Int) : Nat → Int → Option Int
  | 0, _ => none
  | fuel + 1, a18 =>
    Option.bind
    ((bif (decide (0 < a18)) then
    (idxL a9 (W (a18 - 1))).bind fun v23 =>
    (idxL b0.Starts v23).bind fun v24 =>
    some (decide (x10 < v24))
    else
    some false)) fun e21 =>
    (bif e21 then
    s_StartOrder_L2 b0 a9 x10 fuel (W (a18 - 1))
    else
    some a18)
def s_StartOrder_L1 (b0 : TSchedule) : List Int → Int → (List Int) → Option (List Int)
  | [], z8, a9 =>
    some a9
  | x10 :: xs11, z8, a9 =>
    Option.bind
    (s_StartOrder_L2 b0 a9 x10 F0 (a9.length : Int)) fun p26 =>
    (subL a9 0 p26).bind fun v27 =>
    (appL ([] : List Int) v27).bind fun v28 =>
    (appL v28 ([z8] : List Int)).bind fun v29 =>
    (subL a9 p26 (a9.length : Int)).bind fun v30 =>
    (appL v29 v30).bind fun v31 =>
    s_StartOrder_L1 b0 xs11 (z8 + 1) v31
def s_StartOrder (b0 : TSchedule) : Option (List Int) :=
  Option.bind
  (s_StartOrder_L1 b0 b0.Starts 0 ([] : List Int)) fun p32 =>
  some p32
def cmp_isNaN_int (b0 : Int) : Option Bool :=
  some (b0 != b0)
def cmp_Compare_int (b0 : Int) (b1 : Int) : Option Int :=
  (cmp_isNaN_int b0).bind fun v1 =>
  (cmp_isNaN_int b1).bind fun v2 =>
  (bif v1 then
  (bif v2 then
  some 0
  else
  some (-1))
  else
  (bif v2 then
  some 1
  else
  (bif (decide (b0 < b1)) then
  some (-1)
  else
  (bif (decide (b1 < b0)) then
  some 1
  else
  some 0))))
def i_StartOrder_c1 (b0 : Int) (b1 : Int) (c2 : TSchedule) : Option Int :=
  (idxL c2.Starts b0).bind fun v1 =>
  (idxL c2.Starts b1).bind fun v2 =>
  (cmp_Compare_int v1 v2).bind fun v3 =>
  some v3
def slices_insertionSortCmpFunc_int_L2 (b1 : Int) (g3 : Int → Int → Option Int) : Nat → Int → (List Int) → Option (List Int)
  | 0, _, _ => none
  | fuel + 1, a16, a17 =>
    Option.bind
    ((bif (decide (b1 < a16)) then
    (idxL a17 a16).bind fun v22 =>
    (idxL a17 (W (a16 - 1))).bind fun v23 =>
    (g3 v22 v23).bind fun v24 =>
    some (decide (v24 < 0))
    else
    some false)) fun e20 =>
    (bif e20 then
    (idxL a17 (W (a16 - 1))).bind fun v26 =>
    (idxL a17 a16).bind fun v27 =>
    (idxL (setL a17 a16 v26) (W (a16 - 1))).bind fun v28 =>
    slices_insertionSortCmpFunc_int_L2 b1 g3 fuel (W (a16 - 1)) (setL (setL a17 a16 v26) (W (a16 - 1)) v27)
    else
    some a17)
def slices_insertionSortCmpFunc_int_L1 (b1 : Int) (b2 : Int) (g3 : Int → Int → Option Int) : Nat → Int → (List Int) → Option (List Int)
  | 0, _, _ => none
  | fuel + 1, a6, a7 =>
    (bif (decide (a6 < b2)) then
    Option.bind
    (slices_insertionSortCmpFunc_int_L2 b1 g3 F0 a6 a7) fun p29 =>
    slices_insertionSortCmpFunc_int_L1 b1 b2 g3 fuel (W (a6 + 1)) p29
    else
    some a7)
def slices_insertionSortCmpFunc_int (b0 : List Int) (b1 : Int) (b2 : Int) (g3 : Int → Int → Option Int) : Option (List Int) :=
  Option.bind
  (slices_insertionSortCmpFunc_int_L1 b1 b2 g3 F0 (W (b1 + 1)) b0) fun p30 =>
  some p30
def slices_swapRangeCmpFunc_int_L1 (b1 : Int) (b2 : Int) (b3 : Int) : Nat → Int → (List Int) → Option (List Int)
  | 0, _, _ => none
  | fuel + 1, a7, a8 =>
    (bif (decide (a7 < b3)) then
    (idxL a8 (W (b2 + a7))).bind fun v12 =>
    (idxL a8 (W (b1 + a7))).bind fun v13 =>
    (idxL (setL a8 (W (b1 + a7)) v12) (W (b2 + a7))).bind fun v14 =>
    slices_swapRangeCmpFunc_int_L1 b1 b2 b3 fuel (W (a7 + 1)) (setL (setL a8 (W (b1 + a7)) v12) (W (b2 + a7)) v13)
    else
    some a8)
def slices_swapRangeCmpFunc_int (b0 : List Int) (b1 : Int) (b2 : Int) (b3 : Int) (g4 : Int → Int → Option Int) : Option (List Int) :=
  Option.bind
  (slices_swapRangeCmpFunc_int_L1 b1 b2 b3 F0 0 b0) fun p15 =>
  some p15
def slices_rotateCmpFunc_int_L1 (b2 : Int) (g4 : Int → Int → Option Int) : Nat → Int → Int → (List Int) → Option (Int × (List Int))
  | 0, _, _, _ => none
  | fuel + 1, a6, a7, a8 =>
    (bif (a6 != a7) then
    (bif (decide (a7 < a6)) then
    (slices_swapRangeCmpFunc_int a8 (W (b2 - a6)) b2 a7 g4).bind fun v13 =>
    slices_rotateCmpFunc_int_L1 b2 g4 fuel (W (a6 - a7)) a7 v13
    else
    (slices_swapRangeCmpFunc_int a8 (W (b2 - a6)) (W ((W (b2 + a7)) - a6)) a6 g4).bind fun v14 =>
    slices_rotateCmpFunc_int_L1 b2 g4 fuel a6 (W (a7 - a6)) v14)
    else
    some (a6, a8))
def slices_rotateCmpFunc_int (b0 : List Int) (b1 : Int) (b2 : Int) (b3 : Int) (g4 : Int → Int → Option Int) : Option (List Int) :=
  Option.bind
  (slices_rotateCmpFunc_int_L1 b2 g4 F0 (W (b2 - b1)) (W (b3 - b2)) b0) fun p15 =>
  (slices_swapRangeCmpFunc_int p15.2 (W (b2 - p15.1)) b2 p15.1 g4).bind fun v16 =>
  some v16
def slices_symMergeCmpFunc_int_L1 (b0 : List Int) (b1 : Int) (g4 : Int → Int → Option Int) : Nat → Int → Int → Option Int
  | 0, _, _ => none
  | fuel + 1, a7, a8 =>
    (bif (decide (a7 < a8)) then
    (idxL b0 (IntKind.i64.wrap (Int.fdiv (IntKind.u64.wrap (W (a7 + a8))) (2 ^ min (Int.toNat 1) (IntKind.bits .u64))))).bind fun v12 =>
    (idxL b0 b1).bind fun v13 =>
    (g4 v12 v13).bind fun v14 =>
    (bif (decide (v14 < 0)) then
    slices_symMergeCmpFunc_int_L1 b0 b1 g4 fuel (W ((IntKind.i64.wrap (Int.fdiv (IntKind.u64.wrap (W (a7 + a8))) (2 ^ min (Int.toNat 1) (IntKind.bits .u64)))) + 1)) a8
    else
    slices_symMergeCmpFunc_int_L1 b0 b1 g4 fuel a7 (IntKind.i64.wrap (Int.fdiv (IntKind.u64.wrap (W (a7 + a8))) (2 ^ min (Int.toNat 1) (IntKind.bits .u64)))))
    else
    some a7)
def slices_symMergeCmpFunc_int_L2 (p16 : Int) : Nat → Int → (List Int) → Option (List Int)
  | 0, _, _ => none
  | fuel + 1, a22, a23 =>
    (bif (decide (a22 < (W (p16 - 1)))) then
    (idxL a23 (W (a22 + 1))).bind fun v27 =>
    (idxL a23 a22).bind fun v28 =>
    (idxL (setL a23 a22 v27) (W (a22 + 1))).bind fun v29 =>
    slices_symMergeCmpFunc_int_L2 p16 fuel (W (a22 + 1)) (setL (setL a23 a22 v27) (W (a22 + 1)) v28)
    else
    some a23)
def slices_symMergeCmpFunc_int_L3 (b0 : List Int) (b2 : Int) (g4 : Int → Int → Option Int) : Nat → Int → Int → Option Int
  | 0, _, _ => none
  | fuel + 1, a37, a38 =>
    (bif (decide (a37 < a38)) then
    (idxL b0 b2).bind fun v42 =>
    (idxL b0 (IntKind.i64.wrap (Int.fdiv (IntKind.u64.wrap (W (a37 + a38))) (2 ^ min (Int.toNat 1) (IntKind.bits .u64))))).bind fun v43 =>
    (g4 v42 v43).bind fun v44 =>
    (bif (!(decide (v44 < 0))) then
    slices_symMergeCmpFunc_int_L3 b0 b2 g4 fuel (W ((IntKind.i64.wrap (Int.fdiv (IntKind.u64.wrap (W (a37 + a38))) (2 ^ min (Int.toNat 1) (IntKind.bits .u64)))) + 1)) a38
    else
    slices_symMergeCmpFunc_int_L3 b0 b2 g4 fuel a37 (IntKind.i64.wrap (Int.fdiv (IntKind.u64.wrap (W (a37 + a38))) (2 ^ min (Int.toNat 1) (IntKind.bits .u64)))))
    else
    some a37)
def slices_symMergeCmpFunc_int_L4 (p46 : Int) : Nat → Int → (List Int) → Option (List Int)
  | 0, _, _ => none
  | fuel + 1, a52, a53 =>
    (bif (decide (p46 < a52)) then
    (idxL a53 (W (a52 - 1))).bind fun v57 =>
    (idxL a53 a52).bind fun v58 =>
    (idxL (setL a53 a52 v57) (W (a52 - 1))).bind fun v59 =>
    slices_symMergeCmpFunc_int_L4 p46 fuel (W (a52 - 1)) (setL (setL a53 a52 v57) (W (a52 - 1)) v58)
    else
    some a53)
def slices_symMergeCmpFunc_int_L5 (b0 : List Int) (b1 : Int) (b2 : Int) (b3 : Int) (g4 : Int → Int → Option Int) : Nat → Int → Int → Option Int
  | 0, _, _ => none
  | fuel + 1, a72, a73 =>
    (bif (decide (a72 < a73)) then
    (idxL b0 (W ((W ((W ((IntKind.i64.wrap (Int.fdiv (IntKind.u64.wrap (W (b1 + b3))) (2 ^ min (Int.toNat 1) (IntKind.bits .u64)))) + b2)) - 1)) - (IntKind.i64.wrap (Int.fdiv (IntKind.u64.wrap (W (a72 + a73))) (2 ^ min (Int.toNat 1) (IntKind.bits .u64))))))).bind fun v77 =>
    (idxL b0 (IntKind.i64.wrap (Int.fdiv (IntKind.u64.wrap (W (a72 + a73))) (2 ^ min (Int.toNat 1) (IntKind.bits .u64))))).bind fun v78 =>
    (g4 v77 v78).bind fun v79 =>
    (bif (!(decide (v79 < 0))) then
    slices_symMergeCmpFunc_int_L5 b0 b1 b2 b3 g4 fuel (W ((IntKind.i64.wrap (Int.fdiv (IntKind.u64.wrap (W (a72 + a73))) (2 ^ min (Int.toNat 1) (IntKind.bits .u64)))) + 1)) a73
    else
    slices_symMergeCmpFunc_int_L5 b0 b1 b2 b3 g4 fuel a72 (IntKind.i64.wrap (Int.fdiv (IntKind.u64.wrap (W (a72 + a73))) (2 ^ min (Int.toNat 1) (IntKind.bits .u64)))))
    else
    some a72)
def slices_symMergeCmpFunc_int (b0 : List Int) (b1 : Int) (b2 : Int) (b3 : Int) (g4 : Int → Int → Option Int) : Option (List Int) :=
  (bif ((W (b2 - b1)) == 1) then
  Option.bind
  (slices_symMergeCmpFunc_int_L1 b0 b1 g4 F0 b2 b3) fun p16 =>
  Option.bind
  (slices_symMergeCmpFunc_int_L2 p16 F0 b1 b0) fun p30 =>
  some p30
  else
  (bif ((W (b3 - b2)) == 1) then
  Option.bind
  (slices_symMergeCmpFunc_int_L3 b0 b2 g4 F0 b1 b2) fun p46 =>
  Option.bind
  (slices_symMergeCmpFunc_int_L4 p46 F0 b2 b0) fun p60 =>
  some p60
  else
  Option.bind
  ((bif (decide ((IntKind.i64.wrap (Int.fdiv (IntKind.u64.wrap (W (b1 + b3))) (2 ^ min (Int.toNat 1) (IntKind.bits .u64)))) < b2)) then
  some ((W ((W ((IntKind.i64.wrap (Int.fdiv (IntKind.u64.wrap (W (b1 + b3))) (2 ^ min (Int.toNat 1) (IntKind.bits .u64)))) + b2)) - b3)), (IntKind.i64.wrap (Int.fdiv (IntKind.u64.wrap (W (b1 + b3))) (2 ^ min (Int.toNat 1) (IntKind.bits .u64)))))
  else
  some (b1, b2))) fun p66 =>
  Option.bind
  (slices_symMergeCmpFunc_int_L5 b0 b1 b2 b3 g4 F0 p66.1 p66.2) fun p81 =>
  Option.bind
  ((bif (decide (p81 < b2)) then
  some (decide (b2 < (W ((W ((IntKind.i64.wrap (Int.fdiv (IntKind.u64.wrap (W (b1 + b3))) (2 ^ min (Int.toNat 1) (IntKind.bits .u64)))) + b2)) - p81))))
  else
  some false)) fun e82 =>
  Option.bind
  ((bif e82 then
  (slices_rotateCmpFunc_int b0 p81 b2 (W ((W ((IntKind.i64.wrap (Int.fdiv (IntKind.u64.wrap (W (b1 + b3))) (2 ^ min (Int.toNat 1) (IntKind.bits .u64)))) + b2)) - p81)) g4).bind fun v89 =>
  some v89
  else
  some b0)) fun p90 =>
  Option.bind
  ((bif (decide (b1 < p81)) then
  some (decide (p81 < (IntKind.i64.wrap (Int.fdiv (IntKind.u64.wrap (W (b1 + b3))) (2 ^ min (Int.toNat 1) (IntKind.bits .u64))))))
  else
  some false)) fun e91 =>
  Option.bind
  ((bif e91 then
  none
  else
  some ())) fun p98 =>
  Option.bind
  ((bif (decide ((IntKind.i64.wrap (Int.fdiv (IntKind.u64.wrap (W (b1 + b3))) (2 ^ min (Int.toNat 1) (IntKind.bits .u64)))) < (W ((W ((IntKind.i64.wrap (Int.fdiv (IntKind.u64.wrap (W (b1 + b3))) (2 ^ min (Int.toNat 1) (IntKind.bits .u64)))) + b2)) - p81)))) then
  some (decide ((W ((W ((IntKind.i64.wrap (Int.fdiv (IntKind.u64.wrap (W (b1 + b3))) (2 ^ min (Int.toNat 1) (IntKind.bits .u64)))) + b2)) - p81)) < b3))
  else
  some false)) fun e99 =>
  (bif e99 then
  none
  else
  some p90)))
def slices_stableCmpFunc_int_L1 (b1 : Int) (g2 : Int → Int → Option Int) : Nat → Int → Int → (List Int) → Option (Int × (List Int))
  | 0, _, _, _ => none
  | fuel + 1, a6, a7, a8 =>
    (bif (decide (a7 ≤ b1)) then
    (slices_insertionSortCmpFunc_int a8 a6 a7 g2).bind fun v12 =>
    slices_stableCmpFunc_int_L1 b1 g2 fuel a7 (W (a7 + 20)) v12
    else
    some (a6, a8))
def slices_stableCmpFunc_int_L3 (b1 : Int) (g2 : Int → Int → Option Int) (a20 : Int) : Nat → Int → Int → (List Int) → Option (Int × (List Int))
  | 0, _, _, _ => none
  | fuel + 1, a30, a31, a32 =>
    (bif (decide (a31 ≤ b1)) then
    (slices_symMergeCmpFunc_int a32 a30 (W (a30 + a20)) a31 g2).bind fun v36 =>
    slices_stableCmpFunc_int_L3 b1 g2 a20 fuel a31 (W (a31 + (W (2 * a20)))) v36
    else
    some (a30, a32))
def slices_stableCmpFunc_int_L2 (b1 : Int) (g2 : Int → Int → Option Int) : Nat → Int → (List Int) → Option (List Int)
  | 0, _, _ => none
  | fuel + 1, a20, a21 =>
    (bif (decide (a20 < b1)) then
    Option.bind
    (slices_stableCmpFunc_int_L3 b1 g2 a20 F0 0 (W (2 * a20)) a21) fun p37 =>
    (bif (decide ((W (p37.1 + a20)) < b1)) then
    (slices_symMergeCmpFunc_int p37.2 p37.1 (W (p37.1 + a20)) b1 g2).bind fun v39 =>
    slices_stableCmpFunc_int_L2 b1 g2 fuel (W (a20 * 2)) v39
    else
    slices_stableCmpFunc_int_L2 b1 g2 fuel (W (a20 * 2)) p37.2)
    else
    some a21)
def slices_stableCmpFunc_int (b0 : List Int) (b1 : Int) (g2 : Int → Int → Option Int) : Option (List Int) :=
  Option.bind
  (slices_stableCmpFunc_int_L1 b1 g2 F0 0 20 b0) fun p13 =>
  (slices_insertionSortCmpFunc_int p13.2 p13.1 b1 g2).bind fun v14 =>
  Option.bind
  (slices_stableCmpFunc_int_L2 b1 g2 F0 20 v14) fun p40 =>
  some p40
def slices_SortStableFunc_int (b0 : List Int) (g1 : Int → Int → Option Int) : Option (List Int) :=
  (slices_stableCmpFunc_int b0 (b0.length : Int) g1).bind fun v1 =>
  some v1
def s_l11Sign (b0 : Int) (b1 : Int) : Option Int :=
  (bif (decide (b0 < b1)) then
  some (-1)
  else
  (bif (decide (b1 < b0)) then
  some 1
  else
  some 0))
def s_CompareLiterals (b0 : TLiteral) (b1 : TLiteral) : Option Int :=
  (bif (b0.Activity != b1.Activity) then
  (s_l11Sign b0.Activity b1.Activity).bind fun v2 =>
  some v2
  else
  (bif (b0.Kind != b1.Kind) then
  (s_l11Sign b0.Kind b1.Kind).bind fun v4 =>
  some v4
  else
  (s_l11Sign b0.Value b1.Value).bind fun v5 =>
  some v5))
def s_NewClause_L2 (a9 : List TLiteral) (x10 : TLiteral) : Nat → Int → Option Int
  | 0, _ => none
  | fuel + 1, a18 =>
    Option.bind
    ((bif (decide (a18 < (a9.length : Int))) then
    (idxL a9 a18).bind fun v23 =>
    (s_CompareLiterals v23 x10).bind fun v24 =>
    some (decide (v24 < 0))
    else
    some false)) fun e21 =>
    (bif e21 then
    s_NewClause_L2 a9 x10 fuel (W (a18 + 1))
    else
    some a18)
def s_NewClause_L1  : List TLiteral → Int → (List TLiteral) → Option (List TLiteral)
  | [], z8, a9 =>
    some a9
  | x10 :: xs11, z8, a9 =>
    Option.bind
    (s_NewClause_L2 a9 x10 F0 0) fun p26 =>
    Option.bind
    ((bif (decide (p26 < (a9.length : Int))) then
    (idxL a9 p26).bind fun v29 =>
    some (v29.Kind == x10.Kind && (v29.Activity == x10.Activity && (v29.Value == x10.Value && true)))
    else
    some false)) fun e27 =>
    (bif e27 then
    s_NewClause_L1 xs11 (z8 + 1) a9
    else
    (subL a9 0 p26).bind fun v31 =>
    (appL ([] : List TLiteral) v31).bind fun v32 =>
    (appL v32 ([x10] : List TLiteral)).bind fun v33 =>
    (subL a9 p26 (a9.length : Int)).bind fun v34 =>
    (appL v33 v34).bind fun v35 =>
    s_NewClause_L1 xs11 (z8 + 1) v35)
def s_NewClause (b0 : List TLiteral) : Option (List TLiteral) :=
  Option.bind
  (s_NewClause_L1 b0 0 ([] : List TLiteral)) fun p36 =>
  some p36
def s_Negate (b0 : TLiteral) : Option TLiteral :=
  (s_l01In b0.Value (-100000) 100000).bind fun v1 =>
  (bif (!v1) then
  some (TLiteral.mk 0 0 0)
  else
  (bif (b0.Kind == 1) then
  some (TLiteral.mk 2 b0.Activity (W (b0.Value - 1)))
  else
  (bif (b0.Kind == 2) then
  some (TLiteral.mk 1 b0.Activity (W (b0.Value + 1)))
  else
  (bif (b0.Kind == 3) then
  some (TLiteral.mk 4 b0.Activity b0.Value)
  else
  (bif (b0.Kind == 4) then
  some (TLiteral.mk 3 b0.Activity b0.Value)
  else
  some (TLiteral.mk 0 0 0))))))
def s_Resolve_L1 (b2 : TLiteral) : List TLiteral → Int → (List TLiteral) → Option (List TLiteral)
  | [], z8, a9 =>
    some a9
  | x10 :: xs11, z8, a9 =>
    (bif (!(x10.Kind == b2.Kind && (x10.Activity == b2.Activity && (x10.Value == b2.Value && true)))) then
    (appL a9 ([x10] : List TLiteral)).bind fun v14 =>
    s_Resolve_L1 b2 xs11 (z8 + 1) v14
    else
    s_Resolve_L1 b2 xs11 (z8 + 1) a9)
def s_Resolve_L2 (b2 : TLiteral) : List TLiteral → Int → (List TLiteral) → Option (List TLiteral)
  | [], z23, a24 =>
    some a24
  | x25 :: xs26, z23, a24 =>
    (s_Negate b2).bind fun v28 =>
    (bif (!(x25.Kind == v28.Kind && (x25.Activity == v28.Activity && (x25.Value == v28.Value && true)))) then
    (appL a24 ([x25] : List TLiteral)).bind fun v30 =>
    s_Resolve_L2 b2 xs26 (z23 + 1) v30
    else
    s_Resolve_L2 b2 xs26 (z23 + 1) a24)
def s_Resolve (b0 : List TLiteral) (b1 : List TLiteral) (b2 : TLiteral) : Option (List TLiteral) :=
  Option.bind
  (s_Resolve_L1 b2 b0 0 ([] : List TLiteral)) fun p15 =>
  Option.bind
  (s_Resolve_L2 b2 b1 0 p15) fun p31 =>
  (s_NewClause p31).bind fun v32 =>
  some v32
def w_eqLiteralSS_L1 (b1 : List (List TLiteral)) : List (List TLiteral) → Int → Option (Unit ⊕ Bool)
  | [], z9 =>
    some (Sum.inl ())
  | x10 :: xs11, z9 =>
    (idxL b1 z9).bind fun v13 =>
    (w_eqLiteralS x10 v13).bind fun v14 =>
    (bif (!v14) then
    some (Sum.inr false)
    else
    w_eqLiteralSS_L1 b1 xs11 (z9 + 1))
def w_eqLiteralSS (b0 : List (List TLiteral)) (b1 : List (List TLiteral)) : Option Bool :=
  (bif ((b0.length : Int) != (b1.length : Int)) then
  some false
  else
  sumBind
  (w_eqLiteralSS_L1 b1 b0 0)
  (fun q17 => some q17) fun p16 =>
  some true)
def w_heldLiteralS_L1  : List TLiteral → Int → Int → Option (Int ⊕ Int)
  | [], z8, a9 =>
    some (Sum.inl a9)
  | x10 :: xs11, z8, a9 =>
    (bif (x10.Kind != a9) then
    some (Sum.inr (-1))
    else
    (bif (x10.Activity != (W (a9 + 1))) then
    some (Sum.inr (-1))
    else
    (bif (x10.Value != (W ((W (a9 + 1)) + 1))) then
    some (Sum.inr (-1))
    else
    w_heldLiteralS_L1 xs11 (z8 + 1) (W ((W ((W (a9 + 1)) + 1)) + 1)))))
def w_heldLiteralS (b0 : List TLiteral) (b1 : Int) : Option Int :=
  sumBind
  (w_heldLiteralS_L1 b0 0 b1)
  (fun q17 => some q17) fun p16 =>
  some p16
def w_heldLiteralSS_L1  : List (List TLiteral) → Int → Int → Option (Int ⊕ Int)
  | [], z8, a9 =>
    some (Sum.inl a9)
  | x10 :: xs11, z8, a9 =>
    (w_heldLiteralS x10 a9).bind fun v13 =>
    (bif (decide (v13 < 0)) then
    some (Sum.inr (-1))
    else
    w_heldLiteralSS_L1 xs11 (z8 + 1) v13)
def w_heldLiteralSS (b0 : List (List TLiteral)) (b1 : Int) : Option Int :=
  sumBind
  (w_heldLiteralSS_L1 b0 0 b1)
  (fun q16 => some q16) fun p15 =>
  some p15
def w_eqSchedule (b0 : TSchedule) (b1 : TSchedule) : Option Bool :=
  (w_eqIntS b0.Starts b1.Starts).bind fun v1 =>
  (bif (!v1) then
  some false
  else
  (w_eqIntS b0.Modes b1.Modes).bind fun v3 =>
  (bif (!v3) then
  some false
  else
  some true))
def w_markLiteralS_L1  : Nat → Int → Int → (List TLiteral) → Option (Int × (List TLiteral))
  | 0, _, _, _ => none
  | fuel + 1, a7, a8, a9 =>
    (bif (decide (a8 < (a9.length : Int))) then
    (idxL a9 a8).bind fun v13 =>
    (idxL (setL a9 a8 (TLiteral.mk a7 v13.Activity v13.Value)) a8).bind fun v14 =>
    (idxL (setL (setL a9 a8 (TLiteral.mk a7 v13.Activity v13.Value)) a8 (TLiteral.mk v14.Kind (W (a7 + 1)) v14.Value)) a8).bind fun v15 =>
    w_markLiteralS_L1 fuel (W ((W ((W (a7 + 1)) + 1)) + 1)) (W (a8 + 1)) (setL (setL (setL a9 a8 (TLiteral.mk a7 v13.Activity v13.Value)) a8 (TLiteral.mk v14.Kind (W (a7 + 1)) v14.Value)) a8 (TLiteral.mk v15.Kind v15.Activity (W ((W (a7 + 1)) + 1))))
    else
    some (a7, a9))
def w_markLiteralS (b0 : List TLiteral) (b1 : Int) : Option (Int × (List TLiteral)) :=
  Option.bind
  (w_markLiteralS_L1 F0 b1 0 b0) fun p16 =>
  some (p16.1, p16.2)
def math_bits_Len64 (b0 : Int) : Option Int :=
  Option.bind
  ((bif (decide (4294967296 ≤ b0)) then
  some ((Int.fdiv b0 (2 ^ min (Int.toNat 32) (IntKind.bits .u64))), 32)
  else
  some (b0, 0))) fun p6 =>
  Option.bind
  ((bif (decide (65536 ≤ p6.1)) then
  some ((Int.fdiv p6.1 (2 ^ min (Int.toNat 16) (IntKind.bits .u64))), (W (p6.2 + 16)))
  else
  some (p6.1, p6.2))) fun p12 =>
  Option.bind
  ((bif (decide (256 ≤ p12.1)) then
  some ((Int.fdiv p12.1 (2 ^ min (Int.toNat 8) (IntKind.bits .u64))), (W (p12.2 + 8)))
  else
  some (p12.1, p12.2))) fun p18 =>
  (idxS (⟨#[0, 1, 2, 2, 3, 3, 3, 3, 4, 4, 4, 4, 4, 4, 4, 4, 5, 5, 5, 5, 5, 5, 5, 5, 5, 5, 5, 5, 5, 5, 5, 5, 6, 6, 6, 6, 6, 6, 6, 6, 6, 6, 6, 6, 6, 6, 6, 6, 6, 6, 6, 6, 6, 6, 6, 6, 6, 6, 6, 6, 6, 6, 6, 6, 7, 7, 7, 7, 7, 7, 7, 7, 7, 7, 7, 7, 7, 7, 7, 7, 7, 7, 7, 7, 7, 7, 7, 7, 7, 7, 7, 7, 7, 7, 7, 7, 7, 7, 7, 7, 7, 7, 7, 7, 7, 7, 7, 7, 7, 7, 7, 7, 7, 7, 7, 7, 7, 7, 7, 7, 7, 7, 7, 7, 7, 7, 7, 7, 8, 8, 8, 8, 8, 8, 8, 8, 8, 8, 8, 8, 8, 8, 8, 8, 8, 8, 8, 8, 8, 8, 8, 8, 8, 8, 8, 8, 8, 8, 8, 8, 8, 8, 8, 8, 8, 8, 8, 8, 8, 8, 8, 8, 8, 8, 8, 8, 8, 8, 8, 8, 8, 8, 8, 8, 8, 8, 8, 8, 8, 8, 8, 8, 8, 8, 8, 8, 8, 8, 8, 8, 8, 8, 8, 8, 8, 8, 8, 8, 8, 8, 8, 8, 8, 8, 8, 8, 8, 8, 8, 8, 8, 8, 8, 8, 8, 8, 8, 8, 8, 8, 8, 8, 8, 8, 8, 8, 8, 8, 8, 8, 8, 8, 8, 8, 8, 8, 8, 8, 8, 8, 8, 8, 8, 8, 8, 8]⟩ : ByteArray) (IntKind.u8.wrap p18.1)).bind fun v19 =>
  some (W (p18.2 + (IntKind.i64.wrap v19)))
def math_bits_Len (b0 : Int) : Option Int :=
  (math_bits_Len64 b0).bind fun v1 =>
  some v1
def slices_insertionSortCmpFunc_Literal_L2 (b1 : Int) (g3 : TLiteral → TLiteral → Option Int) : Nat → Int → (List TLiteral) → Option (List TLiteral)
  | 0, _, _ => none
  | fuel + 1, a16, a17 =>
    Option.bind
    ((bif (decide (b1 < a16)) then
    (idxL a17 a16).bind fun v22 =>
    (idxL a17 (W (a16 - 1))).bind fun v23 =>
    (g3 v22 v23).bind fun v24 =>
    some (decide (v24 < 0))
    else
    some false)) fun e20 =>
    (bif e20 then
    (idxL a17 (W (a16 - 1))).bind fun v26 =>
    (idxL a17 a16).bind fun v27 =>
    (idxL (setL a17 a16 v26) (W (a16 - 1))).bind fun v28 =>
    slices_insertionSortCmpFunc_Literal_L2 b1 g3 fuel (W (a16 - 1)) (setL (setL a17 a16 v26) (W (a16 - 1)) v27)
    else
    some a17)
def slices_insertionSortCmpFunc_Literal_L1 (b1 : Int) (b2 : Int) (g3 : TLiteral → TLiteral → Option Int) : Nat → Int → (List TLiteral) → Option (List TLiteral)
  | 0, _, _ => none
  | fuel + 1, a6, a7 =>
    (bif (decide (a6 < b2)) then
    Option.bind
    (slices_insertionSortCmpFunc_Literal_L2 b1 g3 F0 a6 a7) fun p29 =>
    slices_insertionSortCmpFunc_Literal_L1 b1 b2 g3 fuel (W (a6 + 1)) p29
    else
    some a7)
def slices_insertionSortCmpFunc_Literal (b0 : List TLiteral) (b1 : Int) (b2 : Int) (g3 : TLiteral → TLiteral → Option Int) : Option (List TLiteral) :=
  Option.bind
  (slices_insertionSortCmpFunc_Literal_L1 b1 b2 g3 F0 (W (b1 + 1)) b0) fun p30 =>
  some p30
def slices_siftDownCmpFunc_Literal_L1 (b2 : Int) (b3 : Int) (g4 : TLiteral → TLiteral → Option Int) : Nat → Int → (List TLiteral) → Option ((List TLiteral) ⊕ (List TLiteral))
  | 0, _, _ => none
  | fuel + 1, a6, a7 =>
    (bif (decide (b2 ≤ (W ((W (2 * a6)) + 1)))) then
    some (Sum.inl a7)
    else
    Option.bind
    ((bif (decide ((W ((W ((W (2 * a6)) + 1)) + 1)) < b2)) then
    (idxL a7 (W (b3 + (W ((W (2 * a6)) + 1))))).bind fun v13 =>
    (idxL a7 (W ((W (b3 + (W ((W (2 * a6)) + 1)))) + 1))).bind fun v14 =>
    (g4 v13 v14).bind fun v15 =>
    some (decide (v15 < 0))
    else
    some false)) fun e11 =>
    Option.bind
    ((bif e11 then
    some (W ((W ((W (2 * a6)) + 1)) + 1))
    else
    some (W ((W (2 * a6)) + 1)))) fun p21 =>
    (idxL a7 (W (b3 + a6))).bind fun v22 =>
    (idxL a7 (W (b3 + p21))).bind fun v23 =>
    (g4 v22 v23).bind fun v24 =>
    (bif (!(decide (v24 < 0))) then
    some (Sum.inr a7)
    else
    (idxL (setL a7 (W (b3 + a6)) v23) (W (b3 + p21))).bind fun v26 =>
    slices_siftDownCmpFunc_Literal_L1 b2 b3 g4 fuel p21 (setL (setL a7 (W (b3 + a6)) v23) (W (b3 + p21)) v22)))
def slices_siftDownCmpFunc_Literal (b0 : List TLiteral) (b1 : Int) (b2 : Int) (b3 : Int) (g4 : TLiteral → TLiteral → Option Int) : Option (List TLiteral) :=
  sumBind
  (slices_siftDownCmpFunc_Literal_L1 b2 b3 g4 F0 b1 b0)
  (fun q28 => some q28) fun p27 =>
  some p27
def slices_heapSortCmpFunc_Literal_L1 (b1 : Int) (b2 : Int) (g3 : TLiteral → TLiteral → Option Int) : Nat → Int → (List TLiteral) → Option (List TLiteral)
  | 0, _, _ => none
  | fuel + 1, a6, a7 =>
    (bif (decide (0 ≤ a6)) then
    (slices_siftDownCmpFunc_Literal a7 a6 (W (b2 - b1)) b1 g3).bind fun v11 =>
    slices_heapSortCmpFunc_Literal_L1 b1 b2 g3 fuel (W (a6 - 1)) v11
    else
    some a7)
def slices_heapSortCmpFunc_Literal_L2 (b1 : Int) (g3 : TLiteral → TLiteral → Option Int) : Nat → Int → (List TLiteral) → Option (List TLiteral)
  | 0, _, _ => none
  | fuel + 1, a18, a19 =>
    (bif (decide (0 ≤ a18)) then
    (idxL a19 (W (b1 + a18))).bind fun v23 =>
    (idxL a19 b1).bind fun v24 =>
    (idxL (setL a19 b1 v23) (W (b1 + a18))).bind fun v25 =>
    (slices_siftDownCmpFunc_Literal (setL (setL a19 b1 v23) (W (b1 + a18)) v24) 0 a18 b1 g3).bind fun v26 =>
    slices_heapSortCmpFunc_Literal_L2 b1 g3 fuel (W (a18 - 1)) v26
    else
    some a19)
def slices_heapSortCmpFunc_Literal (b0 : List TLiteral) (b1 : Int) (b2 : Int) (g3 : TLiteral → TLiteral → Option Int) : Option (List TLiteral) :=
  Option.bind
  (slices_heapSortCmpFunc_Literal_L1 b1 b2 g3 F0 (W ((W ((W (b2 - b1)) - 1)).tdiv 2)) b0) fun p12 =>
  Option.bind
  (slices_heapSortCmpFunc_Literal_L2 b1 g3 F0 (W ((W (b2 - b1)) - 1)) p12) fun p27 =>
  some p27
def slices_medianAdjacentCmpFunc_Literal (b0 : List TLiteral) (b1 : Int) (b2 : Int) (g3 : TLiteral → TLiteral → Option Int) : Option (Int × Int) :=
  none
def slices_pdqsortCmpFunc_Literal_L1 (b0 : List TLiteral) (b1 : Int) (b2 : Int) (b3 : Int) (g4 : TLiteral → TLiteral → Option Int) : Nat → Option (List TLiteral)
  | 0 => none
  | fuel + 1 =>
    (bif (decide ((W (b2 - b1)) ≤ 12)) then
    (slices_insertionSortCmpFunc_Literal b0 b1 b2 g4).bind fun v9 =>
    some v9
    else
    (bif (b3 == 0) then
    (slices_heapSortCmpFunc_Literal b0 b1 b2 g4).bind fun v11 =>
    some v11
    else
    none))
def slices_pdqsortCmpFunc_Literal (b0 : List TLiteral) (b1 : Int) (b2 : Int) (b3 : Int) (g4 : TLiteral → TLiteral → Option Int) : Option (List TLiteral) :=
  Option.bind
  (slices_pdqsortCmpFunc_Literal_L1 b0 b1 b2 b3 g4 F0) (fun q13 => some q13)
def slices_SortFunc_Literal (b0 : List TLiteral) (g1 : TLiteral → TLiteral → Option Int) : Option (List TLiteral) :=
  (math_bits_Len (IntKind.u64.wrap (b0.length : Int))).bind fun v1 =>
  (slices_pdqsortCmpFunc_Literal b0 0 (b0.length : Int) v1 g1).bind fun v2 =>
  some v2
def cmp_Or_int_L1  : List Int → Int → Option (Unit ⊕ Int)
  | [], z8 =>
    some (Sum.inl ())
  | x9 :: xs10, z8 =>
    (bif (x9 != 0) then
    some (Sum.inr x9)
    else
    cmp_Or_int_L1 xs10 (z8 + 1))
def cmp_Or_int (b0 : List Int) : Option Int :=
  sumBind
  (cmp_Or_int_L1 b0 0)
  (fun q14 => some q14) fun p13 =>
  some 0
def i_CompareLiterals (b0 : TLiteral) (b1 : TLiteral) : Option Int :=
  (cmp_Compare_int b0.Activity b1.Activity).bind fun v1 =>
  (cmp_Compare_int b0.Kind b1.Kind).bind fun v2 =>
  (cmp_Compare_int b0.Value b1.Value).bind fun v3 =>
  (cmp_Or_int ([v1, v2, v3] : List Int)).bind fun v4 =>
  some v4
def i_Negate (b0 : TLiteral) : Option TLiteral :=
  (i_within b0.Value (-100000) 100000).bind fun v1 =>
  (bif (!v1) then
  some (TLiteral.mk 0 0 0)
  else
  (bif (b0.Kind == 1) then
  some (TLiteral.mk 2 b0.Activity (W (b0.Value - 1)))
  else
  (bif (b0.Kind == 2) then
  some (TLiteral.mk 1 b0.Activity (W (b0.Value + 1)))
  else
  (bif (b0.Kind == 3) then
  some (TLiteral.mk 4 b0.Activity b0.Value)
  else
  (bif (b0.Kind == 4) then
  some (TLiteral.mk 3 b0.Activity b0.Value)
  else
  some (TLiteral.mk 0 0 0))))))
def slices_IndexFunc_Literal_L1 (g1 : TLiteral → Option Bool) : List TLiteral → Int → Option (Unit ⊕ Int)
  | [], z8 =>
    some (Sum.inl ())
  | x9 :: xs10, z8 =>
    (g1 x9).bind fun v12 =>
    (bif v12 then
    some (Sum.inr z8)
    else
    slices_IndexFunc_Literal_L1 g1 xs10 (z8 + 1))
def slices_IndexFunc_Literal (b0 : List TLiteral) (g1 : TLiteral → Option Bool) : Option Int :=
  sumBind
  (slices_IndexFunc_Literal_L1 g1 b0 0)
  (fun q15 => some q15) fun p14 =>
  some (-1)
def slices_reverseRangeCmpFunc_Literal_L1  : Nat → Int → Int → (List TLiteral) → Option (List TLiteral)
  | 0, _, _, _ => none
  | fuel + 1, a6, a7, a8 =>
    (bif (decide (a6 < a7)) then
    (idxL a8 a7).bind fun v12 =>
    (idxL a8 a6).bind fun v13 =>
    (idxL (setL a8 a6 v12) a7).bind fun v14 =>
    slices_reverseRangeCmpFunc_Literal_L1 fuel (W (a6 + 1)) (W (a7 - 1)) (setL (setL a8 a6 v12) a7 v13)
    else
    some a8)
def slices_reverseRangeCmpFunc_Literal (b0 : List TLiteral) (b1 : Int) (b2 : Int) (g3 : TLiteral → TLiteral → Option Int) : Option (List TLiteral) :=
  Option.bind
  (slices_reverseRangeCmpFunc_Literal_L1 F0 b1 (W (b2 - 1)) b0) fun p15 =>
  some p15
def slices_partialInsertionSortCmpFunc_Literal_L2 (b2 : Int) (g3 : TLiteral → TLiteral → Option Int) (a9 : List TLiteral) : Nat → Int → Option Int
  | 0, _ => none
  | fuel + 1, a18 =>
    Option.bind
    ((bif (decide (a18 < b2)) then
    (idxL a9 a18).bind fun v23 =>
    (idxL a9 (W (a18 - 1))).bind fun v24 =>
    (g3 v23 v24).bind fun v25 =>
    some (!(decide (v25 < 0)))
    else
    some false)) fun e21 =>
    (bif e21 then
    slices_partialInsertionSortCmpFunc_Literal_L2 b2 g3 a9 fuel (W (a18 + 1))
    else
    some a18)
def slices_partialInsertionSortCmpFunc_Literal_L3 (g3 : TLiteral → TLiteral → Option Int) : Nat → Int → (List TLiteral) → Option (List TLiteral)
  | 0, _, _ => none
  | fuel + 1, a43, a44 =>
    (bif (decide (1 ≤ a43)) then
    (idxL a44 a43).bind fun v48 =>
    (idxL a44 (W (a43 - 1))).bind fun v49 =>
    (g3 v48 v49).bind fun v50 =>
    (bif (!(decide (v50 < 0))) then
    some a44
    else
    (idxL (setL a44 a43 v49) (W (a43 - 1))).bind fun v52 =>
    slices_partialInsertionSortCmpFunc_Literal_L3 g3 fuel (W (a43 - 1)) (setL (setL a44 a43 v49) (W (a43 - 1)) v48))
    else
    some a44)
def slices_partialInsertionSortCmpFunc_Literal_L4 (b2 : Int) (g3 : TLiteral → TLiteral → Option Int) : Nat → Int → (List TLiteral) → Option (List TLiteral)
  | 0, _, _ => none
  | fuel + 1, a61, a62 =>
    (bif (decide (a61 < b2)) then
    (idxL a62 a61).bind fun v66 =>
    (idxL a62 (W (a61 - 1))).bind fun v67 =>
    (g3 v66 v67).bind fun v68 =>
    (bif (!(decide (v68 < 0))) then
    some a62
    else
    (idxL (setL a62 a61 v67) (W (a61 - 1))).bind fun v70 =>
    slices_partialInsertionSortCmpFunc_Literal_L4 b2 g3 fuel (W (a61 + 1)) (setL (setL a62 a61 v67) (W (a61 - 1)) v66))
    else
    some a62)
def slices_partialInsertionSortCmpFunc_Literal_L1 (b1 : Int) (b2 : Int) (g3 : TLiteral → TLiteral → Option Int) : Nat → Int → Int → (List TLiteral) → Option ((List TLiteral) ⊕ (Bool × (List TLiteral)))
  | 0, _, _, _ => none
  | fuel + 1, a7, a8, a9 =>
    (bif (decide (a8 < 5)) then
    Option.bind
    (slices_partialInsertionSortCmpFunc_Literal_L2 b2 g3 a9 F0 a7) fun p27 =>
    (bif (p27 == b2) then
    some (Sum.inr (true, a9))
    else
    (bif (decide ((W (b2 - b1)) < 50)) then
    some (Sum.inr (false, a9))
    else
    (idxL a9 (W (p27 - 1))).bind fun v30 =>
    (idxL a9 p27).bind fun v31 =>
    (idxL (setL a9 p27 v30) (W (p27 - 1))).bind fun v32 =>
    Option.bind
    ((bif (decide (2 ≤ (W (p27 - b1)))) then
    Option.bind
    (slices_partialInsertionSortCmpFunc_Literal_L3 g3 F0 (W (p27 - 1)) (setL (setL a9 p27 v30) (W (p27 - 1)) v31)) fun p53 =>
    some p53
    else
    some (setL (setL a9 p27 v30) (W (p27 - 1)) v31))) fun p54 =>
    (bif (decide (2 ≤ (W (b2 - p27)))) then
    Option.bind
    (slices_partialInsertionSortCmpFunc_Literal_L4 b2 g3 F0 (W (p27 + 1)) p54) fun p71 =>
    slices_partialInsertionSortCmpFunc_Literal_L1 b1 b2 g3 fuel p27 (W (a8 + 1)) p71
    else
    slices_partialInsertionSortCmpFunc_Literal_L1 b1 b2 g3 fuel p27 (W (a8 + 1)) p54)))
    else
    some (Sum.inl a9))
def slices_partialInsertionSortCmpFunc_Literal (b0 : List TLiteral) (b1 : Int) (b2 : Int) (g3 : TLiteral → TLiteral → Option Int) : Option (Bool × (List TLiteral)) :=
  sumBind
  (slices_partialInsertionSortCmpFunc_Literal_L1 b1 b2 g3 F0 (W (b1 + 1)) 0 b0)
  (fun q73 => some q73) fun p72 =>
  some (false, p72)
def slices_partitionEqualCmpFunc_Literal_L2 (b1 : Int) (g4 : TLiteral → TLiteral → Option Int) (a10 : Int) (a11 : List TLiteral) : Nat → Int → Option Int
  | 0, _ => none
  | fuel + 1, a19 =>
    Option.bind
    ((bif (decide (a19 ≤ a10)) then
    (idxL a11 b1).bind fun v24 =>
    (idxL a11 a19).bind fun v25 =>
    (g4 v24 v25).bind fun v26 =>
    some (!(decide (v26 < 0)))
    else
    some false)) fun e22 =>
    (bif e22 then
    slices_partitionEqualCmpFunc_Literal_L2 b1 g4 a10 a11 fuel (W (a19 + 1))
    else
    some a19)
def slices_partitionEqualCmpFunc_Literal_L3 (b1 : Int) (g4 : TLiteral → TLiteral → Option Int) (a11 : List TLiteral) (p28 : Int) : Nat → Int → Option Int
  | 0, _ => none
  | fuel + 1, a34 =>
    Option.bind
    ((bif (decide (p28 ≤ a34)) then
    (idxL a11 b1).bind fun v39 =>
    (idxL a11 a34).bind fun v40 =>
    (g4 v39 v40).bind fun v41 =>
    some (decide (v41 < 0))
    else
    some false)) fun e37 =>
    (bif e37 then
    slices_partitionEqualCmpFunc_Literal_L3 b1 g4 a11 p28 fuel (W (a34 - 1))
    else
    some a34)
def slices_partitionEqualCmpFunc_Literal_L1 (b1 : Int) (g4 : TLiteral → TLiteral → Option Int) : Nat → Int → Int → (List TLiteral) → Option (Int × (List TLiteral))
  | 0, _, _, _ => none
  | fuel + 1, a9, a10, a11 =>
    Option.bind
    (slices_partitionEqualCmpFunc_Literal_L2 b1 g4 a10 a11 F0 a9) fun p28 =>
    Option.bind
    (slices_partitionEqualCmpFunc_Literal_L3 b1 g4 a11 p28 F0 a10) fun p43 =>
    (bif (decide (p43 < p28)) then
    some (p28, a11)
    else
    (idxL a11 p43).bind fun v45 =>
    (idxL a11 p28).bind fun v46 =>
    (idxL (setL a11 p28 v45) p43).bind fun v47 =>
    slices_partitionEqualCmpFunc_Literal_L1 b1 g4 fuel (W (p28 + 1)) (W (p43 - 1)) (setL (setL a11 p28 v45) p43 v46))
def slices_partitionEqualCmpFunc_Literal (b0 : List TLiteral) (b1 : Int) (b2 : Int) (b3 : Int) (g4 : TLiteral → TLiteral → Option Int) : Option (Int × (List TLiteral)) :=
  (idxL b0 b3).bind fun v1 =>
  (idxL b0 b1).bind fun v2 =>
  (idxL (setL b0 b1 v1) b3).bind fun v3 =>
  Option.bind
  (slices_partitionEqualCmpFunc_Literal_L1 b1 g4 F0 (W (b1 + 1)) (W (b2 - 1)) (setL (setL b0 b1 v1) b3 v2)) fun p48 =>
  some (p48.1, p48.2)
def math_bits_Len32 (b0 : Int) : Option Int :=
  Option.bind
  ((bif (decide (65536 ≤ b0)) then
  some ((Int.fdiv b0 (2 ^ min (Int.toNat 16) (IntKind.bits .u32))), 16)
  else
  some (b0, 0))) fun p6 =>
  Option.bind
  ((bif (decide (256 ≤ p6.1)) then
  some ((Int.fdiv p6.1 (2 ^ min (Int.toNat 8) (IntKind.bits .u32))), (W (p6.2 + 8)))
  else
  some (p6.1, p6.2))) fun p12 =>
  (idxS (⟨#[0, 1, 2, 2, 3, 3, 3, 3, 4, 4, 4, 4, 4, 4, 4, 4, 5, 5, 5, 5, 5, 5, 5, 5, 5, 5, 5, 5, 5, 5, 5, 5, 6, 6, 6, 6, 6, 6, 6, 6, 6, 6, 6, 6, 6, 6, 6, 6, 6, 6, 6, 6, 6, 6, 6, 6, 6, 6, 6, 6, 6, 6, 6, 6, 7, 7, 7, 7, 7, 7, 7, 7, 7, 7, 7, 7, 7, 7, 7, 7, 7, 7, 7, 7, 7, 7, 7, 7, 7, 7, 7, 7, 7, 7, 7, 7, 7, 7, 7, 7, 7, 7, 7, 7, 7, 7, 7, 7, 7, 7, 7, 7, 7, 7, 7, 7, 7, 7, 7, 7, 7, 7, 7, 7, 7, 7, 7, 7, 8, 8, 8, 8, 8, 8, 8, 8, 8, 8, 8, 8, 8, 8, 8, 8, 8, 8, 8, 8, 8, 8, 8, 8, 8, 8, 8, 8, 8, 8, 8, 8, 8, 8, 8, 8, 8, 8, 8, 8, 8, 8, 8, 8, 8, 8, 8, 8, 8, 8, 8, 8, 8, 8, 8, 8, 8, 8, 8, 8, 8, 8, 8, 8, 8, 8, 8, 8, 8, 8, 8, 8, 8, 8, 8, 8, 8, 8, 8, 8, 8, 8, 8, 8, 8, 8, 8, 8, 8, 8, 8, 8, 8, 8, 8, 8, 8, 8, 8, 8, 8, 8, 8, 8, 8, 8, 8, 8, 8, 8, 8, 8, 8, 8, 8, 8, 8, 8, 8, 8, 8, 8, 8, 8, 8, 8, 8, 8]⟩ : ByteArray) (IntKind.u8.wrap p12.1)).bind fun v13 =>
  some (W (p12.2 + (IntKind.i64.wrap v13)))
def x_slices_xorshift_Next (b0 : Int) : Option (Int × Int) :=
  some ((IntKind.wrap .u64 (((BitVec.ofInt (IntKind.bits .u64) (IntKind.wrap .u64 (((BitVec.ofInt (IntKind.bits .u64) (IntKind.wrap .u64 (((BitVec.ofInt (IntKind.bits .u64) b0 ^^^ BitVec.ofInt (IntKind.bits .u64) (IntKind.wrap .u64 (b0 * 2 ^ min (Int.toNat 13) (IntKind.bits .u64)))).toNat : Nat) : Int)) ^^^ BitVec.ofInt (IntKind.bits .u64) (Int.fdiv (IntKind.wrap .u64 (((BitVec.ofInt (IntKind.bits .u64) b0 ^^^ BitVec.ofInt (IntKind.bits .u64) (IntKind.wrap .u64 (b0 * 2 ^ min (Int.toNat 13) (IntKind.bits .u64)))).toNat : Nat) : Int)) (2 ^ min (Int.toNat 7) (IntKind.bits .u64)))).toNat : Nat) : Int)) ^^^ BitVec.ofInt (IntKind.bits .u64) (IntKind.wrap .u64 ((IntKind.wrap .u64 (((BitVec.ofInt (IntKind.bits .u64) (IntKind.wrap .u64 (((BitVec.ofInt (IntKind.bits .u64) b0 ^^^ BitVec.ofInt (IntKind.bits .u64) (IntKind.wrap .u64 (b0 * 2 ^ min (Int.toNat 13) (IntKind.bits .u64)))).toNat : Nat) : Int)) ^^^ BitVec.ofInt (IntKind.bits .u64) (Int.fdiv (IntKind.wrap .u64 (((BitVec.ofInt (IntKind.bits .u64) b0 ^^^ BitVec.ofInt (IntKind.bits .u64) (IntKind.wrap .u64 (b0 * 2 ^ min (Int.toNat 13) (IntKind.bits .u64)))).toNat : Nat) : Int)) (2 ^ min (Int.toNat 7) (IntKind.bits .u64)))).toNat : Nat) : Int)) * 2 ^ min (Int.toNat 17) (IntKind.bits .u64)))).toNat : Nat) : Int)), (IntKind.wrap .u64 (((BitVec.ofInt (IntKind.bits .u64) (IntKind.wrap .u64 (((BitVec.ofInt (IntKind.bits .u64) (IntKind.wrap .u64 (((BitVec.ofInt (IntKind.bits .u64) b0 ^^^ BitVec.ofInt (IntKind.bits .u64) (IntKind.wrap .u64 (b0 * 2 ^ min (Int.toNat 13) (IntKind.bits .u64)))).toNat : Nat) : Int)) ^^^ BitVec.ofInt (IntKind.bits .u64) (Int.fdiv (IntKind.wrap .u64 (((BitVec.ofInt (IntKind.bits .u64) b0 ^^^ BitVec.ofInt (IntKind.bits .u64) (IntKind.wrap .u64 (b0 * 2 ^ min (Int.toNat 13) (IntKind.bits .u64)))).toNat : Nat) : Int)) (2 ^ min (Int.toNat 7) (IntKind.bits .u64)))).toNat : Nat) : Int)) ^^^ BitVec.ofInt (IntKind.bits .u64) (IntKind.wrap .u64 ((IntKind.wrap .u64 (((BitVec.ofInt (IntKind.bits .u64) (IntKind.wrap .u64 (((BitVec.ofInt (IntKind.bits .u64) b0 ^^^ BitVec.ofInt (IntKind.bits .u64) (IntKind.wrap .u64 (b0 * 2 ^ min (Int.toNat 13) (IntKind.bits .u64)))).toNat : Nat) : Int)) ^^^ BitVec.ofInt (IntKind.bits .u64) (Int.fdiv (IntKind.wrap .u64 (((BitVec.ofInt (IntKind.bits .u64) b0 ^^^ BitVec.ofInt (IntKind.bits .u64) (IntKind.wrap .u64 (b0 * 2 ^ min (Int.toNat 13) (IntKind.bits .u64)))).toNat : Nat) : Int)) (2 ^ min (Int.toNat 7) (IntKind.bits .u64)))).toNat : Nat) : Int)) * 2 ^ min (Int.toNat 17) (IntKind.bits .u64)))).toNat : Nat) : Int)))
def b_l_eTLiteral (M : Nat) (l : List TLiteral) : Prop := l.length ≤ M
theorem w_szLiteralS_ok (x : List TLiteral) (h : b_l_eTLiteral 9223372036854775807 x) : SzOk w_szLiteralS (b_l_eTLiteral 1048576) x := szFlat x (fun _ => rfl) h
def b_str (M : Nat) (x : ByteArray) : Prop := x.size ≤ M
def bTLine (M : Nat) (x : TLine) : Prop := b_l_eTLiteral M x.Clause ∧  True
theorem w_szLine_ok (x : TLine) (h : bTLine 9223372036854775807 x) : SzOk w_szLine (bTLine 1048576) x := fun n m0 hn => by
  unfold w_szLine bTLine
  unfold bTLine at h
  exact szThen (w_szLiteralS_ok _ h.1) m0 (by omega) (fun n1 m1 _ _ => szEnd m1)
def b_l_eTLine (M : Nat) (l : List TLine) : Prop := l.length ≤ M ∧ ∀ x ∈ l, bTLine M x
theorem w_szLineS_ok (x : List TLine) (h : b_l_eTLine 9223372036854775807 x) : SzOk w_szLineS (b_l_eTLine 1048576) x := szList (F := w_szLineS_L1) (sz := w_szLine) (Q := bTLine 1048576) x (fun _ _ => rfl) (fun _ _ _ _ => rfl) (fun _ => rfl) h.1 (fun y hy => w_szLine_ok y (h.2 y hy))
theorem w_toRule_eq (x : TRule) : w_toRule x = some x := by
  unfold w_toRule
  try simp only [Option.bind_some]
theorem w_toLiteral_eq (x : TLiteral) : w_toLiteral x = some x := by
  unfold w_toLiteral
  try simp only [Option.bind_some]
theorem w_toLiteralS_eq (x : List TLiteral) (h : b_l_eTLiteral 1048576 x) : w_toLiteralS x = some x := fillList (F := w_toLiteralS_L1) (Q := fun _ => True) (fun _ _ => rfl) (fun x xs z a y hq hy => by simp only [w_toLiteralS_L1, w_toLiteral_eq, hy, Option.bind_some]) h (fun _ _ => trivial) rfl
theorem w_toLine_eq (x : TLine) (h : bTLine 1048576 x) : w_toLine x = some x := by
  unfold bTLine at h
  unfold w_toLine
  try simp only [w_toRule_eq, w_toLiteralS_eq _ (h.1), Option.bind_some]
theorem w_toLineS_eq (x : List TLine) (h : b_l_eTLine 1048576 x) : w_toLineS x = some x := fillList (F := w_toLineS_L1) (Q := bTLine 1048576) (fun _ _ => rfl) (fun x xs z a y hq hy => by simp only [w_toLineS_L1, w_toLine_eq x hq, hy, Option.bind_some]) h.1 h.2 rfl
theorem w_eqIntS_eq (a b : List Int) : w_eqIntS a b = some (decide (a = b)) := eqList (F := w_eqIntS_L1 b) (fun _ => rfl) (fun x xs z y h => by simp only [w_eqIntS_L1, h, Option.bind_some, int_bne]; by_cases hxy : x = y <;> simp [hxy]) rfl
theorem w_eqRule_eq (a b : TRule) : w_eqRule a b = some (decide (a = b)) := by
  obtain ⟨a0, a1, a2, a3⟩ := a
  obtain ⟨b0, b1, b2, b3⟩ := b
  simp only [w_eqRule, TRule.mk.injEq, Option.bind_some, int_bne, bool_bne, ba_bne]
  by_cases h0 : a0 = b0 <;> by_cases h1 : a1 = b1 <;> by_cases h2 : a2 = b2 <;> by_cases h3 : a3 = b3 <;> simp [h0, h1, h2, h3]
theorem w_eqLiteral_eq (a b : TLiteral) : w_eqLiteral a b = some (decide (a = b)) := by
  obtain ⟨a0, a1, a2⟩ := a
  obtain ⟨b0, b1, b2⟩ := b
  simp only [w_eqLiteral, TLiteral.mk.injEq, Option.bind_some, int_bne, bool_bne, ba_bne]
  by_cases h0 : a0 = b0 <;> by_cases h1 : a1 = b1 <;> by_cases h2 : a2 = b2 <;> simp [h0, h1, h2]
theorem w_eqLiteralS_eq (a b : List TLiteral) : w_eqLiteralS a b = some (decide (a = b)) := eqList (F := w_eqLiteralS_L1 b) (fun _ => rfl) (fun x xs z y h => by simp only [w_eqLiteralS_L1, h, Option.bind_some, int_bne, w_eqLiteral_eq]; by_cases hxy : x = y <;> simp [hxy]) rfl
theorem w_eqLine_eq (a b : TLine) : w_eqLine a b = some (decide (a = b)) := by
  obtain ⟨a0, a1, a2⟩ := a
  obtain ⟨b0, b1, b2⟩ := b
  simp only [w_eqLine, w_eqRule_eq, w_eqLiteralS_eq, TLine.mk.injEq, Option.bind_some, int_bne, bool_bne, ba_bne]
  by_cases h0 : a0 = b0 <;> by_cases h1 : a1 = b1 <;> by_cases h2 : a2 = b2 <;> simp [h0, h1, h2]
theorem w_eqLineS_eq (a b : List TLine) : w_eqLineS a b = some (decide (a = b)) := eqList (F := w_eqLineS_L1 b) (fun _ => rfl) (fun x xs z y h => by simp only [w_eqLineS_L1, h, Option.bind_some, int_bne, w_eqLine_eq]; by_cases hxy : x = y <;> simp [hxy]) rfl
theorem w_markLiteralS_k_ok (x : List TLiteral) (h : b_l_eTLiteral 1048576 x) : MkOk w_markLiteralS_k 3145728 x :=
  MkOk.list (L1 := w_markLiteralS_k_L1) (e := 3) (Q := fun _ => True) (fun _ _ => rfl) (fun x xs z k hx h0 hb => by
    skip
    refine ⟨(((k + 1) + 1) + 1), by omega, by omega, ?_⟩
    simp only [w_markLiteralS_k_L1]
    rw [W_of (n := (k + 1)) ⟨by omega, by omega⟩, W_of (n := ((k + 1) + 1)) ⟨by omega, by omega⟩, W_of (n := (((k + 1) + 1) + 1)) ⟨by omega, by omega⟩])
    (fun l k => by unfold w_markLiteralS_k; cases w_markLiteralS_k_L1 l 0 k <;> rfl) h (fun _ _ => trivial) (by decide)
theorem w_markLineS_k_ok (x : List TLine) (h : b_l_eTLine 1048576 x) : MkOk w_markLineS_k 3298540126208 x :=
  MkOk.list (L1 := w_markLineS_k_L1) (e := 3145733) (Q := bTLine 1048576) (fun _ _ => rfl) (fun x xs z k hx h0 hb => by
    unfold bTLine at hx
    obtain ⟨k0, e0, l0, u0⟩ := w_markLiteralS_k_ok x.Clause (hx.1) (((((k + 1) + 1) + 1) + 1) + 1) (by omega) (by omega)
    refine ⟨k0, by omega, by omega, ?_⟩
    simp only [w_markLineS_k_L1]
    rw [W_of (n := (k + 1)) ⟨by omega, by omega⟩, W_of (n := ((k + 1) + 1)) ⟨by omega, by omega⟩, W_of (n := (((k + 1) + 1) + 1)) ⟨by omega, by omega⟩, W_of (n := ((((k + 1) + 1) + 1) + 1)) ⟨by omega, by omega⟩, W_of (n := (((((k + 1) + 1) + 1) + 1) + 1)) ⟨by omega, by omega⟩, e0, Option.bind_some])
    (fun l k => by unfold w_markLineS_k; cases w_markLineS_k_L1 l 0 k <;> rfl) h.1 h.2 (by decide)
theorem w_markIntS_res (x : List Int) (h : x.length ≤ 1048576) : ∃ k ys, w_markIntS x 1 = some (k, ys) ∧ w_heldIntS ys 1 = some k ∧ 1 ≤ k := by
  have e1 := markFlat (G := w_markIntS_L1) (c := 1) (up := (fun k _ => k)) (by decide) (fun fuel k i l x hi hil hl h0 hb hx => by
    have hd : decide (i < (l.length : Int)) = true := decide_eq_true hil
    have hlt : i.toNat < l.length := by omega
    have hx2 : ∀ y, idxL (l.set i.toNat y) i = some y := fun y => by simp [idxL, hi, hlt]
    replace hx : idxL l i = some x := by simp [idxL, hi, hx]
    simp only [w_markIntS_L1, hd, cond_true, hx, Option.bind_some, W_of (n := k + 1) ⟨by omega, by omega⟩, W_of (n := i + 1) ⟨by omega, by omega⟩, setL]; rfl)
    (fun fuel k i l hi => by
    have hd : decide (i < (l.length : Int)) = false := decide_eq_false (by omega)
    simp only [w_markIntS_L1, hd, cond_false]) h (show (0 : Int) ≤ 1 by decide) (by decide)
  have hb : (1 : Int) * (x.length : Int) ≤ 1048576 := by omega
  have e2 := heldFlat (H := w_heldIntS_L1) (c := 1) (up := (fun k _ => k)) (by decide) (fun x xs z k h0 hb => by
    simp only [w_heldIntS_L1, int_bne, decide_true, Bool.not_true, cond_false, W_of (n := k + 1) ⟨by omega, by omega⟩]; rfl) (fun _ _ => rfl) x 0 1 (by decide) (by omega)
  refine ⟨_, _, by unfold w_markIntS; rw [e1]; rfl, by unfold w_heldIntS; rw [e2]; rfl, by omega⟩
def b_l_int (M : Nat) (l : List Int) : Prop := l.length ≤ M
theorem w_szIntS_ok (x : List Int) (h : b_l_int 9223372036854775807 x) : SzOk w_szIntS (b_l_int 1048576) x := szFlat x (fun _ => rfl) h
def bTSchedule (M : Nat) (x : TSchedule) : Prop := b_l_int M x.Starts ∧ b_l_int M x.Modes ∧  True
theorem w_szSchedule_ok (x : TSchedule) (h : bTSchedule 9223372036854775807 x) : SzOk w_szSchedule (bTSchedule 1048576) x := fun n m0 hn => by
  unfold w_szSchedule bTSchedule
  unfold bTSchedule at h
  exact szThen (w_szIntS_ok _ h.1) m0 (by omega) (fun n1 m1 _ _ => szThen (w_szIntS_ok _ h.2.1) m1 (by omega) (fun n2 m2 _ _ => szEnd m2))
theorem w_toIntS_eq (x : List Int) (h : b_l_int 1048576 x) : w_toIntS x = some x := fillList (F := w_toIntS_L1) (Q := fun _ => True) (fun _ _ => rfl) (fun x xs z a y hq hy => by simp only [w_toIntS_L1, hy, Option.bind_some]) h (fun _ _ => trivial) rfl
theorem w_toSchedule_eq (x : TSchedule) (h : bTSchedule 1048576 x) : w_toSchedule x = some x := by
  unfold bTSchedule at h
  unfold w_toSchedule
  try simp only [w_toIntS_eq _ (h.1), w_toIntS_eq _ (h.2.1), Option.bind_some]
theorem w_eqLiteralSS_eq (a b : List (List TLiteral)) : w_eqLiteralSS a b = some (decide (a = b)) := eqList (F := w_eqLiteralSS_L1 b) (fun _ => rfl) (fun x xs z y h => by simp only [w_eqLiteralSS_L1, h, Option.bind_some, int_bne, w_eqLiteralS_eq]; by_cases hxy : x = y <;> simp [hxy]) rfl
theorem w_eqSchedule_eq (a b : TSchedule) : w_eqSchedule a b = some (decide (a = b)) := by
  obtain ⟨a0, a1⟩ := a
  obtain ⟨b0, b1⟩ := b
  simp only [w_eqSchedule, w_eqIntS_eq, w_eqIntS_eq, TSchedule.mk.injEq, Option.bind_some, int_bne, bool_bne, ba_bne]
  by_cases h0 : a0 = b0 <;> by_cases h1 : a1 = b1 <;> simp [h0, h1]
theorem w_markLiteralS_res (x : List TLiteral) (h : x.length ≤ 1048576) : ∃ k ys, w_markLiteralS x 1 = some (k, ys) ∧ w_heldLiteralS ys 1 = some k ∧ 1 ≤ k := by
  have e1 := markFlat (G := w_markLiteralS_L1) (c := 3) (up := (fun k _ => TLiteral.mk k (k + 1) (k + 2))) (by decide) (fun fuel k i l x hi hil hl h0 hb hx => by
    have hd : decide (i < (l.length : Int)) = true := decide_eq_true hil
    have hlt : i.toNat < l.length := by omega
    have hx2 : ∀ y, idxL (l.set i.toNat y) i = some y := fun y => by simp [idxL, hi, hlt]
    replace hx : idxL l i = some x := by simp [idxL, hi, hx]
    simp only [w_markLiteralS_L1, hd, cond_true, setL, hx, hx2, Option.bind_some, W_of (n := k + 1) ⟨by omega, by omega⟩, W_of (n := (k + 1) + 1) ⟨by omega, by omega⟩, W_of (n := ((k + 1) + 1) + 1) ⟨by omega, by omega⟩, W_of (n := i + 1) ⟨by omega, by omega⟩, List.set_set]; first | rfl | (congr 1 <;> (try omega) <;> (congr 2 <;> omega)))
    (fun fuel k i l hi => by
    have hd : decide (i < (l.length : Int)) = false := decide_eq_false (by omega)
    simp only [w_markLiteralS_L1, hd, cond_false]) h (show (0 : Int) ≤ 1 by decide) (by decide)
  have hb : (3 : Int) * (x.length : Int) ≤ 3145728 := by omega
  have e2 := heldFlat (H := w_heldLiteralS_L1) (c := 3) (up := (fun k _ => TLiteral.mk k (k + 1) (k + 2))) (by decide) (fun x xs z k h0 hb => by
    simp only [w_heldLiteralS_L1, W_of (n := k + 1) ⟨by omega, by omega⟩, W_of (n := (k + 1) + 1) ⟨by omega, by omega⟩, W_of (n := ((k + 1) + 1) + 1) ⟨by omega, by omega⟩]; simp [bne, Int.add_assoc]) (fun _ _ => rfl) x 0 1 (by decide) (by omega)
  refine ⟨_, _, by unfold w_markLiteralS; rw [e1]; rfl, by unfold w_heldLiteralS; rw [e2]; rfl, by omega⟩
structure TboundsError where
  x : Int
  y : Int
  signed : Bool
  code : Int
  deriving DecidableEq
structure TerrorAddressString where
  msg : ByteArray
  addr : Int
  deriving DecidableEq
theorem TLiteral_beq (x y : TLiteral) : (x.Kind == y.Kind && (x.Activity == y.Activity && (x.Value == y.Value && true))) = decide (x = y) := by
  obtain ⟨x0, x1, x2⟩ := x
  obtain ⟨y0, y1, y2⟩ := y
  simp only [TLiteral.mk.injEq, int_beq, bool_beq, ba_beq, Bool.and_true, Bool.decide_and]
theorem TRule_beq (x y : TRule) : (x.Kind == y.Kind && (x.A == y.A && (x.B == y.B && (x.C == y.C && true)))) = decide (x = y) := by
  obtain ⟨x0, x1, x2, x3⟩ := x
  obtain ⟨y0, y1, y2, y3⟩ := y
  simp only [TRule.mk.injEq, int_beq, bool_beq, ba_beq, Bool.and_true, Bool.decide_and]
theorem decb_int : ∀ p, Val .int p → ∃ x : Int, p = int x ∧ True := fun p h => by obtain ⟨n, e⟩ := dec_int h; exact ⟨n, e, trivial⟩
theorem decb_TRule : ∀ p, Val (.agg [.int, .int, .int, .int]) p → ∃ x : TRule, p = eTRule x ∧ True := fun p h => by
  obtain ⟨zs0, rfl, hv0⟩ := h
  obtain ⟨x0, zs1, rfl, h0, hv1⟩ := vals_cons hv0
  obtain ⟨y0, rfl, b0⟩ := decb_int _ h0
  obtain ⟨x1, zs2, rfl, h1, hv2⟩ := vals_cons hv1
  obtain ⟨y1, rfl, b1⟩ := decb_int _ h1
  obtain ⟨x2, zs3, rfl, h2, hv3⟩ := vals_cons hv2
  obtain ⟨y2, rfl, b2⟩ := decb_int _ h2
  obtain ⟨x3, zs4, rfl, h3, hv4⟩ := vals_cons hv3
  obtain ⟨y3, rfl, b3⟩ := decb_int _ h3
  obtain rfl := vals_nil hv4
  exact ⟨⟨y0, y1, y2, y3⟩, rfl, trivial⟩
theorem decb_TLiteral : ∀ p, Val (.agg [.int, .int, .int]) p → ∃ x : TLiteral, p = eTLiteral x ∧ True := fun p h => by
  obtain ⟨zs0, rfl, hv0⟩ := h
  obtain ⟨x0, zs1, rfl, h0, hv1⟩ := vals_cons hv0
  obtain ⟨y0, rfl, b0⟩ := decb_int _ h0
  obtain ⟨x1, zs2, rfl, h1, hv2⟩ := vals_cons hv1
  obtain ⟨y1, rfl, b1⟩ := decb_int _ h1
  obtain ⟨x2, zs3, rfl, h2, hv3⟩ := vals_cons hv2
  obtain ⟨y2, rfl, b2⟩ := decb_int _ h2
  obtain rfl := vals_nil hv3
  exact ⟨⟨y0, y1, y2⟩, rfl, trivial⟩
theorem decb_l_eTLiteral : ∀ p, Val (.slice (.agg [.int, .int, .int])) p → ∃ x : List TLiteral, p = .slice (x.map eTLiteral) ∧ b_l_eTLiteral 9223372036854775807 x := fun p h => by
  obtain ⟨l, e, h1, h2⟩ := dec_slice decb_TLiteral h
  exact ⟨l, e, h1⟩
theorem decb_TLine : ∀ p, Val (.agg [.int, .agg [.int, .int, .int, .int], .slice (.agg [.int, .int, .int])]) p → ∃ x : TLine, p = eTLine x ∧ bTLine 9223372036854775807 x := fun p h => by
  obtain ⟨zs0, rfl, hv0⟩ := h
  obtain ⟨x0, zs1, rfl, h0, hv1⟩ := vals_cons hv0
  obtain ⟨y0, rfl, b0⟩ := decb_int _ h0
  obtain ⟨x1, zs2, rfl, h1, hv2⟩ := vals_cons hv1
  obtain ⟨y1, rfl, b1⟩ := decb_TRule _ h1
  obtain ⟨x2, zs3, rfl, h2, hv3⟩ := vals_cons hv2
  obtain ⟨y2, rfl, b2⟩ := decb_l_eTLiteral _ h2
  obtain rfl := vals_nil hv3
  exact ⟨⟨y0, y1, y2⟩, rfl, ⟨b2, trivial⟩⟩
theorem decb_l_eTLine : ∀ p, Val (.slice (.agg [.int, .agg [.int, .int, .int, .int], .slice (.agg [.int, .int, .int])])) p → ∃ x : List TLine, p = .slice (x.map eTLine) ∧ b_l_eTLine 9223372036854775807 x := fun p h => by
  obtain ⟨l, e, h1, h2⟩ := dec_slice decb_TLine h
  exact ⟨l, e, h1, h2⟩
end Go.Px.Ythdejnjjdihmfab
