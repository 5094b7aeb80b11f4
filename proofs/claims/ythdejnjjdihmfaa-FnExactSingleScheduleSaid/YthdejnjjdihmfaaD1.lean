/-
  PROVED: definitions that say what functions of the program compute. No condition.
-/
import Derived.Test.YthdejnjjdihmfaaQ3
namespace Go.Px.Ythdejnjjdihmfaa
set_option linter.unusedSimpArgs false
set_option linter.unusedVariables false
open Go.Px
structure TSchedule where
  Starts : List Int
  Modes : List Int
  deriving DecidableEq
structure TPlan where
  Schedule : TSchedule
  Done : List Int
  deriving DecidableEq
structure TRule where
  Kind : Int
  A : Int
  B : Int
  C : Int
  deriving DecidableEq
structure TLiteral where
  Kind : Int
  Activity : Int
  Value : Int
  deriving DecidableEq
structure TLine where
  Kind : Int
  Rule : TRule
  Clause : List TLiteral
  deriving DecidableEq
structure TDomain where
  MinStart : List Int
  MaxStart : List Int
  Modes : List (List Int)
  deriving DecidableEq
abbrev eTPlan (x : TPlan) : PV := .agg [.slice (x.Schedule.Starts.map int), .slice (x.Schedule.Modes.map int), .slice (x.Done.map int)]
abbrev eTSchedule (x : TSchedule) : PV := .agg [.slice (x.Starts.map int), .slice (x.Modes.map int)]
abbrev eTLiteral (x : TLiteral) : PV := .agg [int x.Kind, int x.Activity, int x.Value]
abbrev eTLine (x : TLine) : PV := .agg [int x.Kind, int x.Rule.Kind, int x.Rule.A, int x.Rule.B, int x.Rule.C, .slice (x.Clause.map eTLiteral)]
abbrev eTRule (x : TRule) : PV := .agg [int x.Kind, int x.A, int x.B, int x.C]
abbrev l_int (x : List Int) : PV := .slice (x.map int)
abbrev eTDomain (x : TDomain) : PV := .agg [.slice (x.MinStart.map int), .slice (x.MaxStart.map int), .slice (x.Modes.map l_int)]
abbrev l_eTLiteral (x : List TLiteral) : PV := .slice (x.map eTLiteral)
abbrev l_l_int (x : List (List Int)) : PV := .slice (x.map l_int)
def s_l01In (b0 : Int) (b1 : Int) (b2 : Int) : Option Bool :=
  Option.bind
  ((bif (decide (b1 ≤ b0)) then
  some (decide (b0 ≤ b2))
  else
  some false)) fun e1 =>
  some e1
def s_CheckName (b0 : Int) : Option ByteArray :=
  (s_l01In b0 0 3).bind fun v1 =>
  (bif (!v1) then
  some ByteArray.empty
  else
  (idxL ([(⟨#[111, 107]⟩ : ByteArray), (⟨#[102, 111, 114, 109]⟩ : ByteArray), (⟨#[114, 117, 108, 101]⟩ : ByteArray), (⟨#[117, 110, 105, 116]⟩ : ByteArray)] : List ByteArray) b0).bind fun v3 =>
  some v3)
def s_PriorityName (b0 : Int) : Option ByteArray :=
  (s_l01In b0 1 4).bind fun v1 =>
  (bif (!v1) then
  some ByteArray.empty
  else
  (idxL ([ByteArray.empty, (⟨#[110, 117, 109, 98, 101, 114]⟩ : ByteArray), (⟨#[108, 97, 116, 101, 115, 116]⟩ : ByteArray), (⟨#[116, 97, 105, 108]⟩ : ByteArray), (⟨#[115, 104, 111, 114, 116, 101, 115, 116]⟩ : ByteArray)] : List ByteArray) b0).bind fun v3 =>
  some v3)
def s_l02Min (b0 : Int) (b1 : Int) : Option Int :=
  (bif (decide (b0 < b1)) then
  some b0
  else
  some b1)
def s_l02Max (b0 : Int) (b1 : Int) : Option Int :=
  (bif (decide (b1 < b0)) then
  some b0
  else
  some b1)
def s_Overlap_L1  : List Int → Int → Option (Unit ⊕ Int)
  | [], z8 =>
    some (Sum.inl ())
  | x9 :: xs10, z8 =>
    (s_l01In x9 (-100000) 100000).bind fun v12 =>
    (bif (!v12) then
    some (Sum.inr 0)
    else
    s_Overlap_L1 xs10 (z8 + 1))
def s_Overlap (b0 : Int) (b1 : Int) (b2 : Int) (b3 : Int) : Option Int :=
  sumBind
  (s_Overlap_L1 ([b0, b1, b2, b3] : List Int) 0)
  (fun q15 => some q15) fun p14 =>
  (bif (decide (b1 < 1)) then
  some 0
  else
  (s_l02Min (W (b0 + b1)) b3).bind fun v17 =>
  (s_l02Max b0 b2).bind fun v18 =>
  (s_l02Max 0 (W (v17 - v18))).bind fun v19 =>
  some v19)
def i_within (b0 : Int) (b1 : Int) (b2 : Int) : Option Bool :=
  Option.bind
  ((bif (decide (b1 ≤ b0)) then
  some (decide (b0 ≤ b2))
  else
  some false)) fun e1 =>
  some e1
def i_Overlap_L1  : List Int → Int → Option (Unit ⊕ Int)
  | [], z8 =>
    some (Sum.inl ())
  | x9 :: xs10, z8 =>
    (i_within x9 (-100000) 100000).bind fun v12 =>
    (bif (!v12) then
    some (Sum.inr 0)
    else
    i_Overlap_L1 xs10 (z8 + 1))
def i_Overlap (b0 : Int) (b1 : Int) (b2 : Int) (b3 : Int) : Option Int :=
  sumBind
  (i_Overlap_L1 ([b0, b1, b2, b3] : List Int) 0)
  (fun q15 => some q15) fun p14 =>
  (bif (decide (b1 < 1)) then
  some 0
  else
  some (max (W ((min (W (b0 + b1)) b3) - (max b0 b2))) 0))
def w_FnExactOverlap (b0 : Int) (b1 : Int) (b2 : Int) (b3 : Int) : Option Bool :=
  (s_Overlap b0 b1 b2 b3).bind fun v1 =>
  (i_Overlap b0 b1 b2 b3).bind fun v2 =>
  (bif (v2 != v1) then
  some false
  else
  some true)
def w_szIntS (b0 : List Int) (b1 : Int) : Option Int :=
  (bif (decide ((W (b1 - (b0.length : Int))) < 0)) then
  some (-1)
  else
  some (W (b1 - (b0.length : Int))))
def w_szSchedule (b0 : TSchedule) (b1 : Int) : Option Int :=
  (w_szIntS b0.Starts b1).bind fun v1 =>
  (bif (decide (v1 < 0)) then
  some (-1)
  else
  (w_szIntS b0.Modes v1).bind fun v3 =>
  (bif (decide (v3 < 0)) then
  some (-1)
  else
  some v3))
def w_szPlan (b0 : TPlan) (b1 : Int) : Option Int :=
  (w_szSchedule b0.Schedule b1).bind fun v1 =>
  (bif (decide (v1 < 0)) then
  some (-1)
  else
  (w_szIntS b0.Done v1).bind fun v3 =>
  (bif (decide (v3 < 0)) then
  some (-1)
  else
  some v3))
def w_toIntS_L1  : List Int → Int → (List Int) → Option (List Int)
  | [], z9, a10 =>
    some a10
  | x11 :: xs12, z9, a10 =>
    (idxL a10 z9).bind fun v14 =>
    w_toIntS_L1 xs12 (z9 + 1) (setL a10 z9 x11)
def w_toIntS (b0 : List Int) : Option (List Int) :=
  (makeL 0 (b0.length : Int)).bind fun v1 =>
  Option.bind
  (w_toIntS_L1 b0 0 v1) fun p15 =>
  some p15
def w_toSchedule (b0 : TSchedule) : Option TSchedule :=
  (w_toIntS b0.Starts).bind fun v1 =>
  (w_toIntS b0.Modes).bind fun v2 =>
  some (TSchedule.mk v1 v2)
def w_toPlan (b0 : TPlan) : Option TPlan :=
  (w_toSchedule b0.Schedule).bind fun v1 =>
  (w_toIntS b0.Done).bind fun v2 =>
  some (TPlan.mk v1 v2)
def s_SetEqual_L1 (b1 : List Int) : List Int → Int → Option (Unit ⊕ Bool)
  | [], z9 =>
    some (Sum.inl ())
  | x10 :: xs11, z9 =>
    (idxL b1 z9).bind fun v13 =>
    (bif (x10 != v13) then
    some (Sum.inr false)
    else
    s_SetEqual_L1 b1 xs11 (z9 + 1))
def s_SetEqual (b0 : List Int) (b1 : List Int) : Option Bool :=
  (bif ((b0.length : Int) != (b1.length : Int)) then
  some false
  else
  sumBind
  (s_SetEqual_L1 b1 b0 0)
  (fun q16 => some q16) fun p15 =>
  some true)
def s_ScheduleEqual (b0 : TSchedule) (b1 : TSchedule) : Option Bool :=
  (s_SetEqual b0.Starts b1.Starts).bind fun v1 =>
  Option.bind
  ((bif v1 then
  (s_SetEqual b0.Modes b1.Modes).bind fun v4 =>
  some v4
  else
  some false)) fun e2 =>
  some e2
def s_PlanEqual (b0 : TPlan) (b1 : TPlan) : Option Bool :=
  (s_ScheduleEqual b0.Schedule b1.Schedule).bind fun v1 =>
  Option.bind
  ((bif v1 then
  (s_SetEqual b0.Done b1.Done).bind fun v4 =>
  some v4
  else
  some false)) fun e2 =>
  some e2
def slices_Equal_int_L1 (b1 : List Int) : List Int → Int → Option (Unit ⊕ Bool)
  | [], z9 =>
    some (Sum.inl ())
  | x10 :: xs11, z9 =>
    (idxL b1 z9).bind fun v13 =>
    (bif (x10 != v13) then
    some (Sum.inr false)
    else
    slices_Equal_int_L1 b1 xs11 (z9 + 1))
def slices_Equal_int (b0 : List Int) (b1 : List Int) : Option Bool :=
  (bif ((b0.length : Int) != (b1.length : Int)) then
  some false
  else
  sumBind
  (slices_Equal_int_L1 b1 b0 0)
  (fun q16 => some q16) fun p15 =>
  some true)
def i_ScheduleEqual (b0 : TSchedule) (b1 : TSchedule) : Option Bool :=
  (slices_Equal_int b0.Starts b1.Starts).bind fun v1 =>
  Option.bind
  ((bif v1 then
  (slices_Equal_int b0.Modes b1.Modes).bind fun v4 =>
  some v4
  else
  some false)) fun e2 =>
  some e2
def i_PlanEqual (b0 : TPlan) (b1 : TPlan) : Option Bool :=
  (i_ScheduleEqual b0.Schedule b1.Schedule).bind fun v1 =>
  Option.bind
  ((bif v1 then
  (slices_Equal_int b0.Done b1.Done).bind fun v4 =>
  some v4
  else
  some false)) fun e2 =>
  some e2
def w_eqIntS_L1 (b1 : List Int) : List Int → Int → Option (Unit ⊕ Bool)
  | [], z9 =>
    some (Sum.inl ())
  | x10 :: xs11, z9 =>
    (idxL b1 z9).bind fun v13 =>
    (bif (x10 != v13) then
    some (Sum.inr false)
    else
    w_eqIntS_L1 b1 xs11 (z9 + 1))
def w_eqIntS (b0 : List Int) (b1 : List Int) : Option Bool :=
  (bif ((b0.length : Int) != (b1.length : Int)) then
  some false
  else
  sumBind
  (w_eqIntS_L1 b1 b0 0)
  (fun q16 => some q16) fun p15 =>
  some true)
def w_eqSchedule (b0 : TSchedule) (b1 : TSchedule) : Option Bool :=
  (w_eqIntS b0.Starts b1.Starts).bind fun v1 =>
  (bif (!v1) then
  some false
  else
  (w_eqIntS b0.Modes b1.Modes).bind fun v3 =>
  (bif (!v3) then
  some false
  else
  some true))
def w_eqPlan (b0 : TPlan) (b1 : TPlan) : Option Bool :=
  (w_eqSchedule b0.Schedule b1.Schedule).bind fun v1 =>
  (bif (!v1) then
  some false
  else
  (w_eqIntS b0.Done b1.Done).bind fun v3 =>
  (bif (!v3) then
  some false
  else
  some true))
def w_FnExactPlanEqual (b0 : TPlan) (b1 : TPlan) : Option Bool :=
  (w_szPlan b0 1048576).bind fun v1 =>
  (bif (decide (v1 < 0)) then
  some true
  else
  (w_szPlan b1 v1).bind fun v3 =>
  (bif (decide (v3 < 0)) then
  some true
  else
  (w_toPlan b0).bind fun v5 =>
  (w_toPlan b1).bind fun v6 =>
  (s_PlanEqual v5 v6).bind fun v7 =>
  (w_toPlan b0).bind fun v8 =>
  (w_toPlan b1).bind fun v9 =>
  (i_PlanEqual v8 v9).bind fun v10 =>
  (bif (v10 != v7) then
  some false
  else
  (w_toPlan b0).bind fun v12 =>
  (w_eqPlan v8 v12).bind fun v13 =>
  (bif (!v13) then
  some false
  else
  (w_toPlan b1).bind fun v15 =>
  (w_eqPlan v9 v15).bind fun v16 =>
  (bif (!v16) then
  some false
  else
  some true)))))
def w_szLiteralS (b0 : List TLiteral) (b1 : Int) : Option Int :=
  (bif (decide ((W (b1 - (b0.length : Int))) < 0)) then
  some (-1)
  else
  some (W (b1 - (b0.length : Int))))
def w_szLine (b0 : TLine) (b1 : Int) : Option Int :=
  (w_szLiteralS b0.Clause b1).bind fun v1 =>
  (bif (decide (v1 < 0)) then
  some (-1)
  else
  some v1)
def w_toRule (b0 : TRule) : Option TRule :=
  some b0
def w_toLiteral (b0 : TLiteral) : Option TLiteral :=
  some b0
def w_toLiteralS_L1  : List TLiteral → Int → (List TLiteral) → Option (List TLiteral)
  | [], z9, a10 =>
    some a10
  | x11 :: xs12, z9, a10 =>
    (w_toLiteral x11).bind fun v14 =>
    (idxL a10 z9).bind fun v15 =>
    w_toLiteralS_L1 xs12 (z9 + 1) (setL a10 z9 v14)
def w_toLiteralS (b0 : List TLiteral) : Option (List TLiteral) :=
  (makeL (TLiteral.mk 0 0 0) (b0.length : Int)).bind fun v1 =>
  Option.bind
  (w_toLiteralS_L1 b0 0 v1) fun p16 =>
  some p16
def w_toLine (b0 : TLine) : Option TLine :=
  (w_toRule b0.Rule).bind fun v1 =>
  (w_toLiteralS b0.Clause).bind fun v2 =>
  some (TLine.mk b0.Kind v1 v2)
def s_ClauseEqual_L1 (b1 : List TLiteral) : List TLiteral → Int → Option (Unit ⊕ Bool)
  | [], z9 =>
    some (Sum.inl ())
  | x10 :: xs11, z9 =>
    (idxL b1 z9).bind fun v13 =>
    (bif (!(x10.Kind == v13.Kind && (x10.Activity == v13.Activity && (x10.Value == v13.Value && true)))) then
    some (Sum.inr false)
    else
    s_ClauseEqual_L1 b1 xs11 (z9 + 1))
def s_ClauseEqual (b0 : List TLiteral) (b1 : List TLiteral) : Option Bool :=
  (bif ((b0.length : Int) != (b1.length : Int)) then
  some false
  else
  sumBind
  (s_ClauseEqual_L1 b1 b0 0)
  (fun q16 => some q16) fun p15 =>
  some true)
def s_LineEqual (b0 : TLine) (b1 : TLine) : Option Bool :=
  Option.bind
  ((bif (b0.Kind == b1.Kind) then
  (bif (b0.Rule.Kind == b1.Rule.Kind && (b0.Rule.A == b1.Rule.A && (b0.Rule.B == b1.Rule.B && (b0.Rule.C == b1.Rule.C && true)))) then
  (s_ClauseEqual b0.Clause b1.Clause).bind fun v4 =>
  some v4
  else
  some false)
  else
  some false)) fun e1 =>
  some e1
def slices_Equal_Literal_L1 (b1 : List TLiteral) : List TLiteral → Int → Option (Unit ⊕ Bool)
  | [], z9 =>
    some (Sum.inl ())
  | x10 :: xs11, z9 =>
    (idxL b1 z9).bind fun v13 =>
    (bif (!(x10.Kind == v13.Kind && (x10.Activity == v13.Activity && (x10.Value == v13.Value && true)))) then
    some (Sum.inr false)
    else
    slices_Equal_Literal_L1 b1 xs11 (z9 + 1))
def slices_Equal_Literal (b0 : List TLiteral) (b1 : List TLiteral) : Option Bool :=
  (bif ((b0.length : Int) != (b1.length : Int)) then
  some false
  else
  sumBind
  (slices_Equal_Literal_L1 b1 b0 0)
  (fun q16 => some q16) fun p15 =>
  some true)
def i_LineEqual (b0 : TLine) (b1 : TLine) : Option Bool :=
  Option.bind
  ((bif (b0.Kind == b1.Kind) then
  (bif (b0.Rule.Kind == b1.Rule.Kind && (b0.Rule.A == b1.Rule.A && (b0.Rule.B == b1.Rule.B && (b0.Rule.C == b1.Rule.C && true)))) then
  (slices_Equal_Literal b0.Clause b1.Clause).bind fun v4 =>
  some v4
  else
  some false)
  else
  some false)) fun e1 =>
  some e1
def w_eqRule (b0 : TRule) (b1 : TRule) : Option Bool :=
  (bif (b0.Kind != b1.Kind) then
  some false
  else
  (bif (b0.A != b1.A) then
  some false
  else
  (bif (b0.B != b1.B) then
  some false
  else
  (bif (b0.C != b1.C) then
  some false
  else
  some true))))
def w_eqLiteral (b0 : TLiteral) (b1 : TLiteral) : Option Bool :=
  (bif (b0.Kind != b1.Kind) then
  some false
  else
  (bif (b0.Activity != b1.Activity) then
  some false
  else
  (bif (b0.Value != b1.Value) then
  some false
  else
  some true)))
def w_eqLiteralS_L1 (b1 : List TLiteral) : List TLiteral → Int → Option (Unit ⊕ Bool)
  | [], z9 =>
    some (Sum.inl ())
  | x10 :: xs11, z9 =>
    (idxL b1 z9).bind fun v13 =>
    (w_eqLiteral x10 v13).bind fun v14 =>
    (bif (!v14) then
    some (Sum.inr false)
    else
    w_eqLiteralS_L1 b1 xs11 (z9 + 1))
def w_eqLiteralS (b0 : List TLiteral) (b1 : List TLiteral) : Option Bool :=
  (bif ((b0.length : Int) != (b1.length : Int)) then
  some false
  else
  sumBind
  (w_eqLiteralS_L1 b1 b0 0)
  (fun q17 => some q17) fun p16 =>
  some true)
def w_eqLine (b0 : TLine) (b1 : TLine) : Option Bool :=
  (bif (b0.Kind != b1.Kind) then
  some false
  else
  (w_eqRule b0.Rule b1.Rule).bind fun v2 =>
  (bif (!v2) then
  some false
  else
  (w_eqLiteralS b0.Clause b1.Clause).bind fun v4 =>
  (bif (!v4) then
  some false
  else
  some true)))
def w_FnExactLineEqual (b0 : TLine) (b1 : TLine) : Option Bool :=
  (w_szLine b0 1048576).bind fun v1 =>
  (bif (decide (v1 < 0)) then
  some true
  else
  (w_szLine b1 v1).bind fun v3 =>
  (bif (decide (v3 < 0)) then
  some true
  else
  (w_toLine b0).bind fun v5 =>
  (w_toLine b1).bind fun v6 =>
  (s_LineEqual v5 v6).bind fun v7 =>
  (w_toLine b0).bind fun v8 =>
  (w_toLine b1).bind fun v9 =>
  (i_LineEqual v8 v9).bind fun v10 =>
  (bif (v10 != v7) then
  some false
  else
  (w_toLine b0).bind fun v12 =>
  (w_eqLine v8 v12).bind fun v13 =>
  (bif (!v13) then
  some false
  else
  (w_toLine b1).bind fun v15 =>
  (w_eqLine v9 v15).bind fun v16 =>
  (bif (!v16) then
  some false
  else
  some true)))))
def w_szIntSS_L1  : List (List Int) → Int → Int → Option (Int ⊕ Int)
  | [], z9, a10 =>
    some (Sum.inl a10)
  | x11 :: xs12, z9, a10 =>
    (w_szIntS x11 a10).bind fun v14 =>
    (bif (decide (v14 < 0)) then
    some (Sum.inr (-1))
    else
    w_szIntSS_L1 xs12 (z9 + 1) v14)
def w_szIntSS (b0 : List (List Int)) (b1 : Int) : Option Int :=
  (bif (decide ((W (b1 - (b0.length : Int))) < 0)) then
  some (-1)
  else
  sumBind
  (w_szIntSS_L1 b0 0 (W (b1 - (b0.length : Int))))
  (fun q17 => some q17) fun p16 =>
  some p16)
def w_szDomain (b0 : TDomain) (b1 : Int) : Option Int :=
  (w_szIntS b0.MinStart b1).bind fun v1 =>
  (bif (decide (v1 < 0)) then
  some (-1)
  else
  (w_szIntS b0.MaxStart v1).bind fun v3 =>
  (bif (decide (v3 < 0)) then
  some (-1)
  else
  (w_szIntSS b0.Modes v3).bind fun v5 =>
  (bif (decide (v5 < 0)) then
  some (-1)
  else
  some v5)))
def w_toIntSS_L1  : List (List Int) → Int → (List (List Int)) → Option (List (List Int))
  | [], z9, a10 =>
    some a10
  | x11 :: xs12, z9, a10 =>
    (w_toIntS x11).bind fun v14 =>
    (idxL a10 z9).bind fun v15 =>
    w_toIntSS_L1 xs12 (z9 + 1) (setL a10 z9 v14)
def w_toIntSS (b0 : List (List Int)) : Option (List (List Int)) :=
  (makeL ([] : List Int) (b0.length : Int)).bind fun v1 =>
  Option.bind
  (w_toIntSS_L1 b0 0 v1) fun p16 =>
  some p16
def w_toDomain (b0 : TDomain) : Option TDomain :=
  (w_toIntS b0.MinStart).bind fun v1 =>
  (w_toIntS b0.MaxStart).bind fun v2 =>
  (w_toIntSS b0.Modes).bind fun v3 =>
  some (TDomain.mk v1 v2 v3)
def s_SingleSchedule_L1 (b0 : TDomain) : List Int → Int → (List Int) → (List Int) → Option (((List Int) × (List Int)) ⊕ (TSchedule × Bool))
  | [], z11, a12, a13 =>
    some (Sum.inl (a12, a13))
  | x14 :: xs15, z11, a12, a13 =>
    (idxL b0.MaxStart z11).bind fun v17 =>
    Option.bind
    ((bif (v17 != x14) then
    some true
    else
    (idxL b0.Modes z11).bind fun v20 =>
    some ((v20.length : Int) != 1))) fun e18 =>
    (bif e18 then
    some (Sum.inr ((TSchedule.mk ([] : List Int) ([] : List Int)), false))
    else
    (appL a12 ([x14] : List Int)).bind fun v22 =>
    (idxL b0.Modes z11).bind fun v23 =>
    (idxL v23 0).bind fun v24 =>
    (appL a13 ([v24] : List Int)).bind fun v25 =>
    s_SingleSchedule_L1 b0 xs15 (z11 + 1) v22 v25)
def s_SingleSchedule (b0 : TDomain) : Option (TSchedule × Bool) :=
  Option.bind
  ((bif ((b0.MaxStart.length : Int) != (b0.MinStart.length : Int)) then
  some true
  else
  some ((b0.Modes.length : Int) != (b0.MinStart.length : Int)))) fun e1 =>
  (bif e1 then
  some ((TSchedule.mk ([] : List Int) ([] : List Int)), false)
  else
  sumBind
  (s_SingleSchedule_L1 b0 b0.MinStart 0 ([] : List Int) ([] : List Int))
  (fun q27 => some q27) fun p26 =>
  some ((TSchedule.mk p26.1 p26.2), true))
def i_SingleSchedule_L1 (b0 : TDomain) : List Int → Int → (List Int) → (List Int) → Option (((List Int) × (List Int)) ⊕ (TSchedule × Bool))
  | [], z11, a12, a13 =>
    some (Sum.inl (a12, a13))
  | x14 :: xs15, z11, a12, a13 =>
    (idxL b0.MaxStart z11).bind fun v17 =>
    Option.bind
    ((bif (x14 != v17) then
    some true
    else
    (idxL b0.Modes z11).bind fun v20 =>
    some ((v20.length : Int) != 1))) fun e18 =>
    (bif e18 then
    some (Sum.inr ((TSchedule.mk ([] : List Int) ([] : List Int)), false))
    else
    (appL a12 ([x14] : List Int)).bind fun v22 =>
    (idxL b0.Modes z11).bind fun v23 =>
    (idxL v23 0).bind fun v24 =>
    (appL a13 ([v24] : List Int)).bind fun v25 =>
    i_SingleSchedule_L1 b0 xs15 (z11 + 1) v22 v25)
def i_SingleSchedule (b0 : TDomain) : Option (TSchedule × Bool) :=
  Option.bind
  ((bif ((b0.MinStart.length : Int) != (b0.MaxStart.length : Int)) then
  some true
  else
  some ((b0.MinStart.length : Int) != (b0.Modes.length : Int)))) fun e1 =>
  (bif e1 then
  some ((TSchedule.mk ([] : List Int) ([] : List Int)), false)
  else
  sumBind
  (i_SingleSchedule_L1 b0 b0.MinStart 0 ([] : List Int) ([] : List Int))
  (fun q27 => some q27) fun p26 =>
  some ((TSchedule.mk p26.1 p26.2), true))
def w_eqIntSS_L1 (b1 : List (List Int)) : List (List Int) → Int → Option (Unit ⊕ Bool)
  | [], z9 =>
    some (Sum.inl ())
  | x10 :: xs11, z9 =>
    (idxL b1 z9).bind fun v13 =>
    (w_eqIntS x10 v13).bind fun v14 =>
    (bif (!v14) then
    some (Sum.inr false)
    else
    w_eqIntSS_L1 b1 xs11 (z9 + 1))
def w_eqIntSS (b0 : List (List Int)) (b1 : List (List Int)) : Option Bool :=
  (bif ((b0.length : Int) != (b1.length : Int)) then
  some false
  else
  sumBind
  (w_eqIntSS_L1 b1 b0 0)
  (fun q17 => some q17) fun p16 =>
  some true)
def w_eqDomain (b0 : TDomain) (b1 : TDomain) : Option Bool :=
  (w_eqIntS b0.MinStart b1.MinStart).bind fun v1 =>
  (bif (!v1) then
  some false
  else
  (w_eqIntS b0.MaxStart b1.MaxStart).bind fun v3 =>
  (bif (!v3) then
  some false
  else
  (w_eqIntSS b0.Modes b1.Modes).bind fun v5 =>
  (bif (!v5) then
  some false
  else
  some true)))
def w_markIntS_k_L1  : List Int → Int → Int → Option Int
  | [], z8, a9 =>
    some a9
  | x10 :: xs11, z8, a9 =>
    w_markIntS_k_L1 xs11 (z8 + 1) (W (a9 + 1))
def w_markIntS_k (b0 : List Int) (b1 : Int) : Option Int :=
  Option.bind
  (w_markIntS_k_L1 b0 0 b1) fun p13 =>
  some p13
def w_markIntSS_k_L1  : List (List Int) → Int → Int → Option Int
  | [], z8, a9 =>
    some a9
  | x10 :: xs11, z8, a9 =>
    (w_markIntS_k x10 a9).bind fun v13 =>
    w_markIntSS_k_L1 xs11 (z8 + 1) v13
def w_markIntSS_k (b0 : List (List Int)) (b1 : Int) : Option Int :=
  Option.bind
  (w_markIntSS_k_L1 b0 0 b1) fun p14 =>
  some p14
def w_markDomain_k (b0 : TDomain) (b1 : Int) : Option Int :=
  (w_markIntS_k b0.MinStart b1).bind fun v1 =>
  (w_markIntS_k b0.MaxStart v1).bind fun v2 =>
  (w_markIntSS_k b0.Modes v2).bind fun v3 =>
  some v3
def w_markIntS_L1  : Nat → Int → Int → (List Int) → Option (Int × (List Int))
  | 0, _, _, _ => none
  | fuel + 1, a7, a8, a9 =>
    (bif (decide (a8 < (a9.length : Int))) then
    (idxL a9 a8).bind fun v13 =>
    w_markIntS_L1 fuel (W (a7 + 1)) (W (a8 + 1)) (setL a9 a8 a7)
    else
    some (a7, a9))
def w_markIntS (b0 : List Int) (b1 : Int) : Option (Int × (List Int)) :=
  Option.bind
  (w_markIntS_L1 F0 b1 0 b0) fun p14 =>
  some (p14.1, p14.2)
def w_markSchedule (b0 : TSchedule) (b1 : Int) : Option (Int × (List Int) × (List Int)) :=
  (w_markIntS b0.Starts b1).bind fun v1 =>
  (w_markIntS b0.Modes v1.1).bind fun v2 =>
  some (v2.1, v1.2, v2.2)
def w_heldIntS_L1  : List Int → Int → Int → Option (Int ⊕ Int)
  | [], z8, a9 =>
    some (Sum.inl a9)
  | x10 :: xs11, z8, a9 =>
    (bif (x10 != a9) then
    some (Sum.inr (-1))
    else
    w_heldIntS_L1 xs11 (z8 + 1) (W (a9 + 1)))
def w_heldIntS (b0 : List Int) (b1 : Int) : Option Int :=
  sumBind
  (w_heldIntS_L1 b0 0 b1)
  (fun q15 => some q15) fun p14 =>
  some p14
def w_heldSchedule (b0 : TSchedule) (b1 : Int) : Option Int :=
  (w_heldIntS b0.Starts b1).bind fun v1 =>
  (bif (decide (v1 < 0)) then
  some (-1)
  else
  (w_heldIntS b0.Modes v1).bind fun v3 =>
  (bif (decide (v3 < 0)) then
  some (-1)
  else
  some v3))
def w_FnExactSingleSchedule (b0 : TDomain) : Option Bool :=
  (w_szDomain b0 1048576).bind fun v1 =>
  (bif (decide (v1 < 0)) then
  some true
  else
  (w_toDomain b0).bind fun v3 =>
  (s_SingleSchedule v3).bind fun v4 =>
  (w_toDomain b0).bind fun v5 =>
  (i_SingleSchedule v5).bind fun v6 =>
  (w_eqSchedule v6.1 v4.1).bind fun v7 =>
  Option.bind
  ((bif (!v7) then
  some true
  else
  some (v6.2 != v4.2))) fun e8 =>
  (bif e8 then
  some false
  else
  (w_toDomain b0).bind fun v11 =>
  (w_eqDomain v5 v11).bind fun v12 =>
  (bif (!v12) then
  some false
  else
  (w_markDomain_k v5 1).bind fun v14 =>
  Option.bind
  ((bif (decide (v14 < 0)) then
  some true
  else
  (w_eqSchedule v6.1 v4.1).bind fun v17 =>
  (bif (!v17) then
  some true
  else
  some (v6.2 != v4.2)))) fun e15 =>
  (bif e15 then
  some false
  else
  (w_markSchedule v6.1 1).bind fun v20 =>
  (w_heldSchedule (TSchedule.mk v20.2.1 v20.2.2) 1).bind fun v21 =>
  (bif (decide (v21 < 0)) then
  some false
  else
  (bif (v21 != v20.1) then
  some false
  else
  (w_toDomain b0).bind fun v24 =>
  (i_SingleSchedule v24).bind fun v25 =>
  (w_eqSchedule v25.1 v4.1).bind fun v26 =>
  Option.bind
  ((bif (!v26) then
  some true
  else
  some (v25.2 != v4.2))) fun e27 =>
  (bif e27 then
  some false
  else
  (w_heldSchedule (TSchedule.mk v20.2.1 v20.2.2) 1).bind fun v30 =>
  (bif (decide (v30 < 0)) then
  some false
  else
  (bif (v30 != v20.1) then
  some false
  else
  some true)))))))))
def b_l_int (M : Nat) (l : List Int) : Prop := l.length ≤ M
theorem w_szIntS_ok (x : List Int) (h : b_l_int 9223372036854775807 x) : SzOk w_szIntS (b_l_int 1048576) x := szFlat x (fun _ => rfl) h
def b_str (M : Nat) (x : ByteArray) : Prop := x.size ≤ M
def bTSchedule (M : Nat) (x : TSchedule) : Prop := b_l_int M x.Starts ∧ b_l_int M x.Modes ∧  True
theorem w_szSchedule_ok (x : TSchedule) (h : bTSchedule 9223372036854775807 x) : SzOk w_szSchedule (bTSchedule 1048576) x := fun n m0 hn => by
  unfold w_szSchedule bTSchedule
  unfold bTSchedule at h
  exact szThen (w_szIntS_ok _ h.1) m0 (by omega) (fun n1 m1 _ _ => szThen (w_szIntS_ok _ h.2.1) m1 (by omega) (fun n2 m2 _ _ => szEnd m2))
def bTPlan (M : Nat) (x : TPlan) : Prop := bTSchedule M x.Schedule ∧ b_l_int M x.Done ∧  True
theorem w_szPlan_ok (x : TPlan) (h : bTPlan 9223372036854775807 x) : SzOk w_szPlan (bTPlan 1048576) x := fun n m0 hn => by
  unfold w_szPlan bTPlan
  unfold bTPlan at h
  exact szThen (w_szSchedule_ok _ h.1) m0 (by omega) (fun n1 m1 _ _ => szThen (w_szIntS_ok _ h.2.1) m1 (by omega) (fun n2 m2 _ _ => szEnd m2))
theorem w_toIntS_eq (x : List Int) (h : b_l_int 1048576 x) : w_toIntS x = some x := fillList (F := w_toIntS_L1) (Q := fun _ => True) (fun _ _ => rfl) (fun x xs z a y hq hy => by simp only [w_toIntS_L1, hy, Option.bind_some]) h (fun _ _ => trivial) rfl
theorem w_toSchedule_eq (x : TSchedule) (h : bTSchedule 1048576 x) : w_toSchedule x = some x := by
  unfold bTSchedule at h
  unfold w_toSchedule
  try simp only [w_toIntS_eq _ (h.1), w_toIntS_eq _ (h.2.1), Option.bind_some]
theorem w_toPlan_eq (x : TPlan) (h : bTPlan 1048576 x) : w_toPlan x = some x := by
  unfold bTPlan at h
  unfold w_toPlan
  try simp only [w_toSchedule_eq _ (h.1), w_toIntS_eq _ (h.2.1), Option.bind_some]
theorem w_eqIntS_eq (a b : List Int) : w_eqIntS a b = some (decide (a = b)) := eqList (F := w_eqIntS_L1 b) (fun _ => rfl) (fun x xs z y h => by simp only [w_eqIntS_L1, h, Option.bind_some, int_bne]; by_cases hxy : x = y <;> simp [hxy]) rfl
theorem w_eqSchedule_eq (a b : TSchedule) : w_eqSchedule a b = some (decide (a = b)) := by
  obtain ⟨a0, a1⟩ := a
  obtain ⟨b0, b1⟩ := b
  simp only [w_eqSchedule, w_eqIntS_eq, w_eqIntS_eq, TSchedule.mk.injEq, Option.bind_some, int_bne, bool_bne, ba_bne]
  by_cases h0 : a0 = b0 <;> by_cases h1 : a1 = b1 <;> simp [h0, h1]
theorem w_eqPlan_eq (a b : TPlan) : w_eqPlan a b = some (decide (a = b)) := by
  obtain ⟨a0, a1⟩ := a
  obtain ⟨b0, b1⟩ := b
  simp only [w_eqPlan, w_eqSchedule_eq, w_eqIntS_eq, TPlan.mk.injEq, Option.bind_some, int_bne, bool_bne, ba_bne]
  by_cases h0 : a0 = b0 <;> by_cases h1 : a1 = b1 <;> simp [h0, h1]
def b_l_eTLiteral (M : Nat) (l : List TLiteral) : Prop := l.length ≤ M
theorem w_szLiteralS_ok (x : List TLiteral) (h : b_l_eTLiteral 9223372036854775807 x) : SzOk w_szLiteralS (b_l_eTLiteral 1048576) x := szFlat x (fun _ => rfl) h
def bTLine (M : Nat) (x : TLine) : Prop := b_l_eTLiteral M x.Clause ∧  True
theorem w_szLine_ok (x : TLine) (h : bTLine 9223372036854775807 x) : SzOk w_szLine (bTLine 1048576) x := fun n m0 hn => by
  unfold w_szLine bTLine
  unfold bTLine at h
  exact szThen (w_szLiteralS_ok _ h.1) m0 (by omega) (fun n1 m1 _ _ => szEnd m1)
theorem w_toRule_eq (x : TRule) : w_toRule x = some x := by
  unfold w_toRule
  try simp only [Option.bind_some]
theorem w_toLiteral_eq (x : TLiteral) : w_toLiteral x = some x := by
  unfold w_toLiteral
  try simp only [Option.bind_some]
theorem w_toLiteralS_eq (x : List TLiteral) (h : b_l_eTLiteral 1048576 x) : w_toLiteralS x = some x := fillList (F := w_toLiteralS_L1) (Q := fun _ => True) (fun _ _ => rfl) (fun x xs z a y hq hy => by simp only [w_toLiteralS_L1, w_toLiteral_eq, hy, Option.bind_some]) h (fun _ _ => trivial) rfl
theorem w_toLine_eq (x : TLine) (h : bTLine 1048576 x) : w_toLine x = some x := by
  unfold bTLine at h
  unfold w_toLine
  try simp only [w_toRule_eq, w_toLiteralS_eq _ (h.1), Option.bind_some]
theorem w_eqRule_eq (a b : TRule) : w_eqRule a b = some (decide (a = b)) := by
  obtain ⟨a0, a1, a2, a3⟩ := a
  obtain ⟨b0, b1, b2, b3⟩ := b
  simp only [w_eqRule, TRule.mk.injEq, Option.bind_some, int_bne, bool_bne, ba_bne]
  by_cases h0 : a0 = b0 <;> by_cases h1 : a1 = b1 <;> by_cases h2 : a2 = b2 <;> by_cases h3 : a3 = b3 <;> simp [h0, h1, h2, h3]
theorem w_eqLiteral_eq (a b : TLiteral) : w_eqLiteral a b = some (decide (a = b)) := by
  obtain ⟨a0, a1, a2⟩ := a
  obtain ⟨b0, b1, b2⟩ := b
  simp only [w_eqLiteral, TLiteral.mk.injEq, Option.bind_some, int_bne, bool_bne, ba_bne]
  by_cases h0 : a0 = b0 <;> by_cases h1 : a1 = b1 <;> by_cases h2 : a2 = b2 <;> simp [h0, h1, h2]
theorem w_eqLiteralS_eq (a b : List TLiteral) : w_eqLiteralS a b = some (decide (a = b)) := eqList (F := w_eqLiteralS_L1 b) (fun _ => rfl) (fun x xs z y h => by simp only [w_eqLiteralS_L1, h, Option.bind_some, int_bne, w_eqLiteral_eq]; by_cases hxy : x = y <;> simp [hxy]) rfl
theorem w_eqLine_eq (a b : TLine) : w_eqLine a b = some (decide (a = b)) := by
  obtain ⟨a0, a1, a2⟩ := a
  obtain ⟨b0, b1, b2⟩ := b
  simp only [w_eqLine, w_eqRule_eq, w_eqLiteralS_eq, TLine.mk.injEq, Option.bind_some, int_bne, bool_bne, ba_bne]
  by_cases h0 : a0 = b0 <;> by_cases h1 : a1 = b1 <;> by_cases h2 : a2 = b2 <;> simp [h0, h1, h2]
def b_l_l_int (M : Nat) (l : List (List Int)) : Prop := l.length ≤ M ∧ ∀ x ∈ l, b_l_int M x
theorem w_szIntSS_ok (x : List (List Int)) (h : b_l_l_int 9223372036854775807 x) : SzOk w_szIntSS (b_l_l_int 1048576) x := szList (F := w_szIntSS_L1) (sz := w_szIntS) (Q := b_l_int 1048576) x (fun _ _ => rfl) (fun _ _ _ _ => rfl) (fun _ => rfl) h.1 (fun y hy => w_szIntS_ok y (h.2 y hy))
def bTDomain (M : Nat) (x : TDomain) : Prop := b_l_int M x.MinStart ∧ b_l_int M x.MaxStart ∧ b_l_l_int M x.Modes ∧  True
theorem w_szDomain_ok (x : TDomain) (h : bTDomain 9223372036854775807 x) : SzOk w_szDomain (bTDomain 1048576) x := fun n m0 hn => by
  unfold w_szDomain bTDomain
  unfold bTDomain at h
  exact szThen (w_szIntS_ok _ h.1) m0 (by omega) (fun n1 m1 _ _ => szThen (w_szIntS_ok _ h.2.1) m1 (by omega) (fun n2 m2 _ _ => szThen (w_szIntSS_ok _ h.2.2.1) m2 (by omega) (fun n3 m3 _ _ => szEnd m3)))
theorem w_toIntSS_eq (x : List (List Int)) (h : b_l_l_int 1048576 x) : w_toIntSS x = some x := fillList (F := w_toIntSS_L1) (Q := b_l_int 1048576) (fun _ _ => rfl) (fun x xs z a y hq hy => by simp only [w_toIntSS_L1, w_toIntS_eq x hq, hy, Option.bind_some]) h.1 h.2 rfl
theorem w_toDomain_eq (x : TDomain) (h : bTDomain 1048576 x) : w_toDomain x = some x := by
  unfold bTDomain at h
  unfold w_toDomain
  try simp only [w_toIntS_eq _ (h.1), w_toIntS_eq _ (h.2.1), w_toIntSS_eq _ (h.2.2.1), Option.bind_some]
theorem w_eqIntSS_eq (a b : List (List Int)) : w_eqIntSS a b = some (decide (a = b)) := eqList (F := w_eqIntSS_L1 b) (fun _ => rfl) (fun x xs z y h => by simp only [w_eqIntSS_L1, h, Option.bind_some, int_bne, w_eqIntS_eq]; by_cases hxy : x = y <;> simp [hxy]) rfl
theorem w_eqDomain_eq (a b : TDomain) : w_eqDomain a b = some (decide (a = b)) := by
  obtain ⟨a0, a1, a2⟩ := a
  obtain ⟨b0, b1, b2⟩ := b
  simp only [w_eqDomain, w_eqIntS_eq, w_eqIntS_eq, w_eqIntSS_eq, TDomain.mk.injEq, Option.bind_some, int_bne, bool_bne, ba_bne]
  by_cases h0 : a0 = b0 <;> by_cases h1 : a1 = b1 <;> by_cases h2 : a2 = b2 <;> simp [h0, h1, h2]
theorem w_markIntS_k_ok (x : List Int) (h : b_l_int 1048576 x) : MkOk w_markIntS_k 1048576 x :=
  MkOk.list (L1 := w_markIntS_k_L1) (e := 1) (Q := fun _ => True) (fun _ _ => rfl) (fun x xs z k hx h0 hb => by
    skip
    refine ⟨(k + 1), by omega, by omega, ?_⟩
    simp only [w_markIntS_k_L1]
    rw [W_of (n := (k + 1)) ⟨by omega, by omega⟩])
    (fun l k => by unfold w_markIntS_k; cases w_markIntS_k_L1 l 0 k <;> rfl) h (fun _ _ => trivial) (by decide)
theorem w_markIntSS_k_ok (x : List (List Int)) (h : b_l_l_int 1048576 x) : MkOk w_markIntSS_k 1099511627776 x :=
  MkOk.list (L1 := w_markIntSS_k_L1) (e := 1048576) (Q := b_l_int 1048576) (fun _ _ => rfl) (fun x xs z k hx h0 hb => by
    obtain ⟨k0, e0, l0, u0⟩ := w_markIntS_k_ok x hx k (by omega) (by omega)
    refine ⟨k0, by omega, by omega, ?_⟩
    simp only [w_markIntSS_k_L1]
    rw [e0, Option.bind_some])
    (fun l k => by unfold w_markIntSS_k; cases w_markIntSS_k_L1 l 0 k <;> rfl) h.1 h.2 (by decide)
theorem w_markDomain_k_ok (x : TDomain) (h : bTDomain 1048576 x) : MkOk w_markDomain_k 1099513724928 x := fun k h0 hb => by
  unfold bTDomain at h
  obtain ⟨k0, e0, l0, u0⟩ := w_markIntS_k_ok x.MinStart (h.1) k (by omega) (by omega)
  obtain ⟨k1, e1, l1, u1⟩ := w_markIntS_k_ok x.MaxStart (h.2.1) k0 (by omega) (by omega)
  obtain ⟨k2, e2, l2, u2⟩ := w_markIntSS_k_ok x.Modes (h.2.2.1) k1 (by omega) (by omega)
  refine ⟨k2, ?_, by omega, by omega⟩
  unfold w_markDomain_k
  rw [e0, Option.bind_some, e1, Option.bind_some, e2, Option.bind_some]
theorem w_markIntS_res (x : List Int) (h : b_l_int 1048576 x) (k0 : Int) (hk0 : 0 ≤ k0) (hk1 : k0 + 1048576 ≤ 1099511627776) : ∃ k ys, w_markIntS x k0 = some (k, ys) ∧ w_heldIntS ys k0 = some k ∧ k0 ≤ k ∧ k ≤ k0 + 1048576 := by
  replace h : x.length ≤ 1048576 := h
  have e1 := markFlat (G := w_markIntS_L1) (c := 1) (up := (fun k _ => k)) (by decide) (fun fuel k i l x hi hil hl h0 hb hx => by
    have hd : decide (i < (l.length : Int)) = true := decide_eq_true hil
    have hlt : i.toNat < l.length := by omega
    have hx2 : ∀ y, idxL (l.set i.toNat y) i = some y := fun y => by simp [idxL, hi, hlt]
    replace hx : idxL l i = some x := by simp [idxL, hi, hx]
    simp only [w_markIntS_L1, hd, cond_true, hx, Option.bind_some, W_of (n := k + 1) ⟨by omega, by omega⟩, W_of (n := i + 1) ⟨by omega, by omega⟩, setL]; rfl)
    (fun fuel k i l hi => by
    have hd : decide (i < (l.length : Int)) = false := decide_eq_false (by omega)
    simp only [w_markIntS_L1, hd, cond_false]) h hk0 (by omega)
  have hb : (1 : Int) * (x.length : Int) ≤ 1048576 := by omega
  have e2 := heldFlat (H := w_heldIntS_L1) (c := 1) (up := (fun k _ => k)) (by decide) (fun x xs z k h0 hb => by
    simp only [w_heldIntS_L1, int_bne, decide_true, Bool.not_true, cond_false, W_of (n := k + 1) ⟨by omega, by omega⟩]; rfl) (fun _ _ => rfl) x 0 k0 hk0 (by omega)
  refine ⟨_, _, by unfold w_markIntS; rw [e1]; rfl, by unfold w_heldIntS; rw [e2]; rfl, by omega, by omega⟩
theorem w_markSchedule_res (x : TSchedule) (h : bTSchedule 1048576 x) (k0 : Int) (hk0 : 0 ≤ k0) (hk1 : k0 + 2097152 ≤ 1099511627776) : ∃ k y1 y2, w_markSchedule x k0 = some (k, y1, y2) ∧ w_heldSchedule (TSchedule.mk y1 y2) k0 = some k ∧ k0 ≤ k ∧ k ≤ k0 + 2097152 := by
  unfold bTSchedule at h
  obtain ⟨k1, a0_1, m0, l0, g0, n0⟩ := w_markIntS_res x.Starts (h.1) k0 (by omega) (by omega)
  obtain ⟨k2, a1_1, m1, l1, g1, n1⟩ := w_markIntS_res x.Modes (h.2.1) k1 (by omega) (by omega)
  refine ⟨k2, a0_1, a1_1, by unfold w_markSchedule; simp only [m0, Option.bind_some, m1, Option.bind_some], by unfold w_heldSchedule; simp only [l0, Option.bind_some, decide_eq_false (show ¬ k1 < 0 by omega), cond_false, l1, Option.bind_some, decide_eq_false (show ¬ k2 < 0 by omega), cond_false], by omega, by omega⟩
structure TboundsError where
  x : Int
  y : Int
  signed : Bool
  code : Int
  deriving DecidableEq
structure TerrorAddressString where
  msg : ByteArray
  addr : Int
  deriving DecidableEq
theorem TRule_beq (x y : TRule) : (x.Kind == y.Kind && (x.A == y.A && (x.B == y.B && (x.C == y.C && true)))) = decide (x = y) := by
  obtain ⟨x0, x1, x2, x3⟩ := x
  obtain ⟨y0, y1, y2, y3⟩ := y
  simp only [TRule.mk.injEq, int_beq, bool_beq, ba_beq, Bool.and_true, Bool.decide_and]
theorem TLiteral_beq (x y : TLiteral) : (x.Kind == y.Kind && (x.Activity == y.Activity && (x.Value == y.Value && true))) = decide (x = y) := by
  obtain ⟨x0, x1, x2⟩ := x
  obtain ⟨y0, y1, y2⟩ := y
  simp only [TLiteral.mk.injEq, int_beq, bool_beq, ba_beq, Bool.and_true, Bool.decide_and]
theorem decb_int : ∀ p, Val .int p → ∃ x : Int, p = int x ∧ True := fun p h => by obtain ⟨n, e⟩ := dec_int h; exact ⟨n, e, trivial⟩
theorem decb_l_int : ∀ p, Val (.slice .int) p → ∃ x : List Int, p = .slice (x.map int) ∧ b_l_int 9223372036854775807 x := fun p h => by
  obtain ⟨l, e, h1, h2⟩ := dec_slice decb_int h
  exact ⟨l, e, h1⟩
theorem decb_l_l_int : ∀ p, Val (.slice (.slice .int)) p → ∃ x : List (List Int), p = .slice (x.map l_int) ∧ b_l_l_int 9223372036854775807 x := fun p h => by
  obtain ⟨l, e, h1, h2⟩ := dec_slice decb_l_int h
  exact ⟨l, e, h1, h2⟩
theorem decb_TDomain : ∀ p, Val (.agg [.slice .int, .slice .int, .slice (.slice .int)]) p → ∃ x : TDomain, p = eTDomain x ∧ bTDomain 9223372036854775807 x := fun p h => by
  obtain ⟨zs0, rfl, hv0⟩ := h
  obtain ⟨x0, zs1, rfl, h0, hv1⟩ := vals_cons hv0
  obtain ⟨y0, rfl, b0⟩ := decb_l_int _ h0
  obtain ⟨x1, zs2, rfl, h1, hv2⟩ := vals_cons hv1
  obtain ⟨y1, rfl, b1⟩ := decb_l_int _ h1
  obtain ⟨x2, zs3, rfl, h2, hv3⟩ := vals_cons hv2
  obtain ⟨y2, rfl, b2⟩ := decb_l_l_int _ h2
  obtain rfl := vals_nil hv3
  exact ⟨⟨y0, y1, y2⟩, rfl, ⟨b0, b1, b2, trivial⟩⟩
end Go.Px.Ythdejnjjdihmfaa
