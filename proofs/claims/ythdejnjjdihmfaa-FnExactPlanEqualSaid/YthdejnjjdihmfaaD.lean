/-
  PROVED: definitions that say what functions of the program compute, and facts on them. No condition beyond those that each theorem names.
-/
import Derived.Test.YthdejnjjdihmfaaQ2
namespace Go.Px.Ythdejnjjdihmfaa
set_option linter.unusedSimpArgs false
set_option linter.unusedVariables false
open Go.Px
structure TSchedule where
  Starts : List Int
  Modes : List Int
  deriving DecidableEq
structure TPlan where
  Schedule : TSchedule
  Done : List Int
  deriving DecidableEq
structure TRule where
  Kind : Int
  A : Int
  B : Int
  C : Int
  deriving DecidableEq
structure TLiteral where
  Kind : Int
  Activity : Int
  Value : Int
  deriving DecidableEq
structure TLine where
  Kind : Int
  Rule : TRule
  Clause : List TLiteral
  deriving DecidableEq
abbrev eTPlan (x : TPlan) : PV := .agg [.slice (x.Schedule.Starts.map int), .slice (x.Schedule.Modes.map int), .slice (x.Done.map int)]
abbrev eTSchedule (x : TSchedule) : PV := .agg [.slice (x.Starts.map int), .slice (x.Modes.map int)]
abbrev eTLiteral (x : TLiteral) : PV := .agg [int x.Kind, int x.Activity, int x.Value]
abbrev eTLine (x : TLine) : PV := .agg [int x.Kind, int x.Rule.Kind, int x.Rule.A, int x.Rule.B, int x.Rule.C, .slice (x.Clause.map eTLiteral)]
abbrev eTRule (x : TRule) : PV := .agg [int x.Kind, int x.A, int x.B, int x.C]
def w_szIntS (b0 : List Int) (b1 : Int) : Option Int :=
  (bif (decide ((W (b1 - (b0.length : Int))) < 0)) then
  some (-1)
  else
  some (W (b1 - (b0.length : Int))))
def w_szSchedule (b0 : TSchedule) (b1 : Int) : Option Int :=
  (w_szIntS b0.Starts b1).bind fun v1 =>
  (bif (decide (v1 < 0)) then
  some (-1)
  else
  (w_szIntS b0.Modes v1).bind fun v3 =>
  (bif (decide (v3 < 0)) then
  some (-1)
  else
  some v3))
def w_szPlan (b0 : TPlan) (b1 : Int) : Option Int :=
  (w_szSchedule b0.Schedule b1).bind fun v1 =>
  (bif (decide (v1 < 0)) then
  some (-1)
  else
  (w_szIntS b0.Done v1).bind fun v3 =>
  (bif (decide (v3 < 0)) then
  some (-1)
  else
  some v3))
def w_toIntS_L1  : List Int → Int → (List Int) → Option (List Int)
  | [], z9, a10 =>
    some a10
  | x11 :: xs12, z9, a10 =>
    (idxL a10 z9).bind fun v14 =>
    w_toIntS_L1 xs12 (z9 + 1) (setL a10 z9 x11)
def w_toIntS (b0 : List Int) : Option (List Int) :=
  (makeL 0 (b0.length : Int)).bind fun v1 =>
  Option.bind
  (w_toIntS_L1 b0 0 v1) fun p15 =>
  some p15
def w_toSchedule (b0 : TSchedule) : Option TSchedule :=
  (w_toIntS b0.Starts).bind fun v1 =>
  (w_toIntS b0.Modes).bind fun v2 =>
  some (TSchedule.mk v1 v2)
def w_toPlan (b0 : TPlan) : Option TPlan :=
  (w_toSchedule b0.Schedule).bind fun v1 =>
  (w_toIntS b0.Done).bind fun v2 =>
  some (TPlan.mk v1 v2)
def s_SetEqual_L1 (b1 : List Int) : List Int → Int → Option (Unit ⊕ Bool)
  | [], z9 =>
    some (Sum.inl ())
  | x10 :: xs11, z9 =>
    (idxL b1 z9).bind fun v13 =>
    (bif (x10 != v13) then
    some (Sum.inr false)
    else
    s_SetEqual_L1 b1 xs11 (z9 + 1))
def s_SetEqual (b0 : List Int) (b1 : List Int) : Option Bool :=
  (bif ((b0.length : Int) != (b1.length : Int)) then
  some false
  else
  sumBind
  (s_SetEqual_L1 b1 b0 0)
  (fun q16 => some q16) fun p15 =>
  some true)
def s_ScheduleEqual (b0 : TSchedule) (b1 : TSchedule) : Option Bool :=
  (s_SetEqual b0.Starts b1.Starts).bind fun v1 =>
  Option.bind
  ((bif v1 then
  (s_SetEqual b0.Modes b1.Modes).bind fun v4 =>
  some v4
  else
  some false)) fun e2 =>
  some e2
def s_PlanEqual (b0 : TPlan) (b1 : TPlan) : Option Bool :=
  (s_ScheduleEqual b0.Schedule b1.Schedule).bind fun v1 =>
  Option.bind
  ((bif v1 then
  (s_SetEqual b0.Done b1.Done).bind fun v4 =>
  some v4
  else
  some false)) fun e2 =>
  some e2
def slices_Equal_int_L1 (b1 : List Int) : List Int → Int → Option (Unit ⊕ Bool)
  | [], z9 =>
    some (Sum.inl ())
  | x10 :: xs11, z9 =>
    (idxL b1 z9).bind fun v13 =>
    (bif (x10 != v13) then
    some (Sum.inr false)
    else
    slices_Equal_int_L1 b1 xs11 (z9 + 1))
def slices_Equal_int (b0 : List Int) (b1 : List Int) : Option Bool :=
  (bif ((b0.length : Int) != (b1.length : Int)) then
  some false
  else
  sumBind
  (slices_Equal_int_L1 b1 b0 0)
  (fun q16 => some q16) fun p15 =>
  some true)
def i_ScheduleEqual (b0 : TSchedule) (b1 : TSchedule) : Option Bool :=
  (slices_Equal_int b0.Starts b1.Starts).bind fun v1 =>
  Option.bind
  ((bif v1 then
  (slices_Equal_int b0.Modes b1.Modes).bind fun v4 =>
  some v4
  else
  some false)) fun e2 =>
  some e2
def i_PlanEqual (b0 : TPlan) (b1 : TPlan) : Option Bool :=
  (i_ScheduleEqual b0.Schedule b1.Schedule).bind fun v1 =>
  Option.bind
  ((bif v1 then
  (slices_Equal_int b0.Done b1.Done).bind fun v4 =>
  some v4
  else
  some false)) fun e2 =>
  some e2
def w_eqIntS_L1 (b1 : List Int) : List Int → Int → Option (Unit ⊕ Bool)
  | [], z9 =>
    some (Sum.inl ())
  | x10 :: xs11, z9 =>
    (idxL b1 z9).bind fun v13 =>
    (bif (x10 != v13) then
    some (Sum.inr false)
    else
    w_eqIntS_L1 b1 xs11 (z9 + 1))
def w_eqIntS (b0 : List Int) (b1 : List Int) : Option Bool :=
  (bif ((b0.length : Int) != (b1.length : Int)) then
  some false
  else
  sumBind
  (w_eqIntS_L1 b1 b0 0)
  (fun q16 => some q16) fun p15 =>
  some true)
def w_eqSchedule (b0 : TSchedule) (b1 : TSchedule) : Option Bool :=
  (w_eqIntS b0.Starts b1.Starts).bind fun v1 =>
  (bif (!v1) then
  some false
  else
  (w_eqIntS b0.Modes b1.Modes).bind fun v3 =>
  (bif (!v3) then
  some false
  else
  some true))
def w_eqPlan (b0 : TPlan) (b1 : TPlan) : Option Bool :=
  (w_eqSchedule b0.Schedule b1.Schedule).bind fun v1 =>
  (bif (!v1) then
  some false
  else
  (w_eqIntS b0.Done b1.Done).bind fun v3 =>
  (bif (!v3) then
  some false
  else
  some true))
def w_FnExactPlanEqual (b0 : TPlan) (b1 : TPlan) : Option Bool :=
  (w_szPlan b0 1048576).bind fun v1 =>
  (bif (decide (v1 < 0)) then
  some true
  else
  (w_szPlan b1 v1).bind fun v3 =>
  (bif (decide (v3 < 0)) then
  some true
  else
  (w_toPlan b0).bind fun v5 =>
  (w_toPlan b1).bind fun v6 =>
  (s_PlanEqual v5 v6).bind fun v7 =>
  (w_toPlan b0).bind fun v8 =>
  (w_toPlan b1).bind fun v9 =>
  (i_PlanEqual v8 v9).bind fun v10 =>
  (bif (v10 != v7) then
  some false
  else
  (w_toPlan b0).bind fun v12 =>
  (w_eqPlan v8 v12).bind fun v13 =>
  (bif (!v13) then
  some false
  else
  (w_toPlan b1).bind fun v15 =>
  (w_eqPlan v9 v15).bind fun v16 =>
  (bif (!v16) then
  some false
  else
  some true)))))
def w_szLiteralS (b0 : List TLiteral) (b1 : Int) : Option Int :=
  (bif (decide ((W (b1 - (b0.length : Int))) < 0)) then
  some (-1)
  else
  some (W (b1 - (b0.length : Int))))
def w_szLine (b0 : TLine) (b1 : Int) : Option Int :=
  (w_szLiteralS b0.Clause b1).bind fun v1 =>
  (bif (decide (v1 < 0)) then
  some (-1)
  else
  some v1)
def w_toRule (b0 : TRule) : Option TRule :=
  some b0
def w_toLiteral (b0 : TLiteral) : Option TLiteral :=
  some b0
def w_toLiteralS_L1  : List TLiteral → Int → (List TLiteral) → Option (List TLiteral)
  | [], z9, a10 =>
    some a10
  | x11 :: xs12, z9, a10 =>
    (w_toLiteral x11).bind fun v14 =>
    (idxL a10 z9).bind fun v15 =>
    w_toLiteralS_L1 xs12 (z9 + 1) (setL a10 z9 v14)
def w_toLiteralS (b0 : List TLiteral) : Option (List TLiteral) :=
  (makeL (TLiteral.mk 0 0 0) (b0.length : Int)).bind fun v1 =>
  Option.bind
  (w_toLiteralS_L1 b0 0 v1) fun p16 =>
  some p16
def w_toLine (b0 : TLine) : Option TLine :=
  (w_toRule b0.Rule).bind fun v1 =>
  (w_toLiteralS b0.Clause).bind fun v2 =>
  some (TLine.mk b0.Kind v1 v2)
def s_ClauseEqual_L1 (b1 : List TLiteral) : List TLiteral → Int → Option (Unit ⊕ Bool)
  | [], z9 =>
    some (Sum.inl ())
  | x10 :: xs11, z9 =>
    (idxL b1 z9).bind fun v13 =>
    (bif (!(x10.Kind == v13.Kind && (x10.Activity == v13.Activity && (x10.Value == v13.Value && true)))) then
    some (Sum.inr false)
    else
    s_ClauseEqual_L1 b1 xs11 (z9 + 1))
def s_ClauseEqual (b0 : List TLiteral) (b1 : List TLiteral) : Option Bool :=
  (bif ((b0.length : Int) != (b1.length : Int)) then
  some false
  else
  sumBind
  (s_ClauseEqual_L1 b1 b0 0)
  (fun q16 => some q16) fun p15 =>
  some true)
def s_LineEqual (b0 : TLine) (b1 : TLine) : Option Bool :=
  Option.bind
  ((bif (b0.Kind == b1.Kind) then
  (bif (b0.Rule.Kind == b1.Rule.Kind && (b0.Rule.A == b1.Rule.A && (b0.Rule.B == b1.Rule.B && (b0.Rule.C == b1.Rule.C && true)))) then
  (s_ClauseEqual b0.Clause b1.Clause).bind fun v4 =>
  some v4
  else
  some false)
  else
  some false)) fun e1 =>
  some e1
def slices_Equal_Literal_L1 (b1 : List TLiteral) : List TLiteral → Int → Option (Unit ⊕ Bool)
  | [], z9 =>
    some (Sum.inl ())
  | x10 :: xs11, z9 =>
    (idxL b1 z9).bind fun v13 =>
    (bif (!(x10.Kind == v13.Kind && (x10.Activity == v13.Activity && (x10.Value == v13.Value && true)))) then
    some (Sum.inr false)
    else
    slices_Equal_Literal_L1 b1 xs11 (z9 + 1))
def slices_Equal_Literal (b0 : List TLiteral) (b1 : List TLiteral) : Option Bool :=
  (bif ((b0.length : Int) != (b1.length : Int)) then
  some false
  else
  sumBind
  (slices_Equal_Literal_L1 b1 b0 0)
  (fun q16 => some q16) fun p15 =>
  some true)
def i_LineEqual (b0 : TLine) (b1 : TLine) : Option Bool :=
  Option.bind
  ((bif (b0.Kind == b1.Kind) then
  (bif (b0.Rule.Kind == b1.Rule.Kind && (b0.Rule.A == b1.Rule.A && (b0.Rule.B == b1.Rule.B && (b0.Rule.C == b1.Rule.C && true)))) then
  (slices_Equal_Literal b0.Clause b1.Clause).bind fun v4 =>
  some v4
  else
  some false)
  else
  some false)) fun e1 =>
  some e1
def w_eqRule (b0 : TRule) (b1 : TRule) : Option Bool :=
  (bif (b0.Kind != b1.Kind) then
  some false
  else
  (bif (b0.A != b1.A) then
  some false
  else
  (bif (b0.B != b1.B) then
  some false
  else
  (bif (b0.C != b1.C) then
  some false
  else
  some true))))
def w_eqLiteral (b0 : TLiteral) (b1 : TLiteral) : Option Bool :=
  (bif (b0.Kind != b1.Kind) then
  some false
  else
  (bif (b0.Activity != b1.Activity) then
  some false
  else
  (bif (b0.Value != b1.Value) then
  some false
  else
  some true)))
def w_eqLiteralS_L1 (b1 : List TLiteral) : List TLiteral → Int → Option (Unit ⊕ Bool)
  | [], z9 =>
    some (Sum.inl ())
  | x10 :: xs11, z9 =>
    (idxL b1 z9).bind fun v13 =>
    (w_eqLiteral x10 v13).bind fun v14 =>
    (bif (!v14) then
    some (Sum.inr false)
    else
    w_eqLiteralS_L1 b1 xs11 (z9 + 1))
def w_eqLiteralS (b0 : List TLiteral) (b1 : List TLiteral) : Option Bool :=
  (bif ((b0.length : Int) != (b1.length : Int)) then
  some false
  else
  sumBind
  (w_eqLiteralS_L1 b1 b0 0)
  (fun q17 => some q17) fun p16 =>
  some true)
def w_eqLine (b0 : TLine) (b1 : TLine) : Option Bool :=
  (bif (b0.Kind != b1.Kind) then
  some false
  else
  (w_eqRule b0.Rule b1.Rule).bind fun v2 =>
  (bif (!v2) then
  some false
  else
  (w_eqLiteralS b0.Clause b1.Clause).bind fun v4 =>
  (bif (!v4) then
  some false
  else
  some true)))
def w_FnExactLineEqual (b0 : TLine) (b1 : TLine) : Option Bool :=
  (w_szLine b0 1048576).bind fun v1 =>
  (bif (decide (v1 < 0)) then
  some true
  else
  (w_szLine b1 v1).bind fun v3 =>
  (bif (decide (v3 < 0)) then
  some true
  else
  (w_toLine b0).bind fun v5 =>
  (w_toLine b1).bind fun v6 =>
  (s_LineEqual v5 v6).bind fun v7 =>
  (w_toLine b0).bind fun v8 =>
  (w_toLine b1).bind fun v9 =>
  (i_LineEqual v8 v9).bind fun v10 =>
  (bif (v10 != v7) then
  some false
  else
  (w_toLine b0).bind fun v12 =>
  (w_eqLine v8 v12).bind fun v13 =>
  (bif (!v13) then
  some false
  else
  (w_toLine b1).bind fun v15 =>
  (w_eqLine v9 v15).bind fun v16 =>
  (bif (!v16) then
  some false
  else
  some true)))))
def b_l_int (M : Nat) (l : List Int) : Prop := l.length ≤ M
theorem w_szIntS_ok (x : List Int) (h : b_l_int 9223372036854775807 x) : SzOk w_szIntS (b_l_int 1048576) x := szFlat x (fun _ => rfl) h
def b_str (M : Nat) (x : ByteArray) : Prop := x.size ≤ M
def bTSchedule (M : Nat) (x : TSchedule) : Prop := b_l_int M x.Starts ∧ b_l_int M x.Modes ∧  True
theorem w_szSchedule_ok (x : TSchedule) (h : bTSchedule 9223372036854775807 x) : SzOk w_szSchedule (bTSchedule 1048576) x := fun n m0 hn => by
  unfold w_szSchedule bTSchedule
  unfold bTSchedule at h
  exact szThen (w_szIntS_ok _ h.1) m0 (by omega) (fun n1 m1 _ _ => szThen (w_szIntS_ok _ h.2.1) m1 (by omega) (fun n2 m2 _ _ => szEnd m2))
def bTPlan (M : Nat) (x : TPlan) : Prop := bTSchedule M x.Schedule ∧ b_l_int M x.Done ∧  True
theorem w_szPlan_ok (x : TPlan) (h : bTPlan 9223372036854775807 x) : SzOk w_szPlan (bTPlan 1048576) x := fun n m0 hn => by
  unfold w_szPlan bTPlan
  unfold bTPlan at h
  exact szThen (w_szSchedule_ok _ h.1) m0 (by omega) (fun n1 m1 _ _ => szThen (w_szIntS_ok _ h.2.1) m1 (by omega) (fun n2 m2 _ _ => szEnd m2))
theorem w_toIntS_eq (x : List Int) (h : b_l_int 1048576 x) : w_toIntS x = some x := fillList (F := w_toIntS_L1) (Q := fun _ => True) (fun _ _ => rfl) (fun x xs z a y hq hy => by simp only [w_toIntS_L1, hy, Option.bind_some]) h (fun _ _ => trivial) rfl
theorem w_toSchedule_eq (x : TSchedule) (h : bTSchedule 1048576 x) : w_toSchedule x = some x := by
  unfold bTSchedule at h
  unfold w_toSchedule
  try simp only [w_toIntS_eq _ (h.1), w_toIntS_eq _ (h.2.1), Option.bind_some]
theorem w_toPlan_eq (x : TPlan) (h : bTPlan 1048576 x) : w_toPlan x = some x := by
  unfold bTPlan at h
  unfold w_toPlan
  try simp only [w_toSchedule_eq _ (h.1), w_toIntS_eq _ (h.2.1), Option.bind_some]
theorem w_eqIntS_eq (a b : List Int) : w_eqIntS a b = some (decide (a = b)) := eqList (F := w_eqIntS_L1 b) (fun _ => rfl) (fun x xs z y h => by simp only [w_eqIntS_L1, h, Option.bind_some, int_bne]; by_cases hxy : x = y <;> simp [hxy]) rfl
theorem w_eqSchedule_eq (a b : TSchedule) : w_eqSchedule a b = some (decide (a = b)) := by
  obtain ⟨a0, a1⟩ := a
  obtain ⟨b0, b1⟩ := b
  simp only [w_eqSchedule, w_eqIntS_eq, w_eqIntS_eq, TSchedule.mk.injEq, Option.bind_some, int_bne, bool_bne, ba_bne]
  by_cases h0 : a0 = b0 <;> by_cases h1 : a1 = b1 <;> simp [h0, h1]
theorem w_eqPlan_eq (a b : TPlan) : w_eqPlan a b = some (decide (a = b)) := by
  obtain ⟨a0, a1⟩ := a
  obtain ⟨b0, b1⟩ := b
  simp only [w_eqPlan, w_eqSchedule_eq, w_eqIntS_eq, TPlan.mk.injEq, Option.bind_some, int_bne, bool_bne, ba_bne]
  by_cases h0 : a0 = b0 <;> by_cases h1 : a1 = b1 <;> simp [h0, h1]
def b_l_eTLiteral (M : Nat) (l : List TLiteral) : Prop := l.length ≤ M
theorem w_szLiteralS_ok (x : List TLiteral) (h : b_l_eTLiteral 9223372036854775807 x) : SzOk w_szLiteralS (b_l_eTLiteral 1048576) x := szFlat x (fun _ => rfl) h
def bTLine (M : Nat) (x : TLine) : Prop := b_l_eTLiteral M x.Clause ∧  True
theorem w_szLine_ok (x : TLine) (h : bTLine 9223372036854775807 x) : SzOk w_szLine (bTLine 1048576) x := fun n m0 hn => by
  unfold w_szLine bTLine
  unfold bTLine at h
  exact szThen (w_szLiteralS_ok _ h.1) m0 (by omega) (fun n1 m1 _ _ => szEnd m1)
theorem w_toRule_eq (x : TRule) : w_toRule x = some x := by
  unfold w_toRule
  try simp only [Option.bind_some]
theorem w_toLiteral_eq (x : TLiteral) : w_toLiteral x = some x := by
  unfold w_toLiteral
  try simp only [Option.bind_some]
theorem w_toLiteralS_eq (x : List TLiteral) (h : b_l_eTLiteral 1048576 x) : w_toLiteralS x = some x := fillList (F := w_toLiteralS_L1) (Q := fun _ => True) (fun _ _ => rfl) (fun x xs z a y hq hy => by simp only [w_toLiteralS_L1, w_toLiteral_eq, hy, Option.bind_some]) h (fun _ _ => trivial) rfl
theorem w_toLine_eq (x : TLine) (h : bTLine 1048576 x) : w_toLine x = some x := by
  unfold bTLine at h
  unfold w_toLine
  try simp only [w_toRule_eq, w_toLiteralS_eq _ (h.1), Option.bind_some]
theorem w_eqRule_eq (a b : TRule) : w_eqRule a b = some (decide (a = b)) := by
  obtain ⟨a0, a1, a2, a3⟩ := a
  obtain ⟨b0, b1, b2, b3⟩ := b
  simp only [w_eqRule, TRule.mk.injEq, Option.bind_some, int_bne, bool_bne, ba_bne]
  by_cases h0 : a0 = b0 <;> by_cases h1 : a1 = b1 <;> by_cases h2 : a2 = b2 <;> by_cases h3 : a3 = b3 <;> simp [h0, h1, h2, h3]
theorem w_eqLiteral_eq (a b : TLiteral) : w_eqLiteral a b = some (decide (a = b)) := by
  obtain ⟨a0, a1, a2⟩ := a
  obtain ⟨b0, b1, b2⟩ := b
  simp only [w_eqLiteral, TLiteral.mk.injEq, Option.bind_some, int_bne, bool_bne, ba_bne]
  by_cases h0 : a0 = b0 <;> by_cases h1 : a1 = b1 <;> by_cases h2 : a2 = b2 <;> simp [h0, h1, h2]
theorem w_eqLiteralS_eq (a b : List TLiteral) : w_eqLiteralS a b = some (decide (a = b)) := eqList (F := w_eqLiteralS_L1 b) (fun _ => rfl) (fun x xs z y h => by simp only [w_eqLiteralS_L1, h, Option.bind_some, int_bne, w_eqLiteral_eq]; by_cases hxy : x = y <;> simp [hxy]) rfl
theorem w_eqLine_eq (a b : TLine) : w_eqLine a b = some (decide (a = b)) := by
  obtain ⟨a0, a1, a2⟩ := a
  obtain ⟨b0, b1, b2⟩ := b
  simp only [w_eqLine, w_eqRule_eq, w_eqLiteralS_eq, TLine.mk.injEq, Option.bind_some, int_bne, bool_bne, ba_bne]
  by_cases h0 : a0 = b0 <;> by_cases h1 : a1 = b1 <;> by_cases h2 : a2 = b2 <;> simp [h0, h1, h2]
theorem TLiteral_beq (x y : TLiteral) : (x.Kind == y.Kind && (x.Activity == y.Activity && (x.Value == y.Value && true))) = decide (x = y) := by
  obtain ⟨x0, x1, x2⟩ := x
  obtain ⟨y0, y1, y2⟩ := y
  simp only [TLiteral.mk.injEq, int_beq, bool_beq, ba_beq, Bool.and_true, Bool.decide_and]
theorem s_ClauseEqual_eq (a b : List TLiteral) : s_ClauseEqual a b = some (decide (a = b)) := eqList (F := s_ClauseEqual_L1 b) (fun _ => rfl) (fun x xs z y h => by simp only [s_ClauseEqual_L1, h, Option.bind_some, TLiteral_beq]; by_cases hxy : x = y <;> simp [hxy]) rfl
theorem slices_Equal_Literal_eq (a b : List TLiteral) : slices_Equal_Literal a b = some (decide (a = b)) := eqList (F := slices_Equal_Literal_L1 b) (fun _ => rfl) (fun x xs z y h => by simp only [slices_Equal_Literal_L1, h, Option.bind_some, TLiteral_beq]; by_cases hxy : x = y <;> simp [hxy]) rfl
theorem decb_int : ∀ p, Val .int p → ∃ x : Int, p = int x ∧ True := fun p h => by obtain ⟨n, e⟩ := dec_int h; exact ⟨n, e, trivial⟩
theorem decb_l_int : ∀ p, Val (.slice .int) p → ∃ x : List Int, p = .slice (x.map int) ∧ b_l_int 9223372036854775807 x := fun p h => by
  obtain ⟨l, e, h1, h2⟩ := dec_slice decb_int h
  exact ⟨l, e, h1⟩
theorem decb_TSchedule : ∀ p, Val (.agg [.slice .int, .slice .int]) p → ∃ x : TSchedule, p = eTSchedule x ∧ bTSchedule 9223372036854775807 x := fun p h => by
  obtain ⟨zs0, rfl, hv0⟩ := h
  obtain ⟨x0, zs1, rfl, h0, hv1⟩ := vals_cons hv0
  obtain ⟨y0, rfl, b0⟩ := decb_l_int _ h0
  obtain ⟨x1, zs2, rfl, h1, hv2⟩ := vals_cons hv1
  obtain ⟨y1, rfl, b1⟩ := decb_l_int _ h1
  obtain rfl := vals_nil hv2
  exact ⟨⟨y0, y1⟩, rfl, ⟨b0, b1, trivial⟩⟩
theorem decb_TPlan : ∀ p, Val (.agg [.agg [.slice .int, .slice .int], .slice .int]) p → ∃ x : TPlan, p = eTPlan x ∧ bTPlan 9223372036854775807 x := fun p h => by
  obtain ⟨zs0, rfl, hv0⟩ := h
  obtain ⟨x0, zs1, rfl, h0, hv1⟩ := vals_cons hv0
  obtain ⟨y0, rfl, b0⟩ := decb_TSchedule _ h0
  obtain ⟨x1, zs2, rfl, h1, hv2⟩ := vals_cons hv1
  obtain ⟨y1, rfl, b1⟩ := decb_l_int _ h1
  obtain rfl := vals_nil hv2
  exact ⟨⟨y0, y1⟩, rfl, ⟨b0, b1, trivial⟩⟩
theorem decb_TRule : ∀ p, Val (.agg [.int, .int, .int, .int]) p → ∃ x : TRule, p = eTRule x ∧ True := fun p h => by
  obtain ⟨zs0, rfl, hv0⟩ := h
  obtain ⟨x0, zs1, rfl, h0, hv1⟩ := vals_cons hv0
  obtain ⟨y0, rfl, b0⟩ := decb_int _ h0
  obtain ⟨x1, zs2, rfl, h1, hv2⟩ := vals_cons hv1
  obtain ⟨y1, rfl, b1⟩ := decb_int _ h1
  obtain ⟨x2, zs3, rfl, h2, hv3⟩ := vals_cons hv2
  obtain ⟨y2, rfl, b2⟩ := decb_int _ h2
  obtain ⟨x3, zs4, rfl, h3, hv4⟩ := vals_cons hv3
  obtain ⟨y3, rfl, b3⟩ := decb_int _ h3
  obtain rfl := vals_nil hv4
  exact ⟨⟨y0, y1, y2, y3⟩, rfl, trivial⟩
theorem decb_TLiteral : ∀ p, Val (.agg [.int, .int, .int]) p → ∃ x : TLiteral, p = eTLiteral x ∧ True := fun p h => by
  obtain ⟨zs0, rfl, hv0⟩ := h
  obtain ⟨x0, zs1, rfl, h0, hv1⟩ := vals_cons hv0
  obtain ⟨y0, rfl, b0⟩ := decb_int _ h0
  obtain ⟨x1, zs2, rfl, h1, hv2⟩ := vals_cons hv1
  obtain ⟨y1, rfl, b1⟩ := decb_int _ h1
  obtain ⟨x2, zs3, rfl, h2, hv3⟩ := vals_cons hv2
  obtain ⟨y2, rfl, b2⟩ := decb_int _ h2
  obtain rfl := vals_nil hv3
  exact ⟨⟨y0, y1, y2⟩, rfl, trivial⟩
theorem decb_l_eTLiteral : ∀ p, Val (.slice (.agg [.int, .int, .int])) p → ∃ x : List TLiteral, p = .slice (x.map eTLiteral) ∧ b_l_eTLiteral 9223372036854775807 x := fun p h => by
  obtain ⟨l, e, h1, h2⟩ := dec_slice decb_TLiteral h
  exact ⟨l, e, h1⟩
theorem decb_TLine : ∀ p, Val (.agg [.int, .agg [.int, .int, .int, .int], .slice (.agg [.int, .int, .int])]) p → ∃ x : TLine, p = eTLine x ∧ bTLine 9223372036854775807 x := fun p h => by
  obtain ⟨zs0, rfl, hv0⟩ := h
  obtain ⟨x0, zs1, rfl, h0, hv1⟩ := vals_cons hv0
  obtain ⟨y0, rfl, b0⟩ := decb_int _ h0
  obtain ⟨x1, zs2, rfl, h1, hv2⟩ := vals_cons hv1
  obtain ⟨y1, rfl, b1⟩ := decb_TRule _ h1
  obtain ⟨x2, zs3, rfl, h2, hv3⟩ := vals_cons hv2
  obtain ⟨y2, rfl, b2⟩ := decb_l_eTLiteral _ h2
  obtain rfl := vals_nil hv3
  exact ⟨⟨y0, y1, y2⟩, rfl, ⟨b2, trivial⟩⟩
theorem s_SetEqual_eq (a b : List Int) : s_SetEqual a b = some (decide (a = b)) := eqList (F := s_SetEqual_L1 b) (fun _ => rfl) (fun x xs z y h => by simp only [s_SetEqual_L1, h, Option.bind_some, int_bne]; by_cases hxy : x = y <;> simp [hxy]) rfl
theorem slices_Equal_int_eq (a b : List Int) : slices_Equal_int a b = some (decide (a = b)) := eqList (F := slices_Equal_int_L1 b) (fun _ => rfl) (fun x xs z y h => by simp only [slices_Equal_int_L1, h, Option.bind_some, int_bne]; by_cases hxy : x = y <;> simp [hxy]) rfl
theorem core_PlanEqual (a b : TPlan) : ∃ v, s_PlanEqual a b = some v ∧ i_PlanEqual a b = some v := by
  simp only [s_PlanEqual, i_PlanEqual, s_ScheduleEqual, i_ScheduleEqual, s_SetEqual_eq, slices_Equal_int_eq, Option.bind_some, cond_some, cond_and]
  exact ⟨_, rfl, rfl⟩
theorem core_LineEqual (a b : TLine) : ∃ v, s_LineEqual a b = some v ∧ i_LineEqual a b = some v := by
  simp only [s_LineEqual, i_LineEqual, s_ClauseEqual_eq, slices_Equal_Literal_eq, Option.bind_some, cond_some, cond_and]
  exact ⟨_, rfl, rfl⟩
theorem w_FnExactPlanEqual_true (b0 : TPlan) (b1 : TPlan) (h0 : bTPlan 9223372036854775807 b0) (h1 : bTPlan 9223372036854775807 b1) : w_FnExactPlanEqual b0 b1 = some true := by
  unfold w_FnExactPlanEqual
  obtain ⟨m0, e0, q0⟩ := w_szPlan_ok b0 h0 1048576 (by decide) (by decide)
  rw [e0, Option.bind_some]
  by_cases c0 : m0 < 0
  · simp [c0]
  have q0 := q0.resolve_left c0
  rw [show decide (m0 < 0) = false by simpa using c0, cond_false]
  obtain ⟨m1, e1, q1⟩ := w_szPlan_ok b1 h1 m0 (by omega) (by omega)
  rw [e1, Option.bind_some]
  by_cases c1 : m1 < 0
  · simp [c1]
  have q1 := q1.resolve_left c1
  rw [show decide (m1 < 0) = false by simpa using c1, cond_false]
  obtain ⟨v, ev1, ev2⟩ := core_PlanEqual b0 b1
  simp only [w_toPlan_eq b0 q0.2, w_toPlan_eq b1 q1.2, Option.bind_some, ev1, ev2, w_eqPlan_eq]
  simp
theorem w_FnExactLineEqual_true (b0 : TLine) (b1 : TLine) (h0 : bTLine 9223372036854775807 b0) (h1 : bTLine 9223372036854775807 b1) : w_FnExactLineEqual b0 b1 = some true := by
  unfold w_FnExactLineEqual
  obtain ⟨m0, e0, q0⟩ := w_szLine_ok b0 h0 1048576 (by decide) (by decide)
  rw [e0, Option.bind_some]
  by_cases c0 : m0 < 0
  · simp [c0]
  have q0 := q0.resolve_left c0
  rw [show decide (m0 < 0) = false by simpa using c0, cond_false]
  obtain ⟨m1, e1, q1⟩ := w_szLine_ok b1 h1 m0 (by omega) (by omega)
  rw [e1, Option.bind_some]
  by_cases c1 : m1 < 0
  · simp [c1]
  have q1 := q1.resolve_left c1
  rw [show decide (m1 < 0) = false by simpa using c1, cond_false]
  obtain ⟨v, ev1, ev2⟩ := core_LineEqual b0 b1
  simp only [w_toLine_eq b0 q0.2, w_toLine_eq b1 q1.2, Option.bind_some, ev1, ev2, w_eqLine_eq]
  simp
end Go.Px.Ythdejnjjdihmfaa
