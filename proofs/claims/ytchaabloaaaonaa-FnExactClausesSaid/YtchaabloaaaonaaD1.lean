/-
  PROVED: definitions that say what functions of the program compute. No condition.
-/
import Derived.Test.YtchaabloaaaonaaQ4
namespace Go.Px.Ytchaabloaaaonaa
set_option linter.unusedSimpArgs false
set_option linter.unusedVariables false
open Go.Px
structure TRule where
 Kind : Int
 A : Int
 B : Int
 C : Int
 deriving DecidableEq
structure TLiteral where
 Kind : Int
 Activity : Int
 Value : Int
 deriving DecidableEq
structure TLine where
 Kind : Int
 Rule : TRule
 Clause : List TLiteral
 deriving DecidableEq
abbrev eTLiteral (x : TLiteral) : PV := .agg [int x.Kind, int x.Activity, int x.Value]
abbrev eTLine (x : TLine) : PV := .agg [int x.Kind, int x.Rule.Kind, int x.Rule.A, int x.Rule.B, int x.Rule.C, .slice (x.Clause.map eTLiteral)]
abbrev eTRule (x : TRule) : PV := .agg [int x.Kind, int x.A, int x.B, int x.C]
abbrev l_eTLiteral (x : List TLiteral) : PV := .slice (x.map eTLiteral)
abbrev t_eTLiteral (x : List TLiteral) : PV := .obj true 62 3 (x.map eTLiteral)
def w_szLiteralS (b0 : List TLiteral) (b1 : Int) : Option Int :=
 (bif (decide ((W (b1 - (b0.length : Int))) < 0)) then
 some (-1)
 else
 some (W (b1 - (b0.length : Int))))
def w_szLine (b0 : TLine) (b1 : Int) : Option Int :=
 (w_szLiteralS b0.Clause b1).bind fun v1 =>
 (bif (decide (v1 < 0)) then
 some (-1)
 else
 some v1)
def w_szLineS_L1  : List TLine → Int → Int → Option (Int ⊕ Int)
 | [], z9, a10 =>
  some (Sum.inl a10)
 | x11 :: xs12, z9, a10 =>
  (w_szLine x11 a10).bind fun v14 =>
  (bif (decide (v14 < 0)) then
  some (Sum.inr (-1))
  else
  w_szLineS_L1 xs12 (z9 + 1) v14)
def w_szLineS (b0 : List TLine) (b1 : Int) : Option Int :=
 (bif (decide ((W (b1 - (b0.length : Int))) < 0)) then
 some (-1)
 else
 sumBind
 (w_szLineS_L1 b0 0 (W (b1 - (b0.length : Int))))
 (fun q17 => some q17) fun p16 =>
 some p16)
def w_toRule (b0 : TRule) : Option TRule :=
 some b0
def w_toLiteral (b0 : TLiteral) : Option TLiteral :=
 some b0
def w_toLiteralS_L1  : List TLiteral → Int → (List TLiteral) → Option (List TLiteral)
 | [], z9, a10 =>
  some a10
 | x11 :: xs12, z9, a10 =>
  (w_toLiteral x11).bind fun v14 =>
  (idxL a10 z9).bind fun v15 =>
  w_toLiteralS_L1 xs12 (z9 + 1) (setL a10 z9 v14)
def w_toLiteralS (b0 : List TLiteral) : Option (List TLiteral) :=
 (makeL (TLiteral.mk 0 0 0) (b0.length : Int)).bind fun v1 =>
 Option.bind
 (w_toLiteralS_L1 b0 0 v1) fun p16 =>
 some p16
def w_toLine (b0 : TLine) : Option TLine :=
 (w_toRule b0.Rule).bind fun v1 =>
 (w_toLiteralS b0.Clause).bind fun v2 =>
 some (TLine.mk b0.Kind v1 v2)
def w_toLineS_L1  : List TLine → Int → (List TLine) → Option (List TLine)
 | [], z9, a10 =>
  some a10
 | x11 :: xs12, z9, a10 =>
  (w_toLine x11).bind fun v14 =>
  (idxL a10 z9).bind fun v15 =>
  w_toLineS_L1 xs12 (z9 + 1) (setL a10 z9 v14)
def w_toLineS (b0 : List TLine) : Option (List TLine) :=
 (makeL (TLine.mk 0 (TRule.mk 0 0 0 0) []) (b0.length : Int)).bind fun v1 =>
 Option.bind
 (w_toLineS_L1 b0 0 v1) fun p16 =>
 some p16
def s_Clauses_L1  : List TLine → Int → (List (List TLiteral)) → Option (List (List TLiteral))
 | [], z8, a9 =>
  some a9
 | x10 :: xs11, z8, a9 =>
  (appL ([] : List TLiteral) x10.Clause).bind fun v13 =>
  (appL a9 ([v13] : List (List TLiteral))).bind fun v14 =>
  s_Clauses_L1 xs11 (z8 + 1) v14
def s_Clauses (b0 : List TLine) : Option (List (List TLiteral)) :=
 Option.bind
 (s_Clauses_L1 b0 0 ([] : List (List TLiteral))) fun p15 =>
 some p15
def slices_Clone_Literal (b0 : List TLiteral) : Option (List TLiteral) :=
 (appL ([] : List TLiteral) b0).bind fun v1 =>
 some v1
def i_Clauses_L1  : List TLine → Int → (List (List TLiteral)) → Option (List (List TLiteral))
 | [], z8, a9 =>
  some a9
 | x10 :: xs11, z8, a9 =>
  (slices_Clone_Literal x10.Clause).bind fun v13 =>
  (appL a9 ([v13] : List (List TLiteral))).bind fun v14 =>
  i_Clauses_L1 xs11 (z8 + 1) v14
def i_Clauses (b0 : List TLine) : Option (List (List TLiteral)) :=
 Option.bind
 (i_Clauses_L1 b0 0 ([] : List (List TLiteral))) fun p15 =>
 some p15
def w_eqLiteral (b0 : TLiteral) (b1 : TLiteral) : Option Bool :=
 (bif (b0.Kind != b1.Kind) then
 some false
 else
 (bif (b0.Activity != b1.Activity) then
 some false
 else
 (bif (b0.Value != b1.Value) then
 some false
 else
 some true)))
def w_eqLiteralS_L1 (b1 : List TLiteral) : List TLiteral → Int → Option (Unit ⊕ Bool)
 | [], z9 =>
  some (Sum.inl ())
 | x10 :: xs11, z9 =>
  (idxL b1 z9).bind fun v13 =>
  (w_eqLiteral x10 v13).bind fun v14 =>
  (bif (!v14) then
  some (Sum.inr false)
  else
  w_eqLiteralS_L1 b1 xs11 (z9 + 1))
def w_eqLiteralS (b0 : List TLiteral) (b1 : List TLiteral) : Option Bool :=
 (bif ((b0.length : Int) != (b1.length : Int)) then
 some false
 else
 sumBind
 (w_eqLiteralS_L1 b1 b0 0)
 (fun q17 => some q17) fun p16 =>
 some true)
def w_eqLiteralSS_L1 (b1 : List (List TLiteral)) : List (List TLiteral) → Int → Option (Unit ⊕ Bool)
 | [], z9 =>
  some (Sum.inl ())
 | x10 :: xs11, z9 =>
  (idxL b1 z9).bind fun v13 =>
  (w_eqLiteralS x10 v13).bind fun v14 =>
  (bif (!v14) then
  some (Sum.inr false)
  else
  w_eqLiteralSS_L1 b1 xs11 (z9 + 1))
def w_eqLiteralSS (b0 : List (List TLiteral)) (b1 : List (List TLiteral)) : Option Bool :=
 (bif ((b0.length : Int) != (b1.length : Int)) then
 some false
 else
 sumBind
 (w_eqLiteralSS_L1 b1 b0 0)
 (fun q17 => some q17) fun p16 =>
 some true)
def w_eqRule (b0 : TRule) (b1 : TRule) : Option Bool :=
 (bif (b0.Kind != b1.Kind) then
 some false
 else
 (bif (b0.A != b1.A) then
 some false
 else
 (bif (b0.B != b1.B) then
 some false
 else
 (bif (b0.C != b1.C) then
 some false
 else
 some true))))
def w_eqLine (b0 : TLine) (b1 : TLine) : Option Bool :=
 (bif (b0.Kind != b1.Kind) then
 some false
 else
 (w_eqRule b0.Rule b1.Rule).bind fun v2 =>
 (bif (!v2) then
 some false
 else
 (w_eqLiteralS b0.Clause b1.Clause).bind fun v4 =>
 (bif (!v4) then
 some false
 else
 some true)))
def w_eqLineS_L1 (b1 : List TLine) : List TLine → Int → Option (Unit ⊕ Bool)
 | [], z9 =>
  some (Sum.inl ())
 | x10 :: xs11, z9 =>
  (idxL b1 z9).bind fun v13 =>
  (w_eqLine x10 v13).bind fun v14 =>
  (bif (!v14) then
  some (Sum.inr false)
  else
  w_eqLineS_L1 b1 xs11 (z9 + 1))
def w_eqLineS (b0 : List TLine) (b1 : List TLine) : Option Bool :=
 (bif ((b0.length : Int) != (b1.length : Int)) then
 some false
 else
 sumBind
 (w_eqLineS_L1 b1 b0 0)
 (fun q17 => some q17) fun p16 =>
 some true)
def w_markLiteralS_k_L1  : List TLiteral → Int → Int → Option Int
 | [], z8, a9 =>
  some a9
 | x10 :: xs11, z8, a9 =>
  w_markLiteralS_k_L1 xs11 (z8 + 1) (W ((W ((W (a9 + 1)) + 1)) + 1))
def w_markLiteralS_k (b0 : List TLiteral) (b1 : Int) : Option Int :=
 Option.bind
 (w_markLiteralS_k_L1 b0 0 b1) fun p13 =>
 some p13
def w_markLineS_k_L1  : List TLine → Int → Int → Option Int
 | [], z8, a9 =>
  some a9
 | x10 :: xs11, z8, a9 =>
  (w_markLiteralS_k x10.Clause (W ((W ((W ((W ((W (a9 + 1)) + 1)) + 1)) + 1)) + 1))).bind fun v13 =>
  w_markLineS_k_L1 xs11 (z8 + 1) v13
def w_markLineS_k (b0 : List TLine) (b1 : Int) : Option Int :=
 Option.bind
 (w_markLineS_k_L1 b0 0 b1) fun p14 =>
 some p14
def w_markLiteralS_L1  : Nat → Int → Int → (List TLiteral) → Option (Int × (List TLiteral))
 | 0, _, _, _ => none
 | fuel + 1, a7, a8, a9 =>
  (bif (decide (a8 < (a9.length : Int))) then
  (idxL a9 a8).bind fun v13 =>
  (idxL (setL a9 a8 (TLiteral.mk a7 v13.Activity v13.Value)) a8).bind fun v14 =>
  (idxL (setL (setL a9 a8 (TLiteral.mk a7 v13.Activity v13.Value)) a8 (TLiteral.mk v14.Kind (W (a7 + 1)) v14.Value)) a8).bind fun v15 =>
  w_markLiteralS_L1 fuel (W ((W ((W (a7 + 1)) + 1)) + 1)) (W (a8 + 1)) (setL (setL (setL a9 a8 (TLiteral.mk a7 v13.Activity v13.Value)) a8 (TLiteral.mk v14.Kind (W (a7 + 1)) v14.Value)) a8 (TLiteral.mk v15.Kind v15.Activity (W ((W (a7 + 1)) + 1))))
  else
  some (a7, a9))
def w_markLiteralS (b0 : List TLiteral) (b1 : Int) : Option (Int × (List TLiteral)) :=
 Option.bind
 (w_markLiteralS_L1 F0 b1 0 b0) fun p16 =>
 some (p16.1, p16.2)
def w_markLiteralSS_L1  : Nat → Int → Int → (List (List TLiteral)) → Option (Int × (List (List TLiteral)))
 | 0, _, _, _ => none
 | fuel + 1, a7, a8, a9 =>
  (bif (decide (a8 < (a9.length : Int))) then
  (idxL a9 a8).bind fun v13 =>
  (w_markLiteralS v13 a7).bind fun v14 =>
  w_markLiteralSS_L1 fuel v14.1 (W (a8 + 1)) (setL a9 a8 v14.2)
  else
  some (a7, a9))
def w_markLiteralSS (b0 : List (List TLiteral)) (b1 : Int) : Option (Int × (List (List TLiteral))) :=
 Option.bind
 (w_markLiteralSS_L1 F0 b1 0 b0) fun p15 =>
 some (p15.1, p15.2)
def w_heldLiteralS_L1  : List TLiteral → Int → Int → Option (Int ⊕ Int)
 | [], z8, a9 =>
  some (Sum.inl a9)
 | x10 :: xs11, z8, a9 =>
  (bif (x10.Kind != a9) then
  some (Sum.inr (-1))
  else
  (bif (x10.Activity != (W (a9 + 1))) then
  some (Sum.inr (-1))
  else
  (bif (x10.Value != (W ((W (a9 + 1)) + 1))) then
  some (Sum.inr (-1))
  else
  w_heldLiteralS_L1 xs11 (z8 + 1) (W ((W ((W (a9 + 1)) + 1)) + 1)))))
def w_heldLiteralS (b0 : List TLiteral) (b1 : Int) : Option Int :=
 sumBind
 (w_heldLiteralS_L1 b0 0 b1)
 (fun q17 => some q17) fun p16 =>
 some p16
def w_heldLiteralSS_L1  : List (List TLiteral) → Int → Int → Option (Int ⊕ Int)
 | [], z8, a9 =>
  some (Sum.inl a9)
 | x10 :: xs11, z8, a9 =>
  (w_heldLiteralS x10 a9).bind fun v13 =>
  (bif (decide (v13 < 0)) then
  some (Sum.inr (-1))
  else
  w_heldLiteralSS_L1 xs11 (z8 + 1) v13)
def w_heldLiteralSS (b0 : List (List TLiteral)) (b1 : Int) : Option Int :=
 sumBind
 (w_heldLiteralSS_L1 b0 0 b1)
 (fun q16 => some q16) fun p15 =>
 some p15
def w_FnExactClauses (b0 : List TLine) : Option Bool :=
 (w_szLineS b0 1048576).bind fun v1 =>
 (bif (decide (v1 < 0)) then
 some true
 else
 (w_toLineS b0).bind fun v3 =>
 (s_Clauses v3).bind fun v4 =>
 (w_toLineS b0).bind fun v5 =>
 (i_Clauses v5).bind fun v6 =>
 (w_eqLiteralSS v6 v4).bind fun v7 =>
 (bif (!v7) then
 some false
 else
 (w_toLineS b0).bind fun v9 =>
 (w_eqLineS v5 v9).bind fun v10 =>
 (bif (!v10) then
 some false
 else
 (w_markLineS_k v5 1).bind fun v12 =>
 Option.bind
 ((bif (decide (v12 < 0)) then
 some true
 else
 (w_eqLiteralSS v6 v4).bind fun v15 =>
 some (!v15))) fun e13 =>
 (bif e13 then
 some false
 else
 (w_markLiteralSS v6 1).bind fun v17 =>
 (w_heldLiteralSS v17.2 1).bind fun v18 =>
 (bif (decide (v18 < 0)) then
 some false
 else
 (bif (v18 != v17.1) then
 some false
 else
 (w_toLineS b0).bind fun v21 =>
 (i_Clauses v21).bind fun v22 =>
 (w_eqLiteralSS v22 v4).bind fun v23 =>
 (bif (!v23) then
 some false
 else
 (w_heldLiteralSS v17.2 1).bind fun v25 =>
 (bif (decide (v25 < 0)) then
 some false
 else
 (bif (v25 != v17.1) then
 some false
 else
 some true)))))))))
def b_l_eTLiteral (M : Nat) (l : List TLiteral) : Prop := l.length ≤ M
theorem w_szLiteralS_ok (x : List TLiteral) (h : b_l_eTLiteral 9223372036854775807 x) : SzOk w_szLiteralS (b_l_eTLiteral 1048576) x := szFlat x (fun _ => rfl) h
def bTLine (M : Nat) (x : TLine) : Prop := b_l_eTLiteral M x.Clause ∧  True
theorem w_szLine_ok (x : TLine) (h : bTLine 9223372036854775807 x) : SzOk w_szLine (bTLine 1048576) x := fun n m0 hn => by
 unfold w_szLine bTLine
 unfold bTLine at h
 exact szThen (w_szLiteralS_ok _ h.1) m0 (by omega) (fun n1 m1 _ _ => szEnd m1)
def b_l_eTLine (M : Nat) (l : List TLine) : Prop := l.length ≤ M ∧ ∀ x ∈ l, bTLine M x
theorem w_szLineS_ok (x : List TLine) (h : b_l_eTLine 9223372036854775807 x) : SzOk w_szLineS (b_l_eTLine 1048576) x := szList (F := w_szLineS_L1) (sz := w_szLine) (Q := bTLine 1048576) x (fun _ _ => rfl) (fun _ _ _ _ => rfl) (fun _ => rfl) h.1 (fun y hy => w_szLine_ok y (h.2 y hy))
theorem w_toRule_eq (x : TRule) : w_toRule x = some x := by
 unfold w_toRule
 try simp only [Option.bind_some]
theorem w_toLiteral_eq (x : TLiteral) : w_toLiteral x = some x := by
 unfold w_toLiteral
 try simp only [Option.bind_some]
theorem w_toLiteralS_eq (x : List TLiteral) (h : b_l_eTLiteral 1048576 x) : w_toLiteralS x = some x := fillList (F := w_toLiteralS_L1) (Q := fun _ => True) (fun _ _ => rfl) (fun x xs z a y hq hy => by simp only [w_toLiteralS_L1, w_toLiteral_eq, hy, Option.bind_some]) h (fun _ _ => trivial) rfl
theorem w_toLine_eq (x : TLine) (h : bTLine 1048576 x) : w_toLine x = some x := by
 unfold bTLine at h
 unfold w_toLine
 try simp only [w_toRule_eq, w_toLiteralS_eq _ (h.1), Option.bind_some]
theorem w_toLineS_eq (x : List TLine) (h : b_l_eTLine 1048576 x) : w_toLineS x = some x := fillList (F := w_toLineS_L1) (Q := bTLine 1048576) (fun _ _ => rfl) (fun x xs z a y hq hy => by simp only [w_toLineS_L1, w_toLine_eq x hq, hy, Option.bind_some]) h.1 h.2 rfl
theorem w_eqLiteral_eq (a b : TLiteral) : w_eqLiteral a b = some (decide (a = b)) := by
 obtain ⟨a0, a1, a2⟩ := a
 obtain ⟨b0, b1, b2⟩ := b
 simp only [w_eqLiteral, TLiteral.mk.injEq, Option.bind_some, int_bne, bool_bne, ba_bne]
 by_cases h0 : a0 = b0 <;> by_cases h1 : a1 = b1 <;> by_cases h2 : a2 = b2 <;> simp [h0, h1, h2]
theorem w_eqLiteralS_eq (a b : List TLiteral) : w_eqLiteralS a b = some (decide (a = b)) := eqList (F := w_eqLiteralS_L1 b) (fun _ => rfl) (fun x xs z y h => by simp only [w_eqLiteralS_L1, h, Option.bind_some, int_bne, w_eqLiteral_eq]; by_cases hxy : x = y <;> simp [hxy]) rfl
theorem w_eqLiteralSS_eq (a b : List (List TLiteral)) : w_eqLiteralSS a b = some (decide (a = b)) := eqList (F := w_eqLiteralSS_L1 b) (fun _ => rfl) (fun x xs z y h => by simp only [w_eqLiteralSS_L1, h, Option.bind_some, int_bne, w_eqLiteralS_eq]; by_cases hxy : x = y <;> simp [hxy]) rfl
theorem w_eqRule_eq (a b : TRule) : w_eqRule a b = some (decide (a = b)) := by
 obtain ⟨a0, a1, a2, a3⟩ := a
 obtain ⟨b0, b1, b2, b3⟩ := b
 simp only [w_eqRule, TRule.mk.injEq, Option.bind_some, int_bne, bool_bne, ba_bne]
 by_cases h0 : a0 = b0 <;> by_cases h1 : a1 = b1 <;> by_cases h2 : a2 = b2 <;> by_cases h3 : a3 = b3 <;> simp [h0, h1, h2, h3]
theorem w_eqLine_eq (a b : TLine) : w_eqLine a b = some (decide (a = b)) := by
 obtain ⟨a0, a1, a2⟩ := a
 obtain ⟨b0, b1, b2⟩ := b
 simp only [w_eqLine, w_eqRule_eq, w_eqLiteralS_eq, TLine.mk.injEq, Option.bind_some, int_bne, bool_bne, ba_bne]
 by_cases h0 : a0 = b0 <;> by_cases h1 : a1 = b1 <;> by_cases h2 : a2 = b2 <;> simp [h0, h1, h2]
theorem w_eqLineS_eq (a b : List TLine) : w_eqLineS a b = some (decide (a = b)) := eqList (F := w_eqLineS_L1 b) (fun _ => rfl) (fun x xs z y h => by simp only [w_eqLineS_L1, h, Option.bind_some, int_bne, w_eqLine_eq]; by_cases hxy : x = y <;> simp [hxy]) rfl
theorem w_markLiteralS_k_ok (x : List TLiteral) (h : b_l_eTLiteral 1048576 x) : MkOk w_markLiteralS_k 3145728 x :=
 MkOk.list (L1 := w_markLiteralS_k_L1) (e := 3) (Q := fun _ => True) (fun _ _ => rfl) (fun x xs z k hx h0 hb => by
  skip
  refine ⟨(((k + 1) + 1) + 1), by omega, by omega, ?_⟩
  simp only [w_markLiteralS_k_L1]
  rw [W_of (n := (k + 1)) ⟨by omega, by omega⟩, W_of (n := ((k + 1) + 1)) ⟨by omega, by omega⟩, W_of (n := (((k + 1) + 1) + 1)) ⟨by omega, by omega⟩])
  (fun l k => by unfold w_markLiteralS_k; cases w_markLiteralS_k_L1 l 0 k <;> rfl) h (fun _ _ => trivial) (by decide)
theorem w_markLineS_k_ok (x : List TLine) (h : b_l_eTLine 1048576 x) : MkOk w_markLineS_k 3298540126208 x :=
 MkOk.list (L1 := w_markLineS_k_L1) (e := 3145733) (Q := bTLine 1048576) (fun _ _ => rfl) (fun x xs z k hx h0 hb => by
  unfold bTLine at hx
  obtain ⟨k0, e0, l0, u0⟩ := w_markLiteralS_k_ok x.Clause (hx.1) (((((k + 1) + 1) + 1) + 1) + 1) (by omega) (by omega)
  refine ⟨k0, by omega, by omega, ?_⟩
  simp only [w_markLineS_k_L1]
  rw [W_of (n := (k + 1)) ⟨by omega, by omega⟩, W_of (n := ((k + 1) + 1)) ⟨by omega, by omega⟩, W_of (n := (((k + 1) + 1) + 1)) ⟨by omega, by omega⟩, W_of (n := ((((k + 1) + 1) + 1) + 1)) ⟨by omega, by omega⟩, W_of (n := (((((k + 1) + 1) + 1) + 1) + 1)) ⟨by omega, by omega⟩, e0, Option.bind_some])
  (fun l k => by unfold w_markLineS_k; cases w_markLineS_k_L1 l 0 k <;> rfl) h.1 h.2 (by decide)
theorem w_markLiteralS_res (x : List TLiteral) (h : b_l_eTLiteral 1048576 x) (k0 : Int) (hk0 : 0 ≤ k0) (hk1 : k0 + 3145728 ≤ 1125899906842624) : ∃ k ys, w_markLiteralS x k0 = some (k, ys) ∧ w_heldLiteralS ys k0 = some k ∧ k0 ≤ k ∧ k ≤ k0 + 3145728 := by
 replace h : x.length ≤ 1048576 := h
 have e1 := markFlat (G := w_markLiteralS_L1) (c := 3) (up := (fun k _ => TLiteral.mk k (k + 1) (k + 2))) (by decide) (fun fuel k i l x hi hil hl h0 hb hx => by
  have hd : decide (i < (l.length : Int)) = true := decide_eq_true hil
  have hlt : i.toNat < l.length := by omega
  have hx2 : ∀ y, idxL (l.set i.toNat y) i = some y := fun y => by simp [idxL, hi, hlt]
  replace hx : idxL l i = some x := by simp [idxL, hi, hx]
  simp only [w_markLiteralS_L1, hd, cond_true, setL, hx, hx2, Option.bind_some, W_of (n := k + 1) ⟨by omega, by omega⟩, W_of (n := (k + 1) + 1) ⟨by omega, by omega⟩, W_of (n := ((k + 1) + 1) + 1) ⟨by omega, by omega⟩, W_of (n := i + 1) ⟨by omega, by omega⟩, List.set_set]; first | rfl | (congr 1 <;> (try omega) <;> (congr 2 <;> omega)))
  (fun fuel k i l hi => by
  have hd : decide (i < (l.length : Int)) = false := decide_eq_false (by omega)
  simp only [w_markLiteralS_L1, hd, cond_false]) (Nat.le_trans h (by decide)) hk0 (by omega)
 have hb : (3 : Int) * (x.length : Int) ≤ 3145728 := by omega
 have e2 := heldFlat (H := w_heldLiteralS_L1) (c := 3) (up := (fun k _ => TLiteral.mk k (k + 1) (k + 2))) (by decide) (fun x xs z k h0 hb => by
  simp only [w_heldLiteralS_L1, W_of (n := k + 1) ⟨by omega, by omega⟩, W_of (n := (k + 1) + 1) ⟨by omega, by omega⟩, W_of (n := ((k + 1) + 1) + 1) ⟨by omega, by omega⟩]; simp [bne, Int.add_assoc]) (fun _ _ => rfl) x 0 k0 hk0 (by omega)
 refine ⟨_, _, by unfold w_markLiteralS; rw [e1]; rfl, by unfold w_heldLiteralS; rw [e2]; rfl, by omega, by omega⟩
def b_l_l_eTLiteral (M : Nat) (l : List (List TLiteral)) : Prop := l.length ≤ M ∧ ∀ x ∈ l, b_l_eTLiteral M x
theorem w_markLiteralSS_res (x : List (List TLiteral)) (h : b_l_l_eTLiteral 1048576 x) (k0 : Int) (hk0 : 0 ≤ k0) (hk1 : k0 + 3298534883328 ≤ 1125899906842624) : ∃ k ys, w_markLiteralSS x k0 = some (k, ys) ∧ w_heldLiteralSS ys k0 = some k ∧ k0 ≤ k ∧ k ≤ k0 + 3298534883328 := by
 obtain ⟨k, ys, e1, e2, e3, e4⟩ := markNest (G := w_markLiteralSS_L1) (H := w_heldLiteralSS_L1) (B := 3145728) (Q := b_l_eTLiteral 1048576) (fun fuel k i l x hi hil hl h0 hb hx hq => by
  have hd : decide (i < (l.length : Int)) = true := decide_eq_true hil
  have hlt : i.toNat < l.length := by omega
  have hx2 : ∀ y, idxL (l.set i.toNat y) i = some y := fun y => by simp [idxL, hi, hlt]
  replace hx : idxL l i = some x := by simp [idxL, hi, hx]
  obtain ⟨k1, y, m1, l1, g1, n1⟩ := w_markLiteralS_res x hq k h0 (by omega)
  refine ⟨k1, y, g1, n1, ?_, ?_⟩
  ·simp only [w_markLiteralSS_L1, hd, cond_true, setL, hx, hx2, Option.bind_some, List.set_set, m1, W_of (n := i + 1) ⟨by omega, by omega⟩]
  ·intro ys z; simp only [w_heldLiteralSS_L1, Option.bind_some, int_bne, decide_true, Bool.not_true, cond_false, l1, decide_eq_false (show ¬ k1 < 0 by omega)])
  (fun fuel k i l hi => by
  have hd : decide (i < (l.length : Int)) = false := decide_eq_false (by omega)
  simp only [w_markLiteralSS_L1, hd, cond_false]) (fun _ _ => rfl) (l := x) h.1 h.2 hk0 (B2 := 3298534883328) (by decide) hk1
 exact ⟨k, ys, by unfold w_markLiteralSS; rw [e1]; rfl, by unfold w_heldLiteralSS; rw [e2]; rfl, e3, e4⟩
theorem decb_int : ∀ p, Val .int p → ∃ x : Int, p = int x ∧ True := fun p h => by obtain ⟨n, e⟩ := dec_int h; exact ⟨n, e, trivial⟩
theorem decb_TRule : ∀ p, Val (.agg [.int, .int, .int, .int]) p → ∃ x : TRule, p = eTRule x ∧ True := fun p h => by
 obtain ⟨zs0, rfl, hv0⟩ := h
 obtain ⟨x0, zs1, rfl, h0, hv1⟩ := vals_cons hv0
 obtain ⟨y0, rfl, b0⟩ := decb_int _ h0
 obtain ⟨x1, zs2, rfl, h1, hv2⟩ := vals_cons hv1
 obtain ⟨y1, rfl, b1⟩ := decb_int _ h1
 obtain ⟨x2, zs3, rfl, h2, hv3⟩ := vals_cons hv2
 obtain ⟨y2, rfl, b2⟩ := decb_int _ h2
 obtain ⟨x3, zs4, rfl, h3, hv4⟩ := vals_cons hv3
 obtain ⟨y3, rfl, b3⟩ := decb_int _ h3
 obtain rfl := vals_nil hv4
 exact ⟨⟨y0, y1, y2, y3⟩, rfl, trivial⟩
theorem decb_TLiteral : ∀ p, Val (.agg [.int, .int, .int]) p → ∃ x : TLiteral, p = eTLiteral x ∧ True := fun p h => by
 obtain ⟨zs0, rfl, hv0⟩ := h
 obtain ⟨x0, zs1, rfl, h0, hv1⟩ := vals_cons hv0
 obtain ⟨y0, rfl, b0⟩ := decb_int _ h0
 obtain ⟨x1, zs2, rfl, h1, hv2⟩ := vals_cons hv1
 obtain ⟨y1, rfl, b1⟩ := decb_int _ h1
 obtain ⟨x2, zs3, rfl, h2, hv3⟩ := vals_cons hv2
 obtain ⟨y2, rfl, b2⟩ := decb_int _ h2
 obtain rfl := vals_nil hv3
 exact ⟨⟨y0, y1, y2⟩, rfl, trivial⟩
theorem decb_l_eTLiteral : ∀ p, Val (.slice (.agg [.int, .int, .int])) p → ∃ x : List TLiteral, p = .slice (x.map eTLiteral) ∧ b_l_eTLiteral 9223372036854775807 x := fun p h => by
 obtain ⟨l, e, h1, h2⟩ := dec_slice decb_TLiteral h
 exact ⟨l, e, h1⟩
theorem decb_TLine : ∀ p, Val (.agg [.int, .agg [.int, .int, .int, .int], .slice (.agg [.int, .int, .int])]) p → ∃ x : TLine, p = eTLine x ∧ bTLine 9223372036854775807 x := fun p h => by
 obtain ⟨zs0, rfl, hv0⟩ := h
 obtain ⟨x0, zs1, rfl, h0, hv1⟩ := vals_cons hv0
 obtain ⟨y0, rfl, b0⟩ := decb_int _ h0
 obtain ⟨x1, zs2, rfl, h1, hv2⟩ := vals_cons hv1
 obtain ⟨y1, rfl, b1⟩ := decb_TRule _ h1
 obtain ⟨x2, zs3, rfl, h2, hv3⟩ := vals_cons hv2
 obtain ⟨y2, rfl, b2⟩ := decb_l_eTLiteral _ h2
 obtain rfl := vals_nil hv3
 exact ⟨⟨y0, y1, y2⟩, rfl, ⟨b2, trivial⟩⟩
theorem decb_l_eTLine : ∀ p, Val (.slice (.agg [.int, .agg [.int, .int, .int, .int], .slice (.agg [.int, .int, .int])])) p → ∃ x : List TLine, p = .slice (x.map eTLine) ∧ b_l_eTLine 9223372036854775807 x := fun p h => by
 obtain ⟨l, e, h1, h2⟩ := dec_slice decb_TLine h
 exact ⟨l, e, h1, h2⟩
theorem appL_some {α : Type} (a b : List α) (h : a.length + b.length ≤ 1099511627776) : appL a b = some (a ++ b) := by unfold appL; rw [if_pos h]
theorem s_Clauses_L1_eq : ∀ (l : List TLine) (z : Int) (a : List (List TLiteral)), (∀ x ∈ l, bTLine 1048576 x) → a.length + l.length ≤ 1048576 → s_Clauses_L1 l z a = some (a ++ l.map (·.Clause))
 | [], z, a, _, _ => by simp [s_Clauses_L1]
 | x :: xs, z, a, h, hb => by
  have h1 := (h x (List.mem_cons_self ..)).1
  unfold b_l_eTLiteral at h1
  simp only [List.length_cons] at hb
  simp only [s_Clauses_L1]
  rw [appL_some [] _ (by simp; omega), Option.bind_some, appL_some _ _ (by simp; omega), Option.bind_some, s_Clauses_L1_eq xs _ _ (fun y hy => h y (List.mem_cons_of_mem _ hy)) (by simp; omega)]
  simp
theorem i_Clauses_L1_eq : ∀ (l : List TLine) (z : Int) (a : List (List TLiteral)), (∀ x ∈ l, bTLine 1048576 x) → a.length + l.length ≤ 1048576 → i_Clauses_L1 l z a = some (a ++ l.map (·.Clause))
 | [], z, a, _, _ => by simp [i_Clauses_L1]
 | x :: xs, z, a, h, hb => by
  have h1 := (h x (List.mem_cons_self ..)).1
  unfold b_l_eTLiteral at h1
  simp only [List.length_cons] at hb
  simp only [i_Clauses_L1, slices_Clone_Literal]
  rw [appL_some [] _ (by simp; omega), Option.bind_some, Option.bind_some, appL_some _ _ (by simp; omega), Option.bind_some, i_Clauses_L1_eq xs _ _ (fun y hy => h y (List.mem_cons_of_mem _ hy)) (by simp; omega)]
  simp
theorem core_Clauses (b0 : List TLine) (h : b_l_eTLine 1048576 b0) : ∃ v, s_Clauses b0 = some v ∧ i_Clauses b0 = some v ∧ b_l_l_eTLiteral 1048576 v := by
 have h1 := h.1
 refine ⟨b0.map (·.Clause), ?_, ?_, ?_, ?_⟩
 ·simp only [s_Clauses]; rw [s_Clauses_L1_eq b0 _ _ h.2 (by simpa using h1)]; simp
 ·simp only [i_Clauses]; rw [i_Clauses_L1_eq b0 _ _ h.2 (by simpa using h1)]; simp
 ·simpa using h1
 ·intro x hx
  obtain ⟨y, hy, rfl⟩ := List.mem_map.1 hx
  exact (h.2 y hy).1
end Go.Px.Ytchaabloaaaonaa
