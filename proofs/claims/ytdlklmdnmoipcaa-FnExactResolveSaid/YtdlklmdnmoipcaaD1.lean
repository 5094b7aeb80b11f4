/-
  PROVED: definitions that say what functions of the program compute. No condition.
-/
import Derived.Test.YtdlklmdnmoipcaaQ3
namespace Go.Px.Ytdlklmdnmoipcaa
set_option linter.unusedSimpArgs false
set_option linter.unusedVariables false
open Go.Px
structure TLiteral where
 Kind : Int
 Activity : Int
 Value : Int
 deriving DecidableEq
abbrev eTLiteral (x : TLiteral) : PV := .agg [int x.Kind, int x.Activity, int x.Value]
def w_szLiteralS (b0 : List TLiteral) (b1 : Int) : Option Int :=
 (bif (decide ((W (b1 - (b0.length : Int))) < 0)) then
 some (-1)
 else
 some (W (b1 - (b0.length : Int))))
def w_toLiteral (b0 : TLiteral) : Option TLiteral :=
 some b0
def w_toLiteralS_L1  : List TLiteral → Int → (List TLiteral) → Option (List TLiteral)
 | [], z9, a10 =>
  some a10
 | x11 :: xs12, z9, a10 =>
  (w_toLiteral x11).bind fun v14 =>
  (idxL a10 z9).bind fun v15 =>
  w_toLiteralS_L1 xs12 (z9 + 1) (setL a10 z9 v14)
def w_toLiteralS (b0 : List TLiteral) : Option (List TLiteral) :=
 (makeL (TLiteral.mk 0 0 0) (b0.length : Int)).bind fun v1 =>
 Option.bind
 (w_toLiteralS_L1 b0 0 v1) fun p16 =>
 some p16
def s_l11Sign (b0 : Int) (b1 : Int) : Option Int :=
 (bif (decide (b0 < b1)) then
 some (-1)
 else
 (bif (decide (b1 < b0)) then
 some 1
 else
 some 0))
def s_CompareLiterals (b0 : TLiteral) (b1 : TLiteral) : Option Int :=
 (bif (b0.Activity != b1.Activity) then
 (s_l11Sign b0.Activity b1.Activity).bind fun v2 =>
 some v2
 else
 (bif (b0.Kind != b1.Kind) then
 (s_l11Sign b0.Kind b1.Kind).bind fun v4 =>
 some v4
 else
 (s_l11Sign b0.Value b1.Value).bind fun v5 =>
 some v5))
def s_NewClause_L2 (a9 : List TLiteral) (x10 : TLiteral) : Nat → Int → Option Int
 | 0, _ => none
 | fuel + 1, a18 =>
  Option.bind
  ((bif (decide (a18 < (a9.length : Int))) then
  (idxL a9 a18).bind fun v23 =>
  (s_CompareLiterals v23 x10).bind fun v24 =>
  some (decide (v24 < 0))
  else
  some false)) fun e21 =>
  (bif e21 then
  s_NewClause_L2 a9 x10 fuel (W (a18 + 1))
  else
  some a18)
def s_NewClause_L1  : List TLiteral → Int → (List TLiteral) → Option (List TLiteral)
 | [], z8, a9 =>
  some a9
 | x10 :: xs11, z8, a9 =>
  Option.bind
  (s_NewClause_L2 a9 x10 F0 0) fun p26 =>
  Option.bind
  ((bif (decide (p26 < (a9.length : Int))) then
  (idxL a9 p26).bind fun v29 =>
  some (v29.Kind == x10.Kind && (v29.Activity == x10.Activity && (v29.Value == x10.Value && true)))
  else
  some false)) fun e27 =>
  (bif e27 then
  s_NewClause_L1 xs11 (z8 + 1) a9
  else
  (subL a9 0 p26).bind fun v31 =>
  (appL ([] : List TLiteral) v31).bind fun v32 =>
  (appL v32 ([x10] : List TLiteral)).bind fun v33 =>
  (subL a9 p26 (a9.length : Int)).bind fun v34 =>
  (appL v33 v34).bind fun v35 =>
  s_NewClause_L1 xs11 (z8 + 1) v35)
def s_NewClause (b0 : List TLiteral) : Option (List TLiteral) :=
 Option.bind
 (s_NewClause_L1 b0 0 ([] : List TLiteral)) fun p36 =>
 some p36
def slices_Clone_Literal (b0 : List TLiteral) : Option (List TLiteral) :=
 (appL ([] : List TLiteral) b0).bind fun v1 =>
 some v1
def cmp_isNaN_int (b0 : Int) : Option Bool :=
 some (b0 != b0)
def cmp_Compare_int (b0 : Int) (b1 : Int) : Option Int :=
 (cmp_isNaN_int b0).bind fun v1 =>
 (cmp_isNaN_int b1).bind fun v2 =>
 (bif v1 then
 (bif v2 then
 some 0
 else
 some (-1))
 else
 (bif v2 then
 some 1
 else
 (bif (decide (b0 < b1)) then
 some (-1)
 else
 (bif (decide (b1 < b0)) then
 some 1
 else
 some 0))))
def cmp_Or_int_L1  : List Int → Int → Option (Unit ⊕ Int)
 | [], z8 =>
  some (Sum.inl ())
 | x9 :: xs10, z8 =>
  (bif (x9 != 0) then
  some (Sum.inr x9)
  else
  cmp_Or_int_L1 xs10 (z8 + 1))
def cmp_Or_int (b0 : List Int) : Option Int :=
 sumBind
 (cmp_Or_int_L1 b0 0)
 (fun q14 => some q14) fun p13 =>
 some 0
def i_CompareLiterals (b0 : TLiteral) (b1 : TLiteral) : Option Int :=
 (cmp_Compare_int b0.Activity b1.Activity).bind fun v1 =>
 (cmp_Compare_int b0.Kind b1.Kind).bind fun v2 =>
 (cmp_Compare_int b0.Value b1.Value).bind fun v3 =>
 (cmp_Or_int ([v1, v2, v3] : List Int)).bind fun v4 =>
 some v4
def slices_SortFunc_Literal (b0 : List TLiteral) (b1 : TLiteral → TLiteral → Option Int) : Option (List TLiteral) := sortFL (fun x y => (b1 x y).getD 0) b0
def slices_Compact_Literal_L2 (v14 : Nat) : Nat → Int → Int → (List TLiteral) → Option (Int × (List TLiteral))
 | 0, _, _, _ => none
 | fuel + 1, a20, a21, a22 =>
  (bif (decide (a21 < ((a22.length - v14 : Nat) : Int))) then
  (idxO a22 v14 a22.length a21).bind fun v26 =>
  (idxO a22 v14 a22.length (W (a21 - 1))).bind fun v27 =>
  (bif (!(v26.Kind == v27.Kind && (v26.Activity == v27.Activity && (v26.Value == v27.Value && true)))) then
  (idxO a22 v14 a22.length a21).bind fun v29 =>
  (idxL a22 a20).bind fun v30 =>
  slices_Compact_Literal_L2 v14 fuel (W (a20 + 1)) (W (a21 + 1)) (setL a22 a20 v29)
  else
  slices_Compact_Literal_L2 v14 fuel a20 (W (a21 + 1)) a22)
  else
  some (a20, a22))
def slices_Compact_Literal_L1 (b0 : List TLiteral) : Nat → Int → Option (Unit ⊕ (List TLiteral))
 | 0, _ => none
 | fuel + 1, a7 =>
  (bif (decide (a7 < (b0.length : Int))) then
  (idxL b0 a7).bind fun v11 =>
  (idxL b0 (W (a7 - 1))).bind fun v12 =>
  (bif (v11.Kind == v12.Kind && (v11.Activity == v12.Activity && (v11.Value == v12.Value && true))) then
  (begL b0 a7).bind fun v14 =>
  Option.bind
  (slices_Compact_Literal_L2 v14 F0 a7 1 b0) fun p31 =>
  (begL p31.2 p31.1).bind fun v32 =>
  (begL (clrL p31.2 v32 p31.2.length (TLiteral.mk 0 0 0)) p31.1).bind fun v33 =>
  some (Sum.inr ((clrL p31.2 v32 p31.2.length (TLiteral.mk 0 0 0)).take v33))
  else
  slices_Compact_Literal_L1 b0 fuel (W (a7 + 1)))
  else
  some (Sum.inl ()))
def slices_Compact_Literal (b0 : List TLiteral) : Option (List TLiteral) :=
 (bif (decide ((b0.length : Int) < 2)) then
 some b0
 else
 sumBind
 (slices_Compact_Literal_L1 b0 F0 1)
 (fun q35 => some q35) fun p34 =>
 some b0)
def i_NewClause (b0 : List TLiteral) : Option (List TLiteral) :=
 (slices_Clone_Literal b0).bind fun v1 =>
 (slices_SortFunc_Literal v1 (fun x0 x1 => i_CompareLiterals x0 x1)).bind fun v2 =>
 (slices_Compact_Literal v2).bind fun v3 =>
 some v3
def w_eqLiteral (b0 : TLiteral) (b1 : TLiteral) : Option Bool :=
 (bif (b0.Kind != b1.Kind) then
 some false
 else
 (bif (b0.Activity != b1.Activity) then
 some false
 else
 (bif (b0.Value != b1.Value) then
 some false
 else
 some true)))
def w_eqLiteralS_L1 (b1 : List TLiteral) : List TLiteral → Int → Option (Unit ⊕ Bool)
 | [], z9 =>
  some (Sum.inl ())
 | x10 :: xs11, z9 =>
  (idxL b1 z9).bind fun v13 =>
  (w_eqLiteral x10 v13).bind fun v14 =>
  (bif (!v14) then
  some (Sum.inr false)
  else
  w_eqLiteralS_L1 b1 xs11 (z9 + 1))
def w_eqLiteralS (b0 : List TLiteral) (b1 : List TLiteral) : Option Bool :=
 (bif ((b0.length : Int) != (b1.length : Int)) then
 some false
 else
 sumBind
 (w_eqLiteralS_L1 b1 b0 0)
 (fun q17 => some q17) fun p16 =>
 some true)
def w_markLiteralS_k_L1  : List TLiteral → Int → Int → Option Int
 | [], z8, a9 =>
  some a9
 | x10 :: xs11, z8, a9 =>
  w_markLiteralS_k_L1 xs11 (z8 + 1) (W ((W ((W (a9 + 1)) + 1)) + 1))
def w_markLiteralS_k (b0 : List TLiteral) (b1 : Int) : Option Int :=
 Option.bind
 (w_markLiteralS_k_L1 b0 0 b1) fun p13 =>
 some p13
def w_markLiteralS_L1  : Nat → Int → Int → (List TLiteral) → Option (Int × (List TLiteral))
 | 0, _, _, _ => none
 | fuel + 1, a7, a8, a9 =>
  (bif (decide (a8 < (a9.length : Int))) then
  (idxL a9 a8).bind fun v13 =>
  (idxL (setL a9 a8 (TLiteral.mk a7 v13.Activity v13.Value)) a8).bind fun v14 =>
  (idxL (setL (setL a9 a8 (TLiteral.mk a7 v13.Activity v13.Value)) a8 (TLiteral.mk v14.Kind (W (a7 + 1)) v14.Value)) a8).bind fun v15 =>
  w_markLiteralS_L1 fuel (W ((W ((W (a7 + 1)) + 1)) + 1)) (W (a8 + 1)) (setL (setL (setL a9 a8 (TLiteral.mk a7 v13.Activity v13.Value)) a8 (TLiteral.mk v14.Kind (W (a7 + 1)) v14.Value)) a8 (TLiteral.mk v15.Kind v15.Activity (W ((W (a7 + 1)) + 1))))
  else
  some (a7, a9))
def w_markLiteralS (b0 : List TLiteral) (b1 : Int) : Option (Int × (List TLiteral)) :=
 Option.bind
 (w_markLiteralS_L1 F0 b1 0 b0) fun p16 =>
 some (p16.1, p16.2)
def w_heldLiteralS_L1  : List TLiteral → Int → Int → Option (Int ⊕ Int)
 | [], z8, a9 =>
  some (Sum.inl a9)
 | x10 :: xs11, z8, a9 =>
  (bif (x10.Kind != a9) then
  some (Sum.inr (-1))
  else
  (bif (x10.Activity != (W (a9 + 1))) then
  some (Sum.inr (-1))
  else
  (bif (x10.Value != (W ((W (a9 + 1)) + 1))) then
  some (Sum.inr (-1))
  else
  w_heldLiteralS_L1 xs11 (z8 + 1) (W ((W ((W (a9 + 1)) + 1)) + 1)))))
def w_heldLiteralS (b0 : List TLiteral) (b1 : Int) : Option Int :=
 sumBind
 (w_heldLiteralS_L1 b0 0 b1)
 (fun q17 => some q17) fun p16 =>
 some p16
def w_FnExactNewClause (b0 : List TLiteral) : Option Bool :=
 (w_szLiteralS b0 1048576).bind fun v1 =>
 (bif (decide (v1 < 0)) then
 some true
 else
 (w_toLiteralS b0).bind fun v3 =>
 (s_NewClause v3).bind fun v4 =>
 (w_toLiteralS b0).bind fun v5 =>
 (i_NewClause v5).bind fun v6 =>
 (w_eqLiteralS v6 v4).bind fun v7 =>
 (bif (!v7) then
 some false
 else
 (w_toLiteralS b0).bind fun v9 =>
 (w_eqLiteralS v5 v9).bind fun v10 =>
 (bif (!v10) then
 some false
 else
 (w_markLiteralS_k v5 1).bind fun v12 =>
 Option.bind
 ((bif (decide (v12 < 0)) then
 some true
 else
 (w_eqLiteralS v6 v4).bind fun v15 =>
 some (!v15))) fun e13 =>
 (bif e13 then
 some false
 else
 (w_markLiteralS v6 1).bind fun v17 =>
 (w_heldLiteralS v17.2 1).bind fun v18 =>
 (bif (decide (v18 < 0)) then
 some false
 else
 (bif (v18 != v17.1) then
 some false
 else
 (w_toLiteralS b0).bind fun v21 =>
 (i_NewClause v21).bind fun v22 =>
 (w_eqLiteralS v22 v4).bind fun v23 =>
 (bif (!v23) then
 some false
 else
 (w_heldLiteralS v17.2 1).bind fun v25 =>
 (bif (decide (v25 < 0)) then
 some false
 else
 (bif (v25 != v17.1) then
 some false
 else
 some true)))))))))
def s_l01In (b0 : Int) (b1 : Int) (b2 : Int) : Option Bool :=
 Option.bind
 ((bif (decide (b1 ≤ b0)) then
 some (decide (b0 ≤ b2))
 else
 some false)) fun e1 =>
 some e1
def s_Negate (b0 : TLiteral) : Option TLiteral :=
 (s_l01In b0.Value (-100000) 100000).bind fun v1 =>
 (bif (!v1) then
 some (TLiteral.mk 0 0 0)
 else
 (bif (b0.Kind == 1) then
 some (TLiteral.mk 2 b0.Activity (W (b0.Value - 1)))
 else
 (bif (b0.Kind == 2) then
 some (TLiteral.mk 1 b0.Activity (W (b0.Value + 1)))
 else
 (bif (b0.Kind == 3) then
 some (TLiteral.mk 4 b0.Activity b0.Value)
 else
 (bif (b0.Kind == 4) then
 some (TLiteral.mk 3 b0.Activity b0.Value)
 else
 some (TLiteral.mk 0 0 0))))))
def s_Resolve_L1 (b2 : TLiteral) : List TLiteral → Int → (List TLiteral) → Option (List TLiteral)
 | [], z8, a9 =>
  some a9
 | x10 :: xs11, z8, a9 =>
  (bif (!(x10.Kind == b2.Kind && (x10.Activity == b2.Activity && (x10.Value == b2.Value && true)))) then
  (appL a9 ([x10] : List TLiteral)).bind fun v14 =>
  s_Resolve_L1 b2 xs11 (z8 + 1) v14
  else
  s_Resolve_L1 b2 xs11 (z8 + 1) a9)
def s_Resolve_L2 (b2 : TLiteral) : List TLiteral → Int → (List TLiteral) → Option (List TLiteral)
 | [], z23, a24 =>
  some a24
 | x25 :: xs26, z23, a24 =>
  (s_Negate b2).bind fun v28 =>
  (bif (!(x25.Kind == v28.Kind && (x25.Activity == v28.Activity && (x25.Value == v28.Value && true)))) then
  (appL a24 ([x25] : List TLiteral)).bind fun v30 =>
  s_Resolve_L2 b2 xs26 (z23 + 1) v30
  else
  s_Resolve_L2 b2 xs26 (z23 + 1) a24)
def s_Resolve (b0 : List TLiteral) (b1 : List TLiteral) (b2 : TLiteral) : Option (List TLiteral) :=
 Option.bind
 (s_Resolve_L1 b2 b0 0 ([] : List TLiteral)) fun p15 =>
 Option.bind
 (s_Resolve_L2 b2 b1 0 p15) fun p31 =>
 (s_NewClause p31).bind fun v32 =>
 some v32
def i_withoutOf_c1 (b0 : TLiteral) (c1 : TLiteral) : Option Bool :=
 some (b0.Kind == c1.Kind && (b0.Activity == c1.Activity && (b0.Value == c1.Value && true)))
def slices_IndexFunc_Literal_L1 (g1 : TLiteral → Option Bool) : List TLiteral → Int → Option (Unit ⊕ Int)
 | [], z8 =>
  some (Sum.inl ())
 | x9 :: xs10, z8 =>
  (g1 x9).bind fun v12 =>
  (bif v12 then
  some (Sum.inr z8)
  else
  slices_IndexFunc_Literal_L1 g1 xs10 (z8 + 1))
def slices_IndexFunc_Literal (b0 : List TLiteral) (g1 : TLiteral → Option Bool) : Option Int :=
 sumBind
 (slices_IndexFunc_Literal_L1 g1 b0 0)
 (fun q15 => some q15) fun p14 =>
 some (-1)
def slices_DeleteFunc_Literal_L1 (g1 : TLiteral → Option Bool) : Nat → Int → Int → (List TLiteral) → Option (Int × (List TLiteral))
 | 0, _, _, _ => none
 | fuel + 1, a8, a9, a10 =>
  (bif (decide (a9 < (a10.length : Int))) then
  (idxL a10 a9).bind fun v14 =>
  (g1 v14).bind fun v15 =>
  (bif (!v15) then
  (idxL a10 a8).bind fun v17 =>
  slices_DeleteFunc_Literal_L1 g1 fuel (W (a8 + 1)) (W (a9 + 1)) (setL a10 a8 v14)
  else
  slices_DeleteFunc_Literal_L1 g1 fuel a8 (W (a9 + 1)) a10)
  else
  some (a8, a10))
def slices_DeleteFunc_Literal (b0 : List TLiteral) (g1 : TLiteral → Option Bool) : Option (List TLiteral) :=
 (slices_IndexFunc_Literal b0 g1).bind fun v1 =>
 (bif (v1 == (-1)) then
 some b0
 else
 Option.bind
 (slices_DeleteFunc_Literal_L1 g1 F0 v1 (W (v1 + 1)) b0) fun p18 =>
 (begL p18.2 p18.1).bind fun v19 =>
 (begL (clrL p18.2 v19 p18.2.length (TLiteral.mk 0 0 0)) p18.1).bind fun v20 =>
 some ((clrL p18.2 v19 p18.2.length (TLiteral.mk 0 0 0)).take v20))
def i_withoutOf (b0 : List TLiteral) (b1 : TLiteral) : Option (List TLiteral) :=
 (slices_Clone_Literal b0).bind fun v1 =>
 (slices_DeleteFunc_Literal v1 (fun x0 => i_withoutOf_c1 x0 b1)).bind fun v2 =>
 some v2
def i_within (b0 : Int) (b1 : Int) (b2 : Int) : Option Bool :=
 Option.bind
 ((bif (decide (b1 ≤ b0)) then
 some (decide (b0 ≤ b2))
 else
 some false)) fun e1 =>
 some e1
def i_Negate (b0 : TLiteral) : Option TLiteral :=
 (i_within b0.Value (-100000) 100000).bind fun v1 =>
 (bif (!v1) then
 some (TLiteral.mk 0 0 0)
 else
 (bif (b0.Kind == 1) then
 some (TLiteral.mk 2 b0.Activity (W (b0.Value - 1)))
 else
 (bif (b0.Kind == 2) then
 some (TLiteral.mk 1 b0.Activity (W (b0.Value + 1)))
 else
 (bif (b0.Kind == 3) then
 some (TLiteral.mk 4 b0.Activity b0.Value)
 else
 (bif (b0.Kind == 4) then
 some (TLiteral.mk 3 b0.Activity b0.Value)
 else
 some (TLiteral.mk 0 0 0))))))
def i_Resolve (b0 : List TLiteral) (b1 : List TLiteral) (b2 : TLiteral) : Option (List TLiteral) :=
 (i_withoutOf b0 b2).bind fun v1 =>
 (i_Negate b2).bind fun v2 =>
 (i_withoutOf b1 v2).bind fun v3 =>
 (appL v1 v3).bind fun v4 =>
 (i_NewClause v4).bind fun v5 =>
 some v5
def w_FnExactResolve (b0 : List TLiteral) (b1 : List TLiteral) (b2 : TLiteral) : Option Bool :=
 (w_szLiteralS b0 1048576).bind fun v1 =>
 (bif (decide (v1 < 0)) then
 some true
 else
 (w_szLiteralS b1 v1).bind fun v3 =>
 (bif (decide (v3 < 0)) then
 some true
 else
 (w_toLiteralS b0).bind fun v5 =>
 (w_toLiteralS b1).bind fun v6 =>
 (w_toLiteral b2).bind fun v7 =>
 (s_Resolve v5 v6 v7).bind fun v8 =>
 (w_toLiteralS b0).bind fun v9 =>
 (w_toLiteralS b1).bind fun v10 =>
 (w_toLiteral b2).bind fun v11 =>
 (i_Resolve v9 v10 v11).bind fun v12 =>
 (w_eqLiteralS v12 v8).bind fun v13 =>
 (bif (!v13) then
 some false
 else
 (w_toLiteralS b0).bind fun v15 =>
 (w_eqLiteralS v9 v15).bind fun v16 =>
 (bif (!v16) then
 some false
 else
 (w_toLiteralS b1).bind fun v18 =>
 (w_eqLiteralS v10 v18).bind fun v19 =>
 (bif (!v19) then
 some false
 else
 (w_markLiteralS_k v9 1).bind fun v21 =>
 (w_markLiteralS_k v10 v21).bind fun v22 =>
 Option.bind
 ((bif (decide (v22 < 0)) then
 some true
 else
 (w_eqLiteralS v12 v8).bind fun v25 =>
 some (!v25))) fun e23 =>
 (bif e23 then
 some false
 else
 (w_markLiteralS v12 1).bind fun v27 =>
 (w_heldLiteralS v27.2 1).bind fun v28 =>
 (bif (decide (v28 < 0)) then
 some false
 else
 (bif (v28 != v27.1) then
 some false
 else
 (w_toLiteralS b0).bind fun v31 =>
 (w_toLiteralS b1).bind fun v32 =>
 (w_toLiteral b2).bind fun v33 =>
 (i_Resolve v31 v32 v33).bind fun v34 =>
 (w_eqLiteralS v34 v8).bind fun v35 =>
 (bif (!v35) then
 some false
 else
 (w_heldLiteralS v27.2 1).bind fun v37 =>
 (bif (decide (v37 < 0)) then
 some false
 else
 (bif (v37 != v27.1) then
 some false
 else
 some true)))))))))))
def b_l_eTLiteral (M : Nat) (l : List TLiteral) : Prop := l.length ≤ M
theorem w_szLiteralS_ok (x : List TLiteral) (h : b_l_eTLiteral 9223372036854775807 x) : SzOk w_szLiteralS (b_l_eTLiteral 1048576) x := szFlat x (fun _ => rfl) h
theorem w_toLiteral_eq (x : TLiteral) : w_toLiteral x = some x := by
 unfold w_toLiteral
 try simp only [Option.bind_some]
theorem w_toLiteralS_eq (x : List TLiteral) (h : b_l_eTLiteral 1048576 x) : w_toLiteralS x = some x := fillList (F := w_toLiteralS_L1) (Q := fun _ => True) (fun _ _ => rfl) (fun x xs z a y hq hy => by simp only [w_toLiteralS_L1, w_toLiteral_eq, hy, Option.bind_some]) h (fun _ _ => trivial) rfl
theorem w_eqLiteral_eq (a b : TLiteral) : w_eqLiteral a b = some (decide (a = b)) := by
 obtain ⟨a0, a1, a2⟩ := a
 obtain ⟨b0, b1, b2⟩ := b
 simp only [w_eqLiteral, TLiteral.mk.injEq, Option.bind_some, int_bne, bool_bne, ba_bne]
 by_cases h0 : a0 = b0 <;> by_cases h1 : a1 = b1 <;> by_cases h2 : a2 = b2 <;> simp [h0, h1, h2]
theorem w_eqLiteralS_eq (a b : List TLiteral) : w_eqLiteralS a b = some (decide (a = b)) := eqList (F := w_eqLiteralS_L1 b) (fun _ => rfl) (fun x xs z y h => by simp only [w_eqLiteralS_L1, h, Option.bind_some, int_bne, w_eqLiteral_eq]; by_cases hxy : x = y <;> simp [hxy]) rfl
theorem w_markLiteralS_k_ok (x : List TLiteral) (h : b_l_eTLiteral 1048576 x) : MkOk w_markLiteralS_k 3145728 x :=
 MkOk.list (L1 := w_markLiteralS_k_L1) (e := 3) (Q := fun _ => True) (fun _ _ => rfl) (fun x xs z k hx h0 hb => by
  skip
  refine ⟨(((k + 1) + 1) + 1), by omega, by omega, ?_⟩
  simp only [w_markLiteralS_k_L1]
  rw [W_of (n := (k + 1)) ⟨by omega, by omega⟩, W_of (n := ((k + 1) + 1)) ⟨by omega, by omega⟩, W_of (n := (((k + 1) + 1) + 1)) ⟨by omega, by omega⟩])
  (fun l k => by unfold w_markLiteralS_k; cases w_markLiteralS_k_L1 l 0 k <;> rfl) h (fun _ _ => trivial) (by decide)
theorem w_markLiteralS_res (x : List TLiteral) (h : b_l_eTLiteral 2097152 x) (k0 : Int) (hk0 : 0 ≤ k0) (hk1 : k0 + 6291456 ≤ 1099511627776) : ∃ k ys, w_markLiteralS x k0 = some (k, ys) ∧ w_heldLiteralS ys k0 = some k ∧ k0 ≤ k ∧ k ≤ k0 + 6291456 := by
 replace h : x.length ≤ 2097152 := h
 have e1 := markFlat (G := w_markLiteralS_L1) (c := 3) (up := (fun k _ => TLiteral.mk k (k + 1) (k + 2))) (by decide) (fun fuel k i l x hi hil hl h0 hb hx => by
  have hd : decide (i < (l.length : Int)) = true := decide_eq_true hil
  have hlt : i.toNat < l.length := by omega
  have hx2 : ∀ y, idxL (l.set i.toNat y) i = some y := fun y => by simp [idxL, hi, hlt]
  replace hx : idxL l i = some x := by simp [idxL, hi, hx]
  simp only [w_markLiteralS_L1, hd, cond_true, setL, hx, hx2, Option.bind_some, W_of (n := k + 1) ⟨by omega, by omega⟩, W_of (n := (k + 1) + 1) ⟨by omega, by omega⟩, W_of (n := ((k + 1) + 1) + 1) ⟨by omega, by omega⟩, W_of (n := i + 1) ⟨by omega, by omega⟩, List.set_set]; first | rfl | (congr 1 <;> (try omega) <;> (congr 2 <;> omega)))
  (fun fuel k i l hi => by
  have hd : decide (i < (l.length : Int)) = false := decide_eq_false (by omega)
  simp only [w_markLiteralS_L1, hd, cond_false]) (Nat.le_trans h (by decide)) hk0 (by omega)
 have hb : (3 : Int) * (x.length : Int) ≤ 6291456 := by omega
 have e2 := heldFlat (H := w_heldLiteralS_L1) (c := 3) (up := (fun k _ => TLiteral.mk k (k + 1) (k + 2))) (by decide) (fun x xs z k h0 hb => by
  simp only [w_heldLiteralS_L1, W_of (n := k + 1) ⟨by omega, by omega⟩, W_of (n := (k + 1) + 1) ⟨by omega, by omega⟩, W_of (n := ((k + 1) + 1) + 1) ⟨by omega, by omega⟩]; simp [bne, Int.add_assoc]) (fun _ _ => rfl) x 0 k0 hk0 (by omega)
 refine ⟨_, _, by unfold w_markLiteralS; rw [e1]; rfl, by unfold w_heldLiteralS; rw [e2]; rfl, by omega, by omega⟩
theorem TLiteral_beq (x y : TLiteral) : (x.Kind == y.Kind && (x.Activity == y.Activity && (x.Value == y.Value && true))) = decide (x = y) := by
 obtain ⟨x0, x1, x2⟩ := x
 obtain ⟨y0, y1, y2⟩ := y
 simp only [TLiteral.mk.injEq, int_beq, bool_beq, ba_beq, Bool.and_true, Bool.decide_and]
theorem decb_int : ∀ p, Val .int p → ∃ x : Int, p = int x ∧ True := fun p h => by obtain ⟨n, e⟩ := dec_int h; exact ⟨n, e, trivial⟩
theorem decb_TLiteral : ∀ p, Val (.agg [.int, .int, .int]) p → ∃ x : TLiteral, p = eTLiteral x ∧ True := fun p h => by
 obtain ⟨zs0, rfl, hv0⟩ := h
 obtain ⟨x0, zs1, rfl, h0, hv1⟩ := vals_cons hv0
 obtain ⟨y0, rfl, b0⟩ := decb_int _ h0
 obtain ⟨x1, zs2, rfl, h1, hv2⟩ := vals_cons hv1
 obtain ⟨y1, rfl, b1⟩ := decb_int _ h1
 obtain ⟨x2, zs3, rfl, h2, hv3⟩ := vals_cons hv2
 obtain ⟨y2, rfl, b2⟩ := decb_int _ h2
 obtain rfl := vals_nil hv3
 exact ⟨⟨y0, y1, y2⟩, rfl, trivial⟩
theorem decb_l_eTLiteral : ∀ p, Val (.slice (.agg [.int, .int, .int])) p → ∃ x : List TLiteral, p = .slice (x.map eTLiteral) ∧ b_l_eTLiteral 9223372036854775807 x := fun p h => by
 obtain ⟨l, e, h1, h2⟩ := dec_slice decb_TLiteral h
 exact ⟨l, e, h1⟩
def uniqA : TLiteral → List TLiteral → List TLiteral
 | _, [] => []
 | x, y :: ys => if y = x then uniqA y ys else y :: uniqA y ys
def uniq : List TLiteral → List TLiteral
 | [] => []
 | x :: xs => x :: uniqA x xs
theorem clone_eq (l : List TLiteral) (h : l.length ≤ 4194304) : slices_Clone_Literal l = some l := by
 unfold slices_Clone_Literal appL
 rw [if_pos (by simp; omega)]; simp
theorem idx_some {l : List TLiteral} {i : Nat} (h : i < l.length) : idxL l (i : Int) = some l[i] := by
 unfold idxL
 rw [if_pos (by omega), Int.toNat_natCast, List.getElem?_eq_getElem h]
theorem L2_run (v14 : Nat) : ∀ (n fuel k k2 : Nat) (l : List TLiteral), v14 + k2 + n = l.length → n < fuel → 1 ≤ k2 → k + 1 ≤ v14 + k2 → l.length ≤ 4194304 →
  ∃ (k' : Nat) (l' : List TLiteral), slices_Compact_Literal_L2 v14 fuel (k : Int) (k2 : Int) l = some ((k' : Int), l') ∧ l'.length = l.length ∧ k' ≤ l.length ∧ k ≤ k' ∧ ∀ x, l[v14 + k2 - 1]? = some x → l'.take k' = l.take k ++ uniqA x (l.drop (v14 + k2))
 | 0, fuel, k, k2, l, hn, hf, h1, hk, hl => by
  obtain _ | fuel := fuel
  ·omega
  refine ⟨k, l, ?_, rfl, by omega, Nat.le_refl _, fun x hx => ?_⟩
  ·rw [slices_Compact_Literal_L2, decide_eq_false (by omega), cond_false]
  ·rw [List.drop_eq_nil_of_le (by omega)]; simp [uniqA]
 | n + 1, fuel, k, k2, l, hn, hf, h1, hk, hl => by
  obtain _ | fuel := fuel
  ·omega
  have hi : v14 + k2 < l.length := by omega
  have e1 : idxO l v14 l.length (k2 : Int) = some l[v14 + k2] := by
   unfold idxO
   rw [if_pos (by omega), Int.toNat_natCast, List.getElem?_eq_getElem hi]
  have e2 : idxO l v14 l.length (W ((k2 : Int) - 1)) = some l[v14 + k2 - 1] := by
   rw [W_of (by omega)]
   unfold idxO
   rw [if_pos (by omega), show v14 + ((k2 : Int) - 1).toNat = v14 + k2 - 1 by omega, List.getElem?_eq_getElem (by omega)]
  have e3 : idxL l (k : Int) = some l[k] := idx_some (by omega)
  have w1 : W ((k : Int) + 1) = ((k + 1 : Nat) : Int) := by rw [W_of (by omega)]; omega
  have w2 : W ((k2 : Int) + 1) = ((k2 + 1 : Nat) : Int) := by rw [W_of (by omega)]; omega
  have hdr : l.drop (v14 + k2) = l[v14 + k2] :: l.drop (v14 + k2 + 1) := (List.drop_eq_getElem_cons hi)
  rw [slices_Compact_Literal_L2, decide_eq_true (by omega), cond_true]
  simp only [e1, e2, e3, Option.bind_some, TLiteral_beq, w1, w2]
  by_cases hxy : l[v14 + k2] = l[v14 + k2 - 1]
  ·rw [decide_eq_true hxy]
   simp only [Bool.not_true, cond_false]
   obtain ⟨k', l', a1, a2, a3, a4, a5⟩ := L2_run v14 n fuel k (k2 + 1) l (by omega) (by omega) (by omega) (by omega) hl
   refine ⟨k', l', a1, a2, a3, a4, fun x hx => ?_⟩
   rw [List.getElem?_eq_getElem (by omega)] at hx
   have hx := Option.some.inj hx
   have h6 := a5 l[v14 + k2] (by rw [show v14 + (k2 + 1) - 1 = v14 + k2 by omega]; exact List.getElem?_eq_getElem hi)
   rw [h6, hdr, uniqA, if_pos (by rw [hxy, hx])]
   rfl
  ·rw [decide_eq_false hxy]
   simp only [Bool.not_false, cond_true]
   have hlen : (setL l (k : Int) l[v14 + k2]).length = l.length := by simp [setL]
   obtain ⟨k', l', a1, a2, a3, a4, a5⟩ := L2_run v14 n fuel (k + 1) (k2 + 1) (setL l (k : Int) l[v14 + k2]) (by rw [hlen]; omega) (by omega) (by omega) (by omega) (by rw [hlen]; exact hl)
   rw [hlen] at a2 a3
   refine ⟨k', l', a1, a2, a3, by omega, fun x hx => ?_⟩
   rw [List.getElem?_eq_getElem (by omega)] at hx
   have hx := Option.some.inj hx
   have h6 := a5 l[v14 + k2] (by
    rw [show v14 + (k2 + 1) - 1 = v14 + k2 by omega]
    unfold setL
    rw [Int.toNat_natCast, List.getElem?_set_ne (by omega)]
    exact List.getElem?_eq_getElem hi)
   have t1 : (setL l (k : Int) l[v14 + k2]).take (k + 1) = l.take k ++ [l[v14 + k2]] := by
    unfold setL
    rw [Int.toNat_natCast, List.take_add_one, List.take_set_of_le (Nat.le_refl _)]
    rw [List.getElem?_set_self (by omega)]
    rfl
   have t2 : (setL l (k : Int) l[v14 + k2]).drop (v14 + (k2 + 1)) = l.drop (v14 + k2 + 1) := by
    unfold setL
    rw [Int.toNat_natCast, List.drop_set_of_lt (by omega)]
    rfl
   rw [h6, t1, t2, hdr, uniqA, if_neg (by rw [← hx]; exact hxy)]
   simp
theorem L1_run (l : List TLiteral) (hl : l.length ≤ 4194304) : ∀ (n fuel i : Nat), i + n = l.length → n < fuel → 1 ≤ i → (∀ x, l[i - 1]? = some x → uniq l = l.take i ++ uniqA x (l.drop i)) →
  slices_Compact_Literal_L1 l fuel (i : Int) = some (.inl ()) ∧ uniq l = l ∨ slices_Compact_Literal_L1 l fuel (i : Int) = some (.inr (uniq l))
 | 0, fuel, i, hn, hf, h1, hu => by
  obtain _ | fuel := fuel
  ·omega
  refine .inl ⟨?_, ?_⟩
  ·rw [slices_Compact_Literal_L1, decide_eq_false (by omega), cond_false]
  ·rw [hu l[i - 1] (List.getElem?_eq_getElem (by omega)), List.drop_eq_nil_of_le (by omega), List.take_of_length_le (by omega)]; simp [uniqA]
 | n + 1, fuel, i, hn, hf, h1, hu => by
  obtain _ | fuel := fuel
  ·omega
  have hi : i < l.length := by omega
  have e1 : idxL l (i : Int) = some l[i] := idx_some hi
  have e2 : idxL l (W ((i : Int) - 1)) = some l[i - 1] := by
   rw [W_of (by omega), show ((i : Int) - 1) = ((i - 1 : Nat) : Int) by omega]
   exact idx_some (by omega)
  have hdr : l.drop i = l[i] :: l.drop (i + 1) := List.drop_eq_getElem_cons hi
  replace hu := hu l[i - 1] (List.getElem?_eq_getElem (by omega))
  have w1 : W ((i : Int) + 1) = ((i + 1 : Nat) : Int) := by rw [W_of (by omega)]; omega
  rw [slices_Compact_Literal_L1, decide_eq_true (by omega), cond_true]
  simp only [e1, e2, Option.bind_some, TLiteral_beq, w1]
  rw [hdr, uniqA] at hu
  by_cases hxy : l[i] = l[i - 1]
  ·rw [decide_eq_true hxy, cond_true]
   rw [if_pos hxy] at hu
   have eb : begL l (i : Int) = some i := by
    unfold begL; rw [if_pos (by omega)]; simp
   obtain ⟨k', l', a1, a2, a3, a4, a5⟩ := L2_run i (l.length - (i + 1)) F0 i 1 l (by omega) (by have := F0_gt; omega) (by omega) (by omega) hl
   have h6 := a5 l[i] (by rw [show i + 1 - 1 = i by omega]; exact List.getElem?_eq_getElem hi)
   have eb2 : begL l' (k' : Int) = some k' := by
    unfold begL; rw [if_pos (by omega)]; simp
   have hcl : (clrL l' k' l'.length (TLiteral.mk 0 0 0)).length = l'.length := clrL_len _ _ _ _ (by omega) (Nat.le_refl _)
   have eb3 : begL (clrL l' k' l'.length (TLiteral.mk 0 0 0)) (k' : Int) = some k' := by
    unfold begL; rw [if_pos (by omega)]; simp
   have ht : (clrL l' k' l'.length (TLiteral.mk 0 0 0)).take k' = l'.take k' := by
    unfold clrL
    rw [List.append_assoc, List.take_append_of_le_length (by simp; omega), List.take_take, Nat.min_self]
   refine .inr ?_
   have a1' : slices_Compact_Literal_L2 i F0 (i : Int) 1 l = some ((k' : Int), l') := a1
   rw [eb, Option.bind_some, a1', Option.bind_some]
   simp only [eb2, Option.bind_some, eb3, ht]
   rw [h6, hu]
  ·rw [decide_eq_false hxy, cond_false]
   rw [if_neg hxy] at hu
   refine L1_run l hl n fuel (i + 1) (by omega) (by omega) (by omega) (fun x hx => ?_)
   rw [show i + 1 - 1 = i by omega, List.getElem?_eq_getElem hi] at hx
   rw [← Option.some.inj hx, hu, List.take_add_one, List.getElem?_eq_getElem hi]
   rw [List.append_assoc]; rfl
theorem compact_eq (l : List TLiteral) (hl : l.length ≤ 4194304) : slices_Compact_Literal l = some (uniq l) := by
 unfold slices_Compact_Literal
 by_cases h2 : (l.length : Int) < 2
 ·rw [decide_eq_true h2, cond_true]
  match l, h2 with
  | [], _ => rfl
  | [x], _ => rfl
  | x :: y :: l, h2 => simp only [List.length_cons] at h2; omega
 ·rw [decide_eq_false h2, cond_false]
  have h0 : ∀ x, l[1 - 1]? = some x → uniq l = l.take 1 ++ uniqA x (l.drop 1) := fun x hx => by
   cases l with
   | nil => simp at hx
   | cons y l => simp at hx; subst hx; simp [uniq]
  rcases L1_run l hl (l.length - 1) F0 1 (by omega) (by have := F0_gt; omega) (by omega) h0 with ⟨h1, h3⟩ | h1
  ·have h1 : slices_Compact_Literal_L1 l F0 1 = some (.inl ()) := h1
   rw [h1, h3]; rfl
  ·have h1 : slices_Compact_Literal_L1 l F0 1 = some (.inr (uniq l)) := h1
   rw [h1]; rfl
abbrev litLt (x y : TLiteral) : Prop := x.Activity < y.Activity ∨ (x.Activity = y.Activity ∧ (x.Kind < y.Kind ∨ (x.Kind = y.Kind ∧ x.Value < y.Value)))
def litCmp (x y : TLiteral) : Int :=
 bif decide (x.Activity < y.Activity) then -1 else bif decide (y.Activity < x.Activity) then 1 else
 bif decide (x.Kind < y.Kind) then -1 else bif decide (y.Kind < x.Kind) then 1 else
 bif decide (x.Value < y.Value) then -1 else bif decide (y.Value < x.Value) then 1 else 0
theorem lit_ext {x y : TLiteral} (h1 : x.Activity = y.Activity) (h2 : x.Kind = y.Kind) (h3 : x.Value = y.Value) : x = y := by
 obtain ⟨a, b, c⟩ := x
 obtain ⟨d, e, f⟩ := y
 simp only at h1 h2 h3
 subst h1 h2 h3; rfl
theorem litCmp_lt (x y : TLiteral) : litCmp x y < 0 ↔ litLt x y := by
 unfold litCmp litLt
 by_cases h1 : x.Activity < y.Activity
 ·simp [h1]
 by_cases h2 : y.Activity < x.Activity
 ·simp [h1, h2]; try omega
 by_cases h3 : x.Kind < y.Kind
 ·simp [h1, h2, h3]; try omega
 by_cases h4 : y.Kind < x.Kind
 ·simp [h1, h2, h3, h4]; try omega
 by_cases h5 : x.Value < y.Value
 ·simp [h1, h2, h3, h4, h5]; try omega
 by_cases h6 : y.Value < x.Value
 ·simp [h1, h2, h3, h4, h5, h6]; try omega
 ·simp [h1, h2, h3, h4, h5, h6]; try omega
theorem litLt_irrefl (x : TLiteral) : ¬ litLt x x := by unfold litLt; omega
theorem litLt_trans {x y z : TLiteral} (h1 : litLt x y) (h2 : litLt y z) : litLt x z := by unfold litLt at *; omega
theorem litLt_tot (x y : TLiteral) : litLt x y ∨ x = y ∨ litLt y x := by
 by_cases h : x.Activity = y.Activity ∧ x.Kind = y.Kind ∧ x.Value = y.Value
 ·exact .inr (.inl (lit_ext h.1 h.2.1 h.2.2))
 ·unfold litLt; omega
theorem compare_int (a b : Int) : cmp_Compare_int a b = some (bif decide (a < b) then -1 else bif decide (b < a) then 1 else 0) := by
 unfold cmp_Compare_int cmp_isNaN_int
 simp only [bne_self_eq_false, Option.bind_some, cond_false, cond_some]
theorem iCompare_eq (x y : TLiteral) : i_CompareLiterals x y = some (litCmp x y) := by
 unfold i_CompareLiterals litCmp
 simp only [compare_int, Option.bind_some, cmp_Or_int, cmp_Or_int_L1]
 by_cases h1 : x.Activity < y.Activity
 ·simp [h1, sumBind]
 by_cases h2 : y.Activity < x.Activity
 ·simp [h1, h2, sumBind]
 by_cases h3 : x.Kind < y.Kind
 ·simp [h1, h2, h3, sumBind]
 by_cases h4 : y.Kind < x.Kind
 ·simp [h1, h2, h3, h4, sumBind]
 by_cases h5 : x.Value < y.Value
 ·simp [h1, h2, h3, h4, h5, sumBind]
 by_cases h6 : y.Value < x.Value
 ·simp [h1, h2, h3, h4, h5, h6, sumBind]
 ·simp [h1, h2, h3, h4, h5, h6, sumBind]
theorem i_CompareLiterals_tot (x y : TLiteral) : ∃ v, i_CompareLiterals x y = some v := ⟨_, iCompare_eq x y⟩
theorem i_CompareLiterals_swo : Go.Sort.SWO (Go.Proofs.ltOf fun x y => (i_CompareLiterals x y).getD 0) := by
 have e : ∀ x y, Go.Proofs.ltOf (fun x y => (i_CompareLiterals x y).getD 0) x y = decide (litLt x y) := fun x y => by
  unfold Go.Proofs.ltOf
  simp only [iCompare_eq, Option.getD_some]
  exact decide_eq_decide.2 (litCmp_lt x y)
 refine ⟨fun x => ?_, fun x y z h1 h2 => ?_, fun x y z h1 h2 => ?_⟩
 ·rw [e]; exact decide_eq_false (litLt_irrefl x)
 ·rw [e] at *; exact decide_eq_true (litLt_trans (of_decide_eq_true h1) (of_decide_eq_true h2))
 ·rw [e] at *
  have h1 := of_decide_eq_false h1
  have h2 := of_decide_eq_false h2
  refine decide_eq_false fun h => ?_
  rcases litLt_tot x y with a | a | a
  ·exact h1 a
  ·subst a; exact h2 h
  ·exact h2 (litLt_trans a h)
theorem i_CompareLiterals_tot2 : ∀ x y : TLiteral, Go.Proofs.ltOf (fun x y => (i_CompareLiterals x y).getD 0) x y = false → Go.Proofs.ltOf (fun x y => (i_CompareLiterals x y).getD 0) y x = false → x = y := fun x y h1 h2 => by
 unfold Go.Proofs.ltOf at h1 h2
 simp only [iCompare_eq, Option.getD_some] at h1 h2
 have h1 := fun h => of_decide_eq_false h1 ((litCmp_lt x y).2 h)
 have h2 := fun h => of_decide_eq_false h2 ((litCmp_lt y x).2 h)
 rcases litLt_tot x y with a | a | a
 ·exact absurd a h1
 ·exact a
 ·exact absurd a h2
theorem sCompare_eq (x y : TLiteral) : ∃ c, s_CompareLiterals x y = some c ∧ (c < 0 ↔ litLt x y) := by
 have hs : ∀ a b : Int, s_l11Sign a b = some (bif decide (a < b) then -1 else bif decide (b < a) then 1 else 0) := fun a b => by
  unfold s_l11Sign; simp only [cond_some]
 have hn : ∀ a b : Int, (bif decide (a < b) then (-1 : Int) else bif decide (b < a) then 1 else 0) < 0 ↔ a < b := fun a b => by
  by_cases h1 : a < b
  ·simp [h1]
  by_cases h2 : b < a
  ·simp [h1, h2]
  ·simp [h1, h2]
 unfold s_CompareLiterals
 simp only [hs, Option.bind_some, int_bne, litLt]
 by_cases h1 : x.Activity = y.Activity
 ·rw [decide_eq_true h1]
  simp only [Bool.not_true, cond_false]
  by_cases h2 : x.Kind = y.Kind
  ·rw [decide_eq_true h2]
   simp only [Bool.not_true, cond_false]
   exact ⟨_, rfl, by rw [hn]; omega⟩
  ·rw [decide_eq_false h2]
   simp only [Bool.not_false, cond_true]
   exact ⟨_, rfl, by rw [hn]; omega⟩
 ·rw [decide_eq_false h1]
  simp only [Bool.not_false, cond_true]
  exact ⟨_, rfl, by rw [hn]; omega⟩
theorem strictL_ext : ∀ (a b : List TLiteral), a.Pairwise litLt → b.Pairwise litLt → (∀ x, x ∈ a ↔ x ∈ b) → a = b
 | [], [], _, _, _ => rfl
 | [], y :: b, _, _, h => absurd ((h y).2 (List.mem_cons_self ..)) (by simp)
 | x :: a, [], _, _, h => absurd ((h x).1 (List.mem_cons_self ..)) (by simp)
 | x :: a, y :: b, ha, hb, h => by
  have ha' := List.pairwise_cons.1 ha
  have hb' := List.pairwise_cons.1 hb
  have hxy : x = y := by
   rcases List.mem_cons.1 ((h x).1 (List.mem_cons_self ..)) with e | e
   ·exact e
   ·rcases List.mem_cons.1 ((h y).2 (List.mem_cons_self ..)) with e2 | e2
    ·exact e2.symm
    ·exact absurd (litLt_trans (ha'.1 y e2) (hb'.1 x e)) (litLt_irrefl x)
  subst hxy
  rw [strictL_ext a b ha'.2 hb'.2 fun z => ⟨fun hz => ?_, fun hz => ?_⟩]
  ·rcases List.mem_cons.1 ((h z).1 (List.mem_cons_of_mem _ hz)) with e | e
   ·subst e; exact absurd (ha'.1 z hz) (litLt_irrefl z)
   ·exact e
  ·rcases List.mem_cons.1 ((h z).2 (List.mem_cons_of_mem _ hz)) with e | e
   ·subst e; exact absurd (hb'.1 z hz) (litLt_irrefl z)
   ·exact e
theorem uniqA_ok : ∀ (l : List TLiteral) (x : TLiteral), (x :: l).Pairwise (fun a b => ¬ litLt b a) → (x :: uniqA x l).Pairwise litLt ∧ (∀ z, z ∈ x :: uniqA x l ↔ z ∈ x :: l) ∧ (uniqA x l).length ≤ l.length
 | [], x, _ => by simp [uniqA]
 | y :: l, x, h => by
  have h' := List.pairwise_cons.1 h
  obtain ⟨h1, h2, h3⟩ := uniqA_ok l y h'.2
  unfold uniqA
  by_cases e : y = x
  ·subst e
   rw [if_pos rfl]
   exact ⟨h1, fun z => by rw [h2]; simp, by simp; omega⟩
  ·rw [if_neg e]
   have hxy : litLt x y := by
    rcases litLt_tot x y with a | a | a
    ·exact a
    ·exact absurd a.symm e
    ·exact absurd a (h'.1 y (List.mem_cons_self ..))
   refine ⟨List.pairwise_cons.2 ⟨fun z hz => ?_, h1⟩, fun z => ?_, by simp; omega⟩
   ·rcases List.mem_cons.1 hz with a | a
    ·subst a; exact hxy
    ·exact litLt_trans hxy ((List.pairwise_cons.1 h1).1 z a)
   ·rw [List.mem_cons, h2, ← List.mem_cons]
theorem uniq_ok (l : List TLiteral) (h : l.Pairwise (fun a b => ¬ litLt b a)) : (uniq l).Pairwise litLt ∧ (∀ z, z ∈ uniq l ↔ z ∈ l) ∧ (uniq l).length ≤ l.length := by
 cases l with
 | nil => simp [uniq]
 | cons x l =>
  obtain ⟨h1, h2, h3⟩ := uniqA_ok l x h
  exact ⟨h1, h2, by simp [uniq]; omega⟩
theorem iNewClause_ok (l : List TLiteral) (hl : l.length ≤ 4194304) : ∃ r, i_NewClause l = some r ∧ r.Pairwise litLt ∧ (∀ z, z ∈ r ↔ z ∈ l) ∧ r.length ≤ l.length := by
 unfold i_NewClause slices_SortFunc_Literal sortFL
 rw [clone_eq l hl, Option.bind_some, if_pos (by omega), Option.bind_some]
 have e : (fun x y : TLiteral => !decide (((i_CompareLiterals y x).getD 0) < 0)) = fun x y => !decide (litLt y x) := by
  funext x y
  simp only [iCompare_eq, Option.getD_some]
  rw [decide_eq_decide.2 (litCmp_lt y x)]
 rw [e]
 have hp := List.mergeSort_perm l (fun x y : TLiteral => !decide (litLt y x))
 have hs := List.pairwise_mergeSort (le := fun x y : TLiteral => !decide (litLt y x)) (fun a b c h1 h2 => by
  simp only [Bool.not_eq_true', decide_eq_false_iff_not] at *
  intro h
  rcases litLt_tot b a with x | x | x
  ·exact h1 x
  ·subst x; exact h2 h
  ·exact h2 (litLt_trans h x)) (fun a b => by
  simp only [Bool.or_eq_true, Bool.not_eq_true', decide_eq_false_iff_not]
  by_cases h : litLt b a
  ·exact .inr fun h2 => litLt_irrefl _ (litLt_trans h h2)
  ·exact .inl h) l
 have hlen := hp.length_eq
 rw [compact_eq _ (by omega), Option.bind_some]
 obtain ⟨h1, h2, h3⟩ := uniq_ok _ (hs.imp fun h => of_decide_eq_false ((Bool.not_eq_true' _).mp h))
 exact ⟨_, rfl, h1, fun z => by rw [h2, hp.mem_iff], by omega⟩
theorem sL2_run (a : List TLiteral) (x : TLiteral) (ha : a.length ≤ 4194304) : ∀ (n fuel k : Nat), k + n = a.length → n < fuel → (∀ j y, j < k → a[j]? = some y → litLt y x) →
  ∃ p : Nat, s_NewClause_L2 a x fuel (k : Int) = some (p : Int) ∧ p ≤ a.length ∧ (∀ j y, j < p → a[j]? = some y → litLt y x) ∧ ∀ y, a[p]? = some y → ¬ litLt y x
 | 0, fuel, k, hn, hf, hk => by
  obtain _ | fuel := fuel
  ·omega
  refine ⟨k, ?_, by omega, hk, fun y hy => ?_⟩
  ·rw [s_NewClause_L2, decide_eq_false (by omega)]; rfl
  ·rw [List.getElem?_eq_none (by omega)] at hy; cases hy
 | n + 1, fuel, k, hn, hf, hk => by
  obtain _ | fuel := fuel
  ·omega
  have hi : k < a.length := by omega
  obtain ⟨c, hc, hlt⟩ := sCompare_eq a[k] x
  have w1 : W ((k : Int) + 1) = ((k + 1 : Nat) : Int) := by rw [W_of (by omega)]; omega
  rw [s_NewClause_L2, decide_eq_true (by omega), cond_true, idx_some hi, Option.bind_some, hc, Option.bind_some, Option.bind_some]
  by_cases h : litLt a[k] x
  ·rw [decide_eq_true (hlt.2 h), cond_true, w1]
   refine sL2_run a x ha n fuel (k + 1) (by omega) (by omega) (fun j y hj hy => ?_)
   by_cases e : j = k
   ·subst e
    rw [List.getElem?_eq_getElem hi] at hy
    rw [← Option.some.inj hy]; exact h
   ·exact hk j y (by omega) hy
  ·rw [decide_eq_false (fun h2 => h (hlt.1 h2)), cond_false]
   refine ⟨k, rfl, by omega, hk, fun y hy => ?_⟩
   rw [List.getElem?_eq_getElem hi] at hy
   rw [← Option.some.inj hy]; exact h
theorem subL_take {α : Type} {l : List α} {p : Nat} (h : p ≤ l.length) : subL l 0 (p : Int) = some (l.take p) := by
 unfold subL
 rw [if_pos (by omega)]; simp
theorem subL_drop {α : Type} {l : List α} {p : Nat} (h : p ≤ l.length) : subL l (p : Int) (l.length : Int) = some (l.drop p) := by
 unfold subL
 rw [if_pos (by omega)]
 simp [List.take_of_length_le]
theorem sL1_run : ∀ (l a : List TLiteral) (z : Int), a.length + l.length ≤ 4194304 → a.Pairwise litLt → ∃ r, s_NewClause_L1 l z a = some r ∧ r.Pairwise litLt ∧ ∀ y, y ∈ r ↔ y ∈ a ∨ y ∈ l
 | [], a, z, hl, ha => ⟨a, rfl, ha, fun y => by simp⟩
 | x :: l, a, z, hl, ha => by
  simp only [List.length_cons] at hl
  obtain ⟨p, h1, h2, h3, h4⟩ := sL2_run a x (by omega) a.length F0 0 (by omega) (by have := F0_gt; omega) (fun j y hj => by omega)
  have h1 : s_NewClause_L2 a x F0 0 = some (p : Int) := h1
  rw [s_NewClause_L1, h1, Option.bind_some]
  have hlt : ∀ y ∈ a.take p, litLt y x := fun y hy => by
   obtain ⟨j, hj, e⟩ := List.mem_iff_getElem.1 hy
   rw [List.length_take] at hj
   refine h3 j y (by omega) ?_
   rw [List.getElem_take] at e
   rw [List.getElem?_eq_getElem (by omega), e]
  by_cases hp : p < a.length
  ·have hge := h4 a[p] (List.getElem?_eq_getElem hp)
   have hdr : a.drop p = a[p] :: a.drop (p + 1) := List.drop_eq_getElem_cons hp
   have had := ha.sublist (List.drop_sublist p a)
   rw [hdr] at had
   have had' := List.pairwise_cons.1 had
   rw [decide_eq_true (show (p : Int) < a.length by omega), cond_true, idx_some hp, Option.bind_some, TLiteral_beq, Option.bind_some]
   by_cases e : a[p] = x
   ·rw [decide_eq_true e, cond_true]
    obtain ⟨r, r1, r2, r3⟩ := sL1_run l a (z + 1) (by omega) ha
    refine ⟨r, r1, r2, fun y => ?_⟩
    rw [r3, List.mem_cons]
    have : x ∈ a := e ▸ List.getElem_mem hp
    constructor
    ·rintro (h | h)
     ·exact .inl h
     ·exact .inr (.inr h)
    ·rintro (h | h | h)
     ·exact .inl h
     ·subst h; exact .inl this
     ·exact .inr h
   ·rw [decide_eq_false e, cond_false, subL_take h2, Option.bind_some]
    have hxp : litLt x a[p] := by
     rcases litLt_tot x a[p] with h | h | h
     ·exact h
     ·exact absurd h.symm e
     ·exact absurd h hge
    have hsm := List.take_append_drop p a
    have e1 : appL ([] : List TLiteral) (a.take p) = some (a.take p) := by
     unfold appL; rw [if_pos (by simp; omega)]; simp
    have e2 : appL (a.take p) [x] = some (a.take p ++ [x]) := by
     unfold appL; rw [if_pos (by simp; omega)]
    have e3 : appL (a.take p ++ [x]) (a.drop p) = some (a.take p ++ [x] ++ a.drop p) := by
     unfold appL; rw [if_pos (by simp; omega)]
    rw [e1, Option.bind_some, e2, Option.bind_some, subL_drop h2, Option.bind_some, e3, Option.bind_some]
    have hstrict : (a.take p ++ [x] ++ a.drop p).Pairwise litLt := by
     rw [List.append_assoc]
     refine List.pairwise_append.2 ⟨ha.sublist (List.take_sublist p a), List.pairwise_cons.2 ⟨fun y hy => ?_, ha.sublist (List.drop_sublist p a)⟩, fun y hy w hw => ?_⟩
     ·have hy : y ∈ a.drop p := hy
      rw [hdr] at hy
      rcases List.mem_cons.1 hy with h | h
      ·rw [h]; exact hxp
      ·exact litLt_trans hxp (had'.1 y h)
     ·rcases List.mem_cons.1 hw with h | h
      ·rw [h]; exact hlt y hy
      ·refine litLt_trans (hlt y hy) ?_
       have h : w ∈ a.drop p := h
       rw [hdr] at h
       rcases List.mem_cons.1 h with h | h
       ·rw [h]; exact hxp
       ·exact litLt_trans hxp (had'.1 w h)
    obtain ⟨r, r1, r2, r3⟩ := sL1_run l (a.take p ++ [x] ++ a.drop p) (z + 1) (by simp; omega) hstrict
    refine ⟨r, r1, r2, fun y => ?_⟩
    rw [r3, List.mem_cons]
    conv => rhs; rw [← hsm]
    simp only [List.mem_append, List.mem_cons, List.not_mem_nil, or_false]
    constructor
    ·rintro (((h | h) | h) | h)
     ·exact .inl (.inl h)
     ·exact .inr (.inl h)
     ·exact .inl (.inr h)
     ·exact .inr (.inr h)
    ·rintro ((h | h) | h | h)
     ·exact .inl (.inl (.inl h))
     ·exact .inl (.inr h)
     ·exact .inl (.inl (.inr h))
     ·exact .inr h
  ·have hpe : p = a.length := by omega
   subst hpe
   rw [List.take_length] at hlt
   rw [decide_eq_false (by omega), cond_false, Option.bind_some, cond_false, subL_take h2, Option.bind_some]
   have e1 : appL ([] : List TLiteral) (a.take a.length) = some a := by
    unfold appL; rw [if_pos (by simp; omega)]; simp
   have e2 : appL a [x] = some (a ++ [x]) := by
    unfold appL; rw [if_pos (by simp; omega)]
   have e3 : appL (a ++ [x]) (a.drop a.length) = some (a ++ [x]) := by
    unfold appL; rw [if_pos (by simp; omega)]; simp
   rw [e1, Option.bind_some, e2, Option.bind_some, subL_drop h2, Option.bind_some, e3, Option.bind_some]
   have hstrict : (a ++ [x]).Pairwise litLt := List.pairwise_append.2 ⟨ha, by simp, fun y hy w hw => by simp at hw; subst hw; exact hlt y hy⟩
   obtain ⟨r, r1, r2, r3⟩ := sL1_run l (a ++ [x]) (z + 1) (by simp; omega) hstrict
   refine ⟨r, r1, r2, fun y => ?_⟩
   rw [r3, List.mem_cons]
   simp only [List.mem_append, List.mem_cons, List.not_mem_nil, or_false, or_assoc]
theorem newClause_eq (l : List TLiteral) (hl : l.length ≤ 4194304) : ∃ v, s_NewClause l = some v ∧ i_NewClause l = some v ∧ v.length ≤ l.length := by
 obtain ⟨r, h1, h2, h3, h4⟩ := iNewClause_ok l hl
 obtain ⟨q, g1, g2, g3⟩ := sL1_run l [] 0 (by simpa using hl) List.Pairwise.nil
 have e : q = r := strictL_ext q r g2 h2 fun z => by rw [g3, h3]; simp
 subst e
 exact ⟨q, by unfold s_NewClause; rw [g1]; rfl, h1, h4⟩
theorem core_NewClause (l : List TLiteral) (hl : b_l_eTLiteral 1048576 l) : ∃ v, s_NewClause l = some v ∧ i_NewClause l = some v ∧ v.length ≤ 2097152 := by
 replace hl : l.length ≤ 1048576 := hl
 obtain ⟨v, h1, h2, h3⟩ := newClause_eq l (by omega)
 exact ⟨v, h1, h2, by omega⟩
theorem index_run (g : TLiteral → Option Bool) (gb : TLiteral → Bool) (hg : ∀ x, g x = some (gb x)) : ∀ (l : List TLiteral) (z : Int),
  (slices_IndexFunc_Literal_L1 g l z = some (.inl ()) ∧ ∀ x ∈ l, gb x = false) ∨ ∃ i : Nat, slices_IndexFunc_Literal_L1 g l z = some (.inr (z + i)) ∧ i < l.length ∧ (∀ x ∈ l.take i, gb x = false) ∧ ∀ x, l[i]? = some x → gb x = true
 | [], z => .inl ⟨rfl, fun x hx => by cases hx⟩
 | x :: l, z => by
  rw [slices_IndexFunc_Literal_L1, hg, Option.bind_some]
  cases h : gb x with
  | true =>
   rw [cond_true]
   exact .inr ⟨0, by simp, by simp, fun y hy => by simp at hy, fun y hy => by simp at hy; subst hy; exact h⟩
  | false =>
   rw [cond_false]
   rcases index_run g gb hg l (z + 1) with ⟨h1, h2⟩ | ⟨i, h1, h2, h3, h4⟩
   ·refine .inl ⟨h1, fun y hy => ?_⟩
    rcases List.mem_cons.1 hy with e | e
    ·rw [e]; exact h
    ·exact h2 y e
   ·refine .inr ⟨i + 1, by rw [h1]; congr 2; omega, by simp; omega, fun y hy => ?_, fun y hy => h4 y (by simpa using hy)⟩
    rw [List.take_succ_cons] at hy
    rcases List.mem_cons.1 hy with e | e
    ·rw [e]; exact h
    ·exact h3 y e
theorem delete_run (g : TLiteral → Option Bool) (gb : TLiteral → Bool) (hg : ∀ x, g x = some (gb x)) : ∀ (n fuel i j : Nat) (l : List TLiteral), j + n = l.length → n < fuel → i < j → l.length ≤ 4194304 →
  ∃ (i' : Nat) (l' : List TLiteral), slices_DeleteFunc_Literal_L1 g fuel (i : Int) (j : Int) l = some ((i' : Int), l') ∧ l'.length = l.length ∧ i' < l.length + 0 + (if 0 < n ∨ i < l.length then 0 else 1) ∧ l'.take i' = l.take i ++ (l.drop j).filter fun x => !gb x
 | 0, fuel, i, j, l, hn, hf, hij, hl => by
  obtain _ | fuel := fuel
  ·omega
  refine ⟨i, l, ?_, rfl, by rw [if_pos (by omega)]; omega, ?_⟩
  ·rw [slices_DeleteFunc_Literal_L1, decide_eq_false (by omega), cond_false]
  ·rw [List.drop_eq_nil_of_le (by omega)]; simp
 | n + 1, fuel, i, j, l, hn, hf, hij, hl => by
  obtain _ | fuel := fuel
  ·omega
  have hj : j < l.length := by omega
  have hdr : l.drop j = l[j] :: l.drop (j + 1) := List.drop_eq_getElem_cons hj
  have w1 : W ((i : Int) + 1) = ((i + 1 : Nat) : Int) := by rw [W_of (by omega)]; omega
  have w2 : W ((j : Int) + 1) = ((j + 1 : Nat) : Int) := by rw [W_of (by omega)]; omega
  rw [slices_DeleteFunc_Literal_L1, decide_eq_true (by omega), cond_true, idx_some hj, Option.bind_some, hg, Option.bind_some, w1, w2, idx_some (show i < l.length by omega), Option.bind_some]
  cases h : gb l[j] with
  | true =>
   rw [Bool.not_true, cond_false]
   obtain ⟨i', l', a1, a2, a3, a4⟩ := delete_run g gb hg n fuel i (j + 1) l (by omega) (by omega) (by omega) hl
   refine ⟨i', l', a1, a2, by rw [if_pos (by omega)] at *; omega, ?_⟩
   rw [a4, hdr, List.filter_cons, h]; simp
  | false =>
   rw [Bool.not_false, cond_true]
   have hlen : (setL l (i : Int) l[j]).length = l.length := by simp [setL]
   obtain ⟨i', l', a1, a2, a3, a4⟩ := delete_run g gb hg n fuel (i + 1) (j + 1) (setL l (i : Int) l[j]) (by rw [hlen]; omega) (by omega) (by omega) (by rw [hlen]; exact hl)
   rw [hlen] at a2 a3
   refine ⟨i', l', a1, a2, by rw [if_pos (by omega)] at *; omega, ?_⟩
   have t1 : (setL l (i : Int) l[j]).take (i + 1) = l.take i ++ [l[j]] := by
    unfold setL
    rw [Int.toNat_natCast, List.take_add_one, List.take_set_of_le (Nat.le_refl _), List.getElem?_set_self (by omega)]
    rfl
   have t2 : (setL l (i : Int) l[j]).drop (j + 1) = l.drop (j + 1) := by
    unfold setL
    rw [Int.toNat_natCast, List.drop_set_of_lt (by omega)]
   rw [a4, t1, t2, hdr, List.filter_cons, h]; simp
theorem delete_eq (g : TLiteral → Option Bool) (gb : TLiteral → Bool) (hg : ∀ x, g x = some (gb x)) (l : List TLiteral) (hl : l.length ≤ 4194304) : slices_DeleteFunc_Literal l g = some (l.filter fun x => !gb x) := by
 unfold slices_DeleteFunc_Literal slices_IndexFunc_Literal
 rcases index_run g gb hg l 0 with ⟨h1, h2⟩ | ⟨i, h1, h2, h3, h4⟩
 ·rw [h1]
  have e : l.filter (fun x => !gb x) = l := List.filter_eq_self.2 fun x hx => by simp [h2 x hx]
  rw [e]; rfl
 ·rw [h1, Int.zero_add]
  have e0 : (((i : Int)) == -1) = false := by rw [int_beq]; exact decide_eq_false (by omega)
  have w1 : W ((i : Int) + 1) = ((i + 1 : Nat) : Int) := by rw [W_of (by omega)]; omega
  have hi : l[i]? = some l[i] := List.getElem?_eq_getElem h2
  obtain ⟨i', l', a1, a2, a3, a4⟩ := delete_run g gb hg (l.length - (i + 1)) F0 i (i + 1) l (by omega) (by have := F0_gt; omega) (by omega) hl
  rw [if_pos (by omega)] at a3
  have eb2 : begL l' (i' : Int) = some i' := by
   unfold begL; rw [if_pos (by omega)]; simp
  have hcl : (clrL l' i' l'.length (TLiteral.mk 0 0 0)).length = l'.length := clrL_len _ _ _ _ (by omega) (Nat.le_refl _)
  have eb3 : begL (clrL l' i' l'.length (TLiteral.mk 0 0 0)) (i' : Int) = some i' := by
   unfold begL; rw [if_pos (by omega)]; simp
  have ht : (clrL l' i' l'.length (TLiteral.mk 0 0 0)).take i' = l'.take i' := by
   unfold clrL
   rw [List.append_assoc, List.take_append_of_le_length (by simp; omega), List.take_take, Nat.min_self]
  show Option.bind (some (i : Int)) _ = _
  rw [Option.bind_some, e0, cond_false, w1, a1, Option.bind_some]
  simp only [eb2, Option.bind_some, eb3, ht]
  rw [a4]
  have hdr : l.drop i = l[i] :: l.drop (i + 1) := List.drop_eq_getElem_cons h2
  conv => rhs; rw [← List.take_append_drop i l, List.filter_append, hdr, List.filter_cons, h4 _ hi]
  have e : (l.take i).filter (fun x => !gb x) = l.take i := List.filter_eq_self.2 fun x hx => by simp [h3 x hx]
  rw [e]; simp
theorem withoutOf_eq (l : List TLiteral) (x : TLiteral) (hl : l.length ≤ 4194304) : i_withoutOf l x = some (l.filter fun y => !decide (y = x)) := by
 unfold i_withoutOf
 rw [clone_eq l hl, Option.bind_some, delete_eq _ (fun y => decide (y = x)) (fun y => by unfold i_withoutOf_c1; rw [TLiteral_beq]) l hl]
 rfl
theorem negate_eq (x : TLiteral) : ∃ v, s_Negate x = some v ∧ i_Negate x = some v := by
 have h : i_Negate x = s_Negate x := rfl
 have h2 : ∃ v, s_Negate x = some v := by
  unfold s_Negate s_l01In
  simp only [cond_some, Option.bind_some]
  exact ⟨_, rfl⟩
 obtain ⟨v, hv⟩ := h2
 exact ⟨v, hv, h.trans hv⟩
theorem sR1_run (b2 : TLiteral) : ∀ (l : List TLiteral) (z : Int) (a : List TLiteral), a.length + l.length ≤ 4194304 → s_Resolve_L1 b2 l z a = some (a ++ l.filter fun y => !decide (y = b2))
 | [], z, a, h => by simp [s_Resolve_L1]
 | x :: l, z, a, h => by
  simp only [List.length_cons] at h
  rw [s_Resolve_L1, TLiteral_beq, List.filter_cons]
  by_cases e : x = b2
  ·rw [decide_eq_true e]
   simp only [Bool.not_true, cond_false]
   rw [sR1_run b2 l (z + 1) a (by omega)]; simp
  ·rw [decide_eq_false e]
   simp only [Bool.not_false, cond_true]
   have e1 : appL a [x] = some (a ++ [x]) := by unfold appL; rw [if_pos (by simp; omega)]
   rw [e1, Option.bind_some, sR1_run b2 l (z + 1) (a ++ [x]) (by simp; omega)]; simp
theorem sR2_run (b2 v : TLiteral) (hv : s_Negate b2 = some v) : ∀ (l : List TLiteral) (z : Int) (a : List TLiteral), a.length + l.length ≤ 4194304 → s_Resolve_L2 b2 l z a = some (a ++ l.filter fun y => !decide (y = v))
 | [], z, a, h => by simp [s_Resolve_L2]
 | x :: l, z, a, h => by
  simp only [List.length_cons] at h
  rw [s_Resolve_L2, hv, Option.bind_some, TLiteral_beq, List.filter_cons]
  by_cases e : x = v
  ·rw [decide_eq_true e]
   simp only [Bool.not_true, cond_false]
   rw [sR2_run b2 v hv l (z + 1) a (by omega)]; simp
  ·rw [decide_eq_false e]
   simp only [Bool.not_false, cond_true]
   have e1 : appL a [x] = some (a ++ [x]) := by unfold appL; rw [if_pos (by simp; omega)]
   rw [e1, Option.bind_some, sR2_run b2 v hv l (z + 1) (a ++ [x]) (by simp; omega)]; simp
theorem core_Resolve (a b : List TLiteral) (x : TLiteral) (ha : b_l_eTLiteral 1048576 a) (hb : b_l_eTLiteral 1048576 b) : ∃ v, s_Resolve a b x = some v ∧ i_Resolve a b x = some v ∧ v.length ≤ 2097152 := by
 replace ha : a.length ≤ 1048576 := ha
 replace hb : b.length ≤ 1048576 := hb
 obtain ⟨n, n1, n2⟩ := negate_eq x
 have l1 := List.length_filter_le (fun y => !decide (y = x)) a
 have l2 := List.length_filter_le (fun y => !decide (y = n)) b
 obtain ⟨v, h1, h2, h3⟩ := newClause_eq (a.filter (fun y => !decide (y = x)) ++ b.filter fun y => !decide (y = n)) (by simp; omega)
 refine ⟨v, ?_, ?_, by simp at h3; omega⟩
 ·unfold s_Resolve
  rw [sR1_run x a 0 [] (by simp; omega), Option.bind_some, List.nil_append, sR2_run x n n1 b 0 _ (by omega), Option.bind_some, h1]
  rfl
 ·unfold i_Resolve
  have e1 : appL (a.filter (fun y => !decide (y = x))) (b.filter fun y => !decide (y = n)) = some (a.filter (fun y => !decide (y = x)) ++ b.filter fun y => !decide (y = n)) := by unfold appL; rw [if_pos (by omega)]
  rw [withoutOf_eq a x (by omega), Option.bind_some, n2, Option.bind_some, withoutOf_eq b n (by omega), Option.bind_some, e1, Option.bind_some, h2]
  rfl
end Go.Px.Ytdlklmdnmoipcaa
