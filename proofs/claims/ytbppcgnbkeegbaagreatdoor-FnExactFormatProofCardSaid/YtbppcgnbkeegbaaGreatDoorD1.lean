/-
  PROVED: definitions that say what functions of the program compute. No condition.
-/
import Derived.Test.YtbppcgnbkeegbaaGreatDoorQ3
namespace Go.Px.YtbppcgnbkeegbaaGreatDoor
set_option linter.unusedSimpArgs false
set_option linter.unusedVariables false
open Go.Px
structure TMode where
 Duration : Int
 Usage : List Int
 Consumption : List Int
 deriving DecidableEq
structure TActivity where
 Name : ByteArray
 Family : Int
 Modes : List TMode
 deriving DecidableEq
structure TLink where
 From : Int
 To : Int
 FromEnd : Bool
 Lag : Int
 deriving DecidableEq
structure TStep where
 At : Int
 Capacity : Int
 deriving DecidableEq
structure TResource where
 Steps : List TStep
 Setup : List (List Int)
 deriving DecidableEq
structure TProject where
 Deadline : Int
 Activities : List TActivity
 Links : List TLink
 Resources : List TResource
 Stocks : List Int
 deriving DecidableEq
structure TRule where
 Kind : Int
 A : Int
 B : Int
 C : Int
 deriving DecidableEq
structure TLiteral where
 Kind : Int
 Activity : Int
 Value : Int
 deriving DecidableEq
structure TLine where
 Kind : Int
 Rule : TRule
 Clause : List TLiteral
 deriving DecidableEq
abbrev eTMode (x : TMode) : PV := .agg [int x.Duration, .slice (x.Usage.map int), .slice (x.Consumption.map int)]
abbrev eTActivity (x : TActivity) : PV := .agg [str x.Name, int x.Family, .slice (x.Modes.map eTMode)]
abbrev eTLink (x : TLink) : PV := .agg [int x.From, int x.To, bool x.FromEnd, int x.Lag]
abbrev eTStep (x : TStep) : PV := .agg [int x.At, int x.Capacity]
abbrev l_int (x : List Int) : PV := .slice (x.map int)
abbrev eTResource (x : TResource) : PV := .agg [.slice (x.Steps.map eTStep), .slice (x.Setup.map l_int)]
abbrev eTProject (x : TProject) : PV := .agg [int x.Deadline, .slice (x.Activities.map eTActivity), .slice (x.Links.map eTLink), .slice (x.Resources.map eTResource), .slice (x.Stocks.map int)]
abbrev eTLiteral (x : TLiteral) : PV := .agg [int x.Kind, int x.Activity, int x.Value]
abbrev eTLine (x : TLine) : PV := .agg [int x.Kind, int x.Rule.Kind, int x.Rule.A, int x.Rule.B, int x.Rule.C, .slice (x.Clause.map eTLiteral)]
abbrev eTRule (x : TRule) : PV := .agg [int x.Kind, int x.A, int x.B, int x.C]
abbrev e_u8 (x : Int) : PV := .lit (.int .u8 x)
def w_szIntS (b0 : List Int) (b1 : Int) : Option Int :=
 (bif (decide ((W (b1 - (b0.length : Int))) < 0)) then
 some (-1)
 else
 some (W (b1 - (b0.length : Int))))
def w_szMode (b0 : TMode) (b1 : Int) : Option Int :=
 (w_szIntS b0.Usage b1).bind fun v1 =>
 (bif (decide (v1 < 0)) then
 some (-1)
 else
 (w_szIntS b0.Consumption v1).bind fun v3 =>
 (bif (decide (v3 < 0)) then
 some (-1)
 else
 some v3))
def w_szModeS_L1  : List TMode → Int → Int → Option (Int ⊕ Int)
 | [], z9, a10 =>
  some (Sum.inl a10)
 | x11 :: xs12, z9, a10 =>
  (w_szMode x11 a10).bind fun v14 =>
  (bif (decide (v14 < 0)) then
  some (Sum.inr (-1))
  else
  w_szModeS_L1 xs12 (z9 + 1) v14)
def w_szModeS (b0 : List TMode) (b1 : Int) : Option Int :=
 (bif (decide ((W (b1 - (b0.length : Int))) < 0)) then
 some (-1)
 else
 sumBind
 (w_szModeS_L1 b0 0 (W (b1 - (b0.length : Int))))
 (fun q17 => some q17) fun p16 =>
 some p16)
def w_szActivity (b0 : TActivity) (b1 : Int) : Option Int :=
 (bif (decide ((W (b1 - (b0.Name.size : Int))) < 0)) then
 some (-1)
 else
 (w_szModeS b0.Modes (W (b1 - (b0.Name.size : Int)))).bind fun v2 =>
 (bif (decide (v2 < 0)) then
 some (-1)
 else
 some v2))
def w_szActivityS_L1  : List TActivity → Int → Int → Option (Int ⊕ Int)
 | [], z9, a10 =>
  some (Sum.inl a10)
 | x11 :: xs12, z9, a10 =>
  (w_szActivity x11 a10).bind fun v14 =>
  (bif (decide (v14 < 0)) then
  some (Sum.inr (-1))
  else
  w_szActivityS_L1 xs12 (z9 + 1) v14)
def w_szActivityS (b0 : List TActivity) (b1 : Int) : Option Int :=
 (bif (decide ((W (b1 - (b0.length : Int))) < 0)) then
 some (-1)
 else
 sumBind
 (w_szActivityS_L1 b0 0 (W (b1 - (b0.length : Int))))
 (fun q17 => some q17) fun p16 =>
 some p16)
def w_szLinkS (b0 : List TLink) (b1 : Int) : Option Int :=
 (bif (decide ((W (b1 - (b0.length : Int))) < 0)) then
 some (-1)
 else
 some (W (b1 - (b0.length : Int))))
def w_szStepS (b0 : List TStep) (b1 : Int) : Option Int :=
 (bif (decide ((W (b1 - (b0.length : Int))) < 0)) then
 some (-1)
 else
 some (W (b1 - (b0.length : Int))))
def w_szIntSS_L1  : List (List Int) → Int → Int → Option (Int ⊕ Int)
 | [], z9, a10 =>
  some (Sum.inl a10)
 | x11 :: xs12, z9, a10 =>
  (w_szIntS x11 a10).bind fun v14 =>
  (bif (decide (v14 < 0)) then
  some (Sum.inr (-1))
  else
  w_szIntSS_L1 xs12 (z9 + 1) v14)
def w_szIntSS (b0 : List (List Int)) (b1 : Int) : Option Int :=
 (bif (decide ((W (b1 - (b0.length : Int))) < 0)) then
 some (-1)
 else
 sumBind
 (w_szIntSS_L1 b0 0 (W (b1 - (b0.length : Int))))
 (fun q17 => some q17) fun p16 =>
 some p16)
def w_szResource (b0 : TResource) (b1 : Int) : Option Int :=
 (w_szStepS b0.Steps b1).bind fun v1 =>
 (bif (decide (v1 < 0)) then
 some (-1)
 else
 (w_szIntSS b0.Setup v1).bind fun v3 =>
 (bif (decide (v3 < 0)) then
 some (-1)
 else
 some v3))
def w_szResourceS_L1  : List TResource → Int → Int → Option (Int ⊕ Int)
 | [], z9, a10 =>
  some (Sum.inl a10)
 | x11 :: xs12, z9, a10 =>
  (w_szResource x11 a10).bind fun v14 =>
  (bif (decide (v14 < 0)) then
  some (Sum.inr (-1))
  else
  w_szResourceS_L1 xs12 (z9 + 1) v14)
def w_szResourceS (b0 : List TResource) (b1 : Int) : Option Int :=
 (bif (decide ((W (b1 - (b0.length : Int))) < 0)) then
 some (-1)
 else
 sumBind
 (w_szResourceS_L1 b0 0 (W (b1 - (b0.length : Int))))
 (fun q17 => some q17) fun p16 =>
 some p16)
def w_szProject (b0 : TProject) (b1 : Int) : Option Int :=
 (w_szActivityS b0.Activities b1).bind fun v1 =>
 (bif (decide (v1 < 0)) then
 some (-1)
 else
 (w_szLinkS b0.Links v1).bind fun v3 =>
 (bif (decide (v3 < 0)) then
 some (-1)
 else
 (w_szResourceS b0.Resources v3).bind fun v5 =>
 (bif (decide (v5 < 0)) then
 some (-1)
 else
 (w_szIntS b0.Stocks v5).bind fun v7 =>
 (bif (decide (v7 < 0)) then
 some (-1)
 else
 some v7))))
def w_szLiteralS (b0 : List TLiteral) (b1 : Int) : Option Int :=
 (bif (decide ((W (b1 - (b0.length : Int))) < 0)) then
 some (-1)
 else
 some (W (b1 - (b0.length : Int))))
def w_szLine (b0 : TLine) (b1 : Int) : Option Int :=
 (w_szLiteralS b0.Clause b1).bind fun v1 =>
 (bif (decide (v1 < 0)) then
 some (-1)
 else
 some v1)
def w_toIntS_L1  : List Int → Int → (List Int) → Option (List Int)
 | [], z9, a10 =>
  some a10
 | x11 :: xs12, z9, a10 =>
  (idxL a10 z9).bind fun v14 =>
  w_toIntS_L1 xs12 (z9 + 1) (setL a10 z9 x11)
def w_toIntS (b0 : List Int) : Option (List Int) :=
 (makeL 0 (b0.length : Int)).bind fun v1 =>
 Option.bind
 (w_toIntS_L1 b0 0 v1) fun p15 =>
 some p15
def w_toMode (b0 : TMode) : Option TMode :=
 (w_toIntS b0.Usage).bind fun v1 =>
 (w_toIntS b0.Consumption).bind fun v2 =>
 some (TMode.mk b0.Duration v1 v2)
def w_toModeS_L1  : List TMode → Int → (List TMode) → Option (List TMode)
 | [], z9, a10 =>
  some a10
 | x11 :: xs12, z9, a10 =>
  (w_toMode x11).bind fun v14 =>
  (idxL a10 z9).bind fun v15 =>
  w_toModeS_L1 xs12 (z9 + 1) (setL a10 z9 v14)
def w_toModeS (b0 : List TMode) : Option (List TMode) :=
 (makeL (TMode.mk 0 [] []) (b0.length : Int)).bind fun v1 =>
 Option.bind
 (w_toModeS_L1 b0 0 v1) fun p16 =>
 some p16
def w_toActivity (b0 : TActivity) : Option TActivity :=
 (w_toModeS b0.Modes).bind fun v1 =>
 some (TActivity.mk b0.Name b0.Family v1)
def w_toActivityS_L1  : List TActivity → Int → (List TActivity) → Option (List TActivity)
 | [], z9, a10 =>
  some a10
 | x11 :: xs12, z9, a10 =>
  (w_toActivity x11).bind fun v14 =>
  (idxL a10 z9).bind fun v15 =>
  w_toActivityS_L1 xs12 (z9 + 1) (setL a10 z9 v14)
def w_toActivityS (b0 : List TActivity) : Option (List TActivity) :=
 (makeL (TActivity.mk ByteArray.empty 0 []) (b0.length : Int)).bind fun v1 =>
 Option.bind
 (w_toActivityS_L1 b0 0 v1) fun p16 =>
 some p16
def w_toLink (b0 : TLink) : Option TLink :=
 some b0
def w_toLinkS_L1  : List TLink → Int → (List TLink) → Option (List TLink)
 | [], z9, a10 =>
  some a10
 | x11 :: xs12, z9, a10 =>
  (w_toLink x11).bind fun v14 =>
  (idxL a10 z9).bind fun v15 =>
  w_toLinkS_L1 xs12 (z9 + 1) (setL a10 z9 v14)
def w_toLinkS (b0 : List TLink) : Option (List TLink) :=
 (makeL (TLink.mk 0 0 false 0) (b0.length : Int)).bind fun v1 =>
 Option.bind
 (w_toLinkS_L1 b0 0 v1) fun p16 =>
 some p16
def w_toStep (b0 : TStep) : Option TStep :=
 some b0
def w_toStepS_L1  : List TStep → Int → (List TStep) → Option (List TStep)
 | [], z9, a10 =>
  some a10
 | x11 :: xs12, z9, a10 =>
  (w_toStep x11).bind fun v14 =>
  (idxL a10 z9).bind fun v15 =>
  w_toStepS_L1 xs12 (z9 + 1) (setL a10 z9 v14)
def w_toStepS (b0 : List TStep) : Option (List TStep) :=
 (makeL (TStep.mk 0 0) (b0.length : Int)).bind fun v1 =>
 Option.bind
 (w_toStepS_L1 b0 0 v1) fun p16 =>
 some p16
def w_toIntSS_L1  : List (List Int) → Int → (List (List Int)) → Option (List (List Int))
 | [], z9, a10 =>
  some a10
 | x11 :: xs12, z9, a10 =>
  (w_toIntS x11).bind fun v14 =>
  (idxL a10 z9).bind fun v15 =>
  w_toIntSS_L1 xs12 (z9 + 1) (setL a10 z9 v14)
def w_toIntSS (b0 : List (List Int)) : Option (List (List Int)) :=
 (makeL ([] : List Int) (b0.length : Int)).bind fun v1 =>
 Option.bind
 (w_toIntSS_L1 b0 0 v1) fun p16 =>
 some p16
def w_toResource (b0 : TResource) : Option TResource :=
 (w_toStepS b0.Steps).bind fun v1 =>
 (w_toIntSS b0.Setup).bind fun v2 =>
 some (TResource.mk v1 v2)
def w_toResourceS_L1  : List TResource → Int → (List TResource) → Option (List TResource)
 | [], z9, a10 =>
  some a10
 | x11 :: xs12, z9, a10 =>
  (w_toResource x11).bind fun v14 =>
  (idxL a10 z9).bind fun v15 =>
  w_toResourceS_L1 xs12 (z9 + 1) (setL a10 z9 v14)
def w_toResourceS (b0 : List TResource) : Option (List TResource) :=
 (makeL (TResource.mk [] []) (b0.length : Int)).bind fun v1 =>
 Option.bind
 (w_toResourceS_L1 b0 0 v1) fun p16 =>
 some p16
def w_toProject (b0 : TProject) : Option TProject :=
 (w_toActivityS b0.Activities).bind fun v1 =>
 (w_toLinkS b0.Links).bind fun v2 =>
 (w_toResourceS b0.Resources).bind fun v3 =>
 (w_toIntS b0.Stocks).bind fun v4 =>
 some (TProject.mk b0.Deadline v1 v2 v3 v4)
def w_toRule (b0 : TRule) : Option TRule :=
 some b0
def w_toLiteral (b0 : TLiteral) : Option TLiteral :=
 some b0
def w_toLiteralS_L1  : List TLiteral → Int → (List TLiteral) → Option (List TLiteral)
 | [], z9, a10 =>
  some a10
 | x11 :: xs12, z9, a10 =>
  (w_toLiteral x11).bind fun v14 =>
  (idxL a10 z9).bind fun v15 =>
  w_toLiteralS_L1 xs12 (z9 + 1) (setL a10 z9 v14)
def w_toLiteralS (b0 : List TLiteral) : Option (List TLiteral) :=
 (makeL (TLiteral.mk 0 0 0) (b0.length : Int)).bind fun v1 =>
 Option.bind
 (w_toLiteralS_L1 b0 0 v1) fun p16 =>
 some p16
def w_toLine (b0 : TLine) : Option TLine :=
 (w_toRule b0.Rule).bind fun v1 =>
 (w_toLiteralS b0.Clause).bind fun v2 =>
 some (TLine.mk b0.Kind v1 v2)
def s_l01In (b0 : Int) (b1 : Int) (b2 : Int) : Option Bool :=
 Option.bind
 ((bif (decide (b1 ≤ b0)) then
 some (decide (b0 ≤ b2))
 else
 some false)) fun e1 =>
 some e1
def s_l04Nums_L1  : List Int → Int → Option (Unit ⊕ Bool)
 | [], z8 =>
  some (Sum.inl ())
 | x9 :: xs10, z8 =>
  (s_l01In x9 0 20).bind fun v12 =>
  (bif (!v12) then
  some (Sum.inr false)
  else
  s_l04Nums_L1 xs10 (z8 + 1))
def s_l04Nums (b0 : List Int) (b1 : Int) : Option Bool :=
 sumBind
 (s_l04Nums_L1 b0 0)
 (fun q15 => some q15) fun p14 =>
 some ((b0.length : Int) == b1)
def s_ModeOk (b0 : TMode) (b1 : Int) (b2 : Int) : Option Bool :=
 (s_l01In b0.Duration 1 12).bind fun v1 =>
 Option.bind
 ((bif v1 then
 (s_l04Nums b0.Usage b1).bind fun v4 =>
 (bif v4 then
 (s_l04Nums b0.Consumption b2).bind fun v6 =>
 some v6
 else
 some false)
 else
 some false)) fun e2 =>
 some e2
def s_IsName_L1 (b0 : ByteArray) : Nat → Int → Option (Unit ⊕ Bool)
 | 0, _ => none
 | fuel + 1, a7 =>
  (bif (decide (a7 < (b0.size : Int))) then
  (idxS b0 a7).bind fun v11 =>
  Option.bind
  ((bif (decide (97 ≤ v11)) then
  some (decide (v11 ≤ 122))
  else
  some false)) fun e12 =>
  Option.bind
  ((bif (!e12) then
  (bif (a7 == 0) then
  some true
  else
  (bif (decide (v11 < 48)) then
  some true
  else
  some (decide (57 < v11))))
  else
  some false)) fun e14 =>
  (bif e14 then
  some (Sum.inr false)
  else
  s_IsName_L1 b0 fuel (W (a7 + 1)))
  else
  some (Sum.inl ()))
def s_IsName (b0 : ByteArray) : Option Bool :=
 sumBind
 (s_IsName_L1 b0 F0 0)
 (fun q20 => some q20) fun p19 =>
 (s_l01In (b0.size : Int) 1 8).bind fun v21 =>
 some v21
def s_ActivityOk_L1 (b1 : Int) (b2 : Int) : List TMode → Int → Option (Unit ⊕ Bool)
 | [], z8 =>
  some (Sum.inl ())
 | x9 :: xs10, z8 =>
  (s_ModeOk x9 b1 b2).bind fun v12 =>
  (bif (!v12) then
  some (Sum.inr false)
  else
  s_ActivityOk_L1 b1 b2 xs10 (z8 + 1))
def s_ActivityOk (b0 : TActivity) (b1 : Int) (b2 : Int) : Option Bool :=
 sumBind
 (s_ActivityOk_L1 b1 b2 b0.Modes 0)
 (fun q15 => some q15) fun p14 =>
 (s_IsName b0.Name).bind fun v16 =>
 Option.bind
 ((bif v16 then
 (s_l01In b0.Family 0 3).bind fun v19 =>
 (bif v19 then
 (s_l01In (b0.Modes.length : Int) 1 3).bind fun v21 =>
 some v21
 else
 some false)
 else
 some false)) fun e17 =>
 some e17
def s_ActivityIndex_L1 (b1 : ByteArray) : List TActivity → Int → Option (Unit ⊕ Int)
 | [], z8 =>
  some (Sum.inl ())
 | x9 :: xs10, z8 =>
  (bif (x9.Name == b1) then
  some (Sum.inr z8)
  else
  s_ActivityIndex_L1 b1 xs10 (z8 + 1))
def s_ActivityIndex (b0 : TProject) (b1 : ByteArray) : Option Int :=
 sumBind
 (s_ActivityIndex_L1 b1 b0.Activities 0)
 (fun q14 => some q14) fun p13 =>
 some (-1)
def s_StepsOk_L1 (b0 : List TStep) : List TStep → Int → Option (Unit ⊕ Bool)
 | [], z8 =>
  some (Sum.inl ())
 | x9 :: xs10, z8 =>
  (s_l01In x9.At 0 60).bind fun v12 =>
  Option.bind
  ((bif (!v12) then
  some true
  else
  (s_l01In x9.Capacity 0 20).bind fun v15 =>
  (bif (!v15) then
  some true
  else
  (bif (decide (0 < z8)) then
  (idxL b0 (z8 - 1)).bind fun v18 =>
  some (decide (x9.At ≤ v18.At))
  else
  some false)))) fun e13 =>
  (bif e13 then
  some (Sum.inr false)
  else
  s_StepsOk_L1 b0 xs10 (z8 + 1))
def s_StepsOk (b0 : List TStep) : Option Bool :=
 sumBind
 (s_StepsOk_L1 b0 b0 0)
 (fun q21 => some q21) fun p20 =>
 (s_l01In (b0.length : Int) 1 8).bind fun v22 =>
 Option.bind
 ((bif v22 then
 (idxL b0 0).bind fun v25 =>
 some (v25.At == 0)
 else
 some false)) fun e23 =>
 some e23
def s_ResourceOk_L2  : List Int → Int → Option (Unit ⊕ Bool)
 | [], z20 =>
  some (Sum.inl ())
 | x21 :: xs22, z20 =>
  (s_l01In x21 0 12).bind fun v24 =>
  (bif (!v24) then
  some (Sum.inr false)
  else
  s_ResourceOk_L2 xs22 (z20 + 1))
def s_ResourceOk_L1  : List (List Int) → Int → Option (Unit ⊕ Bool)
 | [], z8 =>
  some (Sum.inl ())
 | x9 :: xs10, z8 =>
  (bif ((x9.length : Int) != 4) then
  some (Sum.inr false)
  else
  sumBind
  (s_ResourceOk_L2 x9 0)
  (fun q27 => some (Sum.inr q27)) fun p26 =>
  s_ResourceOk_L1 xs10 (z8 + 1))
def s_ResourceOk (b0 : TResource) : Option Bool :=
 sumBind
 (s_ResourceOk_L1 b0.Setup 0)
 (fun q29 => some q29) fun p28 =>
 (s_StepsOk b0.Steps).bind fun v30 =>
 Option.bind
 ((bif v30 then
 (bif ((b0.Setup.length : Int) == 0) then
 some true
 else
 some ((b0.Setup.length : Int) == 4))
 else
 some false)) fun e31 =>
 some e31
def s_ProjectOk_L1 (b0 : TProject) : List TActivity → Int → Option (Unit ⊕ Bool)
 | [], z16 =>
  some (Sum.inl ())
 | x17 :: xs18, z16 =>
  (s_ActivityOk x17 (b0.Resources.length : Int) (b0.Stocks.length : Int)).bind fun v20 =>
  Option.bind
  ((bif (!v20) then
  some true
  else
  (s_ActivityIndex b0 x17.Name).bind fun v23 =>
  some (v23 != z16))) fun e21 =>
  (bif e21 then
  some (Sum.inr false)
  else
  s_ProjectOk_L1 b0 xs18 (z16 + 1))
def s_ProjectOk_L2  : List TResource → Int → Option (Unit ⊕ Bool)
 | [], z34 =>
  some (Sum.inl ())
 | x35 :: xs36, z34 =>
  (s_ResourceOk x35).bind fun v38 =>
  (bif (!v38) then
  some (Sum.inr false)
  else
  s_ProjectOk_L2 xs36 (z34 + 1))
def s_ProjectOk_L3  : List Int → Int → Option (Unit ⊕ Bool)
 | [], z49 =>
  some (Sum.inl ())
 | x50 :: xs51, z49 =>
  (s_l01In x50 0 100).bind fun v53 =>
  (bif (!v53) then
  some (Sum.inr false)
  else
  s_ProjectOk_L3 xs51 (z49 + 1))
def s_ProjectOk_L4 (b0 : TProject) : List TLink → Int → Option (Unit ⊕ Bool)
 | [], z64 =>
  some (Sum.inl ())
 | x65 :: xs66, z64 =>
  (s_l01In x65.From 0 (W ((b0.Activities.length : Int) - 1))).bind fun v68 =>
  Option.bind
  ((bif (!v68) then
  some true
  else
  (s_l01In x65.To 0 (W ((b0.Activities.length : Int) - 1))).bind fun v71 =>
  (bif (!v71) then
  some true
  else
  (bif (x65.From == x65.To) then
  some true
  else
  (s_l01In x65.Lag (-60) 60).bind fun v74 =>
  some (!v74))))) fun e69 =>
  (bif e69 then
  some (Sum.inr false)
  else
  s_ProjectOk_L4 b0 xs66 (z64 + 1))
def s_ProjectOk (b0 : TProject) : Option Bool :=
 (s_l01In b0.Deadline 1 60).bind fun v1 =>
 Option.bind
 ((bif (!v1) then
 some true
 else
 (s_l01In (b0.Activities.length : Int) 1 6).bind fun v4 =>
 (bif (!v4) then
 some true
 else
 (bif (decide (3 < (b0.Resources.length : Int))) then
 some true
 else
 (bif (decide (2 < (b0.Stocks.length : Int))) then
 some true
 else
 some (decide (12 < (b0.Links.length : Int)))))))) fun e2 =>
 (bif e2 then
 some false
 else
 sumBind
 (s_ProjectOk_L1 b0 b0.Activities 0)
 (fun q26 => some q26) fun p25 =>
 sumBind
 (s_ProjectOk_L2 b0.Resources 0)
 (fun q41 => some q41) fun p40 =>
 sumBind
 (s_ProjectOk_L3 b0.Stocks 0)
 (fun q56 => some q56) fun p55 =>
 sumBind
 (s_ProjectOk_L4 b0 b0.Links 0)
 (fun q77 => some q77) fun p76 =>
 some true)
def s_LiteralOk (b0 : TProject) (b1 : TLiteral) : Option Bool :=
 (s_ProjectOk b0).bind fun v1 =>
 Option.bind
 ((bif (!v1) then
 some true
 else
 (s_l01In b1.Activity 0 (W ((b0.Activities.length : Int) - 1))).bind fun v4 =>
 some (!v4))) fun e2 =>
 (bif e2 then
 some false
 else
 Option.bind
 ((bif (b1.Kind == 1) then
 some (b1.Kind == 1)
 else
 some (b1.Kind == 2))) fun p11 =>
 (bif p11 then
 (s_l01In b1.Value (-1) 61).bind fun v13 =>
 some v13
 else
 Option.bind
 ((bif (b1.Kind == 3) then
 some (b1.Kind == 3)
 else
 some (b1.Kind == 4))) fun p19 =>
 (bif p19 then
 (idxL b0.Activities b1.Activity).bind fun v21 =>
 (s_l01In b1.Value 0 (W ((v21.Modes.length : Int) - 1))).bind fun v22 =>
 some v22
 else
 some false)))
def s_l11Sign (b0 : Int) (b1 : Int) : Option Int :=
 (bif (decide (b0 < b1)) then
 some (-1)
 else
 (bif (decide (b1 < b0)) then
 some 1
 else
 some 0))
def s_CompareLiterals (b0 : TLiteral) (b1 : TLiteral) : Option Int :=
 (bif (b0.Activity != b1.Activity) then
 (s_l11Sign b0.Activity b1.Activity).bind fun v2 =>
 some v2
 else
 (bif (b0.Kind != b1.Kind) then
 (s_l11Sign b0.Kind b1.Kind).bind fun v4 =>
 some v4
 else
 (s_l11Sign b0.Value b1.Value).bind fun v5 =>
 some v5))
def s_ClauseOk_L1 (b0 : TProject) (b1 : List TLiteral) : List TLiteral → Int → Option (Unit ⊕ Bool)
 | [], z8 =>
  some (Sum.inl ())
 | x9 :: xs10, z8 =>
  (s_LiteralOk b0 x9).bind fun v12 =>
  Option.bind
  ((bif (!v12) then
  some true
  else
  (bif (decide (0 < z8)) then
  (idxL b1 (z8 - 1)).bind fun v16 =>
  (s_CompareLiterals v16 x9).bind fun v17 =>
  some (decide (0 ≤ v17))
  else
  some false))) fun e13 =>
  (bif e13 then
  some (Sum.inr false)
  else
  s_ClauseOk_L1 b0 b1 xs10 (z8 + 1))
def s_ClauseOk (b0 : TProject) (b1 : List TLiteral) : Option Bool :=
 sumBind
 (s_ClauseOk_L1 b0 b1 b1 0)
 (fun q20 => some q20) fun p19 =>
 some (decide ((b1.length : Int) ≤ 24))
def s_LineOk (b0 : TProject) (b1 : TLine) : Option Bool :=
 (s_ClauseOk b0 b1.Clause).bind fun v1 =>
 Option.bind
 ((bif v1 then
 (bif (b1.Kind == 1) then
 some true
 else
 (bif (b1.Kind == 2) then
 some (b1.Rule.Kind == 0 && (b1.Rule.A == 0 && (b1.Rule.B == 0 && (b1.Rule.C == 0 && true))))
 else
 some false))
 else
 some false)) fun e2 =>
 some e2
def s_LiteralSign (b0 : Int) : Option ByteArray :=
 (s_l01In b0 1 4).bind fun v1 =>
 (bif (!v1) then
 some ByteArray.empty
 else
 (idxL ([ByteArray.empty, (⟨#[62, 61]⟩ : ByteArray), (⟨#[60, 61]⟩ : ByteArray), (⟨#[61]⟩ : ByteArray), (⟨#[33, 61]⟩ : ByteArray)] : List ByteArray) b0).bind fun v3 =>
 some v3)
def s_FormatInt_L1  : Nat → Int → ByteArray → Option (Int × ByteArray)
 | 0, _, _ => none
 | fuel + 1, a11, a12 =>
  (bif (decide (9 < a11)) then
  (catS (strB ([(IntKind.u8.wrap (W (48 + (a11.tmod 10))))] : List Int)) a12).bind fun v16 =>
  s_FormatInt_L1 fuel (W (a11.tdiv 10)) v16
  else
  some (a11, a12))
def s_FormatInt_S (rec : Int → Option ByteArray) (b0 : Int) : Option ByteArray :=
 (s_l01In b0 (-100000) 100000).bind fun v1 =>
 (bif (!v1) then
 some ByteArray.empty
 else
 (bif (decide (b0 < 0)) then
 (rec (W (0 - b0))).bind fun v4 =>
 (catS (⟨#[45]⟩ : ByteArray) v4).bind fun v5 =>
 some v5
 else
 Option.bind
 (s_FormatInt_L1 F0 b0 ByteArray.empty) fun p17 =>
 (catS (strB ([(IntKind.u8.wrap (W (48 + p17.1)))] : List Int)) p17.2).bind fun v18 =>
 some v18))
def s_FormatInt_R : Nat → Int → Option ByteArray
 | 0 => fun _ => none
 | fuel + 1 => s_FormatInt_S (s_FormatInt_R fuel)
def s_FormatInt (b0 : Int) : Option ByteArray := s_FormatInt_R F0 b0
def s_FormatLiteral (b0 : TProject) (b1 : TLiteral) : Option ByteArray :=
 (s_LiteralOk b0 b1).bind fun v1 =>
 (bif (!v1) then
 some ByteArray.empty
 else
 (idxL b0.Activities b1.Activity).bind fun v3 =>
 (s_LiteralSign b1.Kind).bind fun v4 =>
 (catS v3.Name v4).bind fun v5 =>
 (s_FormatInt b1.Value).bind fun v6 =>
 (catS v5 v6).bind fun v7 =>
 some v7)
def s_Join_L1 (b1 : ByteArray) : List ByteArray → Int → ByteArray → Option ByteArray
 | [], z8, a9 =>
  some a9
 | x10 :: xs11, z8, a9 =>
  (bif (decide (0 < z8)) then
  (catS a9 b1).bind fun v14 =>
  (catS v14 x10).bind fun v15 =>
  s_Join_L1 b1 xs11 (z8 + 1) v15
  else
  (catS a9 x10).bind fun v16 =>
  s_Join_L1 b1 xs11 (z8 + 1) v16)
def s_Join (b0 : List ByteArray) (b1 : ByteArray) : Option ByteArray :=
 Option.bind
 (s_Join_L1 b1 b0 0 ByteArray.empty) fun p17 =>
 some p17
def s_FormatClause_L1 (b0 : TProject) : List TLiteral → Int → (List ByteArray) → Option (List ByteArray)
 | [], z10, a11 =>
  some a11
 | x12 :: xs13, z10, a11 =>
  (s_FormatLiteral b0 x12).bind fun v15 =>
  (appL a11 ([v15] : List ByteArray)).bind fun v16 =>
  s_FormatClause_L1 b0 xs13 (z10 + 1) v16
def s_FormatClause (b0 : TProject) (b1 : List TLiteral) : Option ByteArray :=
 (s_ClauseOk b0 b1).bind fun v1 =>
 (bif (!v1) then
 some ByteArray.empty
 else
 Option.bind
 (s_FormatClause_L1 b0 b1 0 ([] : List ByteArray)) fun p17 =>
 (bif ((p17.length : Int) == 0) then
 some (⟨#[45]⟩ : ByteArray)
 else
 (s_Join p17 (⟨#[32]⟩ : ByteArray)).bind fun v19 =>
 some v19))
def s_IsMachine (b0 : TProject) (b1 : Int) : Option Bool :=
 (s_l01In b1 0 (W ((b0.Resources.length : Int) - 1))).bind fun v1 =>
 Option.bind
 ((bif v1 then
 (idxL b0.Resources b1).bind fun v4 =>
 some (decide (0 < (v4.Setup.length : Int)))
 else
 some false)) fun e2 =>
 some e2
def s_RuleOk (b0 : TProject) (b1 : TRule) : Option Bool :=
 (s_ProjectOk b0).bind fun v1 =>
 (bif (!v1) then
 some false
 else
 (bif (b1.Kind == 1) then
 (s_l01In b1.A 0 (W ((b0.Links.length : Int) - 1))).bind fun v4 =>
 Option.bind
 ((bif v4 then
 (bif (b1.B == 0) then
 some (b1.C == 0)
 else
 some false)
 else
 some false)) fun e5 =>
 some e5
 else
 (bif (b1.Kind == 2) then
 (s_l01In b1.A 0 (W ((b0.Activities.length : Int) - 1))).bind fun v9 =>
 Option.bind
 ((bif v9 then
 (bif (b1.B == 0) then
 some (b1.C == 0)
 else
 some false)
 else
 some false)) fun e10 =>
 some e10
 else
 (bif (b1.Kind == 3) then
 (s_l01In b1.A 0 (W ((b0.Resources.length : Int) - 1))).bind fun v14 =>
 Option.bind
 ((bif v14 then
 (s_l01In b1.B 0 60).bind fun v17 =>
 (bif v17 then
 some (b1.C == 0)
 else
 some false)
 else
 some false)) fun e15 =>
 some e15
 else
 (bif (b1.Kind == 4) then
 (s_l01In b1.A 0 (W ((b0.Resources.length : Int) - 1))).bind fun v20 =>
 Option.bind
 ((bif v20 then
 (s_l01In b1.B 0 60).bind fun v23 =>
 (bif v23 then
 (s_l01In b1.C 0 60).bind fun v25 =>
 (bif v25 then
 some (decide (b1.B < b1.C))
 else
 some false)
 else
 some false)
 else
 some false)) fun e21 =>
 some e21
 else
 (bif (b1.Kind == 5) then
 (s_IsMachine b0 b1.A).bind fun v28 =>
 Option.bind
 ((bif v28 then
 (s_l01In b1.B 0 (W ((b0.Activities.length : Int) - 1))).bind fun v31 =>
 (bif v31 then
 (s_l01In b1.C 0 (W ((b0.Activities.length : Int) - 1))).bind fun v33 =>
 (bif v33 then
 some (decide (b1.B < b1.C))
 else
 some false)
 else
 some false)
 else
 some false)) fun e29 =>
 some e29
 else
 (bif (b1.Kind == 6) then
 (s_l01In b1.A 0 (W ((b0.Stocks.length : Int) - 1))).bind fun v36 =>
 Option.bind
 ((bif v36 then
 (bif (b1.B == 0) then
 some (b1.C == 0)
 else
 some false)
 else
 some false)) fun e37 =>
 some e37
 else
 some false)))))))
def s_RuleName (b0 : Int) : Option ByteArray :=
 (s_l01In b0 0 6).bind fun v1 =>
 (bif (!v1) then
 some ByteArray.empty
 else
 (idxL ([(⟨#[110, 111, 110, 101]⟩ : ByteArray), (⟨#[108, 105, 110, 107]⟩ : ByteArray), (⟨#[101, 110, 100]⟩ : ByteArray), (⟨#[116, 105, 109, 101]⟩ : ByteArray), (⟨#[119, 111, 114, 107]⟩ : ByteArray), (⟨#[112, 97, 105, 114]⟩ : ByteArray), (⟨#[115, 116, 111, 99, 107]⟩ : ByteArray)] : List ByteArray) b0).bind fun v3 =>
 some v3)
def s_FormatRule (b0 : TProject) (b1 : TRule) : Option ByteArray :=
 (s_RuleOk b0 b1).bind fun v1 =>
 (bif (!v1) then
 some ByteArray.empty
 else
 (s_RuleName b1.Kind).bind fun v3 =>
 (s_FormatInt b1.A).bind fun v4 =>
 Option.bind
 ((bif (b1.Kind == 2) then
 (idxL b0.Activities b1.A).bind fun v10 =>
 (idxL ([v3, v4] : List ByteArray) 1).bind fun v11 =>
 some (setL ([v3, v4] : List ByteArray) 1 v10.Name)
 else
 (bif (b1.Kind == 3) then
 (s_FormatInt b1.B).bind fun v13 =>
 (appL ([v3, v4] : List ByteArray) ([v13] : List ByteArray)).bind fun v14 =>
 some v14
 else
 (bif (b1.Kind == 4) then
 (s_FormatInt b1.B).bind fun v16 =>
 (s_FormatInt b1.C).bind fun v17 =>
 (appL ([v3, v4] : List ByteArray) ([v16, v17] : List ByteArray)).bind fun v18 =>
 some v18
 else
 (bif (b1.Kind == 5) then
 (idxL b0.Activities b1.B).bind fun v20 =>
 (idxL b0.Activities b1.C).bind fun v21 =>
 (appL ([v3, v4] : List ByteArray) ([v20.Name, v21.Name] : List ByteArray)).bind fun v22 =>
 some v22
 else
 some ([v3, v4] : List ByteArray)))))) fun p23 =>
 (s_Join p23 (⟨#[32]⟩ : ByteArray)).bind fun v24 =>
 some v24)
def s_l21Swap_L1 (b1 : Int) (b2 : Int) (v1 : List Int) : Nat → Int → (List Int) → Option (List Int)
 | 0, _, _ => none
 | fuel + 1, a8, a9 =>
  (bif (decide (a8 < (v1.length : Int))) then
  (idxL a9 a8).bind fun v13 =>
  (bif (v13 == b1) then
  s_l21Swap_L1 b1 b2 v1 fuel (W (a8 + 1)) (setL a9 a8 b2)
  else
  s_l21Swap_L1 b1 b2 v1 fuel (W (a8 + 1)) a9)
  else
  some a9)
def s_l21Swap (b0 : ByteArray) (b1 : Int) (b2 : Int) : Option ByteArray :=
 (bytesO b0).bind fun v1 =>
 Option.bind
 (s_l21Swap_L1 b1 b2 v1 F0 0 v1) fun p15 =>
 some (strB p15)
def s_FormatLine (b0 : TProject) (b1 : TLine) : Option ByteArray :=
 (s_LineOk b0 b1).bind fun v1 =>
 Option.bind
 ((bif (!v1) then
 some true
 else
 (s_ProjectOk b0).bind fun v4 =>
 some (!v4))) fun e2 =>
 (bif e2 then
 some ByteArray.empty
 else
 (bif (b1.Kind == 2) then
 (s_FormatClause b0 b1.Clause).bind fun v7 =>
 (catS (⟨#[117, 110, 105, 116, 32, 124, 32]⟩ : ByteArray) v7).bind fun v8 =>
 some v8
 else
 (s_FormatRule b0 b1.Rule).bind fun v9 =>
 Option.bind
 ((bif (v9 == ByteArray.empty) then
 (s_RuleName 0).bind fun v15 =>
 some v15
 else
 some v9)) fun p16 =>
 (s_l21Swap p16 32 44).bind fun v17 =>
 (catS (⟨#[114, 117, 108, 101, 32]⟩ : ByteArray) v17).bind fun v18 =>
 (catS v18 (⟨#[32, 124, 32]⟩ : ByteArray)).bind fun v19 =>
 (s_FormatClause b0 b1.Clause).bind fun v20 =>
 (catS v19 v20).bind fun v21 =>
 some v21))
def i_within (b0 : Int) (b1 : Int) (b2 : Int) : Option Bool :=
 Option.bind
 ((bif (decide (b1 ≤ b0)) then
 some (decide (b0 ≤ b2))
 else
 some false)) fun e1 =>
 some e1
def i_isAmount (b0 : Int) : Option Bool :=
 (i_within b0 0 20).bind fun v1 =>
 some v1
def i_areAmounts_L1  : List Int → Int → Option (Unit ⊕ Bool)
 | [], z8 =>
  some (Sum.inl ())
 | x9 :: xs10, z8 =>
  (i_isAmount x9).bind fun v12 =>
  (bif (!v12) then
  some (Sum.inr false)
  else
  i_areAmounts_L1 xs10 (z8 + 1))
def i_areAmounts (b0 : List Int) (b1 : Int) : Option Bool :=
 sumBind
 (i_areAmounts_L1 b0 0)
 (fun q15 => some q15) fun p14 =>
 some ((b0.length : Int) == b1)
def i_ModeOk (b0 : TMode) (b1 : Int) (b2 : Int) : Option Bool :=
 (i_within b0.Duration 1 12).bind fun v1 =>
 Option.bind
 ((bif v1 then
 (i_areAmounts b0.Usage b1).bind fun v4 =>
 (bif v4 then
 (i_areAmounts b0.Consumption b2).bind fun v6 =>
 some v6
 else
 some false)
 else
 some false)) fun e2 =>
 some e2
def i_IsName_L1 (b0 : ByteArray) : Nat → Int → Option (Unit ⊕ Bool)
 | 0, _ => none
 | fuel + 1, a7 =>
  (bif (decide (a7 < (b0.size : Int))) then
  (idxS b0 a7).bind fun v11 =>
  Option.bind
  ((bif (decide (97 ≤ v11)) then
  some (decide (v11 ≤ 122))
  else
  some false)) fun e12 =>
  Option.bind
  ((bif (!e12) then
  (bif (a7 == 0) then
  some true
  else
  (bif (decide (v11 < 48)) then
  some true
  else
  some (decide (57 < v11))))
  else
  some false)) fun e14 =>
  (bif e14 then
  some (Sum.inr false)
  else
  i_IsName_L1 b0 fuel (W (a7 + 1)))
  else
  some (Sum.inl ()))
def i_IsName (b0 : ByteArray) : Option Bool :=
 sumBind
 (i_IsName_L1 b0 F0 0)
 (fun q20 => some q20) fun p19 =>
 (i_within (b0.size : Int) 1 8).bind fun v21 =>
 some v21
def i_ActivityOk_L1 (b1 : Int) (b2 : Int) : List TMode → Int → Option (Unit ⊕ Bool)
 | [], z8 =>
  some (Sum.inl ())
 | x9 :: xs10, z8 =>
  (i_ModeOk x9 b1 b2).bind fun v12 =>
  (bif (!v12) then
  some (Sum.inr false)
  else
  i_ActivityOk_L1 b1 b2 xs10 (z8 + 1))
def i_ActivityOk (b0 : TActivity) (b1 : Int) (b2 : Int) : Option Bool :=
 sumBind
 (i_ActivityOk_L1 b1 b2 b0.Modes 0)
 (fun q15 => some q15) fun p14 =>
 (i_IsName b0.Name).bind fun v16 =>
 Option.bind
 ((bif v16 then
 (i_within b0.Family 0 3).bind fun v19 =>
 (bif v19 then
 (i_within (b0.Modes.length : Int) 1 3).bind fun v21 =>
 some v21
 else
 some false)
 else
 some false)) fun e17 =>
 some e17
def i_ActivityIndex_c1 (b0 : TActivity) (c1 : ByteArray) : Option Bool :=
 some (b0.Name == c1)
def slices_IndexFunc_Activity_L1 (g1 : TActivity → Option Bool) : List TActivity → Int → Option (Unit ⊕ Int)
 | [], z8 =>
  some (Sum.inl ())
 | x9 :: xs10, z8 =>
  (g1 x9).bind fun v12 =>
  (bif v12 then
  some (Sum.inr z8)
  else
  slices_IndexFunc_Activity_L1 g1 xs10 (z8 + 1))
def slices_IndexFunc_Activity (b0 : List TActivity) (g1 : TActivity → Option Bool) : Option Int :=
 sumBind
 (slices_IndexFunc_Activity_L1 g1 b0 0)
 (fun q15 => some q15) fun p14 =>
 some (-1)
def i_ActivityIndex (b0 : TProject) (b1 : ByteArray) : Option Int :=
 (slices_IndexFunc_Activity b0.Activities (fun x0 => i_ActivityIndex_c1 x0 b1)).bind fun v1 =>
 some v1
def i_isTime (b0 : Int) : Option Bool :=
 (i_within b0 0 60).bind fun v1 =>
 some v1
def i_StepsOk_L1 (b0 : List TStep) : List TStep → Int → Option (Unit ⊕ Bool)
 | [], z8 =>
  some (Sum.inl ())
 | x9 :: xs10, z8 =>
  (i_isTime x9.At).bind fun v12 =>
  Option.bind
  ((bif (!v12) then
  some true
  else
  (i_isAmount x9.Capacity).bind fun v15 =>
  (bif (!v15) then
  some true
  else
  (bif (z8 == 0) then
  (bif (x9.At != 0) then
  some true
  else
  (bif (decide (0 < z8)) then
  (idxL b0 (z8 - 1)).bind fun v20 =>
  some (decide (x9.At ≤ v20.At))
  else
  some false))
  else
  (bif (decide (0 < z8)) then
  (idxL b0 (z8 - 1)).bind fun v22 =>
  some (decide (x9.At ≤ v22.At))
  else
  some false))))) fun e13 =>
  (bif e13 then
  some (Sum.inr false)
  else
  i_StepsOk_L1 b0 xs10 (z8 + 1))
def i_StepsOk (b0 : List TStep) : Option Bool :=
 sumBind
 (i_StepsOk_L1 b0 b0 0)
 (fun q25 => some q25) fun p24 =>
 (i_within (b0.length : Int) 1 8).bind fun v26 =>
 some v26
def i_ResourceOk_L2  : List Int → Int → Option (Unit ⊕ Bool)
 | [], z20 =>
  some (Sum.inl ())
 | x21 :: xs22, z20 =>
  (i_within x21 0 12).bind fun v24 =>
  (bif (!v24) then
  some (Sum.inr false)
  else
  i_ResourceOk_L2 xs22 (z20 + 1))
def i_ResourceOk_L1  : List (List Int) → Int → Option (Unit ⊕ Bool)
 | [], z8 =>
  some (Sum.inl ())
 | x9 :: xs10, z8 =>
  (bif ((x9.length : Int) != 4) then
  some (Sum.inr false)
  else
  sumBind
  (i_ResourceOk_L2 x9 0)
  (fun q27 => some (Sum.inr q27)) fun p26 =>
  i_ResourceOk_L1 xs10 (z8 + 1))
def i_ResourceOk (b0 : TResource) : Option Bool :=
 sumBind
 (i_ResourceOk_L1 b0.Setup 0)
 (fun q29 => some q29) fun p28 =>
 (i_StepsOk b0.Steps).bind fun v30 =>
 Option.bind
 ((bif v30 then
 (bif ((b0.Setup.length : Int) == 0) then
 some true
 else
 some ((b0.Setup.length : Int) == 4))
 else
 some false)) fun e31 =>
 some e31
def i_Project_hasActivity (b0 : TProject) (b1 : Int) : Option Bool :=
 (i_within b1 0 (W ((b0.Activities.length : Int) - 1))).bind fun v1 =>
 some v1
def i_Project_linkOk (b0 : TProject) (b1 : TLink) : Option Bool :=
 (i_Project_hasActivity b0 b1.From).bind fun v1 =>
 Option.bind
 ((bif v1 then
 (i_Project_hasActivity b0 b1.To).bind fun v4 =>
 (bif v4 then
 (bif (b1.From != b1.To) then
 (i_within b1.Lag (-60) 60).bind fun v7 =>
 some v7
 else
 some false)
 else
 some false)
 else
 some false)) fun e2 =>
 some e2
def i_ProjectOk_c1 (b0 : TLink) (c1 : TProject) : Option Bool :=
 (i_Project_linkOk c1 b0).bind fun v1 =>
 some (!v1)
def slices_IndexFunc_Link_L1 (g1 : TLink → Option Bool) : List TLink → Int → Option (Unit ⊕ Int)
 | [], z8 =>
  some (Sum.inl ())
 | x9 :: xs10, z8 =>
  (g1 x9).bind fun v12 =>
  (bif v12 then
  some (Sum.inr z8)
  else
  slices_IndexFunc_Link_L1 g1 xs10 (z8 + 1))
def slices_IndexFunc_Link (b0 : List TLink) (g1 : TLink → Option Bool) : Option Int :=
 sumBind
 (slices_IndexFunc_Link_L1 g1 b0 0)
 (fun q15 => some q15) fun p14 =>
 some (-1)
def slices_ContainsFunc_Link (b0 : List TLink) (g1 : TLink → Option Bool) : Option Bool :=
 (slices_IndexFunc_Link b0 g1).bind fun v1 =>
 some (decide (0 ≤ v1))
def i_ProjectOk_L1 (b0 : TProject) : List TActivity → Int → Option (Unit ⊕ Bool)
 | [], z16 =>
  some (Sum.inl ())
 | x17 :: xs18, z16 =>
  (i_ActivityOk x17 (b0.Resources.length : Int) (b0.Stocks.length : Int)).bind fun v20 =>
  Option.bind
  ((bif (!v20) then
  some true
  else
  (i_ActivityIndex b0 x17.Name).bind fun v23 =>
  some (v23 != z16))) fun e21 =>
  (bif e21 then
  some (Sum.inr false)
  else
  i_ProjectOk_L1 b0 xs18 (z16 + 1))
def i_ProjectOk_L2  : List TResource → Int → Option (Unit ⊕ Bool)
 | [], z34 =>
  some (Sum.inl ())
 | x35 :: xs36, z34 =>
  (i_ResourceOk x35).bind fun v38 =>
  (bif (!v38) then
  some (Sum.inr false)
  else
  i_ProjectOk_L2 xs36 (z34 + 1))
def i_ProjectOk_L3  : List Int → Int → Option (Unit ⊕ Bool)
 | [], z49 =>
  some (Sum.inl ())
 | x50 :: xs51, z49 =>
  (i_within x50 0 100).bind fun v53 =>
  (bif (!v53) then
  some (Sum.inr false)
  else
  i_ProjectOk_L3 xs51 (z49 + 1))
def i_ProjectOk (b0 : TProject) : Option Bool :=
 (i_within b0.Deadline 1 60).bind fun v1 =>
 Option.bind
 ((bif (!v1) then
 some true
 else
 (i_within (b0.Activities.length : Int) 1 6).bind fun v4 =>
 (bif (!v4) then
 some true
 else
 (bif (decide (3 < (b0.Resources.length : Int))) then
 some true
 else
 (bif (decide (2 < (b0.Stocks.length : Int))) then
 some true
 else
 some (decide (12 < (b0.Links.length : Int)))))))) fun e2 =>
 (bif e2 then
 some false
 else
 sumBind
 (i_ProjectOk_L1 b0 b0.Activities 0)
 (fun q26 => some q26) fun p25 =>
 sumBind
 (i_ProjectOk_L2 b0.Resources 0)
 (fun q41 => some q41) fun p40 =>
 sumBind
 (i_ProjectOk_L3 b0.Stocks 0)
 (fun q56 => some q56) fun p55 =>
 (slices_ContainsFunc_Link b0.Links (fun x0 => i_ProjectOk_c1 x0 b0)).bind fun v57 =>
 some (!v57))
def i_LiteralOk (b0 : TProject) (b1 : TLiteral) : Option Bool :=
 (i_ProjectOk b0).bind fun v1 =>
 Option.bind
 ((bif (!v1) then
 some true
 else
 (i_Project_hasActivity b0 b1.Activity).bind fun v4 =>
 some (!v4))) fun e2 =>
 (bif e2 then
 some false
 else
 Option.bind
 ((bif (b1.Kind == 1) then
 some (b1.Kind == 1)
 else
 some (b1.Kind == 2))) fun p11 =>
 (bif p11 then
 (i_within b1.Value (-1) 61).bind fun v13 =>
 some v13
 else
 Option.bind
 ((bif (b1.Kind == 3) then
 some (b1.Kind == 3)
 else
 some (b1.Kind == 4))) fun p19 =>
 (bif p19 then
 (idxL b0.Activities b1.Activity).bind fun v21 =>
 (i_within b1.Value 0 (W ((v21.Modes.length : Int) - 1))).bind fun v22 =>
 some v22
 else
 some false)))
def cmp_isNaN_int (b0 : Int) : Option Bool :=
 some (b0 != b0)
def cmp_Compare_int (b0 : Int) (b1 : Int) : Option Int :=
 (cmp_isNaN_int b0).bind fun v1 =>
 (cmp_isNaN_int b1).bind fun v2 =>
 (bif v1 then
 (bif v2 then
 some 0
 else
 some (-1))
 else
 (bif v2 then
 some 1
 else
 (bif (decide (b0 < b1)) then
 some (-1)
 else
 (bif (decide (b1 < b0)) then
 some 1
 else
 some 0))))
def cmp_Or_int_L1  : List Int → Int → Option (Unit ⊕ Int)
 | [], z8 =>
  some (Sum.inl ())
 | x9 :: xs10, z8 =>
  (bif (x9 != 0) then
  some (Sum.inr x9)
  else
  cmp_Or_int_L1 xs10 (z8 + 1))
def cmp_Or_int (b0 : List Int) : Option Int :=
 sumBind
 (cmp_Or_int_L1 b0 0)
 (fun q14 => some q14) fun p13 =>
 some 0
def i_CompareLiterals (b0 : TLiteral) (b1 : TLiteral) : Option Int :=
 (cmp_Compare_int b0.Activity b1.Activity).bind fun v1 =>
 (cmp_Compare_int b0.Kind b1.Kind).bind fun v2 =>
 (cmp_Compare_int b0.Value b1.Value).bind fun v3 =>
 (cmp_Or_int ([v1, v2, v3] : List Int)).bind fun v4 =>
 some v4
def i_ClauseOk_L1 (b0 : TProject) (b1 : List TLiteral) : List TLiteral → Int → Option (Unit ⊕ Bool)
 | [], z8 =>
  some (Sum.inl ())
 | x9 :: xs10, z8 =>
  (i_LiteralOk b0 x9).bind fun v12 =>
  Option.bind
  ((bif (!v12) then
  some true
  else
  (bif (decide (0 < z8)) then
  (idxL b1 (z8 - 1)).bind fun v16 =>
  (i_CompareLiterals v16 x9).bind fun v17 =>
  some (decide (0 ≤ v17))
  else
  some false))) fun e13 =>
  (bif e13 then
  some (Sum.inr false)
  else
  i_ClauseOk_L1 b0 b1 xs10 (z8 + 1))
def i_ClauseOk (b0 : TProject) (b1 : List TLiteral) : Option Bool :=
 sumBind
 (i_ClauseOk_L1 b0 b1 b1 0)
 (fun q20 => some q20) fun p19 =>
 some (decide ((b1.length : Int) ≤ 24))
def i_LineOk (b0 : TProject) (b1 : TLine) : Option Bool :=
 (i_ClauseOk b0 b1.Clause).bind fun v1 =>
 Option.bind
 ((bif v1 then
 (bif (b1.Kind == 1) then
 some true
 else
 (bif (b1.Kind == 2) then
 some (b1.Rule.Kind == 0 && (b1.Rule.A == 0 && (b1.Rule.B == 0 && (b1.Rule.C == 0 && true))))
 else
 some false))
 else
 some false)) fun e2 =>
 some e2
def i_LiteralSign (b0 : Int) : Option ByteArray :=
 (bif (b0 == 1) then
 some (⟨#[62, 61]⟩ : ByteArray)
 else
 (bif (b0 == 2) then
 some (⟨#[60, 61]⟩ : ByteArray)
 else
 (bif (b0 == 3) then
 some (⟨#[61]⟩ : ByteArray)
 else
 (bif (b0 == 4) then
 some (⟨#[33, 61]⟩ : ByteArray)
 else
 some ByteArray.empty))))
def strconv_Itoa (b0 : Int) : Option ByteArray := itoaL b0
def i_FormatInt (b0 : Int) : Option ByteArray :=
 (i_within b0 (-100000) 100000).bind fun v1 =>
 (bif (!v1) then
 some ByteArray.empty
 else
 (strconv_Itoa b0).bind fun v3 =>
 some v3)
def i_FormatLiteral (b0 : TProject) (b1 : TLiteral) : Option ByteArray :=
 (i_LiteralOk b0 b1).bind fun v1 =>
 (bif (!v1) then
 some ByteArray.empty
 else
 (idxL b0.Activities b1.Activity).bind fun v3 =>
 (i_LiteralSign b1.Kind).bind fun v4 =>
 (catS v3.Name v4).bind fun v5 =>
 (i_FormatInt b1.Value).bind fun v6 =>
 (catS v5 v6).bind fun v7 =>
 some v7)
def strings_Join (b0 : List ByteArray) (b1 : ByteArray) : Option ByteArray := joinL b0 b1
def i_FormatClause_L1 (b0 : TProject) : List TLiteral → Int → (List ByteArray) → Option (List ByteArray)
 | [], z11, a12 =>
  some a12
 | x13 :: xs14, z11, a12 =>
  (i_FormatLiteral b0 x13).bind fun v16 =>
  (appL a12 ([v16] : List ByteArray)).bind fun v17 =>
  i_FormatClause_L1 b0 xs14 (z11 + 1) v17
def i_FormatClause (b0 : TProject) (b1 : List TLiteral) : Option ByteArray :=
 (i_ClauseOk b0 b1).bind fun v1 =>
 (bif (!v1) then
 some ByteArray.empty
 else
 (bif ((b1.length : Int) == 0) then
 some (⟨#[45]⟩ : ByteArray)
 else
 Option.bind
 (i_FormatClause_L1 b0 b1 0 ([] : List ByteArray)) fun p18 =>
 (strings_Join p18 (⟨#[32]⟩ : ByteArray)).bind fun v19 =>
 some v19))
def i_Project_hasResource (b0 : TProject) (b1 : Int) : Option Bool :=
 (i_within b1 0 (W ((b0.Resources.length : Int) - 1))).bind fun v1 =>
 some v1
def i_IsMachine (b0 : TProject) (b1 : Int) : Option Bool :=
 (i_Project_hasResource b0 b1).bind fun v1 =>
 Option.bind
 ((bif v1 then
 (idxL b0.Resources b1).bind fun v4 =>
 some (decide (0 < (v4.Setup.length : Int)))
 else
 some false)) fun e2 =>
 some e2
def i_Project_hasStock (b0 : TProject) (b1 : Int) : Option Bool :=
 (i_within b1 0 (W ((b0.Stocks.length : Int) - 1))).bind fun v1 =>
 some v1
def i_RuleOk (b0 : TProject) (b1 : TRule) : Option Bool :=
 (i_ProjectOk b0).bind fun v1 =>
 (bif (!v1) then
 some false
 else
 (bif (b1.Kind == 1) then
 (i_within b1.A 0 (W ((b0.Links.length : Int) - 1))).bind fun v4 =>
 Option.bind
 ((bif v4 then
 (bif (b1.B == 0) then
 some (b1.C == 0)
 else
 some false)
 else
 some false)) fun e5 =>
 some e5
 else
 (bif (b1.Kind == 2) then
 (i_Project_hasActivity b0 b1.A).bind fun v9 =>
 Option.bind
 ((bif v9 then
 (bif (b1.B == 0) then
 some (b1.C == 0)
 else
 some false)
 else
 some false)) fun e10 =>
 some e10
 else
 (bif (b1.Kind == 3) then
 (i_Project_hasResource b0 b1.A).bind fun v14 =>
 Option.bind
 ((bif v14 then
 (i_isTime b1.B).bind fun v17 =>
 (bif v17 then
 some (b1.C == 0)
 else
 some false)
 else
 some false)) fun e15 =>
 some e15
 else
 (bif (b1.Kind == 4) then
 (i_Project_hasResource b0 b1.A).bind fun v20 =>
 Option.bind
 ((bif v20 then
 (i_isTime b1.B).bind fun v23 =>
 (bif v23 then
 (i_isTime b1.C).bind fun v25 =>
 (bif v25 then
 some (decide (b1.B < b1.C))
 else
 some false)
 else
 some false)
 else
 some false)) fun e21 =>
 some e21
 else
 (bif (b1.Kind == 5) then
 (i_IsMachine b0 b1.A).bind fun v28 =>
 Option.bind
 ((bif v28 then
 (i_Project_hasActivity b0 b1.B).bind fun v31 =>
 (bif v31 then
 (i_Project_hasActivity b0 b1.C).bind fun v33 =>
 (bif v33 then
 some (decide (b1.B < b1.C))
 else
 some false)
 else
 some false)
 else
 some false)) fun e29 =>
 some e29
 else
 (bif (b1.Kind == 6) then
 (i_Project_hasStock b0 b1.A).bind fun v36 =>
 Option.bind
 ((bif v36 then
 (bif (b1.B == 0) then
 some (b1.C == 0)
 else
 some false)
 else
 some false)) fun e37 =>
 some e37
 else
 some false)))))))
def i_RuleName (b0 : Int) : Option ByteArray :=
 (i_within b0 0 6).bind fun v1 =>
 (bif (!v1) then
 some ByteArray.empty
 else
 (idxL ([(⟨#[110, 111, 110, 101]⟩ : ByteArray), (⟨#[108, 105, 110, 107]⟩ : ByteArray), (⟨#[101, 110, 100]⟩ : ByteArray), (⟨#[116, 105, 109, 101]⟩ : ByteArray), (⟨#[119, 111, 114, 107]⟩ : ByteArray), (⟨#[112, 97, 105, 114]⟩ : ByteArray), (⟨#[115, 116, 111, 99, 107]⟩ : ByteArray)] : List ByteArray) b0).bind fun v3 =>
 some v3)
def i_FormatRule (b0 : TProject) (b1 : TRule) : Option ByteArray :=
 (i_RuleOk b0 b1).bind fun v1 =>
 (bif (!v1) then
 some ByteArray.empty
 else
 (i_RuleName b1.Kind).bind fun v3 =>
 (i_FormatInt b1.A).bind fun v4 =>
 Option.bind
 ((bif (b1.Kind == 2) then
 (idxL b0.Activities b1.A).bind fun v10 =>
 (idxL ([v3, v4] : List ByteArray) 1).bind fun v11 =>
 some (setL ([v3, v4] : List ByteArray) 1 v10.Name)
 else
 (bif (b1.Kind == 3) then
 (i_FormatInt b1.B).bind fun v13 =>
 (appL ([v3, v4] : List ByteArray) ([v13] : List ByteArray)).bind fun v14 =>
 some v14
 else
 (bif (b1.Kind == 4) then
 (i_FormatInt b1.B).bind fun v16 =>
 (i_FormatInt b1.C).bind fun v17 =>
 (appL ([v3, v4] : List ByteArray) ([v16, v17] : List ByteArray)).bind fun v18 =>
 some v18
 else
 (bif (b1.Kind == 5) then
 (idxL b0.Activities b1.B).bind fun v20 =>
 (idxL b0.Activities b1.C).bind fun v21 =>
 (appL ([v3, v4] : List ByteArray) ([v20.Name, v21.Name] : List ByteArray)).bind fun v22 =>
 some v22
 else
 some ([v3, v4] : List ByteArray)))))) fun p23 =>
 (strings_Join p23 (⟨#[32]⟩ : ByteArray)).bind fun v24 =>
 some v24)
def strings_ReplaceAll (b0 : ByteArray) (b1 : ByteArray) (b2 : ByteArray) : Option ByteArray := replL b0 b1 b2
def i_FormatLine (b0 : TProject) (b1 : TLine) : Option ByteArray :=
 (i_ProjectOk b0).bind fun v1 =>
 Option.bind
 ((bif (!v1) then
 some true
 else
 (i_LineOk b0 b1).bind fun v4 =>
 some (!v4))) fun e2 =>
 (bif e2 then
 some ByteArray.empty
 else
 (bif (b1.Kind == 2) then
 (i_FormatClause b0 b1.Clause).bind fun v7 =>
 (catS (⟨#[117, 110, 105, 116, 32, 124, 32]⟩ : ByteArray) v7).bind fun v8 =>
 some v8
 else
 (i_RuleOk b0 b1.Rule).bind fun v9 =>
 Option.bind
 ((bif v9 then
 (i_FormatRule b0 b1.Rule).bind fun v15 =>
 (strings_ReplaceAll v15 (⟨#[32]⟩ : ByteArray) (⟨#[44]⟩ : ByteArray)).bind fun v16 =>
 some v16
 else
 some (⟨#[110, 111, 110, 101]⟩ : ByteArray))) fun p17 =>
 (catS (⟨#[114, 117, 108, 101, 32]⟩ : ByteArray) p17).bind fun v18 =>
 (catS v18 (⟨#[32, 124, 32]⟩ : ByteArray)).bind fun v19 =>
 (i_FormatClause b0 b1.Clause).bind fun v20 =>
 (catS v19 v20).bind fun v21 =>
 some v21))
def w_eqIntS_L1 (b1 : List Int) : List Int → Int → Option (Unit ⊕ Bool)
 | [], z9 =>
  some (Sum.inl ())
 | x10 :: xs11, z9 =>
  (idxL b1 z9).bind fun v13 =>
  (bif (x10 != v13) then
  some (Sum.inr false)
  else
  w_eqIntS_L1 b1 xs11 (z9 + 1))
def w_eqIntS (b0 : List Int) (b1 : List Int) : Option Bool :=
 (bif ((b0.length : Int) != (b1.length : Int)) then
 some false
 else
 sumBind
 (w_eqIntS_L1 b1 b0 0)
 (fun q16 => some q16) fun p15 =>
 some true)
def w_eqMode (b0 : TMode) (b1 : TMode) : Option Bool :=
 (bif (b0.Duration != b1.Duration) then
 some false
 else
 (w_eqIntS b0.Usage b1.Usage).bind fun v2 =>
 (bif (!v2) then
 some false
 else
 (w_eqIntS b0.Consumption b1.Consumption).bind fun v4 =>
 (bif (!v4) then
 some false
 else
 some true)))
def w_eqModeS_L1 (b1 : List TMode) : List TMode → Int → Option (Unit ⊕ Bool)
 | [], z9 =>
  some (Sum.inl ())
 | x10 :: xs11, z9 =>
  (idxL b1 z9).bind fun v13 =>
  (w_eqMode x10 v13).bind fun v14 =>
  (bif (!v14) then
  some (Sum.inr false)
  else
  w_eqModeS_L1 b1 xs11 (z9 + 1))
def w_eqModeS (b0 : List TMode) (b1 : List TMode) : Option Bool :=
 (bif ((b0.length : Int) != (b1.length : Int)) then
 some false
 else
 sumBind
 (w_eqModeS_L1 b1 b0 0)
 (fun q17 => some q17) fun p16 =>
 some true)
def w_eqActivity (b0 : TActivity) (b1 : TActivity) : Option Bool :=
 (bif (b0.Name != b1.Name) then
 some false
 else
 (bif (b0.Family != b1.Family) then
 some false
 else
 (w_eqModeS b0.Modes b1.Modes).bind fun v3 =>
 (bif (!v3) then
 some false
 else
 some true)))
def w_eqActivityS_L1 (b1 : List TActivity) : List TActivity → Int → Option (Unit ⊕ Bool)
 | [], z9 =>
  some (Sum.inl ())
 | x10 :: xs11, z9 =>
  (idxL b1 z9).bind fun v13 =>
  (w_eqActivity x10 v13).bind fun v14 =>
  (bif (!v14) then
  some (Sum.inr false)
  else
  w_eqActivityS_L1 b1 xs11 (z9 + 1))
def w_eqActivityS (b0 : List TActivity) (b1 : List TActivity) : Option Bool :=
 (bif ((b0.length : Int) != (b1.length : Int)) then
 some false
 else
 sumBind
 (w_eqActivityS_L1 b1 b0 0)
 (fun q17 => some q17) fun p16 =>
 some true)
def w_eqLink (b0 : TLink) (b1 : TLink) : Option Bool :=
 (bif (b0.From != b1.From) then
 some false
 else
 (bif (b0.To != b1.To) then
 some false
 else
 (bif (b0.FromEnd != b1.FromEnd) then
 some false
 else
 (bif (b0.Lag != b1.Lag) then
 some false
 else
 some true))))
def w_eqLinkS_L1 (b1 : List TLink) : List TLink → Int → Option (Unit ⊕ Bool)
 | [], z9 =>
  some (Sum.inl ())
 | x10 :: xs11, z9 =>
  (idxL b1 z9).bind fun v13 =>
  (w_eqLink x10 v13).bind fun v14 =>
  (bif (!v14) then
  some (Sum.inr false)
  else
  w_eqLinkS_L1 b1 xs11 (z9 + 1))
def w_eqLinkS (b0 : List TLink) (b1 : List TLink) : Option Bool :=
 (bif ((b0.length : Int) != (b1.length : Int)) then
 some false
 else
 sumBind
 (w_eqLinkS_L1 b1 b0 0)
 (fun q17 => some q17) fun p16 =>
 some true)
def w_eqStep (b0 : TStep) (b1 : TStep) : Option Bool :=
 (bif (b0.At != b1.At) then
 some false
 else
 (bif (b0.Capacity != b1.Capacity) then
 some false
 else
 some true))
def w_eqStepS_L1 (b1 : List TStep) : List TStep → Int → Option (Unit ⊕ Bool)
 | [], z9 =>
  some (Sum.inl ())
 | x10 :: xs11, z9 =>
  (idxL b1 z9).bind fun v13 =>
  (w_eqStep x10 v13).bind fun v14 =>
  (bif (!v14) then
  some (Sum.inr false)
  else
  w_eqStepS_L1 b1 xs11 (z9 + 1))
def w_eqStepS (b0 : List TStep) (b1 : List TStep) : Option Bool :=
 (bif ((b0.length : Int) != (b1.length : Int)) then
 some false
 else
 sumBind
 (w_eqStepS_L1 b1 b0 0)
 (fun q17 => some q17) fun p16 =>
 some true)
def w_eqIntSS_L1 (b1 : List (List Int)) : List (List Int) → Int → Option (Unit ⊕ Bool)
 | [], z9 =>
  some (Sum.inl ())
 | x10 :: xs11, z9 =>
  (idxL b1 z9).bind fun v13 =>
  (w_eqIntS x10 v13).bind fun v14 =>
  (bif (!v14) then
  some (Sum.inr false)
  else
  w_eqIntSS_L1 b1 xs11 (z9 + 1))
def w_eqIntSS (b0 : List (List Int)) (b1 : List (List Int)) : Option Bool :=
 (bif ((b0.length : Int) != (b1.length : Int)) then
 some false
 else
 sumBind
 (w_eqIntSS_L1 b1 b0 0)
 (fun q17 => some q17) fun p16 =>
 some true)
def w_eqResource (b0 : TResource) (b1 : TResource) : Option Bool :=
 (w_eqStepS b0.Steps b1.Steps).bind fun v1 =>
 (bif (!v1) then
 some false
 else
 (w_eqIntSS b0.Setup b1.Setup).bind fun v3 =>
 (bif (!v3) then
 some false
 else
 some true))
def w_eqResourceS_L1 (b1 : List TResource) : List TResource → Int → Option (Unit ⊕ Bool)
 | [], z9 =>
  some (Sum.inl ())
 | x10 :: xs11, z9 =>
  (idxL b1 z9).bind fun v13 =>
  (w_eqResource x10 v13).bind fun v14 =>
  (bif (!v14) then
  some (Sum.inr false)
  else
  w_eqResourceS_L1 b1 xs11 (z9 + 1))
def w_eqResourceS (b0 : List TResource) (b1 : List TResource) : Option Bool :=
 (bif ((b0.length : Int) != (b1.length : Int)) then
 some false
 else
 sumBind
 (w_eqResourceS_L1 b1 b0 0)
 (fun q17 => some q17) fun p16 =>
 some true)
def w_eqProject (b0 : TProject) (b1 : TProject) : Option Bool :=
 (bif (b0.Deadline != b1.Deadline) then
 some false
 else
 (w_eqActivityS b0.Activities b1.Activities).bind fun v2 =>
 (bif (!v2) then
 some false
 else
 (w_eqLinkS b0.Links b1.Links).bind fun v4 =>
 (bif (!v4) then
 some false
 else
 (w_eqResourceS b0.Resources b1.Resources).bind fun v6 =>
 (bif (!v6) then
 some false
 else
 (w_eqIntS b0.Stocks b1.Stocks).bind fun v8 =>
 (bif (!v8) then
 some false
 else
 some true)))))
def w_eqRule (b0 : TRule) (b1 : TRule) : Option Bool :=
 (bif (b0.Kind != b1.Kind) then
 some false
 else
 (bif (b0.A != b1.A) then
 some false
 else
 (bif (b0.B != b1.B) then
 some false
 else
 (bif (b0.C != b1.C) then
 some false
 else
 some true))))
def w_eqLiteral (b0 : TLiteral) (b1 : TLiteral) : Option Bool :=
 (bif (b0.Kind != b1.Kind) then
 some false
 else
 (bif (b0.Activity != b1.Activity) then
 some false
 else
 (bif (b0.Value != b1.Value) then
 some false
 else
 some true)))
def w_eqLiteralS_L1 (b1 : List TLiteral) : List TLiteral → Int → Option (Unit ⊕ Bool)
 | [], z9 =>
  some (Sum.inl ())
 | x10 :: xs11, z9 =>
  (idxL b1 z9).bind fun v13 =>
  (w_eqLiteral x10 v13).bind fun v14 =>
  (bif (!v14) then
  some (Sum.inr false)
  else
  w_eqLiteralS_L1 b1 xs11 (z9 + 1))
def w_eqLiteralS (b0 : List TLiteral) (b1 : List TLiteral) : Option Bool :=
 (bif ((b0.length : Int) != (b1.length : Int)) then
 some false
 else
 sumBind
 (w_eqLiteralS_L1 b1 b0 0)
 (fun q17 => some q17) fun p16 =>
 some true)
def w_eqLine (b0 : TLine) (b1 : TLine) : Option Bool :=
 (bif (b0.Kind != b1.Kind) then
 some false
 else
 (w_eqRule b0.Rule b1.Rule).bind fun v2 =>
 (bif (!v2) then
 some false
 else
 (w_eqLiteralS b0.Clause b1.Clause).bind fun v4 =>
 (bif (!v4) then
 some false
 else
 some true)))
def w_FnExactFormatLine (b0 : TProject) (b1 : TLine) : Option Bool :=
 (w_szProject b0 1048576).bind fun v1 =>
 (bif (decide (v1 < 0)) then
 some true
 else
 (w_szLine b1 v1).bind fun v3 =>
 (bif (decide (v3 < 0)) then
 some true
 else
 (w_toProject b0).bind fun v5 =>
 (w_toLine b1).bind fun v6 =>
 (s_FormatLine v5 v6).bind fun v7 =>
 (w_toProject b0).bind fun v8 =>
 (w_toLine b1).bind fun v9 =>
 (i_FormatLine v8 v9).bind fun v10 =>
 (bif (v10 != v7) then
 some false
 else
 (w_toProject b0).bind fun v12 =>
 (w_eqProject v8 v12).bind fun v13 =>
 (bif (!v13) then
 some false
 else
 (w_toLine b1).bind fun v15 =>
 (w_eqLine v9 v15).bind fun v16 =>
 (bif (!v16) then
 some false
 else
 some true)))))
def w_szLineS_L1  : List TLine → Int → Int → Option (Int ⊕ Int)
 | [], z9, a10 =>
  some (Sum.inl a10)
 | x11 :: xs12, z9, a10 =>
  (w_szLine x11 a10).bind fun v14 =>
  (bif (decide (v14 < 0)) then
  some (Sum.inr (-1))
  else
  w_szLineS_L1 xs12 (z9 + 1) v14)
def w_szLineS (b0 : List TLine) (b1 : Int) : Option Int :=
 (bif (decide ((W (b1 - (b0.length : Int))) < 0)) then
 some (-1)
 else
 sumBind
 (w_szLineS_L1 b0 0 (W (b1 - (b0.length : Int))))
 (fun q17 => some q17) fun p16 =>
 some p16)
def w_toLineS_L1  : List TLine → Int → (List TLine) → Option (List TLine)
 | [], z9, a10 =>
  some a10
 | x11 :: xs12, z9, a10 =>
  (w_toLine x11).bind fun v14 =>
  (idxL a10 z9).bind fun v15 =>
  w_toLineS_L1 xs12 (z9 + 1) (setL a10 z9 v14)
def w_toLineS (b0 : List TLine) : Option (List TLine) :=
 (makeL (TLine.mk 0 (TRule.mk 0 0 0 0) []) (b0.length : Int)).bind fun v1 =>
 Option.bind
 (w_toLineS_L1 b0 0 v1) fun p16 =>
 some p16
def s_FormatProof_L1 (b0 : TProject) : List TLine → Int → ByteArray → Option (ByteArray ⊕ ByteArray)
 | [], z8, a9 =>
  some (Sum.inl a9)
 | x10 :: xs11, z8, a9 =>
  (s_FormatLine b0 x10).bind fun v13 =>
  (bif (v13 == ByteArray.empty) then
  some (Sum.inr ByteArray.empty)
  else
  (catS a9 v13).bind fun v15 =>
  (catS v15 (⟨#[10]⟩ : ByteArray)).bind fun v16 =>
  s_FormatProof_L1 b0 xs11 (z8 + 1) v16)
def s_FormatProof (b0 : TProject) (b1 : List TLine) : Option ByteArray :=
 sumBind
 (s_FormatProof_L1 b0 b1 0 ByteArray.empty)
 (fun q18 => some q18) fun p17 =>
 some p17
def i_FormatProof_L1 (b0 : TProject) : List TLine → Int → ByteArray → Option (ByteArray ⊕ ByteArray)
 | [], z8, a9 =>
  some (Sum.inl a9)
 | x10 :: xs11, z8, a9 =>
  (i_FormatLine b0 x10).bind fun v13 =>
  (bif (v13 == ByteArray.empty) then
  some (Sum.inr ByteArray.empty)
  else
  (catS v13 (⟨#[10]⟩ : ByteArray)).bind fun v15 =>
  (catS a9 v15).bind fun v16 =>
  i_FormatProof_L1 b0 xs11 (z8 + 1) v16)
def i_FormatProof (b0 : TProject) (b1 : List TLine) : Option ByteArray :=
 sumBind
 (i_FormatProof_L1 b0 b1 0 ByteArray.empty)
 (fun q18 => some q18) fun p17 =>
 some p17
def w_eqLineS_L1 (b1 : List TLine) : List TLine → Int → Option (Unit ⊕ Bool)
 | [], z9 =>
  some (Sum.inl ())
 | x10 :: xs11, z9 =>
  (idxL b1 z9).bind fun v13 =>
  (w_eqLine x10 v13).bind fun v14 =>
  (bif (!v14) then
  some (Sum.inr false)
  else
  w_eqLineS_L1 b1 xs11 (z9 + 1))
def w_eqLineS (b0 : List TLine) (b1 : List TLine) : Option Bool :=
 (bif ((b0.length : Int) != (b1.length : Int)) then
 some false
 else
 sumBind
 (w_eqLineS_L1 b1 b0 0)
 (fun q17 => some q17) fun p16 =>
 some true)
def w_FnExactFormatProof (b0 : TProject) (b1 : List TLine) : Option Bool :=
 (w_szProject b0 1048576).bind fun v1 =>
 (bif (decide (v1 < 0)) then
 some true
 else
 (w_szLineS b1 v1).bind fun v3 =>
 (bif (decide (v3 < 0)) then
 some true
 else
 (w_toProject b0).bind fun v5 =>
 (w_toLineS b1).bind fun v6 =>
 (s_FormatProof v5 v6).bind fun v7 =>
 (w_toProject b0).bind fun v8 =>
 (w_toLineS b1).bind fun v9 =>
 (i_FormatProof v8 v9).bind fun v10 =>
 (bif (v10 != v7) then
 some false
 else
 (w_toProject b0).bind fun v12 =>
 (w_eqProject v8 v12).bind fun v13 =>
 (bif (!v13) then
 some false
 else
 (w_toLineS b1).bind fun v15 =>
 (w_eqLineS v9 v15).bind fun v16 =>
 (bif (!v16) then
 some false
 else
 some true)))))
def inR (n lo hi : Int) : Bool := decide (lo ≤ n) && decide (n ≤ hi)
def sC (b : List TStep) (x : TStep) (z : Int) : Option Bool :=
 (s_l01In x.At 0 60).bind fun v12 => (bif (!v12) then some true else (s_l01In x.Capacity 0 20).bind fun v15 => (bif (!v15) then some true else (bif (decide (0 < z)) then (idxL b (z - 1)).bind fun v18 => some (decide (x.At ≤ v18.At)) else some false)))
def ResF (r : TResource) : Prop := (∀ x ∈ r.Steps, (0 ≤ x.At ∧ x.At ≤ 60) ∧ 0 ≤ x.Capacity ∧ x.Capacity ≤ 20) ∧ s_StepsOk r.Steps = some true ∧ (r.Setup.length = 0 ∨ r.Setup.length = 4) ∧ ∀ row ∈ r.Setup, row.length = 4 ∧ ∀ n ∈ row, 0 ≤ n ∧ n ≤ 12
def ModeF (m : TMode) (a b : Int) : Prop := (1 ≤ m.Duration ∧ m.Duration ≤ 12) ∧ ((m.Usage.length : Int) = a ∧ ∀ n ∈ m.Usage, 0 ≤ n ∧ n ≤ 20) ∧ ((m.Consumption.length : Int) = b ∧ ∀ n ∈ m.Consumption, 0 ≤ n ∧ n ≤ 20)
def ActF (x : TActivity) (a b : Int) : Prop := (0 ≤ x.Family ∧ x.Family ≤ 3) ∧ (1 ≤ x.Modes.length ∧ x.Modes.length ≤ 3) ∧ ∀ m ∈ x.Modes, ModeF m a b
structure ProjF (p : TProject) : Prop where
 deadline : 1 ≤ p.Deadline ∧ p.Deadline ≤ 60
 nact : 1 ≤ p.Activities.length ∧ p.Activities.length ≤ 6
 nres : p.Resources.length ≤ 3
 nstk : p.Stocks.length ≤ 2
 nlnk : p.Links.length ≤ 12
 acts : ∀ x ∈ p.Activities, ActF x p.Resources.length p.Stocks.length
 ress : ∀ r ∈ p.Resources, ResF r
 stks : ∀ n ∈ p.Stocks, 0 ≤ n ∧ n ≤ 100
 lnks : ∀ k ∈ p.Links, (0 ≤ k.From ∧ k.From < p.Activities.length) ∧ (0 ≤ k.To ∧ k.To < p.Activities.length) ∧ k.From ≠ k.To ∧ -60 ≤ k.Lag ∧ k.Lag ≤ 60
def sgn (a b : Int) : Int := bif decide (a < b) then -1 else bif decide (b < a) then 1 else 0
def cmpLit (a b : TLiteral) : Int := if a.Activity ≠ b.Activity then sgn a.Activity b.Activity else if a.Kind ≠ b.Kind then sgn a.Kind b.Kind else sgn a.Value b.Value
structure RuleF (p : TProject) (r : TRule) : Prop where
 k1 : r.Kind = 1 → inR r.A 0 (W ((p.Links.length : Int) - 1)) = true
 k2 : r.Kind = 2 → inR r.A 0 (W ((p.Activities.length : Int) - 1)) = true
 k3 : r.Kind = 3 → inR r.A 0 (W ((p.Resources.length : Int) - 1)) = true
 k4 : r.Kind = 4 → inR r.A 0 (W ((p.Resources.length : Int) - 1)) = true ∧ inR r.B 0 60 = true ∧ inR r.C 0 60 = true ∧ r.B < r.C
 k5 : r.Kind = 5 → s_IsMachine p r.A = some true ∧ inR r.B 0 (W ((p.Activities.length : Int) - 1)) = true ∧ inR r.C 0 (W ((p.Activities.length : Int) - 1)) = true ∧ r.B < r.C
 k6 : r.Kind ≠ 1 → r.Kind ≠ 2 → r.Kind ≠ 3 → r.Kind ≠ 4 → r.Kind ≠ 5 → inR r.A 0 (W ((p.Stocks.length : Int) - 1)) = true
def b_l_int (M : Nat) (l : List Int) : Prop := l.length ≤ M
theorem w_szIntS_ok (x : List Int) (h : b_l_int 9223372036854775807 x) : SzOk w_szIntS (b_l_int 1048576) x := szFlat x (fun _ => rfl) h
def b_str (M : Nat) (x : ByteArray) : Prop := x.size ≤ M
def bTMode (M : Nat) (x : TMode) : Prop := b_l_int M x.Usage ∧ b_l_int M x.Consumption ∧  True
theorem w_szMode_ok (x : TMode) (h : bTMode 9223372036854775807 x) : SzOk w_szMode (bTMode 1048576) x := fun n m0 hn => by
 unfold w_szMode bTMode
 unfold bTMode at h
 exact szThen (w_szIntS_ok _ h.1) m0 (by omega) (fun n1 m1 _ _ => szThen (w_szIntS_ok _ h.2.1) m1 (by omega) (fun n2 m2 _ _ => szEnd m2))
def b_l_eTMode (M : Nat) (l : List TMode) : Prop := l.length ≤ M ∧ ∀ x ∈ l, bTMode M x
theorem w_szModeS_ok (x : List TMode) (h : b_l_eTMode 9223372036854775807 x) : SzOk w_szModeS (b_l_eTMode 1048576) x := szList (F := w_szModeS_L1) (sz := w_szMode) (Q := bTMode 1048576) x (fun _ _ => rfl) (fun _ _ _ _ => rfl) (fun _ => rfl) h.1 (fun y hy => w_szMode_ok y (h.2 y hy))
def bTActivity (M : Nat) (x : TActivity) : Prop := b_str M x.Name ∧ b_l_eTMode M x.Modes ∧  True
theorem w_szActivity_ok (x : TActivity) (h : bTActivity 9223372036854775807 x) : SzOk w_szActivity (bTActivity 1048576) x := fun n m0 hn => by
 unfold w_szActivity bTActivity
 unfold bTActivity at h
 exact szStr h.1 m0 (by omega) (fun n1 m1 _ _ => szThen (w_szModeS_ok _ h.2.1) m1 (by omega) (fun n2 m2 _ _ => szEnd m2))
def b_l_eTActivity (M : Nat) (l : List TActivity) : Prop := l.length ≤ M ∧ ∀ x ∈ l, bTActivity M x
theorem w_szActivityS_ok (x : List TActivity) (h : b_l_eTActivity 9223372036854775807 x) : SzOk w_szActivityS (b_l_eTActivity 1048576) x := szList (F := w_szActivityS_L1) (sz := w_szActivity) (Q := bTActivity 1048576) x (fun _ _ => rfl) (fun _ _ _ _ => rfl) (fun _ => rfl) h.1 (fun y hy => w_szActivity_ok y (h.2 y hy))
def b_l_eTLink (M : Nat) (l : List TLink) : Prop := l.length ≤ M
theorem w_szLinkS_ok (x : List TLink) (h : b_l_eTLink 9223372036854775807 x) : SzOk w_szLinkS (b_l_eTLink 1048576) x := szFlat x (fun _ => rfl) h
def b_l_eTStep (M : Nat) (l : List TStep) : Prop := l.length ≤ M
theorem w_szStepS_ok (x : List TStep) (h : b_l_eTStep 9223372036854775807 x) : SzOk w_szStepS (b_l_eTStep 1048576) x := szFlat x (fun _ => rfl) h
def b_l_l_int (M : Nat) (l : List (List Int)) : Prop := l.length ≤ M ∧ ∀ x ∈ l, b_l_int M x
theorem w_szIntSS_ok (x : List (List Int)) (h : b_l_l_int 9223372036854775807 x) : SzOk w_szIntSS (b_l_l_int 1048576) x := szList (F := w_szIntSS_L1) (sz := w_szIntS) (Q := b_l_int 1048576) x (fun _ _ => rfl) (fun _ _ _ _ => rfl) (fun _ => rfl) h.1 (fun y hy => w_szIntS_ok y (h.2 y hy))
def bTResource (M : Nat) (x : TResource) : Prop := b_l_eTStep M x.Steps ∧ b_l_l_int M x.Setup ∧  True
theorem w_szResource_ok (x : TResource) (h : bTResource 9223372036854775807 x) : SzOk w_szResource (bTResource 1048576) x := fun n m0 hn => by
 unfold w_szResource bTResource
 unfold bTResource at h
 exact szThen (w_szStepS_ok _ h.1) m0 (by omega) (fun n1 m1 _ _ => szThen (w_szIntSS_ok _ h.2.1) m1 (by omega) (fun n2 m2 _ _ => szEnd m2))
def b_l_eTResource (M : Nat) (l : List TResource) : Prop := l.length ≤ M ∧ ∀ x ∈ l, bTResource M x
theorem w_szResourceS_ok (x : List TResource) (h : b_l_eTResource 9223372036854775807 x) : SzOk w_szResourceS (b_l_eTResource 1048576) x := szList (F := w_szResourceS_L1) (sz := w_szResource) (Q := bTResource 1048576) x (fun _ _ => rfl) (fun _ _ _ _ => rfl) (fun _ => rfl) h.1 (fun y hy => w_szResource_ok y (h.2 y hy))
def bTProject (M : Nat) (x : TProject) : Prop := b_l_eTActivity M x.Activities ∧ b_l_eTLink M x.Links ∧ b_l_eTResource M x.Resources ∧ b_l_int M x.Stocks ∧  True
theorem w_szProject_ok (x : TProject) (h : bTProject 9223372036854775807 x) : SzOk w_szProject (bTProject 1048576) x := fun n m0 hn => by
 unfold w_szProject bTProject
 unfold bTProject at h
 exact szThen (w_szActivityS_ok _ h.1) m0 (by omega) (fun n1 m1 _ _ => szThen (w_szLinkS_ok _ h.2.1) m1 (by omega) (fun n2 m2 _ _ => szThen (w_szResourceS_ok _ h.2.2.1) m2 (by omega) (fun n3 m3 _ _ => szThen (w_szIntS_ok _ h.2.2.2.1) m3 (by omega) (fun n4 m4 _ _ => szEnd m4))))
def b_l_eTLiteral (M : Nat) (l : List TLiteral) : Prop := l.length ≤ M
theorem w_szLiteralS_ok (x : List TLiteral) (h : b_l_eTLiteral 9223372036854775807 x) : SzOk w_szLiteralS (b_l_eTLiteral 1048576) x := szFlat x (fun _ => rfl) h
def bTLine (M : Nat) (x : TLine) : Prop := b_l_eTLiteral M x.Clause ∧  True
theorem w_szLine_ok (x : TLine) (h : bTLine 9223372036854775807 x) : SzOk w_szLine (bTLine 1048576) x := fun n m0 hn => by
 unfold w_szLine bTLine
 unfold bTLine at h
 exact szThen (w_szLiteralS_ok _ h.1) m0 (by omega) (fun n1 m1 _ _ => szEnd m1)
theorem w_toIntS_eq (x : List Int) (h : b_l_int 1048576 x) : w_toIntS x = some x := fillList (F := w_toIntS_L1) (Q := fun _ => True) (fun _ _ => rfl) (fun x xs z a y hq hy => by simp only [w_toIntS_L1, hy, Option.bind_some]) h (fun _ _ => trivial) rfl
theorem w_toMode_eq (x : TMode) (h : bTMode 1048576 x) : w_toMode x = some x := by
 unfold bTMode at h
 unfold w_toMode
 try simp only [w_toIntS_eq _ (h.1), w_toIntS_eq _ (h.2.1), Option.bind_some]
theorem w_toModeS_eq (x : List TMode) (h : b_l_eTMode 1048576 x) : w_toModeS x = some x := fillList (F := w_toModeS_L1) (Q := bTMode 1048576) (fun _ _ => rfl) (fun x xs z a y hq hy => by simp only [w_toModeS_L1, w_toMode_eq x hq, hy, Option.bind_some]) h.1 h.2 rfl
theorem w_toActivity_eq (x : TActivity) (h : bTActivity 1048576 x) : w_toActivity x = some x := by
 unfold bTActivity at h
 unfold w_toActivity
 try simp only [w_toModeS_eq _ (h.2.1), Option.bind_some]
theorem w_toActivityS_eq (x : List TActivity) (h : b_l_eTActivity 1048576 x) : w_toActivityS x = some x := fillList (F := w_toActivityS_L1) (Q := bTActivity 1048576) (fun _ _ => rfl) (fun x xs z a y hq hy => by simp only [w_toActivityS_L1, w_toActivity_eq x hq, hy, Option.bind_some]) h.1 h.2 rfl
theorem w_toLink_eq (x : TLink) : w_toLink x = some x := by
 unfold w_toLink
 try simp only [Option.bind_some]
theorem w_toLinkS_eq (x : List TLink) (h : b_l_eTLink 1048576 x) : w_toLinkS x = some x := fillList (F := w_toLinkS_L1) (Q := fun _ => True) (fun _ _ => rfl) (fun x xs z a y hq hy => by simp only [w_toLinkS_L1, w_toLink_eq, hy, Option.bind_some]) h (fun _ _ => trivial) rfl
theorem w_toStep_eq (x : TStep) : w_toStep x = some x := by
 unfold w_toStep
 try simp only [Option.bind_some]
theorem w_toStepS_eq (x : List TStep) (h : b_l_eTStep 1048576 x) : w_toStepS x = some x := fillList (F := w_toStepS_L1) (Q := fun _ => True) (fun _ _ => rfl) (fun x xs z a y hq hy => by simp only [w_toStepS_L1, w_toStep_eq, hy, Option.bind_some]) h (fun _ _ => trivial) rfl
theorem w_toIntSS_eq (x : List (List Int)) (h : b_l_l_int 1048576 x) : w_toIntSS x = some x := fillList (F := w_toIntSS_L1) (Q := b_l_int 1048576) (fun _ _ => rfl) (fun x xs z a y hq hy => by simp only [w_toIntSS_L1, w_toIntS_eq x hq, hy, Option.bind_some]) h.1 h.2 rfl
theorem w_toResource_eq (x : TResource) (h : bTResource 1048576 x) : w_toResource x = some x := by
 unfold bTResource at h
 unfold w_toResource
 try simp only [w_toStepS_eq _ (h.1), w_toIntSS_eq _ (h.2.1), Option.bind_some]
theorem w_toResourceS_eq (x : List TResource) (h : b_l_eTResource 1048576 x) : w_toResourceS x = some x := fillList (F := w_toResourceS_L1) (Q := bTResource 1048576) (fun _ _ => rfl) (fun x xs z a y hq hy => by simp only [w_toResourceS_L1, w_toResource_eq x hq, hy, Option.bind_some]) h.1 h.2 rfl
theorem w_toProject_eq (x : TProject) (h : bTProject 1048576 x) : w_toProject x = some x := by
 unfold bTProject at h
 unfold w_toProject
 try simp only [w_toActivityS_eq _ (h.1), w_toLinkS_eq _ (h.2.1), w_toResourceS_eq _ (h.2.2.1), w_toIntS_eq _ (h.2.2.2.1), Option.bind_some]
theorem w_toRule_eq (x : TRule) : w_toRule x = some x := by
 unfold w_toRule
 try simp only [Option.bind_some]
theorem w_toLiteral_eq (x : TLiteral) : w_toLiteral x = some x := by
 unfold w_toLiteral
 try simp only [Option.bind_some]
theorem w_toLiteralS_eq (x : List TLiteral) (h : b_l_eTLiteral 1048576 x) : w_toLiteralS x = some x := fillList (F := w_toLiteralS_L1) (Q := fun _ => True) (fun _ _ => rfl) (fun x xs z a y hq hy => by simp only [w_toLiteralS_L1, w_toLiteral_eq, hy, Option.bind_some]) h (fun _ _ => trivial) rfl
theorem w_toLine_eq (x : TLine) (h : bTLine 1048576 x) : w_toLine x = some x := by
 unfold bTLine at h
 unfold w_toLine
 try simp only [w_toRule_eq, w_toLiteralS_eq _ (h.1), Option.bind_some]
theorem w_eqIntS_eq (a b : List Int) : w_eqIntS a b = some (decide (a = b)) := eqList (F := w_eqIntS_L1 b) (fun _ => rfl) (fun x xs z y h => by simp only [w_eqIntS_L1, h, Option.bind_some, int_bne]; by_cases hxy : x = y <;> simp [hxy]) rfl
theorem w_eqMode_eq (a b : TMode) : w_eqMode a b = some (decide (a = b)) := by
 obtain ⟨a0, a1, a2⟩ := a
 obtain ⟨b0, b1, b2⟩ := b
 simp only [w_eqMode, w_eqIntS_eq, w_eqIntS_eq, TMode.mk.injEq, Option.bind_some, int_bne, bool_bne, ba_bne]
 by_cases h0 : a0 = b0 <;> by_cases h1 : a1 = b1 <;> by_cases h2 : a2 = b2 <;> simp [h0, h1, h2]
theorem w_eqModeS_eq (a b : List TMode) : w_eqModeS a b = some (decide (a = b)) := eqList (F := w_eqModeS_L1 b) (fun _ => rfl) (fun x xs z y h => by simp only [w_eqModeS_L1, h, Option.bind_some, int_bne, w_eqMode_eq]; by_cases hxy : x = y <;> simp [hxy]) rfl
theorem w_eqActivity_eq (a b : TActivity) : w_eqActivity a b = some (decide (a = b)) := by
 obtain ⟨a0, a1, a2⟩ := a
 obtain ⟨b0, b1, b2⟩ := b
 simp only [w_eqActivity, w_eqModeS_eq, TActivity.mk.injEq, Option.bind_some, int_bne, bool_bne, ba_bne]
 by_cases h0 : a0 = b0 <;> by_cases h1 : a1 = b1 <;> by_cases h2 : a2 = b2 <;> simp [h0, h1, h2]
theorem w_eqActivityS_eq (a b : List TActivity) : w_eqActivityS a b = some (decide (a = b)) := eqList (F := w_eqActivityS_L1 b) (fun _ => rfl) (fun x xs z y h => by simp only [w_eqActivityS_L1, h, Option.bind_some, int_bne, w_eqActivity_eq]; by_cases hxy : x = y <;> simp [hxy]) rfl
theorem w_eqLink_eq (a b : TLink) : w_eqLink a b = some (decide (a = b)) := by
 obtain ⟨a0, a1, a2, a3⟩ := a
 obtain ⟨b0, b1, b2, b3⟩ := b
 simp only [w_eqLink, TLink.mk.injEq, Option.bind_some, int_bne, bool_bne, ba_bne]
 by_cases h0 : a0 = b0 <;> by_cases h1 : a1 = b1 <;> by_cases h2 : a2 = b2 <;> by_cases h3 : a3 = b3 <;> simp [h0, h1, h2, h3]
theorem w_eqLinkS_eq (a b : List TLink) : w_eqLinkS a b = some (decide (a = b)) := eqList (F := w_eqLinkS_L1 b) (fun _ => rfl) (fun x xs z y h => by simp only [w_eqLinkS_L1, h, Option.bind_some, int_bne, w_eqLink_eq]; by_cases hxy : x = y <;> simp [hxy]) rfl
theorem w_eqStep_eq (a b : TStep) : w_eqStep a b = some (decide (a = b)) := by
 obtain ⟨a0, a1⟩ := a
 obtain ⟨b0, b1⟩ := b
 simp only [w_eqStep, TStep.mk.injEq, Option.bind_some, int_bne, bool_bne, ba_bne]
 by_cases h0 : a0 = b0 <;> by_cases h1 : a1 = b1 <;> simp [h0, h1]
theorem w_eqStepS_eq (a b : List TStep) : w_eqStepS a b = some (decide (a = b)) := eqList (F := w_eqStepS_L1 b) (fun _ => rfl) (fun x xs z y h => by simp only [w_eqStepS_L1, h, Option.bind_some, int_bne, w_eqStep_eq]; by_cases hxy : x = y <;> simp [hxy]) rfl
theorem w_eqIntSS_eq (a b : List (List Int)) : w_eqIntSS a b = some (decide (a = b)) := eqList (F := w_eqIntSS_L1 b) (fun _ => rfl) (fun x xs z y h => by simp only [w_eqIntSS_L1, h, Option.bind_some, int_bne, w_eqIntS_eq]; by_cases hxy : x = y <;> simp [hxy]) rfl
theorem w_eqResource_eq (a b : TResource) : w_eqResource a b = some (decide (a = b)) := by
 obtain ⟨a0, a1⟩ := a
 obtain ⟨b0, b1⟩ := b
 simp only [w_eqResource, w_eqStepS_eq, w_eqIntSS_eq, TResource.mk.injEq, Option.bind_some, int_bne, bool_bne, ba_bne]
 by_cases h0 : a0 = b0 <;> by_cases h1 : a1 = b1 <;> simp [h0, h1]
theorem w_eqResourceS_eq (a b : List TResource) : w_eqResourceS a b = some (decide (a = b)) := eqList (F := w_eqResourceS_L1 b) (fun _ => rfl) (fun x xs z y h => by simp only [w_eqResourceS_L1, h, Option.bind_some, int_bne, w_eqResource_eq]; by_cases hxy : x = y <;> simp [hxy]) rfl
theorem w_eqProject_eq (a b : TProject) : w_eqProject a b = some (decide (a = b)) := by
 obtain ⟨a0, a1, a2, a3, a4⟩ := a
 obtain ⟨b0, b1, b2, b3, b4⟩ := b
 simp only [w_eqProject, w_eqActivityS_eq, w_eqLinkS_eq, w_eqResourceS_eq, w_eqIntS_eq, TProject.mk.injEq, Option.bind_some, int_bne, bool_bne, ba_bne]
 by_cases h0 : a0 = b0 <;> by_cases h1 : a1 = b1 <;> by_cases h2 : a2 = b2 <;> by_cases h3 : a3 = b3 <;> by_cases h4 : a4 = b4 <;> simp [h0, h1, h2, h3, h4]
theorem w_eqRule_eq (a b : TRule) : w_eqRule a b = some (decide (a = b)) := by
 obtain ⟨a0, a1, a2, a3⟩ := a
 obtain ⟨b0, b1, b2, b3⟩ := b
 simp only [w_eqRule, TRule.mk.injEq, Option.bind_some, int_bne, bool_bne, ba_bne]
 by_cases h0 : a0 = b0 <;> by_cases h1 : a1 = b1 <;> by_cases h2 : a2 = b2 <;> by_cases h3 : a3 = b3 <;> simp [h0, h1, h2, h3]
theorem w_eqLiteral_eq (a b : TLiteral) : w_eqLiteral a b = some (decide (a = b)) := by
 obtain ⟨a0, a1, a2⟩ := a
 obtain ⟨b0, b1, b2⟩ := b
 simp only [w_eqLiteral, TLiteral.mk.injEq, Option.bind_some, int_bne, bool_bne, ba_bne]
 by_cases h0 : a0 = b0 <;> by_cases h1 : a1 = b1 <;> by_cases h2 : a2 = b2 <;> simp [h0, h1, h2]
theorem w_eqLiteralS_eq (a b : List TLiteral) : w_eqLiteralS a b = some (decide (a = b)) := eqList (F := w_eqLiteralS_L1 b) (fun _ => rfl) (fun x xs z y h => by simp only [w_eqLiteralS_L1, h, Option.bind_some, int_bne, w_eqLiteral_eq]; by_cases hxy : x = y <;> simp [hxy]) rfl
theorem w_eqLine_eq (a b : TLine) : w_eqLine a b = some (decide (a = b)) := by
 obtain ⟨a0, a1, a2⟩ := a
 obtain ⟨b0, b1, b2⟩ := b
 simp only [w_eqLine, w_eqRule_eq, w_eqLiteralS_eq, TLine.mk.injEq, Option.bind_some, int_bne, bool_bne, ba_bne]
 by_cases h0 : a0 = b0 <;> by_cases h1 : a1 = b1 <;> by_cases h2 : a2 = b2 <;> simp [h0, h1, h2]
def b_l_eTLine (M : Nat) (l : List TLine) : Prop := l.length ≤ M ∧ ∀ x ∈ l, bTLine M x
theorem w_szLineS_ok (x : List TLine) (h : b_l_eTLine 9223372036854775807 x) : SzOk w_szLineS (b_l_eTLine 1048576) x := szList (F := w_szLineS_L1) (sz := w_szLine) (Q := bTLine 1048576) x (fun _ _ => rfl) (fun _ _ _ _ => rfl) (fun _ => rfl) h.1 (fun y hy => w_szLine_ok y (h.2 y hy))
theorem w_toLineS_eq (x : List TLine) (h : b_l_eTLine 1048576 x) : w_toLineS x = some x := fillList (F := w_toLineS_L1) (Q := bTLine 1048576) (fun _ _ => rfl) (fun x xs z a y hq hy => by simp only [w_toLineS_L1, w_toLine_eq x hq, hy, Option.bind_some]) h.1 h.2 rfl
theorem w_eqLineS_eq (a b : List TLine) : w_eqLineS a b = some (decide (a = b)) := eqList (F := w_eqLineS_L1 b) (fun _ => rfl) (fun x xs z y h => by simp only [w_eqLineS_L1, h, Option.bind_some, int_bne, w_eqLine_eq]; by_cases hxy : x = y <;> simp [hxy]) rfl
theorem decb_int : ∀ p, Val .int p → ∃ x : Int, p = int x ∧ True := fun p h => by obtain ⟨n, e⟩ := dec_int h; exact ⟨n, e, trivial⟩
theorem decb_str : ∀ p, Val .str p → ∃ x : ByteArray, p = str x ∧ b_str 9223372036854775807 x := fun p h => dec_str h
theorem decb_l_int : ∀ p, Val (.slice .int) p → ∃ x : List Int, p = .slice (x.map int) ∧ b_l_int 9223372036854775807 x := fun p h => by
 obtain ⟨l, e, h1, h2⟩ := dec_slice decb_int h
 exact ⟨l, e, h1⟩
theorem decb_TMode : ∀ p, Val (.agg [.int, .slice .int, .slice .int]) p → ∃ x : TMode, p = eTMode x ∧ bTMode 9223372036854775807 x := fun p h => by
 obtain ⟨zs0, rfl, hv0⟩ := h
 obtain ⟨x0, zs1, rfl, h0, hv1⟩ := vals_cons hv0
 obtain ⟨y0, rfl, b0⟩ := decb_int _ h0
 obtain ⟨x1, zs2, rfl, h1, hv2⟩ := vals_cons hv1
 obtain ⟨y1, rfl, b1⟩ := decb_l_int _ h1
 obtain ⟨x2, zs3, rfl, h2, hv3⟩ := vals_cons hv2
 obtain ⟨y2, rfl, b2⟩ := decb_l_int _ h2
 obtain rfl := vals_nil hv3
 exact ⟨⟨y0, y1, y2⟩, rfl, ⟨b1, b2, trivial⟩⟩
theorem decb_l_eTMode : ∀ p, Val (.slice (.agg [.int, .slice .int, .slice .int])) p → ∃ x : List TMode, p = .slice (x.map eTMode) ∧ b_l_eTMode 9223372036854775807 x := fun p h => by
 obtain ⟨l, e, h1, h2⟩ := dec_slice decb_TMode h
 exact ⟨l, e, h1, h2⟩
theorem decb_TActivity : ∀ p, Val (.agg [.str, .int, .slice (.agg [.int, .slice .int, .slice .int])]) p → ∃ x : TActivity, p = eTActivity x ∧ bTActivity 9223372036854775807 x := fun p h => by
 obtain ⟨zs0, rfl, hv0⟩ := h
 obtain ⟨x0, zs1, rfl, h0, hv1⟩ := vals_cons hv0
 obtain ⟨y0, rfl, b0⟩ := decb_str _ h0
 obtain ⟨x1, zs2, rfl, h1, hv2⟩ := vals_cons hv1
 obtain ⟨y1, rfl, b1⟩ := decb_int _ h1
 obtain ⟨x2, zs3, rfl, h2, hv3⟩ := vals_cons hv2
 obtain ⟨y2, rfl, b2⟩ := decb_l_eTMode _ h2
 obtain rfl := vals_nil hv3
 exact ⟨⟨y0, y1, y2⟩, rfl, ⟨b0, b2, trivial⟩⟩
theorem decb_l_eTActivity : ∀ p, Val (.slice (.agg [.str, .int, .slice (.agg [.int, .slice .int, .slice .int])])) p → ∃ x : List TActivity, p = .slice (x.map eTActivity) ∧ b_l_eTActivity 9223372036854775807 x := fun p h => by
 obtain ⟨l, e, h1, h2⟩ := dec_slice decb_TActivity h
 exact ⟨l, e, h1, h2⟩
theorem decb_bool : ∀ p, Val .bool p → ∃ x : Bool, p = bool x ∧ True := fun p h => by obtain ⟨n, e⟩ := dec_bool h; exact ⟨n, e, trivial⟩
theorem decb_TLink : ∀ p, Val (.agg [.int, .int, .bool, .int]) p → ∃ x : TLink, p = eTLink x ∧ True := fun p h => by
 obtain ⟨zs0, rfl, hv0⟩ := h
 obtain ⟨x0, zs1, rfl, h0, hv1⟩ := vals_cons hv0
 obtain ⟨y0, rfl, b0⟩ := decb_int _ h0
 obtain ⟨x1, zs2, rfl, h1, hv2⟩ := vals_cons hv1
 obtain ⟨y1, rfl, b1⟩ := decb_int _ h1
 obtain ⟨x2, zs3, rfl, h2, hv3⟩ := vals_cons hv2
 obtain ⟨y2, rfl, b2⟩ := decb_bool _ h2
 obtain ⟨x3, zs4, rfl, h3, hv4⟩ := vals_cons hv3
 obtain ⟨y3, rfl, b3⟩ := decb_int _ h3
 obtain rfl := vals_nil hv4
 exact ⟨⟨y0, y1, y2, y3⟩, rfl, trivial⟩
theorem decb_l_eTLink : ∀ p, Val (.slice (.agg [.int, .int, .bool, .int])) p → ∃ x : List TLink, p = .slice (x.map eTLink) ∧ b_l_eTLink 9223372036854775807 x := fun p h => by
 obtain ⟨l, e, h1, h2⟩ := dec_slice decb_TLink h
 exact ⟨l, e, h1⟩
theorem decb_TStep : ∀ p, Val (.agg [.int, .int]) p → ∃ x : TStep, p = eTStep x ∧ True := fun p h => by
 obtain ⟨zs0, rfl, hv0⟩ := h
 obtain ⟨x0, zs1, rfl, h0, hv1⟩ := vals_cons hv0
 obtain ⟨y0, rfl, b0⟩ := decb_int _ h0
 obtain ⟨x1, zs2, rfl, h1, hv2⟩ := vals_cons hv1
 obtain ⟨y1, rfl, b1⟩ := decb_int _ h1
 obtain rfl := vals_nil hv2
 exact ⟨⟨y0, y1⟩, rfl, trivial⟩
theorem decb_l_eTStep : ∀ p, Val (.slice (.agg [.int, .int])) p → ∃ x : List TStep, p = .slice (x.map eTStep) ∧ b_l_eTStep 9223372036854775807 x := fun p h => by
 obtain ⟨l, e, h1, h2⟩ := dec_slice decb_TStep h
 exact ⟨l, e, h1⟩
theorem decb_l_l_int : ∀ p, Val (.slice (.slice .int)) p → ∃ x : List (List Int), p = .slice (x.map l_int) ∧ b_l_l_int 9223372036854775807 x := fun p h => by
 obtain ⟨l, e, h1, h2⟩ := dec_slice decb_l_int h
 exact ⟨l, e, h1, h2⟩
theorem decb_TResource : ∀ p, Val (.agg [.slice (.agg [.int, .int]), .slice (.slice .int)]) p → ∃ x : TResource, p = eTResource x ∧ bTResource 9223372036854775807 x := fun p h => by
 obtain ⟨zs0, rfl, hv0⟩ := h
 obtain ⟨x0, zs1, rfl, h0, hv1⟩ := vals_cons hv0
 obtain ⟨y0, rfl, b0⟩ := decb_l_eTStep _ h0
 obtain ⟨x1, zs2, rfl, h1, hv2⟩ := vals_cons hv1
 obtain ⟨y1, rfl, b1⟩ := decb_l_l_int _ h1
 obtain rfl := vals_nil hv2
 exact ⟨⟨y0, y1⟩, rfl, ⟨b0, b1, trivial⟩⟩
theorem decb_l_eTResource : ∀ p, Val (.slice (.agg [.slice (.agg [.int, .int]), .slice (.slice .int)])) p → ∃ x : List TResource, p = .slice (x.map eTResource) ∧ b_l_eTResource 9223372036854775807 x := fun p h => by
 obtain ⟨l, e, h1, h2⟩ := dec_slice decb_TResource h
 exact ⟨l, e, h1, h2⟩
theorem decb_TProject : ∀ p, Val (.agg [.int, .slice (.agg [.str, .int, .slice (.agg [.int, .slice .int, .slice .int])]), .slice (.agg [.int, .int, .bool, .int]), .slice (.agg [.slice (.agg [.int, .int]), .slice (.slice .int)]), .slice .int]) p → ∃ x : TProject, p = eTProject x ∧ bTProject 9223372036854775807 x := fun p h => by
 obtain ⟨zs0, rfl, hv0⟩ := h
 obtain ⟨x0, zs1, rfl, h0, hv1⟩ := vals_cons hv0
 obtain ⟨y0, rfl, b0⟩ := decb_int _ h0
 obtain ⟨x1, zs2, rfl, h1, hv2⟩ := vals_cons hv1
 obtain ⟨y1, rfl, b1⟩ := decb_l_eTActivity _ h1
 obtain ⟨x2, zs3, rfl, h2, hv3⟩ := vals_cons hv2
 obtain ⟨y2, rfl, b2⟩ := decb_l_eTLink _ h2
 obtain ⟨x3, zs4, rfl, h3, hv4⟩ := vals_cons hv3
 obtain ⟨y3, rfl, b3⟩ := decb_l_eTResource _ h3
 obtain ⟨x4, zs5, rfl, h4, hv5⟩ := vals_cons hv4
 obtain ⟨y4, rfl, b4⟩ := decb_l_int _ h4
 obtain rfl := vals_nil hv5
 exact ⟨⟨y0, y1, y2, y3, y4⟩, rfl, ⟨b1, b2, b3, b4, trivial⟩⟩
theorem decb_TLiteral : ∀ p, Val (.agg [.int, .int, .int]) p → ∃ x : TLiteral, p = eTLiteral x ∧ True := fun p h => by
 obtain ⟨zs0, rfl, hv0⟩ := h
 obtain ⟨x0, zs1, rfl, h0, hv1⟩ := vals_cons hv0
 obtain ⟨y0, rfl, b0⟩ := decb_int _ h0
 obtain ⟨x1, zs2, rfl, h1, hv2⟩ := vals_cons hv1
 obtain ⟨y1, rfl, b1⟩ := decb_int _ h1
 obtain ⟨x2, zs3, rfl, h2, hv3⟩ := vals_cons hv2
 obtain ⟨y2, rfl, b2⟩ := decb_int _ h2
 obtain rfl := vals_nil hv3
 exact ⟨⟨y0, y1, y2⟩, rfl, trivial⟩
theorem decb_l_eTLiteral : ∀ p, Val (.slice (.agg [.int, .int, .int])) p → ∃ x : List TLiteral, p = .slice (x.map eTLiteral) ∧ b_l_eTLiteral 9223372036854775807 x := fun p h => by
 obtain ⟨l, e, h1, h2⟩ := dec_slice decb_TLiteral h
 exact ⟨l, e, h1⟩
theorem inR_iff {n lo hi : Int} : inR n lo hi = true ↔ lo ≤ n ∧ n ≤ hi := by simp [inR]
theorem s_l01In_eq (n lo hi : Int) : s_l01In n lo hi = some (inR n lo hi) := by
 unfold s_l01In inR; cases decide (lo ≤ n) <;> rfl
theorem i_within_eq (n lo hi : Int) : i_within n lo hi = some (inR n lo hi) := by
 unfold i_within inR; cases decide (lo ≤ n) <;> rfl
theorem i_isTime_eq (n : Int) : i_isTime n = some (inR n 0 60) := by simp only [i_isTime, i_within_eq, Option.bind_some]
theorem i_isAmount_eq (n : Int) : i_isAmount n = some (inR n 0 20) := by simp only [i_isAmount, i_within_eq, Option.bind_some]
theorem hasActivity_eq (p : TProject) (n : Int) : i_Project_hasActivity p n = some (inR n 0 (W ((p.Activities.length : Int) - 1))) := by simp only [i_Project_hasActivity, i_within_eq, Option.bind_some]
theorem W_le {n : Int} (h : -9223372036854775808 ≤ n) : W n ≤ n := by
 show IntKind.i64.wrap n ≤ n
 rw [IntKind.wrap_i64]; omega
theorem idx_of_inR {α : Type} {l : List α} {i : Int} (h : inR i 0 (W ((l.length : Int) - 1)) = true) : ∃ x, idxL l i = some x ∧ x ∈ l := by
 have h := inR_iff.1 h
 have := W_le (n := (l.length : Int) - 1) (by omega)
 exact idxL_some h.1 (by omega)
theorem areAmounts_L1 : ∀ (xs : List Int) (z : Int), i_areAmounts_L1 xs z = s_l04Nums_L1 xs z
 | [], z => rfl
 | x :: xs, z => by simp only [i_areAmounts_L1, s_l04Nums_L1, i_isAmount_eq, s_l01In_eq, areAmounts_L1 xs]
theorem areAmounts_eq (l : List Int) (n : Int) : i_areAmounts l n = s_l04Nums l n := by simp only [i_areAmounts, s_l04Nums, areAmounts_L1]
theorem ModeOk_eq (m : TMode) (a b : Int) : i_ModeOk m a b = s_ModeOk m a b := by simp only [i_ModeOk, s_ModeOk, areAmounts_eq, i_within_eq, s_l01In_eq]
theorem IsName_L1 (s : ByteArray) : ∀ (n : Nat) (a : Int), i_IsName_L1 s n a = s_IsName_L1 s n a
 | 0, a => rfl
 | n + 1, a => by simp only [i_IsName_L1, s_IsName_L1, IsName_L1 s n]
theorem IsName_eq (s : ByteArray) : i_IsName s = s_IsName s := by simp only [i_IsName, s_IsName, IsName_L1, i_within_eq, s_l01In_eq]
theorem ActivityOk_L1 (a b : Int) : ∀ (xs : List TMode) (z : Int), i_ActivityOk_L1 a b xs z = s_ActivityOk_L1 a b xs z
 | [], z => rfl
 | x :: xs, z => by simp only [i_ActivityOk_L1, s_ActivityOk_L1, ModeOk_eq, ActivityOk_L1 a b xs]
theorem ActivityOk_eq (x : TActivity) (a b : Int) : i_ActivityOk x a b = s_ActivityOk x a b := by simp only [i_ActivityOk, s_ActivityOk, ActivityOk_L1, IsName_eq, i_within_eq, s_l01In_eq]
theorem ActivityIndex_L1 (nm : ByteArray) : ∀ (xs : List TActivity) (z : Int), slices_IndexFunc_Activity_L1 (fun x => i_ActivityIndex_c1 x nm) xs z = s_ActivityIndex_L1 nm xs z
 | [], z => rfl
 | x :: xs, z => by rw [slices_IndexFunc_Activity_L1, s_ActivityIndex_L1, ActivityIndex_L1 nm xs]; rfl
theorem ActivityIndex_eq (p : TProject) (nm : ByteArray) : i_ActivityIndex p nm = s_ActivityIndex p nm := by
 simp only [i_ActivityIndex, slices_IndexFunc_Activity, s_ActivityIndex, ActivityIndex_L1, Option.bind_some]
 cases h : s_ActivityIndex_L1 nm p.Activities 0 with
 | none => rfl
 | some o => cases o <;> rfl
theorem ResourceOk_L2 : ∀ (xs : List Int) (z : Int), i_ResourceOk_L2 xs z = s_ResourceOk_L2 xs z
 | [], z => rfl
 | x :: xs, z => by simp only [i_ResourceOk_L2, s_ResourceOk_L2, i_within_eq, s_l01In_eq, ResourceOk_L2 xs]
theorem ResourceOk_L1 : ∀ (xs : List (List Int)) (z : Int), i_ResourceOk_L1 xs z = s_ResourceOk_L1 xs z
 | [], z => rfl
 | x :: xs, z => by simp only [i_ResourceOk_L1, s_ResourceOk_L1, ResourceOk_L2, ResourceOk_L1 xs]
theorem chkLoop {α : Type} {F : List α → Int → Option (Unit ⊕ Bool)} {b : List α} {Q : α → Prop} {c : α → Int → Option Bool} (h0 : ∀ z, F [] z = some (.inl ()))
  (h1 : ∀ x xs z, F (x :: xs) z = (c x z).bind fun e => bif e then some (.inr false) else F xs (z + 1)) (hc : ∀ x z, 0 ≤ z → idxL b z = some x → ∃ e, c x z = some e ∧ (e = false → Q x)) :
  ∀ (xs : List α) (z : Int), 0 ≤ z → b.drop z.toNat = xs → F xs z = some (.inr false) ∨ (F xs z = some (.inl ()) ∧ ∀ x ∈ xs, Q x)
 | [], z, hz, hd => .inr ⟨h0 z, by simp⟩
 | x :: xs, z, hz, hd => by
  obtain ⟨h2, h3⟩ := idxL_drop hz hd
  obtain ⟨e, he, hq⟩ := hc x z hz h2
  rw [h1, he, Option.bind_some]
  cases e with
  | true => exact .inl rfl
  | false =>
   rw [cond_false]
   rcases chkLoop h0 h1 hc xs (z + 1) (by omega) h3 with h | ⟨h, hQ⟩
   ·exact .inl h
   ·exact .inr ⟨h, fun y hy => by
     rcases List.mem_cons.1 hy with rfl | hy
     ·exact hq rfl
     ·exact hQ y hy⟩
theorem chkList {α : Type} {F : List α → Int → Option (Unit ⊕ Bool)} {Q : α → Prop} {c : α → Int → Option Bool} (b : List α) (h0 : ∀ z, F [] z = some (.inl ()))
 (h1 : ∀ x xs z, F (x :: xs) z = (c x z).bind fun e => bif e then some (.inr false) else F xs (z + 1)) (hc : ∀ x z, 0 ≤ z → idxL b z = some x → ∃ e, c x z = some e ∧ (e = false → Q x)) :
 F b 0 = some (.inr false) ∨ (F b 0 = some (.inl ()) ∧ ∀ x ∈ b, Q x) := chkLoop h0 h1 hc b 0 (Int.le_refl _) rfl
theorem idxL_lt_len {α : Type} {l : List α} {z : Int} {x : α} (h : idxL l z = some x) : z < l.length ∧ x ∈ l := by
 have h1 := idxL_spec h
 have h2 := idxL_lt h
 exact ⟨by omega, List.mem_of_getElem? h1.2⟩
theorem idxL_prev {α : Type} {l : List α} {z : Int} {x : α} (h : idxL l z = some x) (h0 : 0 < z) : ∃ y, idxL l (z - 1) = some y := by
 obtain ⟨y, hy, _⟩ := idxL_some (l := l) (z := z - 1) (by omega) (by have := (idxL_lt_len h).1; omega)
 exact ⟨y, hy⟩
theorem s_StepsOk_chk (b : List TStep) : s_StepsOk_L1 b b 0 = some (.inr false) ∨ (s_StepsOk_L1 b b 0 = some (.inl ()) ∧ ∀ x ∈ b, (0 ≤ x.At ∧ x.At ≤ 60) ∧ 0 ≤ x.Capacity ∧ x.Capacity ≤ 20) := by
 refine chkList (F := s_StepsOk_L1 b) (c := sC b) b (fun _ => rfl) (fun x xs z => ?_) (fun x z hz hx => ?_)
 ·simp only [s_StepsOk_L1, sC, s_l01In_eq, Option.bind_some]
 ·simp only [sC, s_l01In_eq, Option.bind_some]
  by_cases h1 : inR x.At 0 60 = true
  ·by_cases h2 : inR x.Capacity 0 20 = true
   ·rw [h1, h2]
    simp only [Bool.not_true, cond_false, Option.bind_some]
    have hq := (⟨inR_iff.1 h1, inR_iff.1 h2⟩ : (0 ≤ x.At ∧ x.At ≤ 60) ∧ 0 ≤ x.Capacity ∧ x.Capacity ≤ 20)
    by_cases h0 : 0 < z
    ·obtain ⟨y, hy⟩ := idxL_prev hx h0
     rw [show decide (0 < z) = true by simpa using h0, cond_true, hy]
     exact ⟨_, rfl, fun _ => hq⟩
    ·rw [show decide (0 < z) = false by simpa using h0, cond_false]
     exact ⟨_, rfl, fun _ => hq⟩
   ·rw [h1, show inR x.Capacity 0 20 = false by simpa using h2]
    exact ⟨true, rfl, fun h => by cases h⟩
  ·rw [show inR x.At 0 60 = false by simpa using h1]
   exact ⟨true, rfl, fun h => by cases h⟩
theorem s_StepsOk_ok (b : List TStep) : ∃ v, s_StepsOk b = some v ∧ (v = true → b ≠ [] ∧ ∀ x ∈ b, (0 ≤ x.At ∧ x.At ≤ 60) ∧ 0 ≤ x.Capacity ∧ x.Capacity ≤ 20) := by
 rcases s_StepsOk_chk b with h | ⟨h, hQ⟩
 ·exact ⟨false, by simp only [s_StepsOk, h, sumBind, Option.bind_some, Sum.elim_inr], fun h => by cases h⟩
 ·simp only [s_StepsOk, h, sumBind, Option.bind_some, Sum.elim_inl, s_l01In_eq]
  cases hl : inR (b.length : Int) 1 8 with
  | false => exact ⟨false, rfl, fun h => by cases h⟩
  | true =>
   have := inR_iff.1 hl
   obtain ⟨x, hx, _⟩ := idxL_some (l := b) (z := 0) (Int.le_refl _) (by omega)
   rw [cond_true, hx]
   exact ⟨_, rfl, fun _ => ⟨fun e => by subst e; simp at this, hQ⟩⟩
theorem StepsOk_L1 (b : List TStep) : ∀ (xs : List TStep) (z : Int), 0 < z → i_StepsOk_L1 b xs z = s_StepsOk_L1 b xs z
 | [], z, _ => rfl
 | x :: xs, z, hz => by
  have h0 : (z == 0) = false := by simp; omega
  simp only [i_StepsOk_L1, s_StepsOk_L1, i_isTime_eq, i_isAmount_eq, s_l01In_eq, h0, cond_false, StepsOk_L1 b xs (z + 1) (by omega)]
theorem StepsOk_eq (b : List TStep) : i_StepsOk b = s_StepsOk b := by
 have hs := s_StepsOk_chk b
 match b with
 | [] => rfl
 | x :: xs =>
  have hi0 : idxL (x :: xs) 0 = some x := rfl
  by_cases hA : x.At = 0
  ·have e : i_StepsOk_L1 (x :: xs) (x :: xs) 0 = s_StepsOk_L1 (x :: xs) (x :: xs) 0 := by
    have h1 : (x.At != 0) = false := by simp [hA]
    simp only [i_StepsOk_L1, s_StepsOk_L1, i_isTime_eq, i_isAmount_eq, s_l01In_eq, h1, StepsOk_L1 (x :: xs) xs (0 + 1) (by omega)]
    rfl
   simp only [i_StepsOk, s_StepsOk, e, i_within_eq, s_l01In_eq, hi0, Option.bind_some, hA]
   congr 1
   funext _
   cases inR ((x :: xs).length : Int) 1 8 <;> rfl
  ·have h1 : (x.At != 0) = true := by simp [hA]
   have h2 : (x.At == 0) = false := by simp [hA]
   have e : i_StepsOk_L1 (x :: xs) (x :: xs) 0 = some (.inr false) := by
    simp only [i_StepsOk_L1, i_isTime_eq, i_isAmount_eq, Option.bind_some, h1]
    cases inR x.At 0 60 <;> cases inR x.Capacity 0 20 <;> rfl
   have hi : i_StepsOk (x :: xs) = some false := by simp only [i_StepsOk, e, sumBind, Option.bind_some, Sum.elim_inr]
   rw [hi]
   rcases hs with h | ⟨h, _⟩
   ·simp only [s_StepsOk, h, sumBind, Option.bind_some, Sum.elim_inr]
   ·simp only [s_StepsOk, h, sumBind, Option.bind_some, Sum.elim_inl, s_l01In_eq, hi0, h2]
    cases inR ((x :: xs).length : Int) 1 8 <;> rfl
theorem ResourceOk_eq (r : TResource) : i_ResourceOk r = s_ResourceOk r := by simp only [i_ResourceOk, s_ResourceOk, ResourceOk_L1, StepsOk_eq]
theorem s_ResourceOk_L2_ok (b : List Int) : s_ResourceOk_L2 b 0 = some (.inr false) ∨ (s_ResourceOk_L2 b 0 = some (.inl ()) ∧ ∀ n ∈ b, 0 ≤ n ∧ n ≤ 12) :=
 chkList (F := s_ResourceOk_L2) (c := fun x _ => some (!inR x 0 12)) b (fun _ => rfl) (fun x xs z => by simp only [s_ResourceOk_L2, s_l01In_eq, Option.bind_some]) (fun x z _ _ => ⟨_, rfl, fun h => inR_iff.1 (by simpa using h)⟩)
theorem s_ResourceOk_L1_ok (b : List (List Int)) : s_ResourceOk_L1 b 0 = some (.inr false) ∨ (s_ResourceOk_L1 b 0 = some (.inl ()) ∧ ∀ row ∈ b, row.length = 4 ∧ ∀ n ∈ row, 0 ≤ n ∧ n ≤ 12) := by
 have key : ∀ row : List Int, ∃ e, (∀ xs z, s_ResourceOk_L1 (row :: xs) z = bif e then some (.inr false) else s_ResourceOk_L1 xs (z + 1)) ∧ (e = false → row.length = 4 ∧ ∀ n ∈ row, 0 ≤ n ∧ n ≤ 12) := by
  intro row
  by_cases hl : row.length = 4
  ·have e : ((row.length : Int) != 4) = false := by simp [hl]
   rcases s_ResourceOk_L2_ok row with h | ⟨h, hQ⟩
   ·exact ⟨true, fun xs z => by simp only [s_ResourceOk_L1, e, cond_false, h, sumBind, Option.bind_some, Sum.elim_inr, cond_true], fun h => by cases h⟩
   ·exact ⟨false, fun xs z => by simp only [s_ResourceOk_L1, e, cond_false, h, sumBind, Option.bind_some, Sum.elim_inl], fun _ => ⟨hl, hQ⟩⟩
  ·have e : ((row.length : Int) != 4) = true := by simp; omega
   exact ⟨true, fun xs z => by simp only [s_ResourceOk_L1, e, cond_true], fun h => by cases h⟩
 exact chkList (F := s_ResourceOk_L1) (c := fun row _ => some (Classical.choose (key row))) b (fun _ => rfl) (fun x xs z => (Classical.choose_spec (key x)).1 xs z) (fun x z _ _ => ⟨_, rfl, (Classical.choose_spec (key x)).2⟩)
theorem s_ResourceOk_ok (r : TResource) : ∃ v, s_ResourceOk r = some v ∧ (v = true → ResF r) := by
 rcases s_ResourceOk_L1_ok r.Setup with h | ⟨h, hQ⟩
 ·exact ⟨false, by simp only [s_ResourceOk, h, sumBind, Option.bind_some, Sum.elim_inr], fun h => by cases h⟩
 ·obtain ⟨v, hv, hf⟩ := s_StepsOk_ok r.Steps
  simp only [s_ResourceOk, h, sumBind, Option.bind_some, Sum.elim_inl, hv]
  cases v with
  | false => exact ⟨false, rfl, fun h => by cases h⟩
  | true =>
   refine ⟨_, by simp only [cond_true, cond_some, Option.bind_some]; rfl, fun he => ⟨(hf rfl).2, hv, ?_, hQ⟩⟩
   by_cases h0 : r.Setup.length = 0
   ·exact .inl h0
   ·right
    rw [show ((r.Setup.length : Int) == 0) = false by rw [int_beq]; exact decide_eq_false (by omega), cond_false, int_beq] at he
    have := of_decide_eq_true he
    omega
theorem s_l04Nums_ok (l : List Int) (n : Int) : ∃ v, s_l04Nums l n = some v ∧ (v = true → (l.length : Int) = n ∧ ∀ k ∈ l, 0 ≤ k ∧ k ≤ 20) := by
 rcases chkList (F := s_l04Nums_L1) (c := fun x _ => some (!inR x 0 20)) (Q := fun k => 0 ≤ k ∧ k ≤ 20) l (fun _ => rfl) (fun x xs z => by simp only [s_l04Nums_L1, s_l01In_eq, Option.bind_some]) (fun x z _ _ => ⟨_, rfl, fun h => inR_iff.1 (by simpa using h)⟩) with h | ⟨h, hQ⟩
 ·exact ⟨false, by simp only [s_l04Nums, h, sumBind, Option.bind_some, Sum.elim_inr], fun h => by cases h⟩
 ·exact ⟨_, by simp only [s_l04Nums, h, sumBind, Option.bind_some, Sum.elim_inl]; rfl, fun he => ⟨by simpa using he, hQ⟩⟩
theorem s_ModeOk_ok (m : TMode) (a b : Int) : ∃ v, s_ModeOk m a b = some v ∧ (v = true → ModeF m a b) := by
 obtain ⟨u, hu, fu⟩ := s_l04Nums_ok m.Usage a
 obtain ⟨k, hk, fk⟩ := s_l04Nums_ok m.Consumption b
 simp only [s_ModeOk, s_l01In_eq, Option.bind_some, hu, hk]
 cases hd : inR m.Duration 1 12 with
 | false => exact ⟨false, rfl, fun h => by cases h⟩
 | true => cases u with
  | false => exact ⟨false, rfl, fun h => by cases h⟩
  | true => cases k with
   | false => exact ⟨false, rfl, fun h => by cases h⟩
   | true => exact ⟨true, rfl, fun _ => ⟨inR_iff.1 hd, fu rfl, fk rfl⟩⟩
theorem cond_two {α : Type} {c : Bool} {x y : α} {P : α → Prop} (hx : P x) (hy : P y) : P (bif c then x else y) := by cases c <;> assumption
theorem idxS_some {s : ByteArray} {z : Int} (h0 : 0 ≤ z) (h : z < s.size) : ∃ v, idxS s z = some v := by
 have hlt : z.toNat < s.size := by omega
 exact ⟨_, by unfold idxS; rw [if_pos h0, getElem?_pos s z.toNat hlt]; rfl⟩
theorem s_IsName_L1_ok (s : ByteArray) (hs : s.size ≤ 9223372036854775807) : ∀ (n : Nat) (a : Int), 0 ≤ a → a ≤ s.size → (s.size : Int) < a + n → s_IsName_L1 s n a = some (.inr false) ∨ s_IsName_L1 s n a = some (.inl ())
 | 0, a, h0, h1, h2 => by omega
 | n + 1, a, h0, h1, h2 => by
  by_cases hlt : a < s.size
  ·obtain ⟨v, hv⟩ := idxS_some h0 hlt
   have ih := s_IsName_L1_ok s hs n (a + 1) (by omega) (by omega) (by omega)
   rw [← W_of (n := a + 1) (by omega)] at ih
   simp only [s_IsName_L1, show decide (a < (s.size : Int)) = true by simpa using hlt, cond_true, hv, Option.bind_some, cond_some]
   exact cond_two (P := fun (o : Option (Unit ⊕ Bool)) => o = some (.inr false) ∨ o = some (.inl ())) (.inl rfl) ih
  ·right
   simp only [s_IsName_L1, show decide (a < (s.size : Int)) = false by simpa using hlt, cond_false]
theorem s_IsName_ok (s : ByteArray) (hs : s.size ≤ 9223372036854775807) : ∃ v, s_IsName s = some v := by
 rcases s_IsName_L1_ok s hs F0 0 (Int.le_refl _) (by omega) (by have := F0_gt; omega) with h | h
 ·exact ⟨false, by simp only [s_IsName, h, sumBind, Option.bind_some, Sum.elim_inr]⟩
 ·exact ⟨_, by simp only [s_IsName, h, sumBind, Option.bind_some, Sum.elim_inl, s_l01In_eq]; rfl⟩
theorem s_ActivityOk_ok (x : TActivity) (a b : Int) (hs : x.Name.size ≤ 9223372036854775807) : ∃ v, s_ActivityOk x a b = some v ∧ (v = true → ActF x a b) := by
 rcases chkList (F := s_ActivityOk_L1 a b) (c := fun m _ => (s_ModeOk m a b).bind fun v => some (!v)) (Q := fun m => ModeF m a b) x.Modes (fun _ => rfl) (fun m xs z => by
   simp only [s_ActivityOk_L1]
   cases s_ModeOk m a b <;> rfl) (fun m z _ _ => by
   obtain ⟨v, hv, hf⟩ := s_ModeOk_ok m a b
   rw [hv]
   exact ⟨_, rfl, fun h => hf (by simpa using h)⟩) with h | ⟨h, hQ⟩
 ·exact ⟨false, by simp only [s_ActivityOk, h, sumBind, Option.bind_some, Sum.elim_inr], fun h => by cases h⟩
 ·obtain ⟨v, hv⟩ := s_IsName_ok x.Name hs
  simp only [s_ActivityOk, h, sumBind, Option.bind_some, Sum.elim_inl, hv, s_l01In_eq]
  cases v with
  | false => exact ⟨false, rfl, fun h => by cases h⟩
  | true =>
   cases hf : inR x.Family 0 3 with
   | false => exact ⟨false, rfl, fun h => by cases h⟩
   | true => exact ⟨_, rfl, fun he => ⟨inR_iff.1 hf, by have := inR_iff.1 he; omega, hQ⟩⟩
theorem s_ActivityIndex_ok (p : TProject) (nm : ByteArray) : ∃ v, s_ActivityIndex p nm = some v := by
 have : ∀ (xs : List TActivity) (z : Int), ∃ o, s_ActivityIndex_L1 nm xs z = some o := by
  intro xs
  induction xs with
  | nil => exact fun z => ⟨_, rfl⟩
  | cons x xs ih =>
   intro z
   obtain ⟨o, ho⟩ := ih (z + 1)
   exact ⟨_, by rw [s_ActivityIndex_L1, ho, cond_some]⟩
 obtain ⟨o, ho⟩ := this p.Activities 0
 cases o with
 | inl u => exact ⟨_, by simp only [s_ActivityIndex, ho, sumBind, Option.bind_some, Sum.elim_inl]; rfl⟩
 | inr u => exact ⟨_, by simp only [s_ActivityIndex, ho, sumBind, Option.bind_some, Sum.elim_inr]; rfl⟩
theorem linkOk_c (p : TProject) (k : TLink) : i_ProjectOk_c1 k p = some (!(inR k.From 0 (W ((p.Activities.length : Int) - 1)) && (inR k.To 0 (W ((p.Activities.length : Int) - 1)) && (k.From != k.To && inR k.Lag (-60) 60)))) := by
 simp only [i_ProjectOk_c1, i_Project_linkOk, hasActivity_eq, i_within_eq, Option.bind_some, cond_some, cond_and]
theorem linkOk_s (p : TProject) (k : TLink) : ((s_l01In k.From 0 (W ((p.Activities.length : Int) - 1))).bind fun v68 => (bif (!v68) then some true else (s_l01In k.To 0 (W ((p.Activities.length : Int) - 1))).bind fun v71 => (bif (!v71) then some true else (bif (k.From == k.To) then some true else (s_l01In k.Lag (-60) 60).bind fun v74 => some (!v74))))) = i_ProjectOk_c1 k p := by
 rw [linkOk_c]
 simp only [s_l01In_eq, Option.bind_some, cond_some, int_beq, int_bne]
 cases inR k.From 0 (W ((p.Activities.length : Int) - 1)) <;> cases inR k.To 0 (W ((p.Activities.length : Int) - 1)) <;> cases inR k.Lag (-60) 60 <;> cases decide (k.From = k.To) <;> rfl
theorem links_eq (p : TProject) : ∀ (xs : List TLink) (z : Int), 0 ≤ z → ∃ o, slices_IndexFunc_Link_L1 (fun x => i_ProjectOk_c1 x p) xs z = some o ∧ ((o = .inl () ∧ s_ProjectOk_L4 p xs z = some (.inl ())) ∨ ∃ k, o = .inr k ∧ 0 ≤ k ∧ s_ProjectOk_L4 p xs z = some (.inr false))
 | [], z, hz => ⟨.inl (), rfl, .inl ⟨rfl, rfl⟩⟩
 | x :: xs, z, hz => by
  obtain ⟨o, ho, hc⟩ := links_eq p xs (z + 1) (by omega)
  have e1 : s_ProjectOk_L4 p (x :: xs) z = (i_ProjectOk_c1 x p).bind fun e => bif e then some (.inr false) else s_ProjectOk_L4 p xs (z + 1) := by
   rw [← linkOk_s]
   simp only [s_ProjectOk_L4, s_l01In_eq, Option.bind_some]
  have e2 : slices_IndexFunc_Link_L1 (fun x => i_ProjectOk_c1 x p) (x :: xs) z = (i_ProjectOk_c1 x p).bind fun e => bif e then some (.inr z) else slices_IndexFunc_Link_L1 (fun x => i_ProjectOk_c1 x p) xs (z + 1) := rfl
  rw [e1, e2, linkOk_c, Option.bind_some, Option.bind_some]
  cases hb : (!(inR x.From 0 (W ((p.Activities.length : Int) - 1)) && (inR x.To 0 (W ((p.Activities.length : Int) - 1)) && (x.From != x.To && inR x.Lag (-60) 60)))) with
  | true => exact ⟨_, rfl, .inr ⟨z, rfl, hz, rfl⟩⟩
  | false => exact ⟨o, ho, hc⟩
theorem ProjectOk_L1 (p : TProject) : ∀ (xs : List TActivity) (z : Int), i_ProjectOk_L1 p xs z = s_ProjectOk_L1 p xs z
 | [], z => rfl
 | x :: xs, z => by simp only [i_ProjectOk_L1, s_ProjectOk_L1, ActivityOk_eq, ActivityIndex_eq, ProjectOk_L1 p xs]
theorem ProjectOk_L2 : ∀ (xs : List TResource) (z : Int), i_ProjectOk_L2 xs z = s_ProjectOk_L2 xs z
 | [], z => rfl
 | x :: xs, z => by simp only [i_ProjectOk_L2, s_ProjectOk_L2, ResourceOk_eq, ProjectOk_L2 xs]
theorem ProjectOk_L3 : ∀ (xs : List Int) (z : Int), i_ProjectOk_L3 xs z = s_ProjectOk_L3 xs z
 | [], z => rfl
 | x :: xs, z => by simp only [i_ProjectOk_L3, s_ProjectOk_L3, i_within_eq, s_l01In_eq, ProjectOk_L3 xs]
theorem ProjectOk_eq (p : TProject) : i_ProjectOk p = s_ProjectOk p := by
 obtain ⟨o, ho, hc⟩ := links_eq p p.Links 0 (Int.le_refl _)
 have e : (slices_ContainsFunc_Link p.Links (fun x => i_ProjectOk_c1 x p)).bind (fun v => some (!v)) = sumBind (s_ProjectOk_L4 p p.Links 0) (fun q => some q) fun _ => some true := by
  rcases hc with ⟨rfl, h2⟩ | ⟨k, rfl, hk, h2⟩
  ·simp only [slices_ContainsFunc_Link, slices_IndexFunc_Link, ho, h2, sumBind, Option.bind_some, Sum.elim_inl]; rfl
  ·simp only [slices_ContainsFunc_Link, slices_IndexFunc_Link, ho, h2, sumBind, Option.bind_some, Sum.elim_inr]
   simp [hk]
 simp only [i_ProjectOk, s_ProjectOk, ProjectOk_L1, ProjectOk_L2, ProjectOk_L3, i_within_eq, s_l01In_eq, e]
theorem s_ProjectOk_ok (p : TProject) (hs : ∀ x ∈ p.Activities, x.Name.size ≤ 9223372036854775807) : ∃ v, s_ProjectOk p = some v ∧ (v = true → ProjF p) := by
 simp only [s_ProjectOk, s_l01In_eq, Option.bind_some, cond_some]
 cases hd : inR p.Deadline 1 60 with
 | false => exact ⟨false, rfl, fun h => by cases h⟩
 | true =>
 cases ha : inR (p.Activities.length : Int) 1 6 with
 | false => exact ⟨false, rfl, fun h => by cases h⟩
 | true =>
 cases hr : decide (3 < (p.Resources.length : Int)) with
 | true => exact ⟨false, rfl, fun h => by cases h⟩
 | false =>
 cases hk : decide (2 < (p.Stocks.length : Int)) with
 | true => exact ⟨false, rfl, fun h => by cases h⟩
 | false =>
 cases hl : decide (12 < (p.Links.length : Int)) with
 | true => exact ⟨false, rfl, fun h => by cases h⟩
 | false =>
 simp only [Bool.not_true, cond_false]
 have hd := inR_iff.1 hd
 have ha := inR_iff.1 ha
 have hr := of_decide_eq_false hr
 have hk := of_decide_eq_false hk
 have hl := of_decide_eq_false hl
 have k1 : ∀ x, x ∈ p.Activities → ∃ v, s_ActivityOk x p.Resources.length p.Stocks.length = some v ∧ (v = true → ActF x p.Resources.length p.Stocks.length) := fun x hx => s_ActivityOk_ok x _ _ (hs x hx)
 have l1 := chkList (F := s_ProjectOk_L1 p) (Q := fun x => ActF x p.Resources.length p.Stocks.length) (c := fun x z => (s_ActivityOk x p.Resources.length p.Stocks.length).bind fun v20 => (bif (!v20) then some true else (s_ActivityIndex p x.Name).bind fun v23 => some (v23 != z))) p.Activities (fun _ => rfl) (fun x xs z => by
   simp only [s_ProjectOk_L1]
   cases s_ActivityOk x p.Resources.length p.Stocks.length <;> rfl) (fun x z _ hx => by
   obtain ⟨v, hv, hf⟩ := k1 x (idxL_lt_len hx).2
   obtain ⟨u, hu⟩ := s_ActivityIndex_ok p x.Name
   rw [hv, hu]
   cases v with
   | false => exact ⟨true, rfl, fun h => by cases h⟩
   | true => exact ⟨_, rfl, fun _ => hf rfl⟩)
 have l2 := chkList (F := s_ProjectOk_L2) (Q := ResF) (c := fun x _ => (s_ResourceOk x).bind fun v => some (!v)) p.Resources (fun _ => rfl) (fun x xs z => by
   simp only [s_ProjectOk_L2]
   cases s_ResourceOk x <;> rfl) (fun x z _ hx => by
   obtain ⟨v, hv, hf⟩ := s_ResourceOk_ok x
   rw [hv]
   exact ⟨_, rfl, fun h => hf (by simpa using h)⟩)
 have l3 := chkList (F := s_ProjectOk_L3) (Q := fun n => 0 ≤ n ∧ n ≤ 100) (c := fun x _ => some (!inR x 0 100)) p.Stocks (fun _ => rfl) (fun x xs z => by simp only [s_ProjectOk_L3, s_l01In_eq, Option.bind_some]) (fun x z _ _ => ⟨_, rfl, fun h => inR_iff.1 (by simpa using h)⟩)
 have l4 := chkList (F := s_ProjectOk_L4 p) (Q := fun k => (0 ≤ k.From ∧ k.From < p.Activities.length) ∧ (0 ≤ k.To ∧ k.To < p.Activities.length) ∧ k.From ≠ k.To ∧ -60 ≤ k.Lag ∧ k.Lag ≤ 60) (c := fun x _ => i_ProjectOk_c1 x p) p.Links (fun _ => rfl) (fun x xs z => by
   rw [← linkOk_s]
   simp only [s_ProjectOk_L4, s_l01In_eq, Option.bind_some]) (fun x z _ _ => ⟨_, linkOk_c p x, fun h => by
   have h : (inR x.From 0 (W ((p.Activities.length : Int) - 1)) && (inR x.To 0 (W ((p.Activities.length : Int) - 1)) && (x.From != x.To && inR x.Lag (-60) 60))) = true := by simpa using h
   simp only [Bool.and_eq_true] at h
   have h1 := inR_iff.1 h.1
   have h2 := inR_iff.1 h.2.1
   have h4 := inR_iff.1 h.2.2.2
   have h3 : x.From ≠ x.To := by simpa using h.2.2.1
   rw [W_of (by omega)] at h1 h2
   exact ⟨by omega, by omega, h3, h4⟩⟩)
 rcases l1 with h | ⟨h, q1⟩
 ·exact ⟨false, by simp only [h, sumBind, Option.bind_some, Sum.elim_inr], fun h => by cases h⟩
 simp only [h, sumBind, Option.bind_some, Sum.elim_inl]
 rcases l2 with h | ⟨h, q2⟩
 ·exact ⟨false, by simp only [h, Option.bind_some, Sum.elim_inr], fun h => by cases h⟩
 simp only [h, Option.bind_some, Sum.elim_inl]
 rcases l3 with h | ⟨h, q3⟩
 ·exact ⟨false, by simp only [h, Option.bind_some, Sum.elim_inr], fun h => by cases h⟩
 simp only [h, Option.bind_some, Sum.elim_inl]
 rcases l4 with h | ⟨h, q4⟩
 ·exact ⟨false, by simp only [h, Option.bind_some, Sum.elim_inr], fun h => by cases h⟩
 simp only [h, Option.bind_some, Sum.elim_inl]
 exact ⟨true, rfl, fun _ => ⟨hd, by omega, by omega, by omega, by omega, q1, q2, q3, q4⟩⟩
theorem names_of {p : TProject} {M : Nat} (h : bTProject M p) (hM : M ≤ 9223372036854775807) : ∀ x ∈ p.Activities, x.Name.size ≤ 9223372036854775807 := by
 unfold bTProject b_l_eTActivity at h
 intro x hx
 have := h.1.2 x hx
 unfold bTActivity b_str at this
 omega
theorem s_l11Sign_eq (a b : Int) : s_l11Sign a b = some (sgn a b) := by
 unfold s_l11Sign sgn
 cases decide (a < b) <;> cases decide (b < a) <;> rfl
theorem cmp_Compare_eq (a b : Int) : cmp_Compare_int a b = some (sgn a b) := by
 simp only [cmp_Compare_int, cmp_isNaN_int, Option.bind_some, int_bne, decide_true, Bool.not_true, cond_false, sgn]
 cases decide (a < b) <;> cases decide (b < a) <;> rfl
theorem sgn_zero {a b : Int} : sgn a b = 0 ↔ a = b := by
 unfold sgn
 by_cases h1 : a < b
 ·simp [h1]; omega
 ·by_cases h2 : b < a
  ·simp [h1, h2]; omega
  ·simp [h1, h2]; omega
theorem sgn_self (a : Int) : sgn a a = 0 := sgn_zero.2 rfl
theorem s_CompareLiterals_eq (a b : TLiteral) : s_CompareLiterals a b = some (cmpLit a b) := by
 simp only [s_CompareLiterals, s_l11Sign_eq, Option.bind_some, int_bne, cmpLit]
 by_cases h1 : a.Activity = b.Activity <;> by_cases h2 : a.Kind = b.Kind <;> simp [h1, h2]
theorem i_CompareLiterals_eq (a b : TLiteral) : i_CompareLiterals a b = some (cmpLit a b) := by
 simp only [i_CompareLiterals, cmp_Compare_eq, Option.bind_some, cmp_Or_int, cmp_Or_int_L1, int_bne, cmpLit]
 by_cases h1 : a.Activity = b.Activity
 ·by_cases h2 : a.Kind = b.Kind
  ·by_cases h3 : a.Value = b.Value
   ·simp [sgn_self, h1, h2, h3, sumBind]
   ·have h4 : sgn a.Value b.Value ≠ 0 := fun e => h3 (sgn_zero.1 e)
    simp [sgn_self, h4, h1, h2, sumBind]
  ·have h4 : sgn a.Kind b.Kind ≠ 0 := fun e => h2 (sgn_zero.1 e)
   simp [sgn_self, h4, h1, h2, sumBind]
 ·have h4 : sgn a.Activity b.Activity ≠ 0 := fun e => h1 (sgn_zero.1 e)
  simp [h4, h1, sumBind]
theorem LiteralOk_eq (p : TProject) (l : TLiteral) : i_LiteralOk p l = s_LiteralOk p l := by simp only [i_LiteralOk, s_LiteralOk, ProjectOk_eq, hasActivity_eq, i_within_eq, s_l01In_eq]
theorem s_LiteralOk_ok (p : TProject) (hs : ∀ x ∈ p.Activities, x.Name.size ≤ 9223372036854775807) (l : TLiteral) : ∃ v, s_LiteralOk p l = some v ∧ (v = true → ProjF p ∧ 0 ≤ l.Activity ∧ l.Activity < p.Activities.length) := by
 obtain ⟨v, hv, hf⟩ := s_ProjectOk_ok p hs
 simp only [s_LiteralOk, hv, s_l01In_eq, Option.bind_some, cond_some]
 cases v with
 | false => exact ⟨false, rfl, fun h => by cases h⟩
 | true =>
  cases hr : inR l.Activity 0 (W ((p.Activities.length : Int) - 1)) with
  | false => exact ⟨false, rfl, fun h => by cases h⟩
  | true =>
   obtain ⟨a, ha, _⟩ := idx_of_inR hr
   have hq : ProjF p ∧ 0 ≤ l.Activity ∧ l.Activity < p.Activities.length := ⟨hf rfl, (idxL_spec ha).1, (idxL_lt_len ha).1⟩
   simp only [ha, Option.bind_some, Bool.not_true, cond_false, cond_true, cond_some]
   exact ⟨_, rfl, fun _ => hq⟩
theorem ClauseOk_L1 (p : TProject) (b : List TLiteral) : ∀ (xs : List TLiteral) (z : Int), i_ClauseOk_L1 p b xs z = s_ClauseOk_L1 p b xs z
 | [], z => rfl
 | x :: xs, z => by simp only [i_ClauseOk_L1, s_ClauseOk_L1, LiteralOk_eq, i_CompareLiterals_eq, s_CompareLiterals_eq, ClauseOk_L1 p b xs]
theorem ClauseOk_eq (p : TProject) (b : List TLiteral) : i_ClauseOk p b = s_ClauseOk p b := by simp only [i_ClauseOk, s_ClauseOk, ClauseOk_L1]
theorem s_ClauseOk_ok (p : TProject) (hs : ∀ x ∈ p.Activities, x.Name.size ≤ 9223372036854775807) (b : List TLiteral) : ∃ v, s_ClauseOk p b = some v ∧ (v = true → b.length ≤ 24 ∧ ∀ l ∈ b, s_LiteralOk p l = some true) := by
 rcases chkList (F := s_ClauseOk_L1 p b) (Q := fun l => s_LiteralOk p l = some true) (c := fun x z => (s_LiteralOk p x).bind fun v => (bif (!v) then some true else (bif (decide (0 < z)) then (idxL b (z - 1)).bind fun y => some (decide (0 ≤ cmpLit y x)) else some false))) b (fun _ => rfl) (fun x xs z => by
   simp only [s_ClauseOk_L1, s_CompareLiterals_eq, Option.bind_some]
   cases s_LiteralOk p x <;> rfl) (fun x z hz hx => by
   obtain ⟨v, hv, _⟩ := s_LiteralOk_ok p hs x
   rw [hv, Option.bind_some]
   cases v with
   | false => exact ⟨true, rfl, fun h => by cases h⟩
   | true =>
    by_cases h0 : 0 < z
    ·obtain ⟨y, hy⟩ := idxL_prev hx h0
     rw [show decide (0 < z) = true by simpa using h0, hy]
     exact ⟨_, rfl, fun _ => rfl⟩
    ·rw [show decide (0 < z) = false by simpa using h0]
     exact ⟨_, rfl, fun _ => rfl⟩) with h | ⟨h, hQ⟩
 ·exact ⟨false, by simp only [s_ClauseOk, h, sumBind, Option.bind_some, Sum.elim_inr], fun h => by cases h⟩
 ·exact ⟨_, by simp only [s_ClauseOk, h, sumBind, Option.bind_some, Sum.elim_inl]; rfl, fun he => ⟨by have := of_decide_eq_true he; omega, hQ⟩⟩
theorem catS_ok {a b : ByteArray} (h : a.size + b.size ≤ 9223372036854775807) : catS a b = some (a ++ b) := by
 unfold catS; rw [if_pos h]
theorem ba_ext {a b : ByteArray} (h : a.data.toList = b.data.toList) : a = b := by
 cases a; cases b
 simp at h
 subst h; rfl
theorem ba_list (a b : ByteArray) : (a ++ b).data.toList = a.data.toList ++ b.data.toList := by simp
theorem ba_size (a : ByteArray) : a.size = a.data.toList.length := (Array.length_toList (xs := a.data)).symm
theorem appL_ok' {α : Type} {a b : List α} (h : a.length + b.length ≤ 1099511627776) : appL a b = some (a ++ b) := by
 unfold appL; rw [if_pos h]
theorem strB_one (n : Int) : (strB [n]).data.toList = [UInt8.ofNat n.toNat] := rfl
theorem dec_step {n : Int} (h0 : 9 < n) : Lib.decDigits n.toNat = Lib.decDigits (n / 10).toNat ++ [UInt8.ofNat (48 + n % 10).toNat] := by
 rw [Lib.decDigits, dif_neg (by omega)]
 have e1 : n.toNat / 10 = (n / 10).toNat := by omega
 have e2 : 48 + n.toNat % 10 = (48 + n % 10).toNat := by omega
 rw [e1, e2]
theorem dec_last {n : Int} (h0 : 0 ≤ n) (h1 : n ≤ 9) : Lib.decDigits n.toNat = [UInt8.ofNat (48 + n).toNat] := by
 rw [Lib.decDigits, dif_pos (by omega)]
 have e2 : 48 + n.toNat = (48 + n).toNat := by omega
 rw [e2]
theorem u8_dig {n : Int} (h0 : 0 ≤ n) (h1 : n ≤ 9) : IntKind.u8.wrap (W (48 + n)) = 48 + n := by
 rw [W_of ⟨by omega, by omega⟩, IntKind.wrap_u8]
 omega
theorem fmt_L1 : ∀ (fuel : Nat) (n : Int) (s : ByteArray), n.toNat < fuel → 0 ≤ n → s.size + n.toNat ≤ 1000000000 →
  ∃ m t, s_FormatInt_L1 fuel n s = some (m, t) ∧ 0 ≤ m ∧ m ≤ 9 ∧ UInt8.ofNat (48 + m).toNat :: t.data.toList = Lib.decDigits n.toNat ++ s.data.toList ∧ t.size ≤ s.size + n.toNat
 | 0, n, s, h, _, _ => absurd h (Nat.not_lt_zero _)
 | fuel + 1, n, s, hf, h0, hs => by
  simp only [s_FormatInt_L1]
  by_cases h : 9 < n
  ·have e1 : n.tmod 10 = n % 10 := Int.tmod_eq_emod_of_nonneg h0
   have e2 : n.tdiv 10 = n / 10 := Int.tdiv_eq_ediv_of_nonneg h0
   have h1 := strB_one (48 + n % 10)
   have hsz : (strB [48 + n % 10]).size = 1 := by rw [ba_size, h1]; rfl
   rw [decide_eq_true h, cond_true, e1, e2, u8_dig (by omega) (by omega), catS_ok (by omega), Option.bind_some, W_of ⟨by omega, by omega⟩]
   have hsz2 : (strB [48 + n % 10] ++ s).size = 1 + s.size := by rw [ba_size, ba_list, List.length_append, ← ba_size, ← ba_size, hsz]
   obtain ⟨m, t, k1, k2, k3, k4, k5⟩ := fmt_L1 fuel (n / 10) (strB [48 + n % 10] ++ s) (by omega) (by omega) (by omega)
   refine ⟨m, t, k1, k2, k3, ?_, by omega⟩
   rw [k4, dec_step h, ba_list, h1]
   simp
  ·rw [decide_eq_false h, cond_false]
   exact ⟨n, s, rfl, h0, by omega, by rw [dec_last h0 (by omega)]; rfl, by omega⟩
theorem fmt_pos (rec : Int → Option ByteArray) (n : Int) (h0 : 0 ≤ n) (h1 : n ≤ 100000) : s_FormatInt_S rec n = some ⟨(Lib.decDigits n.toNat).toArray⟩ ∧ (Lib.decDigits n.toNat).length ≤ 100001 := by
 obtain ⟨m, t, k1, k2, k3, k4, k5⟩ := fmt_L1 F0 n ByteArray.empty (by have := F0_gt; omega) h0 (by simp; omega)
 have hin : inR n (-100000) 100000 = true := inR_iff.2 ⟨by omega, h1⟩
 have hs := strB_one (48 + m)
 have hsz : (strB [48 + m]).size = 1 := by rw [ba_size, hs]; rfl
 have h5 : t.size ≤ n.toNat := by simpa using k5
 have e : strB [48 + m] ++ t = ⟨(Lib.decDigits n.toNat).toArray⟩ := by
  apply ba_ext
  rw [ba_list, hs]
  have : (ByteArray.empty).data.toList = [] := rfl
  rw [this, List.append_nil] at k4
  simpa using k4
 refine ⟨?_, ?_⟩
 ·simp only [s_FormatInt_S, s_l01In_eq, hin, Option.bind_some, Bool.not_true, cond_false, show decide (n < 0) = false from decide_eq_false (by omega), k1, u8_dig k2 k3]
  rw [catS_ok (by omega), Option.bind_some, e]
 ·have : (Lib.decDigits n.toNat).length = (strB [48 + m] ++ t).size := by rw [e]; rfl
  rw [this, ba_size, ba_list, List.length_append, ← ba_size, ← ba_size, hsz]
  omega
theorem F0_two : ∃ k, F0 = k + 2 := ⟨F0 - 2, by have := F0_gt; omega⟩
theorem fmt_eq (n : Int) (h0 : -100000 ≤ n) (h1 : n ≤ 100000) : ∃ s, s_FormatInt n = some s ∧ i_FormatInt n = some s ∧ s.size ≤ 100002 := by
 have hin : inR n (-100000) 100000 = true := inR_iff.2 ⟨by omega, h1⟩
 obtain ⟨k, hk⟩ := F0_two
 have hi : i_FormatInt n = some ⟨(Lib.itoa n).toArray⟩ := by
  simp only [i_FormatInt, i_within_eq, hin, strconv_Itoa, itoaL, Option.bind_some, Bool.not_true, cond_false]
  rw [if_pos ⟨by omega, by omega⟩, Option.bind_some]
 refine ⟨⟨(Lib.itoa n).toArray⟩, ?_, hi, ?_⟩
 ·unfold s_FormatInt
  rw [hk]
  by_cases h : n < 0
  ·have hr : s_FormatInt_R (k + 1) (W (0 - n)) = some ⟨(Lib.decDigits (0 - n).toNat).toArray⟩ := by
    rw [W_of ⟨by omega, by omega⟩]
    exact (fmt_pos _ (0 - n) (by omega) (by omega)).1
   show s_FormatInt_S (s_FormatInt_R (k + 1)) n = _
   simp only [s_FormatInt_S, s_l01In_eq, hin, Option.bind_some, Bool.not_true, cond_false, cond_true, show decide (n < 0) = true from decide_eq_true h, hr]
   have hl := (fmt_pos (s_FormatInt_R k) (0 - n) (by omega) (by omega)).2
   rw [Int.zero_sub] at hl
   rw [catS_ok (by simp [ByteArray.size]; omega), Option.bind_some]
   congr 1
   apply ba_ext
   rw [ba_list]
   unfold Lib.itoa
   rw [if_pos h, show n.natAbs = (0 - n).toNat by omega]
   rfl
  ·show s_FormatInt_S (s_FormatInt_R (k + 1)) n = _
   rw [(fmt_pos _ n (by omega) h1).1]
   unfold Lib.itoa
   rw [if_neg h]
 ·unfold Lib.itoa
  split
  ·have hl := (fmt_pos (s_FormatInt_R 0) (0 - n) (by omega) (by omega)).2
   rw [Int.zero_sub] at hl
   rw [show n.natAbs = (-n).toNat by omega]
   simp [ByteArray.size]; omega
  ·have hl := (fmt_pos (s_FormatInt_R 0) n (by omega) h1).2
   simp [ByteArray.size]; omega
theorem join_L1 (by_ : ByteArray) : ∀ (xs : List ByteArray) (z : Int) (s : ByteArray) (B : Nat), 0 < z → (∀ x ∈ xs, x.size ≤ 10000000) → by_.size ≤ 10 → s.size + 20000000 * xs.length ≤ B → B ≤ 1000000000000 →
  ∃ t, s_Join_L1 by_ xs z s = some t ∧ t.data.toList = s.data.toList ++ Lib.joinTail by_.data.toList (xs.map (·.data.toList)) ∧ t.size ≤ B
 | [], z, s, B, _, _, _, hs, _ => ⟨s, rfl, by simp [Lib.joinTail], by simpa using hs⟩
 | x :: xs, z, s, B, hz, hx, hb, hs, hB => by
  simp only [List.length_cons] at hs
  have hx0 := hx x (List.mem_cons_self ..)
  have e1 : (s ++ by_).size = s.size + by_.size := by rw [ba_size, ba_list, List.length_append, ← ba_size, ← ba_size]
  have e2 : (s ++ by_ ++ x).size = s.size + by_.size + x.size := by rw [ba_size, ba_list, List.length_append, ← ba_size, ← ba_size, e1]
  obtain ⟨t, h1, h2, h3⟩ := join_L1 by_ xs (z + 1) (s ++ by_ ++ x) B (by omega) (fun y hy => hx y (List.mem_cons_of_mem _ hy)) hb (by omega) hB
  refine ⟨t, ?_, ?_, h3⟩
  ·simp only [s_Join_L1, show decide (0 < z) = true from decide_eq_true hz, cond_true]
   rw [catS_ok (by omega), Option.bind_some, catS_ok (by omega), Option.bind_some, h1]
  ·rw [h2, ba_list, ba_list]
   simp [Lib.joinTail]
theorem join_eq (xs : List ByteArray) (by_ : ByteArray) (hx : ∀ x ∈ xs, x.size ≤ 10000000) (hb : by_.size ≤ 10) (hl : xs.length ≤ 30) : ∃ s, s_Join xs by_ = some s ∧ strings_Join xs by_ = some s := by
 have key : ∃ s, s_Join xs by_ = some s ∧ s = joinB xs by_ ∧ s.size ≤ 100000000000 := by
  cases xs with
  | nil => exact ⟨ByteArray.empty, rfl, by apply ba_ext; simp [joinB, Lib.join_nil], by simp⟩
  | cons x xs =>
   simp only [List.length_cons] at hl
   have hx0 := hx x (List.mem_cons_self ..)
   have e0 : (ByteArray.empty ++ x).size = x.size := by rw [ba_size, ba_list, ba_size x]; rfl
   obtain ⟨t, h1, h2, h3⟩ := join_L1 by_ xs (0 + 1) (ByteArray.empty ++ x) 1000000000 (by omega) (fun y hy => hx y (List.mem_cons_of_mem _ hy)) hb (by omega) (by omega)
   refine ⟨t, ?_, ?_, by omega⟩
   ·simp only [s_Join, s_Join_L1, show decide ((0 : Int) < 0) = false from rfl, cond_false]
    rw [catS_ok (by simp; omega), Option.bind_some, h1, Option.bind_some]
   ·apply ba_ext
    rw [h2, ba_list]
    simp [joinB, Lib.join_cons]
 obtain ⟨s, h1, h2, h3⟩ := key
 refine ⟨s, h1, ?_⟩
 unfold strings_Join joinL
 rw [if_pos ⟨by omega, by rw [← h2]; omega⟩, h2]
theorem names1 {p : TProject} {M : Nat} (h : bTProject M p) : ∀ x ∈ p.Activities, x.Name.size ≤ M := by
 unfold bTProject b_l_eTActivity at h
 intro x hx
 have := h.1.2 x hx
 unfold bTActivity b_str at this
 omega
theorem lit_facts (p : TProject) (l : TLiteral) (hs : ∀ x ∈ p.Activities, x.Name.size ≤ 9223372036854775807) (h : s_LiteralOk p l = some true) : ∃ a, idxL p.Activities l.Activity = some a ∧ a ∈ p.Activities ∧ (l.Kind = 1 ∨ l.Kind = 2 ∨ l.Kind = 3 ∨ l.Kind = 4) ∧ -100000 ≤ l.Value ∧ l.Value ≤ 100000 := by
 obtain ⟨v, hv, hf⟩ := s_LiteralOk_ok p hs l
 rw [h] at hv; cases hv
 obtain ⟨F, h0, h1⟩ := hf rfl
 obtain ⟨a, ha, hm⟩ := idxL_some (l := p.Activities) h0 (by omega)
 have hlen := (F.acts a hm).2.1
 obtain ⟨u, hu, _⟩ := s_ProjectOk_ok p hs
 refine ⟨a, ha, hm, ?_⟩
 simp only [s_LiteralOk, hu, s_l01In_eq, Option.bind_some, cond_some] at h
 cases u with
 | false => simp at h
 | true =>
  cases hr : inR l.Activity 0 (W ((p.Activities.length : Int) - 1)) with
  | false => simp [hr] at h
  | true =>
   simp only [hr, ha, Option.bind_some, Bool.not_true, cond_false] at h
   by_cases k1 : l.Kind = 1
   ·simp only [k1, beq_self_eq_true, cond_true, Option.bind_some] at h
    have := inR_iff.1 (Option.some.inj h)
    exact ⟨.inl k1, by omega, by omega⟩
   ·by_cases k2 : l.Kind = 2
    ·simp only [k2, show ((2 : Int) == 1) = false from rfl, cond_false, beq_self_eq_true, cond_true, Option.bind_some] at h
     have := inR_iff.1 (Option.some.inj h)
     exact ⟨.inr (.inl k2), by omega, by omega⟩
    ·have b1 : (l.Kind == 1) = false := by rw [int_beq]; exact decide_eq_false k1
     have b2 : (l.Kind == 2) = false := by rw [int_beq]; exact decide_eq_false k2
     simp only [b1, b2, cond_false, Option.bind_some] at h
     have key : (l.Kind = 3 ∨ l.Kind = 4) → inR l.Value 0 (W ((a.Modes.length : Int) - 1)) = true → -100000 ≤ l.Value ∧ l.Value ≤ 100000 := fun _ hv => by
      have := inR_iff.1 hv
      have := W_le (n := (a.Modes.length : Int) - 1) (by omega)
      omega
     by_cases k3 : l.Kind = 3
     ·simp only [k3, beq_self_eq_true, cond_true, Option.bind_some] at h
      exact ⟨.inr (.inr (.inl k3)), key (.inl k3) (Option.some.inj h)⟩
     ·by_cases k4 : l.Kind = 4
      ·simp only [k4, show ((4 : Int) == 3) = false from rfl, cond_false, beq_self_eq_true, cond_true, Option.bind_some] at h
       exact ⟨.inr (.inr (.inr k4)), key (.inr k4) (Option.some.inj h)⟩
      ·have b3 : (l.Kind == 3) = false := by rw [int_beq]; exact decide_eq_false k3
       have b4 : (l.Kind == 4) = false := by rw [int_beq]; exact decide_eq_false k4
       simp [b3, b4] at h
theorem sign_eq (k : Int) (h : k = 1 ∨ k = 2 ∨ k = 3 ∨ k = 4) : ∃ s, s_LiteralSign k = some s ∧ i_LiteralSign k = some s ∧ s.size ≤ 2 := by
 rcases h with rfl | rfl | rfl | rfl
 ·exact ⟨⟨#[62, 61]⟩, rfl, rfl, by decide⟩
 ·exact ⟨⟨#[60, 61]⟩, rfl, rfl, by decide⟩
 ·exact ⟨⟨#[61]⟩, rfl, rfl, by decide⟩
 ·exact ⟨⟨#[33, 61]⟩, rfl, rfl, by decide⟩
theorem flit_eq (p : TProject) (l : TLiteral) (hp : bTProject 1048576 p) (h : s_LiteralOk p l = some true) : ∃ s, s_FormatLiteral p l = some s ∧ i_FormatLiteral p l = some s ∧ s.size ≤ 10000000 := by
 obtain ⟨a, ha, hm, hk, h0, h1⟩ := lit_facts p l (names_of hp (by omega)) h
 obtain ⟨g, g1, g2, g3⟩ := sign_eq l.Kind hk
 obtain ⟨n, n1, n2, n3⟩ := fmt_eq l.Value h0 h1
 have hn : a.Name.size ≤ 1048576 := names1 hp a hm
 have e1 : (a.Name ++ g).size = a.Name.size + g.size := by rw [ba_size, ba_list, List.length_append, ← ba_size, ← ba_size]
 have e2 : (a.Name ++ g ++ n).size = a.Name.size + g.size + n.size := by rw [ba_size, ba_list, List.length_append, ← ba_size, ← ba_size, e1]
 refine ⟨a.Name ++ g ++ n, ?_, ?_, by omega⟩
 ·simp only [s_FormatLiteral, h, ha, g1, n1, Option.bind_some, Bool.not_true, cond_false]
  rw [catS_ok (by omega), Option.bind_some, catS_ok (by omega), Option.bind_some]
 ·simp only [i_FormatLiteral, LiteralOk_eq, h, ha, g2, n2, Option.bind_some, Bool.not_true, cond_false]
  rw [catS_ok (by omega), Option.bind_some, catS_ok (by omega), Option.bind_some]
theorem fcl_L1 (p : TProject) (hp : bTProject 1048576 p) : ∀ (xs : List TLiteral) (z z' : Int) (a : List ByteArray), (∀ x ∈ xs, s_LiteralOk p x = some true) → a.length + xs.length ≤ 1000 →
  ∃ W, s_FormatClause_L1 p xs z a = some (a ++ W) ∧ i_FormatClause_L1 p xs z' a = some (a ++ W) ∧ W.length = xs.length ∧ ∀ w ∈ W, w.size ≤ 10000000
 | [], z, z', a, _, _ => ⟨[], by simp [s_FormatClause_L1], by simp [i_FormatClause_L1], rfl, by simp⟩
 | x :: xs, z, z', a, h, hl => by
  simp only [List.length_cons] at hl
  obtain ⟨s, s1, s2, s3⟩ := flit_eq p x hp (h x (List.mem_cons_self ..))
  obtain ⟨W, w1, w2, w3, w4⟩ := fcl_L1 p hp xs (z + 1) (z' + 1) (a ++ [s]) (fun y hy => h y (List.mem_cons_of_mem _ hy)) (by simp; omega)
  refine ⟨s :: W, ?_, ?_, by simp [w3], fun w hw => ?_⟩
  ·simp only [s_FormatClause_L1, s1, Option.bind_some]
   rw [appL_ok' (by simp; omega), Option.bind_some, w1]; simp
  ·simp only [i_FormatClause_L1, s2, Option.bind_some]
   rw [appL_ok' (by simp; omega), Option.bind_some, w2]; simp
  ·rcases List.mem_cons.1 hw with e | e
   ·rw [e]; exact s3
   ·exact w4 w e
theorem hasResource_eq (p : TProject) (n : Int) : i_Project_hasResource p n = some (inR n 0 (W ((p.Resources.length : Int) - 1))) := by simp only [i_Project_hasResource, i_within_eq, Option.bind_some]
theorem IsMachine_eq (p : TProject) (r : Int) : i_IsMachine p r = s_IsMachine p r := by simp only [i_IsMachine, s_IsMachine, hasResource_eq, s_l01In_eq]
theorem s_IsMachine_ok (p : TProject) (r : Int) : ∃ v, s_IsMachine p r = some v ∧ (v = true → ∃ rs, idxL p.Resources r = some rs ∧ 0 < rs.Setup.length) := by
 simp only [s_IsMachine, s_l01In_eq, Option.bind_some]
 cases hq : inR r 0 (W ((p.Resources.length : Int) - 1)) with
 | false => exact ⟨false, rfl, fun h => by cases h⟩
 | true =>
  obtain ⟨rs, hr, _⟩ := idx_of_inR hq
  simp only [hr, Option.bind_some, cond_true]
  exact ⟨_, rfl, fun h => ⟨rs, rfl, by simpa using h⟩⟩
theorem hasStock_eq (p : TProject) (n : Int) : i_Project_hasStock p n = some (inR n 0 (W ((p.Stocks.length : Int) - 1))) := by simp only [i_Project_hasStock, i_within_eq, Option.bind_some]
theorem RuleOk_eq (p : TProject) (r : TRule) : i_RuleOk p r = s_RuleOk p r := by simp only [i_RuleOk, s_RuleOk, ProjectOk_eq, i_within_eq, hasActivity_eq, hasResource_eq, i_isTime_eq, IsMachine_eq, hasStock_eq, s_l01In_eq]
theorem s_RuleOk_ok (p : TProject) (hs : ∀ x ∈ p.Activities, x.Name.size ≤ 9223372036854775807) (r : TRule) : ∃ v, s_RuleOk p r = some v ∧ (v = true → s_ProjectOk p = some true ∧ RuleF p r) := by
 obtain ⟨v, hv, _⟩ := s_ProjectOk_ok p hs
 obtain ⟨m, hm, _⟩ := s_IsMachine_ok p r.A
 simp only [s_RuleOk, hv, hm, s_l01In_eq, Option.bind_some, int_beq]
 cases v with
 | false => exact ⟨false, rfl, fun h => by cases h⟩
 | true =>
  simp only [Bool.not_true, cond_false]
  by_cases h1 : r.Kind = 1
  ·simp only [h1, decide_true, cond_true]
   cases q : inR r.A 0 (W ((p.Links.length : Int) - 1)) with
   | false => exact ⟨false, rfl, fun h => by cases h⟩
   | true =>
    have f : RuleF p r := ⟨fun _ => q, by omega, by omega, by omega, by omega, by omega⟩
    cases decide (r.B = 0) <;> exact ⟨_, rfl, fun _ => ⟨by trivial, f⟩⟩
  ·by_cases h2 : r.Kind = 2
   ·simp only [h2, decide_true, cond_true]
    cases q : inR r.A 0 (W ((p.Activities.length : Int) - 1)) with
    | false => exact ⟨false, rfl, fun h => by cases h⟩
    | true =>
     have f : RuleF p r := ⟨by omega, fun _ => q, by omega, by omega, by omega, by omega⟩
     cases decide (r.B = 0) <;> exact ⟨_, rfl, fun _ => ⟨by trivial, f⟩⟩
   ·by_cases h3 : r.Kind = 3
    ·simp only [h3, decide_true, cond_true]
     cases q : inR r.A 0 (W ((p.Resources.length : Int) - 1)) with
     | false => exact ⟨false, rfl, fun h => by cases h⟩
     | true =>
      have f : RuleF p r := ⟨by omega, by omega, fun _ => q, by omega, by omega, by omega⟩
      cases inR r.B 0 60 <;> exact ⟨_, rfl, fun _ => ⟨by trivial, f⟩⟩
    ·by_cases h4 : r.Kind = 4
     ·simp only [h4, decide_true, cond_true]
      cases q : inR r.A 0 (W ((p.Resources.length : Int) - 1)) with
      | false => exact ⟨false, rfl, fun h => by cases h⟩
      | true => cases q2 : inR r.B 0 60 with
       | false => exact ⟨false, rfl, fun h => by cases h⟩
       | true => cases q3 : inR r.C 0 60 with
        | false => exact ⟨false, rfl, fun h => by cases h⟩
        | true => exact ⟨_, rfl, fun h => ⟨by trivial, ⟨by omega, by omega, by omega, fun _ => ⟨q, q2, q3, by simpa using h⟩, by omega, by omega⟩⟩⟩
     ·by_cases h5 : r.Kind = 5
      ·simp only [h5, decide_true, cond_true]
       cases m with
       | false => exact ⟨false, rfl, fun h => by cases h⟩
       | true => cases q2 : inR r.B 0 (W ((p.Activities.length : Int) - 1)) with
        | false => exact ⟨false, rfl, fun h => by cases h⟩
        | true => cases q3 : inR r.C 0 (W ((p.Activities.length : Int) - 1)) with
         | false => exact ⟨false, rfl, fun h => by cases h⟩
         | true => exact ⟨_, rfl, fun h => ⟨by trivial, ⟨by omega, by omega, by omega, by omega, fun _ => ⟨hm, q2, q3, by simpa using h⟩, by omega⟩⟩⟩
      ·by_cases h6 : r.Kind = 6
       ·simp only [h6, decide_true, cond_true]
        cases q : inR r.A 0 (W ((p.Stocks.length : Int) - 1)) with
        | false => exact ⟨false, rfl, fun h => by cases h⟩
        | true =>
         have f : RuleF p r := ⟨by omega, by omega, by omega, by omega, by omega, fun _ _ _ _ _ => q⟩
         cases decide (r.B = 0) <;> exact ⟨_, rfl, fun _ => ⟨by trivial, f⟩⟩
       ·simp only [h1, h2, h3, h4, h5, h6, decide_false, cond_false]
        exact ⟨false, rfl, fun h => by cases h⟩
theorem beq_kind {a k : Int} (h : a ≠ k) : (a == k) = false := by rw [int_beq]; exact decide_eq_false h
theorem decb_TRule : ∀ p, Val (.agg [.int, .int, .int, .int]) p → ∃ x : TRule, p = eTRule x ∧ True := fun p h => by
 obtain ⟨zs0, rfl, hv0⟩ := h
 obtain ⟨x0, zs1, rfl, h0, hv1⟩ := vals_cons hv0
 obtain ⟨y0, rfl, b0⟩ := decb_int _ h0
 obtain ⟨x1, zs2, rfl, h1, hv2⟩ := vals_cons hv1
 obtain ⟨y1, rfl, b1⟩ := decb_int _ h1
 obtain ⟨x2, zs3, rfl, h2, hv3⟩ := vals_cons hv2
 obtain ⟨y2, rfl, b2⟩ := decb_int _ h2
 obtain ⟨x3, zs4, rfl, h3, hv4⟩ := vals_cons hv3
 obtain ⟨y3, rfl, b3⟩ := decb_int _ h3
 obtain rfl := vals_nil hv4
 exact ⟨⟨y0, y1, y2, y3⟩, rfl, trivial⟩
theorem kindRule (p : TProject) (r : TRule) (h : s_RuleOk p r = some true) : r.Kind = 1 ∨ r.Kind = 2 ∨ r.Kind = 3 ∨ r.Kind = 4 ∨ r.Kind = 5 ∨ r.Kind = 6 := by
 apply Classical.byContradiction
 intro hk
 have h1 : r.Kind ≠ 1 := by omega
 have h2 : r.Kind ≠ 2 := by omega
 have h3 : r.Kind ≠ 3 := by omega
 have h4 : r.Kind ≠ 4 := by omega
 have h5 : r.Kind ≠ 5 := by omega
 have h6 : r.Kind ≠ 6 := by omega
 simp only [s_RuleOk, beq_kind h1, beq_kind h2, beq_kind h3, beq_kind h4, beq_kind h5, beq_kind h6, cond_false] at h
 cases hp : s_ProjectOk p with
 | none => rw [hp] at h; cases h
 | some v => rw [hp] at h; cases v <;> simp at h
theorem decb_TLine : ∀ p, Val (.agg [.int, .agg [.int, .int, .int, .int], .slice (.agg [.int, .int, .int])]) p → ∃ x : TLine, p = eTLine x ∧ bTLine 9223372036854775807 x := fun p h => by
 obtain ⟨zs0, rfl, hv0⟩ := h
 obtain ⟨x0, zs1, rfl, h0, hv1⟩ := vals_cons hv0
 obtain ⟨y0, rfl, b0⟩ := decb_int _ h0
 obtain ⟨x1, zs2, rfl, h1, hv2⟩ := vals_cons hv1
 obtain ⟨y1, rfl, b1⟩ := decb_TRule _ h1
 obtain ⟨x2, zs3, rfl, h2, hv3⟩ := vals_cons hv2
 obtain ⟨y2, rfl, b2⟩ := decb_l_eTLiteral _ h2
 obtain rfl := vals_nil hv3
 exact ⟨⟨y0, y1, y2⟩, rfl, ⟨b2, trivial⟩⟩
theorem decb_l_eTLine : ∀ p, Val (.slice (.agg [.int, .agg [.int, .int, .int, .int], .slice (.agg [.int, .int, .int])])) p → ∃ x : List TLine, p = .slice (x.map eTLine) ∧ b_l_eTLine 9223372036854775807 x := fun p h => by
 obtain ⟨l, e, h1, h2⟩ := dec_slice decb_TLine h
 exact ⟨l, e, h1, h2⟩
theorem ba_beq_ne {a b : ByteArray} (h : a ≠ b) : (a == b) = false := by rw [ba_beq]; exact decide_eq_false h
theorem replK (c d : UInt8) : ∀ s : List UInt8, Lib.replaceK [c] [d] (Lib.count s [c]) s = s.map fun x => if x = c then d else x
 | [] => by simp [Lib.count, Lib.countFrom, Lib.index, Lib.replaceK]
 | b :: l => by
  have ih := replK c d l
  by_cases h : b = c
  ·subst h
   rw [Lib.count_cons_eq, Nat.add_comm, Lib.replaceK_hit [b] [d] _ (b :: l) 0 (by simp [Lib.index, List.isPrefixOf])]
   simpa using ih
  ·rw [Lib.count_cons_ne b c l h]
   have key : ∀ k, Lib.replaceK [c] [d] k (b :: l) = b :: Lib.replaceK [c] [d] k l := by
    intro k
    cases k with
    | zero => rfl
    | succ k =>
     have hix : Lib.index (b :: l) [c] = if Lib.index l [c] == -1 then -1 else Lib.index l [c] + 1 := by
      have hp : ([c] : List UInt8).isPrefixOf (b :: l) = false := by simp [List.isPrefixOf, Ne.symm h]
      rw [Lib.index, hp]; simp
     by_cases hm : Lib.index l [c] = -1
     ·rw [Lib.replaceK, Lib.replaceK, hix, hm]; simp
     ·have hge := Lib.index_ge l [c]
      obtain ⟨i, hi⟩ : ∃ i : Nat, Lib.index l [c] = i := ⟨(Lib.index l [c]).toNat, by omega⟩
      rw [Lib.replaceK_hit [c] [d] k l i hi, Lib.replaceK_hit [c] [d] k (b :: l) (i + 1) (by
       rw [hix, hi]
       have : ((i : Int) == -1) = false := by simp
       rw [this]; simp)]
      simp
   rw [key, ih]; simp [h]
theorem replAll (c d : UInt8) (s : List UInt8) (hcd : c ≠ d) : Lib.replaceAll s [c] [d] = s.map fun x => if x = c then d else x := by
 unfold Lib.replaceAll Lib.replace
 rw [if_neg (by simp [hcd])]
 have : Lib.replaceNum s [c] (-1) = Lib.count s [c] := by unfold Lib.replaceNum; rw [if_pos (.inl (by omega))]
 rw [this, replK]
theorem strB_fold : ∀ (xs : List Int) (r : ByteArray), (xs.foldl (fun r n => r.push (UInt8.ofNat n.toNat)) r).data.toList = r.data.toList ++ xs.map fun n => UInt8.ofNat n.toNat
 | [], r => by simp
 | x :: xs, r => by
  rw [List.foldl_cons, strB_fold xs]
  have : (r.push (UInt8.ofNat x.toNat)).data.toList = r.data.toList ++ [UInt8.ofNat x.toNat] := by
   show (r.data.push _).toList = _
   simp
  rw [this]; simp
theorem strB_list (xs : List Int) : (strB xs).data.toList = xs.map fun n => UInt8.ofNat n.toNat := by
 unfold strB
 rw [strB_fold]
 rfl
theorem swap_L1 (v1 : List Int) (hv : v1.length ≤ 140737488355328) : ∀ (fuel : Nat) (z : Nat) (a : List Int), v1.length - z < fuel → z ≤ v1.length → a.length = v1.length → s_l21Swap_L1 32 44 v1 fuel z a = some (a.take z ++ (a.drop z).map fun x => if x = 32 then 44 else x)
 | 0, z, a, h, _, _ => absurd h (Nat.not_lt_zero _)
 | fuel + 1, z, a, hf, hz, ha => by
  rw [s_l21Swap_L1]
  by_cases h : (z : Int) < (v1.length : Int)
  ·have hlt : z < a.length := by omega
   rw [decide_eq_true h, cond_true, idxL_ofNat (List.getElem?_eq_getElem hlt), Option.bind_some, W_of ⟨by omega, by omega⟩]
   have e1 : (z : Int) + 1 = ((z + 1 : Nat) : Int) := by omega
   have hd : a.drop z = a[z] :: a.drop (z + 1) := (List.getElem_cons_drop hlt).symm
   rw [e1]
   by_cases hx : a[z] = 32
   ·rw [show (a[z] == (32 : Int)) = true by simp [hx], cond_true]
    have ih := swap_L1 v1 hv fuel (z + 1) (setL a z 44) (by omega) (by omega) (by simp [setL, ha])
    rw [ih, hd]
    have e2 : setL a (z : Int) 44 = a.set z 44 := by simp [setL]
    rw [e2]
    congr 1
    rw [List.drop_set_of_lt (by omega)]
    have e3 : (a.set z 44).take (z + 1) = a.take z ++ [44] := by
     rw [List.take_set, List.take_succ_eq_append_getElem hlt, List.set_append_right _ _ (by simp; omega)]
     have : z - (List.take z a).length = 0 := by simp; omega
     rw [this]; rfl
    rw [e3]
    simp [hx]
   ·rw [show (a[z] == (32 : Int)) = false by simp [hx], cond_false]
    have ih := swap_L1 v1 hv fuel (z + 1) a (by omega) (by omega) ha
    rw [ih, hd, List.take_succ_eq_append_getElem hlt, List.map_cons, if_neg hx, List.append_assoc]
    rfl
  ·have : z = v1.length := by omega
   rw [decide_eq_false h, cond_false, this, ← ha]
   simp
theorem swap_eq (s : ByteArray) (hs : s.size ≤ 1000000000) : ∃ r, s_l21Swap s 32 44 = some r ∧ strings_ReplaceAll s ⟨#[32]⟩ ⟨#[44]⟩ = some r ∧ r.size = s.size := by
 have hl := bytesL_len s
 have h1 := swap_L1 (bytesL s) (by omega) F0 0 (bytesL s) (by have := F0_gt; omega) (by omega) rfl
 rw [List.take_zero, List.drop_zero, List.nil_append] at h1
 have hr : strB ((bytesL s).map fun x => if x = 32 then 44 else x) = replB s ⟨#[32]⟩ ⟨#[44]⟩ := by
  apply ba_ext
  rw [strB_list]
  unfold replB
  show _ = Lib.replaceAll s.data.toList [32] [44]
  rw [replAll 32 44 _ (by decide)]
  unfold bytesL
  rw [List.map_map, List.map_map]
  apply List.map_congr_left
  intro c _
  simp only [Function.comp]
  by_cases hc : c = 32
  ·subst hc; rfl
  ·have : ¬ ((c.toNat : Int) = 32) := fun e => hc (by
    have e2 : c.toNat = 32 := by omega
    have := UInt8.ofNat_toNat (x := c)
    rw [e2] at this
    exact this.symm)
   rw [if_neg this, if_neg hc]
   simp
 have hsz : (replB s ⟨#[32]⟩ ⟨#[44]⟩).size = s.size := by
  rw [ba_size, ba_size s, ← hr, strB_list]
  unfold bytesL
  simp
 refine ⟨replB s ⟨#[32]⟩ ⟨#[44]⟩, ?_, ?_, hsz⟩
 ·unfold s_l21Swap bytesO
  rw [if_pos (by omega), Option.bind_some]
  show Option.bind (s_l21Swap_L1 32 44 (bytesL s) F0 ((0 : Nat) : Int) (bytesL s)) _ = _
  rw [h1, Option.bind_some, hr]
 ·unfold strings_ReplaceAll replL
  have hc : Lib.countB s ⟨#[32]⟩ ≤ s.size := Lib.countB_le ⟨#[32]⟩ (by decide) s.size s (Nat.le_refl _)
  have h1s : (⟨#[44]⟩ : ByteArray).size = 1 := rfl
  rw [if_pos ⟨by omega, by decide, by rw [h1s]; omega⟩]
theorem fmt_any (n : Int) : ∃ s, s_FormatInt n = some s ∧ i_FormatInt n = some s ∧ s.size ≤ 100002 := by
 by_cases h : -100000 ≤ n ∧ n ≤ 100000
 ·exact fmt_eq n h.1 h.2
 ·have hin : inR n (-100000) 100000 = false := by
   cases hq : inR n (-100000) 100000 with
   | false => rfl
   | true => exact absurd (inR_iff.1 hq) h
  obtain ⟨k, hk⟩ := F0_two
  refine ⟨ByteArray.empty, ?_, ?_, by decide⟩
  ·unfold s_FormatInt
   rw [hk]
   show s_FormatInt_S (s_FormatInt_R (k + 1)) n = _
   simp only [s_FormatInt_S, s_l01In_eq, hin, Option.bind_some, Bool.not_false, cond_true]
  ·simp only [i_FormatInt, i_within_eq, hin, Option.bind_some, Bool.not_false, cond_true]
theorem join_sz (xs : List ByteArray) (by_ : ByteArray) (hx : ∀ x ∈ xs, x.size ≤ 10000000) (hb : by_.size ≤ 10) (hl : xs.length ≤ 30) : ∃ s, s_Join xs by_ = some s ∧ strings_Join xs by_ = some s ∧ s.size ≤ 620000000 := by
 obtain ⟨s, h1, h2⟩ := join_eq xs by_ hx hb hl
 refine ⟨s, h1, h2, ?_⟩
 cases xs with
 | nil =>
  have : s = ByteArray.empty := (Option.some.inj h1).symm
  rw [this]; decide
 | cons x xs =>
  simp only [List.length_cons] at hl
  have hx0 := hx x (List.mem_cons_self ..)
  have e0 : (ByteArray.empty ++ x).size = x.size := by rw [ba_size, ba_list, ba_size x]; rfl
  obtain ⟨t, k1, k2, k3⟩ := join_L1 by_ xs (0 + 1) (ByteArray.empty ++ x) 620000000 (by omega) (fun y hy => hx y (List.mem_cons_of_mem _ hy)) hb (by omega) (by omega)
  have : s_Join (x :: xs) by_ = some t := by
   simp only [s_Join, s_Join_L1, show decide ((0 : Int) < 0) = false from rfl, cond_false]
   rw [catS_ok (by simp; omega), Option.bind_some, k1, Option.bind_some]
  rw [this] at h1
  rw [← Option.some.inj h1]; exact k3
theorem clause_sz (p : TProject) (l : List TLiteral) (hp : bTProject 1048576 p) : ∃ v, s_FormatClause p l = some v ∧ i_FormatClause p l = some v ∧ v.size ≤ 620000000 := by
 obtain ⟨v, hv, hf⟩ := s_ClauseOk_ok p (names_of hp (by omega)) l
 simp only [s_FormatClause, i_FormatClause, ClauseOk_eq, hv, Option.bind_some]
 cases v with
 | false => exact ⟨ByteArray.empty, rfl, rfl, by decide⟩
 | true =>
  obtain ⟨h24, hok⟩ := hf rfl
  obtain ⟨W, w1, w2, w3, w4⟩ := fcl_L1 p hp l 0 0 [] hok (by simp; omega)
  rw [List.nil_append] at w1 w2
  obtain ⟨s, j1, j2, j3⟩ := join_sz W ⟨#[32]⟩ w4 (by decide) (by omega)
  simp only [w1, w2, j1, j2, Option.bind_some, Bool.not_true, cond_false, w3]
  cases h0 : ((l.length : Int) == 0) with
  | true => exact ⟨_, rfl, rfl, by decide⟩
  | false => exact ⟨s, rfl, rfl, j3⟩
theorem RuleName_eq (k : Int) : i_RuleName k = s_RuleName k := by simp only [i_RuleName, s_RuleName, i_within_eq, s_l01In_eq]
theorem RuleName_ok (k : Int) : ∃ s, s_RuleName k = some s ∧ s.size ≤ 5 := by
 simp only [s_RuleName, s_l01In_eq, Option.bind_some]
 cases h : inR k 0 6 with
 | false => exact ⟨ByteArray.empty, rfl, by decide⟩
 | true =>
  have := inR_iff.1 h
  simp only [Bool.not_true, cond_false]
  have hk : k = 0 ∨ k = 1 ∨ k = 2 ∨ k = 3 ∨ k = 4 ∨ k = 5 ∨ k = 6 := by omega
  rcases hk with rfl | rfl | rfl | rfl | rfl | rfl | rfl
  ·exact ⟨⟨#[110, 111, 110, 101]⟩, rfl, by decide⟩
  ·exact ⟨⟨#[108, 105, 110, 107]⟩, rfl, by decide⟩
  ·exact ⟨⟨#[101, 110, 100]⟩, rfl, by decide⟩
  ·exact ⟨⟨#[116, 105, 109, 101]⟩, rfl, by decide⟩
  ·exact ⟨⟨#[119, 111, 114, 107]⟩, rfl, by decide⟩
  ·exact ⟨⟨#[112, 97, 105, 114]⟩, rfl, by decide⟩
  ·exact ⟨⟨#[115, 116, 111, 99, 107]⟩, rfl, by decide⟩
theorem RuleName_ne (k : Int) (h : 0 ≤ k ∧ k ≤ 6) : ∃ s, s_RuleName k = some s ∧ s ≠ ByteArray.empty := by
 simp only [s_RuleName, s_l01In_eq, Option.bind_some]
 rw [show inR k 0 6 = true from inR_iff.2 h]
 simp only [Bool.not_true, cond_false]
 have hk : k = 0 ∨ k = 1 ∨ k = 2 ∨ k = 3 ∨ k = 4 ∨ k = 5 ∨ k = 6 := by omega
 rcases hk with rfl | rfl | rfl | rfl | rfl | rfl | rfl
 ·exact ⟨⟨#[110, 111, 110, 101]⟩, rfl, by decide⟩
 ·exact ⟨⟨#[108, 105, 110, 107]⟩, rfl, by decide⟩
 ·exact ⟨⟨#[101, 110, 100]⟩, rfl, by decide⟩
 ·exact ⟨⟨#[116, 105, 109, 101]⟩, rfl, by decide⟩
 ·exact ⟨⟨#[119, 111, 114, 107]⟩, rfl, by decide⟩
 ·exact ⟨⟨#[112, 97, 105, 114]⟩, rfl, by decide⟩
 ·exact ⟨⟨#[115, 116, 111, 99, 107]⟩, rfl, by decide⟩
theorem rule_words (p : TProject) (r : TRule) (hp : bTProject 1048576 p) (h : s_RuleOk p r = some true) : ∃ n0 ws, n0 ≠ ByteArray.empty ∧ s_FormatRule p r = s_Join (n0 :: ws) ⟨#[32]⟩ ∧ i_FormatRule p r = strings_Join (n0 :: ws) ⟨#[32]⟩ ∧ ws.length ≤ 3 ∧ ∀ x ∈ n0 :: ws, x.size ≤ 10000000 := by
 obtain ⟨v, hv, hf⟩ := s_RuleOk_ok p (names_of hp (by omega)) r
 rw [h] at hv; cases hv
 obtain ⟨_, F⟩ := hf rfl
 have hk := kindRule p r h
 obtain ⟨n0, e0, z0⟩ := RuleName_ok r.Kind
 obtain ⟨n0', e0', z0'⟩ := RuleName_ne r.Kind (by omega)
 rw [e0] at e0'; cases e0'
 obtain ⟨a, a1, a2, a3⟩ := fmt_any r.A
 obtain ⟨b, b1, b2, b3⟩ := fmt_any r.B
 obtain ⟨c, c1, c2, c3⟩ := fmt_any r.C
 have name : ∀ z, inR z 0 (W ((p.Activities.length : Int) - 1)) = true → ∃ x, idxL p.Activities z = some x ∧ x.Name.size ≤ 1048576 := fun z hz => by
  have hz := inR_iff.1 hz
  have hw : W ((p.Activities.length : Int) - 1) ≤ (p.Activities.length : Int) - 1 := W_le (by omega)
  obtain ⟨x, hx, hm⟩ := idxL_some (l := p.Activities) hz.1 (by omega)
  exact ⟨x, hx, names1 hp x hm⟩
 have app2 : ∀ x y : List ByteArray, x.length ≤ 4 → y.length ≤ 4 → appL x y = some (x ++ y) := fun x y hx hy => appL_ok' (by omega)
 have sz2 : ∀ ws : List ByteArray, (∀ x ∈ ws, x.size ≤ 10000000) → ∀ x ∈ n0 :: ws, x.size ≤ 10000000 := fun ws hws x hx => by
  rcases List.mem_cons.1 hx with e | e
  ·rw [e]; omega
  ·exact hws x e
 by_cases k2 : r.Kind = 2
 ·have t2 : (r.Kind == 2) = true := by simp [k2]
  obtain ⟨x, hx, hxs⟩ := name r.A (F.k2 k2)
  refine ⟨n0, [x.Name], z0', ?_, ?_, by simp, sz2 _ (by simp; omega)⟩
  ·simp only [s_FormatRule, h, e0, a1, Option.bind_some, Bool.not_true, cond_false, t2, cond_true, hx]
   simp [idxL, setL]
  ·simp only [i_FormatRule, RuleOk_eq, RuleName_eq, h, e0, a2, Option.bind_some, Bool.not_true, cond_false, t2, cond_true, hx]
   simp [idxL, setL]
 have q2 : (r.Kind == 2) = false := by rw [int_beq]; exact decide_eq_false k2
 by_cases k3 : r.Kind = 3
 ·have t3 : (r.Kind == 3) = true := by simp [k3]
  refine ⟨n0, [a, b], z0', ?_, ?_, by simp, sz2 _ (by simp; omega)⟩
  ·simp only [s_FormatRule, h, e0, a1, b1, q2, t3, Option.bind_some, Bool.not_true, cond_false, beq_self_eq_true, cond_true, show ((3 : Int) == 2) = false from rfl]
   rw [app2 _ _ (by simp) (by simp)]; simp
  ·simp only [i_FormatRule, RuleOk_eq, RuleName_eq, h, e0, a2, b2, q2, t3, Option.bind_some, Bool.not_true, cond_false, beq_self_eq_true, cond_true, show ((3 : Int) == 2) = false from rfl]
   rw [app2 _ _ (by simp) (by simp)]; simp
 have q3 : (r.Kind == 3) = false := by rw [int_beq]; exact decide_eq_false k3
 by_cases k4 : r.Kind = 4
 ·have t4 : (r.Kind == 4) = true := by simp [k4]
  refine ⟨n0, [a, b, c], z0', ?_, ?_, by simp, sz2 _ (by simp; omega)⟩
  ·simp only [s_FormatRule, h, e0, a1, b1, c1, q2, q3, t4, Option.bind_some, Bool.not_true, cond_false, beq_self_eq_true, cond_true, show ((4 : Int) == 2) = false from rfl, show ((4 : Int) == 3) = false from rfl]
   rw [app2 _ _ (by simp) (by simp)]; simp
  ·simp only [i_FormatRule, RuleOk_eq, RuleName_eq, h, e0, a2, b2, c2, q2, q3, t4, Option.bind_some, Bool.not_true, cond_false, beq_self_eq_true, cond_true, show ((4 : Int) == 2) = false from rfl, show ((4 : Int) == 3) = false from rfl]
   rw [app2 _ _ (by simp) (by simp)]; simp
 have q4 : (r.Kind == 4) = false := by rw [int_beq]; exact decide_eq_false k4
 by_cases k5 : r.Kind = 5
 ·have t5 : (r.Kind == 5) = true := by simp [k5]
  obtain ⟨_, hB, hC, _⟩ := F.k5 k5
  obtain ⟨x, hx, hxs⟩ := name r.B hB
  obtain ⟨y, hy, hys⟩ := name r.C hC
  refine ⟨n0, [a, x.Name, y.Name], z0', ?_, ?_, by simp, sz2 _ (by simp; omega)⟩
  ·simp only [s_FormatRule, h, e0, a1, hx, hy, q2, q3, q4, t5, Option.bind_some, Bool.not_true, cond_false, beq_self_eq_true, cond_true, show ((5 : Int) == 2) = false from rfl, show ((5 : Int) == 3) = false from rfl, show ((5 : Int) == 4) = false from rfl]
   rw [app2 _ _ (by simp) (by simp)]; simp
  ·simp only [i_FormatRule, RuleOk_eq, RuleName_eq, h, e0, a2, hx, hy, q2, q3, q4, t5, Option.bind_some, Bool.not_true, cond_false, beq_self_eq_true, cond_true, show ((5 : Int) == 2) = false from rfl, show ((5 : Int) == 3) = false from rfl, show ((5 : Int) == 4) = false from rfl]
   rw [app2 _ _ (by simp) (by simp)]; simp
 have q5 : (r.Kind == 5) = false := by rw [int_beq]; exact decide_eq_false k5
 refine ⟨n0, [a], z0', ?_, ?_, by simp, sz2 _ (by simp; omega)⟩
 ·simp only [s_FormatRule, h, e0, a1, q2, q3, q4, q5, Option.bind_some, Bool.not_true, cond_false]
  simp
 ·simp only [i_FormatRule, RuleOk_eq, RuleName_eq, h, e0, a2, q2, q3, q4, q5, Option.bind_some, Bool.not_true, cond_false]
  simp
theorem rule_text (p : TProject) (r : TRule) (hp : bTProject 1048576 p) (h : s_RuleOk p r = some true) : ∃ s, s_FormatRule p r = some s ∧ i_FormatRule p r = some s ∧ s ≠ ByteArray.empty ∧ s.size ≤ 620000000 := by
 obtain ⟨n0, ws, hn, h1, h2, h3, h4⟩ := rule_words p r hp h
 obtain ⟨s, j1, j2, j3⟩ := join_sz (n0 :: ws) ⟨#[32]⟩ h4 (by decide) (by simp; omega)
 refine ⟨s, h1.trans j1, h2.trans j2, ?_, j3⟩
 intro he
 apply hn
 have h5 : joinL (n0 :: ws) ⟨#[32]⟩ = some s := j2
 unfold joinL at h5
 split at h5
 ·have h6 := Option.some.inj h5
  have h7 : (joinB (n0 :: ws) ⟨#[32]⟩).data.toList = [] := by rw [h6, he]; rfl
  unfold joinB at h7
  simp only [List.map_cons, Lib.join_cons] at h7
  have h8 : n0.data.toList = [] := by
   have := congrArg List.length h7
   simp at this
   exact List.eq_nil_of_length_eq_zero (by simpa using this.1)
  exact ba_ext (by rw [h8]; rfl)
 ·cases h5
theorem LineOk_eq (p : TProject) (b : TLine) : i_LineOk p b = s_LineOk p b := by simp only [i_LineOk, s_LineOk, ClauseOk_eq]
theorem LineOk_ok (p : TProject) (b : TLine) (hp : bTProject 1048576 p) : ∃ v, s_LineOk p b = some v ∧ (v = true → b.Kind = 1 ∨ b.Kind = 2) := by
 obtain ⟨v, hv, _⟩ := s_ClauseOk_ok p (names_of hp (by omega)) b.Clause
 simp only [s_LineOk, hv, Option.bind_some]
 cases v with
 | false => exact ⟨false, rfl, fun h => by cases h⟩
 | true =>
  simp only [cond_true]
  by_cases k1 : b.Kind = 1
  ·exact ⟨true, by simp [k1], fun _ => .inl k1⟩
  ·have q1 : (b.Kind == 1) = false := by rw [int_beq]; exact decide_eq_false k1
   by_cases k2 : b.Kind = 2
   ·have t2 : (b.Kind == 2) = true := by simp [k2]
    simp only [q1, t2, cond_false, cond_true, Option.bind_some]
    exact ⟨_, rfl, fun _ => .inr k2⟩
   ·have q2 : (b.Kind == 2) = false := by rw [int_beq]; exact decide_eq_false k2
    exact ⟨false, by simp [q1, q2], fun h => by cases h⟩
theorem cat_sz (a b : ByteArray) : (a ++ b).size = a.size + b.size := by rw [ba_size, ba_list, List.length_append, ← ba_size, ← ba_size]
theorem line_text (p : TProject) (l : TLine) (hp : bTProject 1048576 p) : ∃ s, s_FormatLine p l = some s ∧ i_FormatLine p l = some s ∧ s.size ≤ 2000000000 := by
 obtain ⟨v, hv, hv2⟩ := LineOk_ok p l hp
 obtain ⟨u, hu, _⟩ := s_ProjectOk_ok p (names_of hp (by omega))
 simp only [s_FormatLine, i_FormatLine, LineOk_eq, ProjectOk_eq, hv, hu, Option.bind_some]
 cases v with
 | false => cases u <;> exact ⟨ByteArray.empty, rfl, rfl, by decide⟩
 | true =>
  cases u with
  | false => exact ⟨ByteArray.empty, rfl, rfl, by decide⟩
  | true =>
   obtain ⟨c, c1, c2, c3⟩ := clause_sz p l.Clause hp
   simp only [Bool.not_true, cond_false, Option.bind_some, c1, c2]
   by_cases k2 : l.Kind = 2
   ·have hs : (⟨#[117, 110, 105, 116, 32, 124, 32]⟩ : ByteArray).size = 7 := rfl
    refine ⟨(⟨#[117, 110, 105, 116, 32, 124, 32]⟩ : ByteArray) ++ c, ?_, ?_, by rw [cat_sz]; omega⟩
    ·rw [k2, beq_self_eq_true, cond_true, catS_ok (by omega), Option.bind_some]
    ·rw [k2, beq_self_eq_true, cond_true, catS_ok (by omega), Option.bind_some]
   ·have q2 : (l.Kind == 2) = false := by rw [int_beq]; exact decide_eq_false k2
    rw [q2, cond_false, cond_false]
    obtain ⟨w, hw, _⟩ := s_RuleOk_ok p (names_of hp (by omega)) l.Rule
    have s1 : (⟨#[114, 117, 108, 101, 32]⟩ : ByteArray).size = 5 := rfl
    have s2 : (⟨#[32, 124, 32]⟩ : ByteArray).size = 3 := rfl
    have fin : ∀ t : ByteArray, t.size ≤ 620000000 → ∃ s, ((catS (⟨#[114, 117, 108, 101, 32]⟩ : ByteArray) t).bind fun v19 => (catS v19 (⟨#[32, 124, 32]⟩ : ByteArray)).bind fun v20 => (catS v20 c).bind fun v21 => some v21) = some s ∧ s.size ≤ 2000000000 := fun t ht => by
     have z1 := cat_sz (⟨#[114, 117, 108, 101, 32]⟩ : ByteArray) t
     have z2 := cat_sz ((⟨#[114, 117, 108, 101, 32]⟩ : ByteArray) ++ t) (⟨#[32, 124, 32]⟩ : ByteArray)
     have z3 := cat_sz ((⟨#[114, 117, 108, 101, 32]⟩ : ByteArray) ++ t ++ (⟨#[32, 124, 32]⟩ : ByteArray)) c
     exact ⟨_, by rw [catS_ok (by omega), Option.bind_some, catS_ok (by omega), Option.bind_some, catS_ok (by omega), Option.bind_some], by omega⟩
    cases w with
    | true =>
     obtain ⟨t, t1, t2, t3, t4⟩ := rule_text p l.Rule hp hw
     obtain ⟨x, x1, x2, x3⟩ := swap_eq t (by omega)
     have qe : (t == ByteArray.empty) = false := ba_beq_ne t3
     obtain ⟨s, f1, f2⟩ := fin x (by omega)
     refine ⟨s, ?_, ?_, f2⟩
     ·rw [t1, Option.bind_some, qe, cond_false, Option.bind_some, x1, Option.bind_some]; exact f1
     ·rw [RuleOk_eq, hw, Option.bind_some, cond_true, t2, Option.bind_some, x2, Option.bind_some, Option.bind_some]; exact f1
    | false =>
     have e1 : s_FormatRule p l.Rule = some ByteArray.empty := by simp only [s_FormatRule, hw, Option.bind_some, Bool.not_false, cond_true]
     have e2 : s_RuleName 0 = some ⟨#[110, 111, 110, 101]⟩ := rfl
     obtain ⟨x, x1, x2, x3⟩ := swap_eq ⟨#[110, 111, 110, 101]⟩ (by decide)
     have x4 : x = ⟨#[110, 111, 110, 101]⟩ := by
      have h5 : replL ⟨#[110, 111, 110, 101]⟩ ⟨#[32]⟩ ⟨#[44]⟩ = some x := x2
      unfold replL at h5
      split at h5
      ·rw [← Option.some.inj h5]
       apply ba_ext
       show Lib.replaceAll [110, 111, 110, 101] [32] [44] = _
       rw [replAll 32 44 _ (by decide)]
       rfl
      ·cases h5
     obtain ⟨s, f1, f2⟩ := fin ⟨#[110, 111, 110, 101]⟩ (by decide)
     refine ⟨s, ?_, ?_, f2⟩
     ·rw [e1, Option.bind_some, show (ByteArray.empty == ByteArray.empty) = true by rw [ba_beq]; rfl, cond_true, e2, Option.bind_some, Option.bind_some, x1, Option.bind_some, x4]; exact f1
     ·rw [RuleOk_eq, hw, Option.bind_some, cond_false, Option.bind_some]; exact f1
theorem core_FormatLine (p : TProject) (l : TLine) (hp : bTProject 1048576 p) (hl : bTLine 1048576 l) : ∃ v, s_FormatLine p l = some v ∧ i_FormatLine p l = some v := by
 obtain ⟨s, h1, h2, _⟩ := line_text p l hp
 exact ⟨s, h1, h2⟩
theorem ba_assoc (a b c : ByteArray) : a ++ b ++ c = a ++ (b ++ c) := by
 apply ba_ext
 simp
theorem proof_L1 (p : TProject) (hp : bTProject 1048576 p) : ∀ (xs : List TLine) (z z' : Int) (a : ByteArray), a.size + 2000000001 * xs.length ≤ 9000000000000000000 → ∃ r, s_FormatProof_L1 p xs z a = some r ∧ i_FormatProof_L1 p xs z' a = some r
 | [], z, z', a, _ => ⟨.inl a, rfl, rfl⟩
 | x :: xs, z, z', a, hs => by
  simp only [List.length_cons] at hs
  obtain ⟨t, t1, t2, t3⟩ := line_text p x hp
  simp only [s_FormatProof_L1, i_FormatProof_L1, t1, t2, Option.bind_some]
  cases he : (t == ByteArray.empty) with
  | true => exact ⟨_, rfl, rfl⟩
  | false =>
   have h1 : (⟨#[10]⟩ : ByteArray).size = 1 := rfl
   have z1 := cat_sz a t
   have z2 := cat_sz (a ++ t) ⟨#[10]⟩
   have z3 := cat_sz t ⟨#[10]⟩
   obtain ⟨r, r1, r2⟩ := proof_L1 p hp xs (z + 1) (z' + 1) (a ++ t ++ ⟨#[10]⟩) (by omega)
   refine ⟨r, ?_, ?_⟩
   ·rw [cond_false, catS_ok (by omega), Option.bind_some, catS_ok (by omega), Option.bind_some, r1]
   ·rw [cond_false, catS_ok (by omega), Option.bind_some, catS_ok (by omega), Option.bind_some, ← ba_assoc, r2]
theorem core_FormatProof (p : TProject) (l : List TLine) (hp : bTProject 1048576 p) (hl : b_l_eTLine 1048576 l) : ∃ v, s_FormatProof p l = some v ∧ i_FormatProof p l = some v := by
 have hn : l.length ≤ 1048576 := by
  unfold b_l_eTLine at hl
  omega
 obtain ⟨r, r1, r2⟩ := proof_L1 p hp l 0 0 ByteArray.empty (by simp; omega)
 simp only [s_FormatProof, i_FormatProof, r1, r2]
 cases r with
 | inl r => exact ⟨r, rfl, rfl⟩
 | inr r => exact ⟨r, rfl, rfl⟩
end Go.Px.YtbppcgnbkeegbaaGreatDoor
