/-
  PROVED: definitions that say what functions of the program compute. No condition.
-/
import Derived.Test.YtjncefleglnnjaaQ3
namespace Go.Px.Ytjncefleglnnjaa
set_option linter.unusedSimpArgs false
set_option linter.unusedVariables false
open Go.Px
structure TMode where
  Duration : Int
  Usage : List Int
  Consumption : List Int
  deriving DecidableEq
structure TActivity where
  Name : ByteArray
  Family : Int
  Modes : List TMode
  deriving DecidableEq
structure TLink where
  From : Int
  To : Int
  FromEnd : Bool
  Lag : Int
  deriving DecidableEq
structure TStep where
  At : Int
  Capacity : Int
  deriving DecidableEq
structure TResource where
  Steps : List TStep
  Setup : List (List Int)
  deriving DecidableEq
structure TProject where
  Deadline : Int
  Activities : List TActivity
  Links : List TLink
  Resources : List TResource
  Stocks : List Int
  deriving DecidableEq
structure TLiteral where
  Kind : Int
  Activity : Int
  Value : Int
  deriving DecidableEq
structure TSchedule where
  Starts : List Int
  Modes : List Int
  deriving DecidableEq
structure TPlan where
  Schedule : TSchedule
  Done : List Int
  deriving DecidableEq
structure TDomain where
  MinStart : List Int
  MaxStart : List Int
  Modes : List (List Int)
  deriving DecidableEq
structure TRule where
  Kind : Int
  A : Int
  B : Int
  C : Int
  deriving DecidableEq
structure TLine where
  Kind : Int
  Rule : TRule
  Clause : List TLiteral
  deriving DecidableEq
structure TLog where
  Project : TProject
  Domain : TDomain
  Decisions : List TLiteral
  Lines : List TLine
  deriving DecidableEq
abbrev eTMode (x : TMode) : PV := .agg [int x.Duration, .slice (x.Usage.map int), .slice (x.Consumption.map int)]
abbrev eTActivity (x : TActivity) : PV := .agg [str x.Name, int x.Family, .slice (x.Modes.map eTMode)]
abbrev eTLink (x : TLink) : PV := .agg [int x.From, int x.To, bool x.FromEnd, int x.Lag]
abbrev eTStep (x : TStep) : PV := .agg [int x.At, int x.Capacity]
abbrev l_int (x : List Int) : PV := .slice (x.map int)
abbrev eTResource (x : TResource) : PV := .agg [.slice (x.Steps.map eTStep), .slice (x.Setup.map l_int)]
abbrev eTProject (x : TProject) : PV := .agg [int x.Deadline, .slice (x.Activities.map eTActivity), .slice (x.Links.map eTLink), .slice (x.Resources.map eTResource), .slice (x.Stocks.map int)]
abbrev eTLiteral (x : TLiteral) : PV := .agg [int x.Kind, int x.Activity, int x.Value]
abbrev eTPlan (x : TPlan) : PV := .agg [.slice (x.Schedule.Starts.map int), .slice (x.Schedule.Modes.map int), .slice (x.Done.map int)]
abbrev eTSchedule (x : TSchedule) : PV := .agg [.slice (x.Starts.map int), .slice (x.Modes.map int)]
abbrev eTLine (x : TLine) : PV := .agg [int x.Kind, int x.Rule.Kind, int x.Rule.A, int x.Rule.B, int x.Rule.C, .slice (x.Clause.map eTLiteral)]
abbrev eTLog (x : TLog) : PV := .agg [int x.Project.Deadline, .slice (x.Project.Activities.map eTActivity), .slice (x.Project.Links.map eTLink), .slice (x.Project.Resources.map eTResource), .slice (x.Project.Stocks.map int), .slice (x.Domain.MinStart.map int), .slice (x.Domain.MaxStart.map int), .slice (x.Domain.Modes.map l_int), .slice (x.Decisions.map eTLiteral), .slice (x.Lines.map eTLine)]
abbrev eTDomain (x : TDomain) : PV := .agg [.slice (x.MinStart.map int), .slice (x.MaxStart.map int), .slice (x.Modes.map l_int)]
abbrev eTRule (x : TRule) : PV := .agg [int x.Kind, int x.A, int x.B, int x.C]
abbrev l_eTMode (x : List TMode) : PV := .slice (x.map eTMode)
abbrev l_eTActivity (x : List TActivity) : PV := .slice (x.map eTActivity)
abbrev l_eTLink (x : List TLink) : PV := .slice (x.map eTLink)
abbrev l_eTStep (x : List TStep) : PV := .slice (x.map eTStep)
abbrev l_l_int (x : List (List Int)) : PV := .slice (x.map l_int)
abbrev l_eTResource (x : List TResource) : PV := .slice (x.map eTResource)
abbrev l_eTLiteral (x : List TLiteral) : PV := .slice (x.map eTLiteral)
abbrev l_eTLine (x : List TLine) : PV := .slice (x.map eTLine)
def w_szIntS (b0 : List Int) (b1 : Int) : Option Int :=
  (bif (decide ((W (b1 - (b0.length : Int))) < 0)) then
  some (-1)
  else
  some (W (b1 - (b0.length : Int))))
def w_szMode (b0 : TMode) (b1 : Int) : Option Int :=
  (w_szIntS b0.Usage b1).bind fun v1 =>
  (bif (decide (v1 < 0)) then
  some (-1)
  else
  (w_szIntS b0.Consumption v1).bind fun v3 =>
  (bif (decide (v3 < 0)) then
  some (-1)
  else
  some v3))
def w_szModeS_L1  : List TMode → Int → Int → Option (Int ⊕ Int)
  | [], z9, a10 =>
    some (Sum.inl a10)
  | x11 :: xs12, z9, a10 =>
    (w_szMode x11 a10).bind fun v14 =>
    (bif (decide (v14 < 0)) then
    some (Sum.inr (-1))
    else
    w_szModeS_L1 xs12 (z9 + 1) v14)
def w_szModeS (b0 : List TMode) (b1 : Int) : Option Int :=
  (bif (decide ((W (b1 - (b0.length : Int))) < 0)) then
  some (-1)
  else
  sumBind
  (w_szModeS_L1 b0 0 (W (b1 - (b0.length : Int))))
  (fun q17 => some q17) fun p16 =>
  some p16)
def w_szActivity (b0 : TActivity) (b1 : Int) : Option Int :=
  (bif (decide ((W (b1 - (b0.Name.size : Int))) < 0)) then
  some (-1)
  else
  (w_szModeS b0.Modes (W (b1 - (b0.Name.size : Int)))).bind fun v2 =>
  (bif (decide (v2 < 0)) then
  some (-1)
  else
  some v2))
def w_szActivityS_L1  : List TActivity → Int → Int → Option (Int ⊕ Int)
  | [], z9, a10 =>
    some (Sum.inl a10)
  | x11 :: xs12, z9, a10 =>
    (w_szActivity x11 a10).bind fun v14 =>
    (bif (decide (v14 < 0)) then
    some (Sum.inr (-1))
    else
    w_szActivityS_L1 xs12 (z9 + 1) v14)
def w_szActivityS (b0 : List TActivity) (b1 : Int) : Option Int :=
  (bif (decide ((W (b1 - (b0.length : Int))) < 0)) then
  some (-1)
  else
  sumBind
  (w_szActivityS_L1 b0 0 (W (b1 - (b0.length : Int))))
  (fun q17 => some q17) fun p16 =>
  some p16)
def w_szLinkS (b0 : List TLink) (b1 : Int) : Option Int :=
  (bif (decide ((W (b1 - (b0.length : Int))) < 0)) then
  some (-1)
  else
  some (W (b1 - (b0.length : Int))))
def w_szStepS (b0 : List TStep) (b1 : Int) : Option Int :=
  (bif (decide ((W (b1 - (b0.length : Int))) < 0)) then
  some (-1)
  else
  some (W (b1 - (b0.length : Int))))
def w_szIntSS_L1  : List (List Int) → Int → Int → Option (Int ⊕ Int)
  | [], z9, a10 =>
    some (Sum.inl a10)
  | x11 :: xs12, z9, a10 =>
    (w_szIntS x11 a10).bind fun v14 =>
    (bif (decide (v14 < 0)) then
    some (Sum.inr (-1))
    else
    w_szIntSS_L1 xs12 (z9 + 1) v14)
def w_szIntSS (b0 : List (List Int)) (b1 : Int) : Option Int :=
  (bif (decide ((W (b1 - (b0.length : Int))) < 0)) then
  some (-1)
  else
  sumBind
  (w_szIntSS_L1 b0 0 (W (b1 - (b0.length : Int))))
  (fun q17 => some q17) fun p16 =>
  some p16)
def w_szResource (b0 : TResource) (b1 : Int) : Option Int :=
  (w_szStepS b0.Steps b1).bind fun v1 =>
  (bif (decide (v1 < 0)) then
  some (-1)
  else
  (w_szIntSS b0.Setup v1).bind fun v3 =>
  (bif (decide (v3 < 0)) then
  some (-1)
  else
  some v3))
def w_szResourceS_L1  : List TResource → Int → Int → Option (Int ⊕ Int)
  | [], z9, a10 =>
    some (Sum.inl a10)
  | x11 :: xs12, z9, a10 =>
    (w_szResource x11 a10).bind fun v14 =>
    (bif (decide (v14 < 0)) then
    some (Sum.inr (-1))
    else
    w_szResourceS_L1 xs12 (z9 + 1) v14)
def w_szResourceS (b0 : List TResource) (b1 : Int) : Option Int :=
  (bif (decide ((W (b1 - (b0.length : Int))) < 0)) then
  some (-1)
  else
  sumBind
  (w_szResourceS_L1 b0 0 (W (b1 - (b0.length : Int))))
  (fun q17 => some q17) fun p16 =>
  some p16)
def w_szProject (b0 : TProject) (b1 : Int) : Option Int :=
  (w_szActivityS b0.Activities b1).bind fun v1 =>
  (bif (decide (v1 < 0)) then
  some (-1)
  else
  (w_szLinkS b0.Links v1).bind fun v3 =>
  (bif (decide (v3 < 0)) then
  some (-1)
  else
  (w_szResourceS b0.Resources v3).bind fun v5 =>
  (bif (decide (v5 < 0)) then
  some (-1)
  else
  (w_szIntS b0.Stocks v5).bind fun v7 =>
  (bif (decide (v7 < 0)) then
  some (-1)
  else
  some v7))))
def w_toIntS_L1  : List Int → Int → (List Int) → Option (List Int)
  | [], z9, a10 =>
    some a10
  | x11 :: xs12, z9, a10 =>
    (idxL a10 z9).bind fun v14 =>
    w_toIntS_L1 xs12 (z9 + 1) (setL a10 z9 x11)
def w_toIntS (b0 : List Int) : Option (List Int) :=
  (makeL 0 (b0.length : Int)).bind fun v1 =>
  Option.bind
  (w_toIntS_L1 b0 0 v1) fun p15 =>
  some p15
def w_toMode (b0 : TMode) : Option TMode :=
  (w_toIntS b0.Usage).bind fun v1 =>
  (w_toIntS b0.Consumption).bind fun v2 =>
  some (TMode.mk b0.Duration v1 v2)
def w_toModeS_L1  : List TMode → Int → (List TMode) → Option (List TMode)
  | [], z9, a10 =>
    some a10
  | x11 :: xs12, z9, a10 =>
    (w_toMode x11).bind fun v14 =>
    (idxL a10 z9).bind fun v15 =>
    w_toModeS_L1 xs12 (z9 + 1) (setL a10 z9 v14)
def w_toModeS (b0 : List TMode) : Option (List TMode) :=
  (makeL (TMode.mk 0 [] []) (b0.length : Int)).bind fun v1 =>
  Option.bind
  (w_toModeS_L1 b0 0 v1) fun p16 =>
  some p16
def w_toActivity (b0 : TActivity) : Option TActivity :=
  (w_toModeS b0.Modes).bind fun v1 =>
  some (TActivity.mk b0.Name b0.Family v1)
def w_toActivityS_L1  : List TActivity → Int → (List TActivity) → Option (List TActivity)
  | [], z9, a10 =>
    some a10
  | x11 :: xs12, z9, a10 =>
    (w_toActivity x11).bind fun v14 =>
    (idxL a10 z9).bind fun v15 =>
    w_toActivityS_L1 xs12 (z9 + 1) (setL a10 z9 v14)
def w_toActivityS (b0 : List TActivity) : Option (List TActivity) :=
  (makeL (TActivity.mk ByteArray.empty 0 []) (b0.length : Int)).bind fun v1 =>
  Option.bind
  (w_toActivityS_L1 b0 0 v1) fun p16 =>
  some p16
def w_toLink (b0 : TLink) : Option TLink :=
  some b0
def w_toLinkS_L1  : List TLink → Int → (List TLink) → Option (List TLink)
  | [], z9, a10 =>
    some a10
  | x11 :: xs12, z9, a10 =>
    (w_toLink x11).bind fun v14 =>
    (idxL a10 z9).bind fun v15 =>
    w_toLinkS_L1 xs12 (z9 + 1) (setL a10 z9 v14)
def w_toLinkS (b0 : List TLink) : Option (List TLink) :=
  (makeL (TLink.mk 0 0 false 0) (b0.length : Int)).bind fun v1 =>
  Option.bind
  (w_toLinkS_L1 b0 0 v1) fun p16 =>
  some p16
def w_toStep (b0 : TStep) : Option TStep :=
  some b0
def w_toStepS_L1  : List TStep → Int → (List TStep) → Option (List TStep)
  | [], z9, a10 =>
    some a10
  | x11 :: xs12, z9, a10 =>
    (w_toStep x11).bind fun v14 =>
    (idxL a10 z9).bind fun v15 =>
    w_toStepS_L1 xs12 (z9 + 1) (setL a10 z9 v14)
def w_toStepS (b0 : List TStep) : Option (List TStep) :=
  (makeL (TStep.mk 0 0) (b0.length : Int)).bind fun v1 =>
  Option.bind
  (w_toStepS_L1 b0 0 v1) fun p16 =>
  some p16
def w_toIntSS_L1  : List (List Int) → Int → (List (List Int)) → Option (List (List Int))
  | [], z9, a10 =>
    some a10
  | x11 :: xs12, z9, a10 =>
    (w_toIntS x11).bind fun v14 =>
    (idxL a10 z9).bind fun v15 =>
    w_toIntSS_L1 xs12 (z9 + 1) (setL a10 z9 v14)
def w_toIntSS (b0 : List (List Int)) : Option (List (List Int)) :=
  (makeL ([] : List Int) (b0.length : Int)).bind fun v1 =>
  Option.bind
  (w_toIntSS_L1 b0 0 v1) fun p16 =>
  some p16
def w_toResource (b0 : TResource) : Option TResource :=
  (w_toStepS b0.Steps).bind fun v1 =>
  (w_toIntSS b0.Setup).bind fun v2 =>
  some (TResource.mk v1 v2)
def w_toResourceS_L1  : List TResource → Int → (List TResource) → Option (List TResource)
  | [], z9, a10 =>
    some a10
  | x11 :: xs12, z9, a10 =>
    (w_toResource x11).bind fun v14 =>
    (idxL a10 z9).bind fun v15 =>
    w_toResourceS_L1 xs12 (z9 + 1) (setL a10 z9 v14)
def w_toResourceS (b0 : List TResource) : Option (List TResource) :=
  (makeL (TResource.mk [] []) (b0.length : Int)).bind fun v1 =>
  Option.bind
  (w_toResourceS_L1 b0 0 v1) fun p16 =>
  some p16
def w_toProject (b0 : TProject) : Option TProject :=
  (w_toActivityS b0.Activities).bind fun v1 =>
  (w_toLinkS b0.Links).bind fun v2 =>
  (w_toResourceS b0.Resources).bind fun v3 =>
  (w_toIntS b0.Stocks).bind fun v4 =>
  some (TProject.mk b0.Deadline v1 v2 v3 v4)
def s_l01In (b0 : Int) (b1 : Int) (b2 : Int) : Option Bool :=
  Option.bind
  ((bif (decide (b1 ≤ b0)) then
  some (decide (b0 ≤ b2))
  else
  some false)) fun e1 =>
  some e1
def s_l04Nums_L1  : List Int → Int → Option (Unit ⊕ Bool)
  | [], z8 =>
    some (Sum.inl ())
  | x9 :: xs10, z8 =>
    (s_l01In x9 0 20).bind fun v12 =>
    (bif (!v12) then
    some (Sum.inr false)
    else
    s_l04Nums_L1 xs10 (z8 + 1))
def s_l04Nums (b0 : List Int) (b1 : Int) : Option Bool :=
  sumBind
  (s_l04Nums_L1 b0 0)
  (fun q15 => some q15) fun p14 =>
  some ((b0.length : Int) == b1)
def s_ModeOk (b0 : TMode) (b1 : Int) (b2 : Int) : Option Bool :=
  (s_l01In b0.Duration 1 12).bind fun v1 =>
  Option.bind
  ((bif v1 then
  (s_l04Nums b0.Usage b1).bind fun v4 =>
  (bif v4 then
  (s_l04Nums b0.Consumption b2).bind fun v6 =>
  some v6
  else
  some false)
  else
  some false)) fun e2 =>
  some e2
def s_IsName_L1 (b0 : ByteArray) : Nat → Int → Option (Unit ⊕ Bool)
  | 0, _ => none
  | fuel + 1, a7 =>
    (bif (decide (a7 < (b0.size : Int))) then
    (idxS b0 a7).bind fun v11 =>
    Option.bind
    ((bif (decide (97 ≤ v11)) then
    some (decide (v11 ≤ 122))
    else
    some false)) fun e12 =>
    Option.bind
    ((bif (!e12) then
    (bif (a7 == 0) then
    some true
    else
    (bif (decide (v11 < 48)) then
    some true
    else
    some (decide (57 < v11))))
    else
    some false)) fun e14 =>
    (bif e14 then
    some (Sum.inr false)
    else
    s_IsName_L1 b0 fuel (W (a7 + 1)))
    else
    some (Sum.inl ()))
def s_IsName (b0 : ByteArray) : Option Bool :=
  sumBind
  (s_IsName_L1 b0 F0 0)
  (fun q20 => some q20) fun p19 =>
  (s_l01In (b0.size : Int) 1 8).bind fun v21 =>
  some v21
def s_ActivityOk_L1 (b1 : Int) (b2 : Int) : List TMode → Int → Option (Unit ⊕ Bool)
  | [], z8 =>
    some (Sum.inl ())
  | x9 :: xs10, z8 =>
    (s_ModeOk x9 b1 b2).bind fun v12 =>
    (bif (!v12) then
    some (Sum.inr false)
    else
    s_ActivityOk_L1 b1 b2 xs10 (z8 + 1))
def s_ActivityOk (b0 : TActivity) (b1 : Int) (b2 : Int) : Option Bool :=
  sumBind
  (s_ActivityOk_L1 b1 b2 b0.Modes 0)
  (fun q15 => some q15) fun p14 =>
  (s_IsName b0.Name).bind fun v16 =>
  Option.bind
  ((bif v16 then
  (s_l01In b0.Family 0 3).bind fun v19 =>
  (bif v19 then
  (s_l01In (b0.Modes.length : Int) 1 3).bind fun v21 =>
  some v21
  else
  some false)
  else
  some false)) fun e17 =>
  some e17
def s_ActivityIndex_L1 (b1 : ByteArray) : List TActivity → Int → Option (Unit ⊕ Int)
  | [], z8 =>
    some (Sum.inl ())
  | x9 :: xs10, z8 =>
    (bif (x9.Name == b1) then
    some (Sum.inr z8)
    else
    s_ActivityIndex_L1 b1 xs10 (z8 + 1))
def s_ActivityIndex (b0 : TProject) (b1 : ByteArray) : Option Int :=
  sumBind
  (s_ActivityIndex_L1 b1 b0.Activities 0)
  (fun q14 => some q14) fun p13 =>
  some (-1)
def s_StepsOk_L1 (b0 : List TStep) : List TStep → Int → Option (Unit ⊕ Bool)
  | [], z8 =>
    some (Sum.inl ())
  | x9 :: xs10, z8 =>
    (s_l01In x9.At 0 60).bind fun v12 =>
    Option.bind
    ((bif (!v12) then
    some true
    else
    (s_l01In x9.Capacity 0 20).bind fun v15 =>
    (bif (!v15) then
    some true
    else
    (bif (decide (0 < z8)) then
    (idxL b0 (z8 - 1)).bind fun v18 =>
    some (decide (x9.At ≤ v18.At))
    else
    some false)))) fun e13 =>
    (bif e13 then
    some (Sum.inr false)
    else
    s_StepsOk_L1 b0 xs10 (z8 + 1))
def s_StepsOk (b0 : List TStep) : Option Bool :=
  sumBind
  (s_StepsOk_L1 b0 b0 0)
  (fun q21 => some q21) fun p20 =>
  (s_l01In (b0.length : Int) 1 8).bind fun v22 =>
  Option.bind
  ((bif v22 then
  (idxL b0 0).bind fun v25 =>
  some (v25.At == 0)
  else
  some false)) fun e23 =>
  some e23
def s_ResourceOk_L2  : List Int → Int → Option (Unit ⊕ Bool)
  | [], z20 =>
    some (Sum.inl ())
  | x21 :: xs22, z20 =>
    (s_l01In x21 0 12).bind fun v24 =>
    (bif (!v24) then
    some (Sum.inr false)
    else
    s_ResourceOk_L2 xs22 (z20 + 1))
def s_ResourceOk_L1  : List (List Int) → Int → Option (Unit ⊕ Bool)
  | [], z8 =>
    some (Sum.inl ())
  | x9 :: xs10, z8 =>
    (bif ((x9.length : Int) != 4) then
    some (Sum.inr false)
    else
    sumBind
    (s_ResourceOk_L2 x9 0)
    (fun q27 => some (Sum.inr q27)) fun p26 =>
    s_ResourceOk_L1 xs10 (z8 + 1))
def s_ResourceOk (b0 : TResource) : Option Bool :=
  sumBind
  (s_ResourceOk_L1 b0.Setup 0)
  (fun q29 => some q29) fun p28 =>
  (s_StepsOk b0.Steps).bind fun v30 =>
  Option.bind
  ((bif v30 then
  (bif ((b0.Setup.length : Int) == 0) then
  some true
  else
  some ((b0.Setup.length : Int) == 4))
  else
  some false)) fun e31 =>
  some e31
def s_ProjectOk_L1 (b0 : TProject) : List TActivity → Int → Option (Unit ⊕ Bool)
  | [], z16 =>
    some (Sum.inl ())
  | x17 :: xs18, z16 =>
    (s_ActivityOk x17 (b0.Resources.length : Int) (b0.Stocks.length : Int)).bind fun v20 =>
    Option.bind
    ((bif (!v20) then
    some true
    else
    (s_ActivityIndex b0 x17.Name).bind fun v23 =>
    some (v23 != z16))) fun e21 =>
    (bif e21 then
    some (Sum.inr false)
    else
    s_ProjectOk_L1 b0 xs18 (z16 + 1))
def s_ProjectOk_L2  : List TResource → Int → Option (Unit ⊕ Bool)
  | [], z34 =>
    some (Sum.inl ())
  | x35 :: xs36, z34 =>
    (s_ResourceOk x35).bind fun v38 =>
    (bif (!v38) then
    some (Sum.inr false)
    else
    s_ProjectOk_L2 xs36 (z34 + 1))
def s_ProjectOk_L3  : List Int → Int → Option (Unit ⊕ Bool)
  | [], z49 =>
    some (Sum.inl ())
  | x50 :: xs51, z49 =>
    (s_l01In x50 0 100).bind fun v53 =>
    (bif (!v53) then
    some (Sum.inr false)
    else
    s_ProjectOk_L3 xs51 (z49 + 1))
def s_ProjectOk_L4 (b0 : TProject) : List TLink → Int → Option (Unit ⊕ Bool)
  | [], z64 =>
    some (Sum.inl ())
  | x65 :: xs66, z64 =>
    (s_l01In x65.From 0 (W ((b0.Activities.length : Int) - 1))).bind fun v68 =>
    Option.bind
    ((bif (!v68) then
    some true
    else
    (s_l01In x65.To 0 (W ((b0.Activities.length : Int) - 1))).bind fun v71 =>
    (bif (!v71) then
    some true
    else
    (bif (x65.From == x65.To) then
    some true
    else
    (s_l01In x65.Lag (-60) 60).bind fun v74 =>
    some (!v74))))) fun e69 =>
    (bif e69 then
    some (Sum.inr false)
    else
    s_ProjectOk_L4 b0 xs66 (z64 + 1))
def s_ProjectOk (b0 : TProject) : Option Bool :=
  (s_l01In b0.Deadline 1 60).bind fun v1 =>
  Option.bind
  ((bif (!v1) then
  some true
  else
  (s_l01In (b0.Activities.length : Int) 1 6).bind fun v4 =>
  (bif (!v4) then
  some true
  else
  (bif (decide (3 < (b0.Resources.length : Int))) then
  some true
  else
  (bif (decide (2 < (b0.Stocks.length : Int))) then
  some true
  else
  some (decide (12 < (b0.Links.length : Int)))))))) fun e2 =>
  (bif e2 then
  some false
  else
  sumBind
  (s_ProjectOk_L1 b0 b0.Activities 0)
  (fun q26 => some q26) fun p25 =>
  sumBind
  (s_ProjectOk_L2 b0.Resources 0)
  (fun q41 => some q41) fun p40 =>
  sumBind
  (s_ProjectOk_L3 b0.Stocks 0)
  (fun q56 => some q56) fun p55 =>
  sumBind
  (s_ProjectOk_L4 b0 b0.Links 0)
  (fun q77 => some q77) fun p76 =>
  some true)
def s_l03Span (b0 : List TStep) (b1 : Int) (b2 : Int) : Option Bool :=
  (s_StepsOk b0).bind fun v1 =>
  Option.bind
  ((bif v1 then
  (s_l01In b1 0 60).bind fun v4 =>
  (bif v4 then
  (s_l01In b2 0 60).bind fun v6 =>
  some v6
  else
  some false)
  else
  some false)) fun e2 =>
  some e2
def s_l03At_L1 (b1 : Int) : List TStep → Int → Int → Option Int
  | [], z8, a9 =>
    some a9
  | x10 :: xs11, z8, a9 =>
    (bif (decide (x10.At ≤ b1)) then
    s_l03At_L1 b1 xs11 (z8 + 1) x10.Capacity
    else
    s_l03At_L1 b1 xs11 (z8 + 1) a9)
def s_l03At (b0 : List TStep) (b1 : Int) : Option Int :=
  Option.bind
  (s_l03At_L1 b1 b0 0 0) fun p14 =>
  some p14
def s_TotalCapacity_L1 (b0 : List TStep) (b2 : Int) : Nat → Int → Int → Option Int
  | 0, _, _ => none
  | fuel + 1, a8, a9 =>
    (bif (decide (a9 < b2)) then
    (s_l03At b0 a9).bind fun v13 =>
    s_TotalCapacity_L1 b0 b2 fuel (W (a8 + v13)) (W (a9 + 1))
    else
    some a8)
def s_TotalCapacity (b0 : List TStep) (b1 : Int) (b2 : Int) : Option Int :=
  (s_l03Span b0 b1 b2).bind fun v1 =>
  (bif (!v1) then
  some 0
  else
  Option.bind
  (s_TotalCapacity_L1 b0 b2 F0 0 b1) fun p14 =>
  some p14)
def s_CapacityIn (b0 : TProject) (b1 : Int) (b2 : Int) (b3 : Int) : Option Int :=
  (s_ProjectOk b0).bind fun v1 =>
  Option.bind
  ((bif (!v1) then
  some true
  else
  (s_l01In b1 0 (W ((b0.Resources.length : Int) - 1))).bind fun v4 =>
  some (!v4))) fun e2 =>
  (bif e2 then
  some 0
  else
  (idxL b0.Resources b1).bind fun v6 =>
  (s_TotalCapacity v6.Steps b2 b3).bind fun v7 =>
  some v7)
def i_within (b0 : Int) (b1 : Int) (b2 : Int) : Option Bool :=
  Option.bind
  ((bif (decide (b1 ≤ b0)) then
  some (decide (b0 ≤ b2))
  else
  some false)) fun e1 =>
  some e1
def i_isAmount (b0 : Int) : Option Bool :=
  (i_within b0 0 20).bind fun v1 =>
  some v1
def i_areAmounts_L1  : List Int → Int → Option (Unit ⊕ Bool)
  | [], z8 =>
    some (Sum.inl ())
  | x9 :: xs10, z8 =>
    (i_isAmount x9).bind fun v12 =>
    (bif (!v12) then
    some (Sum.inr false)
    else
    i_areAmounts_L1 xs10 (z8 + 1))
def i_areAmounts (b0 : List Int) (b1 : Int) : Option Bool :=
  sumBind
  (i_areAmounts_L1 b0 0)
  (fun q15 => some q15) fun p14 =>
  some ((b0.length : Int) == b1)
def i_ModeOk (b0 : TMode) (b1 : Int) (b2 : Int) : Option Bool :=
  (i_within b0.Duration 1 12).bind fun v1 =>
  Option.bind
  ((bif v1 then
  (i_areAmounts b0.Usage b1).bind fun v4 =>
  (bif v4 then
  (i_areAmounts b0.Consumption b2).bind fun v6 =>
  some v6
  else
  some false)
  else
  some false)) fun e2 =>
  some e2
def i_IsName_L1 (b0 : ByteArray) : Nat → Int → Option (Unit ⊕ Bool)
  | 0, _ => none
  | fuel + 1, a7 =>
    (bif (decide (a7 < (b0.size : Int))) then
    (idxS b0 a7).bind fun v11 =>
    Option.bind
    ((bif (decide (97 ≤ v11)) then
    some (decide (v11 ≤ 122))
    else
    some false)) fun e12 =>
    Option.bind
    ((bif (!e12) then
    (bif (a7 == 0) then
    some true
    else
    (bif (decide (v11 < 48)) then
    some true
    else
    some (decide (57 < v11))))
    else
    some false)) fun e14 =>
    (bif e14 then
    some (Sum.inr false)
    else
    i_IsName_L1 b0 fuel (W (a7 + 1)))
    else
    some (Sum.inl ()))
def i_IsName (b0 : ByteArray) : Option Bool :=
  sumBind
  (i_IsName_L1 b0 F0 0)
  (fun q20 => some q20) fun p19 =>
  (i_within (b0.size : Int) 1 8).bind fun v21 =>
  some v21
def i_ActivityOk_L1 (b1 : Int) (b2 : Int) : List TMode → Int → Option (Unit ⊕ Bool)
  | [], z8 =>
    some (Sum.inl ())
  | x9 :: xs10, z8 =>
    (i_ModeOk x9 b1 b2).bind fun v12 =>
    (bif (!v12) then
    some (Sum.inr false)
    else
    i_ActivityOk_L1 b1 b2 xs10 (z8 + 1))
def i_ActivityOk (b0 : TActivity) (b1 : Int) (b2 : Int) : Option Bool :=
  sumBind
  (i_ActivityOk_L1 b1 b2 b0.Modes 0)
  (fun q15 => some q15) fun p14 =>
  (i_IsName b0.Name).bind fun v16 =>
  Option.bind
  ((bif v16 then
  (i_within b0.Family 0 3).bind fun v19 =>
  (bif v19 then
  (i_within (b0.Modes.length : Int) 1 3).bind fun v21 =>
  some v21
  else
  some false)
  else
  some false)) fun e17 =>
  some e17
def i_ActivityIndex_c1 (b0 : TActivity) (c1 : ByteArray) : Option Bool :=
  some (b0.Name == c1)
def slices_IndexFunc_Activity_L1 (g1 : TActivity → Option Bool) : List TActivity → Int → Option (Unit ⊕ Int)
  | [], z8 =>
    some (Sum.inl ())
  | x9 :: xs10, z8 =>
    (g1 x9).bind fun v12 =>
    (bif v12 then
    some (Sum.inr z8)
    else
    slices_IndexFunc_Activity_L1 g1 xs10 (z8 + 1))
def slices_IndexFunc_Activity (b0 : List TActivity) (g1 : TActivity → Option Bool) : Option Int :=
  sumBind
  (slices_IndexFunc_Activity_L1 g1 b0 0)
  (fun q15 => some q15) fun p14 =>
  some (-1)
def i_ActivityIndex (b0 : TProject) (b1 : ByteArray) : Option Int :=
  (slices_IndexFunc_Activity b0.Activities (fun x0 => i_ActivityIndex_c1 x0 b1)).bind fun v1 =>
  some v1
def i_isTime (b0 : Int) : Option Bool :=
  (i_within b0 0 60).bind fun v1 =>
  some v1
def i_StepsOk_L1 (b0 : List TStep) : List TStep → Int → Option (Unit ⊕ Bool)
  | [], z8 =>
    some (Sum.inl ())
  | x9 :: xs10, z8 =>
    (i_isTime x9.At).bind fun v12 =>
    Option.bind
    ((bif (!v12) then
    some true
    else
    (i_isAmount x9.Capacity).bind fun v15 =>
    (bif (!v15) then
    some true
    else
    (bif (z8 == 0) then
    (bif (x9.At != 0) then
    some true
    else
    (bif (decide (0 < z8)) then
    (idxL b0 (z8 - 1)).bind fun v20 =>
    some (decide (x9.At ≤ v20.At))
    else
    some false))
    else
    (bif (decide (0 < z8)) then
    (idxL b0 (z8 - 1)).bind fun v22 =>
    some (decide (x9.At ≤ v22.At))
    else
    some false))))) fun e13 =>
    (bif e13 then
    some (Sum.inr false)
    else
    i_StepsOk_L1 b0 xs10 (z8 + 1))
def i_StepsOk (b0 : List TStep) : Option Bool :=
  sumBind
  (i_StepsOk_L1 b0 b0 0)
  (fun q25 => some q25) fun p24 =>
  (i_within (b0.length : Int) 1 8).bind fun v26 =>
  some v26
def i_ResourceOk_L2  : List Int → Int → Option (Unit ⊕ Bool)
  | [], z20 =>
    some (Sum.inl ())
  | x21 :: xs22, z20 =>
    (i_within x21 0 12).bind fun v24 =>
    (bif (!v24) then
    some (Sum.inr false)
    else
    i_ResourceOk_L2 xs22 (z20 + 1))
def i_ResourceOk_L1  : List (List Int) → Int → Option (Unit ⊕ Bool)
  | [], z8 =>
    some (Sum.inl ())
  | x9 :: xs10, z8 =>
    (bif ((x9.length : Int) != 4) then
    some (Sum.inr false)
    else
    sumBind
    (i_ResourceOk_L2 x9 0)
    (fun q27 => some (Sum.inr q27)) fun p26 =>
    i_ResourceOk_L1 xs10 (z8 + 1))
def i_ResourceOk (b0 : TResource) : Option Bool :=
  sumBind
  (i_ResourceOk_L1 b0.Setup 0)
  (fun q29 => some q29) fun p28 =>
  (i_StepsOk b0.Steps).bind fun v30 =>
  Option.bind
  ((bif v30 then
  (bif ((b0.Setup.length : Int) == 0) then
  some true
  else
  some ((b0.Setup.length : Int) == 4))
  else
  some false)) fun e31 =>
  some e31
def i_Project_hasActivity (b0 : TProject) (b1 : Int) : Option Bool :=
  (i_within b1 0 (W ((b0.Activities.length : Int) - 1))).bind fun v1 =>
  some v1
def i_Project_linkOk (b0 : TProject) (b1 : TLink) : Option Bool :=
  (i_Project_hasActivity b0 b1.From).bind fun v1 =>
  Option.bind
  ((bif v1 then
  (i_Project_hasActivity b0 b1.To).bind fun v4 =>
  (bif v4 then
  (bif (b1.From != b1.To) then
  (i_within b1.Lag (-60) 60).bind fun v7 =>
  some v7
  else
  some false)
  else
  some false)
  else
  some false)) fun e2 =>
  some e2
def i_ProjectOk_c1 (b0 : TLink) (c1 : TProject) : Option Bool :=
  (i_Project_linkOk c1 b0).bind fun v1 =>
  some (!v1)
def slices_IndexFunc_Link_L1 (g1 : TLink → Option Bool) : List TLink → Int → Option (Unit ⊕ Int)
  | [], z8 =>
    some (Sum.inl ())
  | x9 :: xs10, z8 =>
    (g1 x9).bind fun v12 =>
    (bif v12 then
    some (Sum.inr z8)
    else
    slices_IndexFunc_Link_L1 g1 xs10 (z8 + 1))
def slices_IndexFunc_Link (b0 : List TLink) (g1 : TLink → Option Bool) : Option Int :=
  sumBind
  (slices_IndexFunc_Link_L1 g1 b0 0)
  (fun q15 => some q15) fun p14 =>
  some (-1)
def slices_ContainsFunc_Link (b0 : List TLink) (g1 : TLink → Option Bool) : Option Bool :=
  (slices_IndexFunc_Link b0 g1).bind fun v1 =>
  some (decide (0 ≤ v1))
def i_ProjectOk_L1 (b0 : TProject) : List TActivity → Int → Option (Unit ⊕ Bool)
  | [], z16 =>
    some (Sum.inl ())
  | x17 :: xs18, z16 =>
    (i_ActivityOk x17 (b0.Resources.length : Int) (b0.Stocks.length : Int)).bind fun v20 =>
    Option.bind
    ((bif (!v20) then
    some true
    else
    (i_ActivityIndex b0 x17.Name).bind fun v23 =>
    some (v23 != z16))) fun e21 =>
    (bif e21 then
    some (Sum.inr false)
    else
    i_ProjectOk_L1 b0 xs18 (z16 + 1))
def i_ProjectOk_L2  : List TResource → Int → Option (Unit ⊕ Bool)
  | [], z34 =>
    some (Sum.inl ())
  | x35 :: xs36, z34 =>
    (i_ResourceOk x35).bind fun v38 =>
    (bif (!v38) then
    some (Sum.inr false)
    else
    i_ProjectOk_L2 xs36 (z34 + 1))
def i_ProjectOk_L3  : List Int → Int → Option (Unit ⊕ Bool)
  | [], z49 =>
    some (Sum.inl ())
  | x50 :: xs51, z49 =>
    (i_within x50 0 100).bind fun v53 =>
    (bif (!v53) then
    some (Sum.inr false)
    else
    i_ProjectOk_L3 xs51 (z49 + 1))
def i_ProjectOk (b0 : TProject) : Option Bool :=
  (i_within b0.Deadline 1 60).bind fun v1 =>
  Option.bind
  ((bif (!v1) then
  some true
  else
  (i_within (b0.Activities.length : Int) 1 6).bind fun v4 =>
  (bif (!v4) then
  some true
  else
  (bif (decide (3 < (b0.Resources.length : Int))) then
  some true
  else
  (bif (decide (2 < (b0.Stocks.length : Int))) then
  some true
  else
  some (decide (12 < (b0.Links.length : Int)))))))) fun e2 =>
  (bif e2 then
  some false
  else
  sumBind
  (i_ProjectOk_L1 b0 b0.Activities 0)
  (fun q26 => some q26) fun p25 =>
  sumBind
  (i_ProjectOk_L2 b0.Resources 0)
  (fun q41 => some q41) fun p40 =>
  sumBind
  (i_ProjectOk_L3 b0.Stocks 0)
  (fun q56 => some q56) fun p55 =>
  (slices_ContainsFunc_Link b0.Links (fun x0 => i_ProjectOk_c1 x0 b0)).bind fun v57 =>
  some (!v57))
def i_Project_hasResource (b0 : TProject) (b1 : Int) : Option Bool :=
  (i_within b1 0 (W ((b0.Resources.length : Int) - 1))).bind fun v1 =>
  some v1
def i_capacityAt_L1 (b1 : Int) : List TStep → Int → Int → Option Int
  | [], z8, a9 =>
    some a9
  | x10 :: xs11, z8, a9 =>
    (bif (decide (x10.At ≤ b1)) then
    i_capacityAt_L1 b1 xs11 (z8 + 1) x10.Capacity
    else
    i_capacityAt_L1 b1 xs11 (z8 + 1) a9)
def i_capacityAt (b0 : List TStep) (b1 : Int) : Option Int :=
  Option.bind
  (i_capacityAt_L1 b1 b0 0 0) fun p14 =>
  some p14
def i_TotalCapacity_L1 (b0 : List TStep) (b2 : Int) : Nat → Int → Int → Option Int
  | 0, _, _ => none
  | fuel + 1, a13, a14 =>
    (bif (decide (a14 < b2)) then
    (i_capacityAt b0 a14).bind fun v18 =>
    i_TotalCapacity_L1 b0 b2 fuel (W (a13 + v18)) (W (a14 + 1))
    else
    some a13)
def i_TotalCapacity (b0 : List TStep) (b1 : Int) (b2 : Int) : Option Int :=
  (i_StepsOk b0).bind fun v1 =>
  Option.bind
  ((bif (!v1) then
  some true
  else
  (i_isTime b1).bind fun v4 =>
  (bif (!v4) then
  some true
  else
  (i_isTime b2).bind fun v6 =>
  some (!v6)))) fun e2 =>
  (bif e2 then
  some 0
  else
  Option.bind
  (i_TotalCapacity_L1 b0 b2 F0 0 b1) fun p19 =>
  some p19)
def i_CapacityIn (b0 : TProject) (b1 : Int) (b2 : Int) (b3 : Int) : Option Int :=
  (i_ProjectOk b0).bind fun v1 =>
  Option.bind
  ((bif (!v1) then
  some true
  else
  (i_Project_hasResource b0 b1).bind fun v4 =>
  some (!v4))) fun e2 =>
  (bif e2 then
  some 0
  else
  (idxL b0.Resources b1).bind fun v6 =>
  (i_TotalCapacity v6.Steps b2 b3).bind fun v7 =>
  some v7)
def w_eqIntS_L1 (b1 : List Int) : List Int → Int → Option (Unit ⊕ Bool)
  | [], z9 =>
    some (Sum.inl ())
  | x10 :: xs11, z9 =>
    (idxL b1 z9).bind fun v13 =>
    (bif (x10 != v13) then
    some (Sum.inr false)
    else
    w_eqIntS_L1 b1 xs11 (z9 + 1))
def w_eqIntS (b0 : List Int) (b1 : List Int) : Option Bool :=
  (bif ((b0.length : Int) != (b1.length : Int)) then
  some false
  else
  sumBind
  (w_eqIntS_L1 b1 b0 0)
  (fun q16 => some q16) fun p15 =>
  some true)
def w_eqMode (b0 : TMode) (b1 : TMode) : Option Bool :=
  (bif (b0.Duration != b1.Duration) then
  some false
  else
  (w_eqIntS b0.Usage b1.Usage).bind fun v2 =>
  (bif (!v2) then
  some false
  else
  (w_eqIntS b0.Consumption b1.Consumption).bind fun v4 =>
  (bif (!v4) then
  some false
  else
  some true)))
def w_eqModeS_L1 (b1 : List TMode) : List TMode → Int → Option (Unit ⊕ Bool)
  | [], z9 =>
    some (Sum.inl ())
  | x10 :: xs11, z9 =>
    (idxL b1 z9).bind fun v13 =>
    (w_eqMode x10 v13).bind fun v14 =>
    (bif (!v14) then
    some (Sum.inr false)
    else
    w_eqModeS_L1 b1 xs11 (z9 + 1))
def w_eqModeS (b0 : List TMode) (b1 : List TMode) : Option Bool :=
  (bif ((b0.length : Int) != (b1.length : Int)) then
  some false
  else
  sumBind
  (w_eqModeS_L1 b1 b0 0)
  (fun q17 => some q17) fun p16 =>
  some true)
def w_eqActivity (b0 : TActivity) (b1 : TActivity) : Option Bool :=
  (bif (b0.Name != b1.Name) then
  some false
  else
  (bif (b0.Family != b1.Family) then
  some false
  else
  (w_eqModeS b0.Modes b1.Modes).bind fun v3 =>
  (bif (!v3) then
  some false
  else
  some true)))
def w_eqActivityS_L1 (b1 : List TActivity) : List TActivity → Int → Option (Unit ⊕ Bool)
  | [], z9 =>
    some (Sum.inl ())
  | x10 :: xs11, z9 =>
    (idxL b1 z9).bind fun v13 =>
    (w_eqActivity x10 v13).bind fun v14 =>
    (bif (!v14) then
    some (Sum.inr false)
    else
    w_eqActivityS_L1 b1 xs11 (z9 + 1))
def w_eqActivityS (b0 : List TActivity) (b1 : List TActivity) : Option Bool :=
  (bif ((b0.length : Int) != (b1.length : Int)) then
  some false
  else
  sumBind
  (w_eqActivityS_L1 b1 b0 0)
  (fun q17 => some q17) fun p16 =>
  some true)
def w_eqLink (b0 : TLink) (b1 : TLink) : Option Bool :=
  (bif (b0.From != b1.From) then
  some false
  else
  (bif (b0.To != b1.To) then
  some false
  else
  (bif (b0.FromEnd != b1.FromEnd) then
  some false
  else
  (bif (b0.Lag != b1.Lag) then
  some false
  else
  some true))))
def w_eqLinkS_L1 (b1 : List TLink) : List TLink → Int → Option (Unit ⊕ Bool)
  | [], z9 =>
    some (Sum.inl ())
  | x10 :: xs11, z9 =>
    (idxL b1 z9).bind fun v13 =>
    (w_eqLink x10 v13).bind fun v14 =>
    (bif (!v14) then
    some (Sum.inr false)
    else
    w_eqLinkS_L1 b1 xs11 (z9 + 1))
def w_eqLinkS (b0 : List TLink) (b1 : List TLink) : Option Bool :=
  (bif ((b0.length : Int) != (b1.length : Int)) then
  some false
  else
  sumBind
  (w_eqLinkS_L1 b1 b0 0)
  (fun q17 => some q17) fun p16 =>
  some true)
def w_eqStep (b0 : TStep) (b1 : TStep) : Option Bool :=
  (bif (b0.At != b1.At) then
  some false
  else
  (bif (b0.Capacity != b1.Capacity) then
  some false
  else
  some true))
def w_eqStepS_L1 (b1 : List TStep) : List TStep → Int → Option (Unit ⊕ Bool)
  | [], z9 =>
    some (Sum.inl ())
  | x10 :: xs11, z9 =>
    (idxL b1 z9).bind fun v13 =>
    (w_eqStep x10 v13).bind fun v14 =>
    (bif (!v14) then
    some (Sum.inr false)
    else
    w_eqStepS_L1 b1 xs11 (z9 + 1))
def w_eqStepS (b0 : List TStep) (b1 : List TStep) : Option Bool :=
  (bif ((b0.length : Int) != (b1.length : Int)) then
  some false
  else
  sumBind
  (w_eqStepS_L1 b1 b0 0)
  (fun q17 => some q17) fun p16 =>
  some true)
def w_eqIntSS_L1 (b1 : List (List Int)) : List (List Int) → Int → Option (Unit ⊕ Bool)
  | [], z9 =>
    some (Sum.inl ())
  | x10 :: xs11, z9 =>
    (idxL b1 z9).bind fun v13 =>
    (w_eqIntS x10 v13).bind fun v14 =>
    (bif (!v14) then
    some (Sum.inr false)
    else
    w_eqIntSS_L1 b1 xs11 (z9 + 1))
def w_eqIntSS (b0 : List (List Int)) (b1 : List (List Int)) : Option Bool :=
  (bif ((b0.length : Int) != (b1.length : Int)) then
  some false
  else
  sumBind
  (w_eqIntSS_L1 b1 b0 0)
  (fun q17 => some q17) fun p16 =>
  some true)
def w_eqResource (b0 : TResource) (b1 : TResource) : Option Bool :=
  (w_eqStepS b0.Steps b1.Steps).bind fun v1 =>
  (bif (!v1) then
  some false
  else
  (w_eqIntSS b0.Setup b1.Setup).bind fun v3 =>
  (bif (!v3) then
  some false
  else
  some true))
def w_eqResourceS_L1 (b1 : List TResource) : List TResource → Int → Option (Unit ⊕ Bool)
  | [], z9 =>
    some (Sum.inl ())
  | x10 :: xs11, z9 =>
    (idxL b1 z9).bind fun v13 =>
    (w_eqResource x10 v13).bind fun v14 =>
    (bif (!v14) then
    some (Sum.inr false)
    else
    w_eqResourceS_L1 b1 xs11 (z9 + 1))
def w_eqResourceS (b0 : List TResource) (b1 : List TResource) : Option Bool :=
  (bif ((b0.length : Int) != (b1.length : Int)) then
  some false
  else
  sumBind
  (w_eqResourceS_L1 b1 b0 0)
  (fun q17 => some q17) fun p16 =>
  some true)
def w_eqProject (b0 : TProject) (b1 : TProject) : Option Bool :=
  (bif (b0.Deadline != b1.Deadline) then
  some false
  else
  (w_eqActivityS b0.Activities b1.Activities).bind fun v2 =>
  (bif (!v2) then
  some false
  else
  (w_eqLinkS b0.Links b1.Links).bind fun v4 =>
  (bif (!v4) then
  some false
  else
  (w_eqResourceS b0.Resources b1.Resources).bind fun v6 =>
  (bif (!v6) then
  some false
  else
  (w_eqIntS b0.Stocks b1.Stocks).bind fun v8 =>
  (bif (!v8) then
  some false
  else
  some true)))))
def w_FnExactCapacityIn (b0 : TProject) (b1 : Int) (b2 : Int) (b3 : Int) : Option Bool :=
  (w_szProject b0 1048576).bind fun v1 =>
  (bif (decide (v1 < 0)) then
  some true
  else
  (w_toProject b0).bind fun v3 =>
  (s_CapacityIn v3 b1 b2 b3).bind fun v4 =>
  (w_toProject b0).bind fun v5 =>
  (i_CapacityIn v5 b1 b2 b3).bind fun v6 =>
  (bif (v6 != v4) then
  some false
  else
  (w_toProject b0).bind fun v8 =>
  (w_eqProject v5 v8).bind fun v9 =>
  (bif (!v9) then
  some false
  else
  some true)))
def s_l02Min (b0 : Int) (b1 : Int) : Option Int :=
  (bif (decide (b0 < b1)) then
  some b0
  else
  some b1)
def s_l02Max (b0 : Int) (b1 : Int) : Option Int :=
  (bif (decide (b1 < b0)) then
  some b0
  else
  some b1)
def s_ClampedSum_L1  : List Int → Int → Int → Option Int
  | [], z8, a9 =>
    some a9
  | x10 :: xs11, z8, a9 =>
    (s_l02Min 100000 x10).bind fun v13 =>
    (s_l02Max (-100000) v13).bind fun v14 =>
    s_ClampedSum_L1 xs11 (z8 + 1) (W (a9 + v14))
def s_ClampedSum (b0 : List Int) : Option Int :=
  Option.bind
  (s_ClampedSum_L1 b0 0 0) fun p15 =>
  some p15
def s_ChooseMode_L1 (b2 : Bool) (v6 : TActivity) : List TMode → Int → Int → Option Int
  | [], z14, a15 =>
    some a15
  | x16 :: xs17, z14, a15 =>
    (idxL v6.Modes a15).bind fun v19 =>
    Option.bind
    ((bif b2 then
    (s_ClampedSum x16.Usage).bind fun v22 =>
    (s_ClampedSum x16.Consumption).bind fun v23 =>
    (s_ClampedSum v19.Usage).bind fun v24 =>
    (s_ClampedSum v19.Consumption).bind fun v25 =>
    (bif (decide ((W (v22 + v23)) < (W (v24 + v25)))) then
    some true
    else
    some false)
    else
    some (decide (x16.Duration < v19.Duration)))) fun e20 =>
    (bif e20 then
    s_ChooseMode_L1 b2 v6 xs17 (z14 + 1) z14
    else
    s_ChooseMode_L1 b2 v6 xs17 (z14 + 1) a15)
def s_ChooseMode (b0 : TProject) (b1 : Int) (b2 : Bool) : Option Int :=
  (s_ProjectOk b0).bind fun v1 =>
  Option.bind
  ((bif (!v1) then
  some true
  else
  (s_l01In b1 0 (W ((b0.Activities.length : Int) - 1))).bind fun v4 =>
  some (!v4))) fun e2 =>
  (bif e2 then
  some 0
  else
  (idxL b0.Activities b1).bind fun v6 =>
  Option.bind
  (s_ChooseMode_L1 b2 v6 v6.Modes 0 0) fun p28 =>
  some p28)
def i_ClampedSum_L1  : List Int → Int → Int → Option Int
  | [], z8, a9 =>
    some a9
  | x10 :: xs11, z8, a9 =>
    i_ClampedSum_L1 xs11 (z8 + 1) (W (a9 + (min (max x10 (-100000)) 100000)))
def i_ClampedSum (b0 : List Int) : Option Int :=
  Option.bind
  (i_ClampedSum_L1 b0 0 0) fun p13 =>
  some p13
def i_ChooseMode_L1 (b2 : Bool) : List TMode → Int → Int → Int → Option Int
  | [], z14, a15, a16 =>
    some a15
  | x17 :: xs18, z14, a15, a16 =>
    Option.bind
    ((bif b2 then
    (i_ClampedSum x17.Usage).bind fun v25 =>
    (i_ClampedSum x17.Consumption).bind fun v26 =>
    some (W (v25 + v26))
    else
    some x17.Duration)) fun p27 =>
    Option.bind
    ((bif (z14 == 0) then
    some true
    else
    some (decide (p27 < a16)))) fun e28 =>
    (bif e28 then
    i_ChooseMode_L1 b2 xs18 (z14 + 1) z14 p27
    else
    i_ChooseMode_L1 b2 xs18 (z14 + 1) a15 a16)
def i_ChooseMode (b0 : TProject) (b1 : Int) (b2 : Bool) : Option Int :=
  (i_ProjectOk b0).bind fun v1 =>
  Option.bind
  ((bif (!v1) then
  some true
  else
  (i_Project_hasActivity b0 b1).bind fun v4 =>
  some (!v4))) fun e2 =>
  (bif e2 then
  some 0
  else
  (idxL b0.Activities b1).bind fun v6 =>
  Option.bind
  (i_ChooseMode_L1 b2 v6.Modes 0 0 0) fun p31 =>
  some p31)
def w_FnExactChooseMode (b0 : TProject) (b1 : Int) (b2 : Bool) : Option Bool :=
  (w_szProject b0 1048576).bind fun v1 =>
  (bif (decide (v1 < 0)) then
  some true
  else
  (w_toProject b0).bind fun v3 =>
  (s_ChooseMode v3 b1 b2).bind fun v4 =>
  (w_toProject b0).bind fun v5 =>
  (i_ChooseMode v5 b1 b2).bind fun v6 =>
  (bif (v6 != v4) then
  some false
  else
  (w_toProject b0).bind fun v8 =>
  (w_eqProject v5 v8).bind fun v9 =>
  (bif (!v9) then
  some false
  else
  some true)))
def w_szLiteralS (b0 : List TLiteral) (b1 : Int) : Option Int :=
  (bif (decide ((W (b1 - (b0.length : Int))) < 0)) then
  some (-1)
  else
  some (W (b1 - (b0.length : Int))))
def w_toLiteral (b0 : TLiteral) : Option TLiteral :=
  some b0
def w_toLiteralS_L1  : List TLiteral → Int → (List TLiteral) → Option (List TLiteral)
  | [], z9, a10 =>
    some a10
  | x11 :: xs12, z9, a10 =>
    (w_toLiteral x11).bind fun v14 =>
    (idxL a10 z9).bind fun v15 =>
    w_toLiteralS_L1 xs12 (z9 + 1) (setL a10 z9 v14)
def w_toLiteralS (b0 : List TLiteral) : Option (List TLiteral) :=
  (makeL (TLiteral.mk 0 0 0) (b0.length : Int)).bind fun v1 =>
  Option.bind
  (w_toLiteralS_L1 b0 0 v1) fun p16 =>
  some p16
def s_LiteralOk (b0 : TProject) (b1 : TLiteral) : Option Bool :=
  (s_ProjectOk b0).bind fun v1 =>
  Option.bind
  ((bif (!v1) then
  some true
  else
  (s_l01In b1.Activity 0 (W ((b0.Activities.length : Int) - 1))).bind fun v4 =>
  some (!v4))) fun e2 =>
  (bif e2 then
  some false
  else
  Option.bind
  ((bif (b1.Kind == 1) then
  some (b1.Kind == 1)
  else
  some (b1.Kind == 2))) fun p11 =>
  (bif p11 then
  (s_l01In b1.Value (-1) 61).bind fun v13 =>
  some v13
  else
  Option.bind
  ((bif (b1.Kind == 3) then
  some (b1.Kind == 3)
  else
  some (b1.Kind == 4))) fun p19 =>
  (bif p19 then
  (idxL b0.Activities b1.Activity).bind fun v21 =>
  (s_l01In b1.Value 0 (W ((v21.Modes.length : Int) - 1))).bind fun v22 =>
  some v22
  else
  some false)))
def s_l11Sign (b0 : Int) (b1 : Int) : Option Int :=
  (bif (decide (b0 < b1)) then
  some (-1)
  else
  (bif (decide (b1 < b0)) then
  some 1
  else
  some 0))
def s_CompareLiterals (b0 : TLiteral) (b1 : TLiteral) : Option Int :=
  (bif (b0.Activity != b1.Activity) then
  (s_l11Sign b0.Activity b1.Activity).bind fun v2 =>
  some v2
  else
  (bif (b0.Kind != b1.Kind) then
  (s_l11Sign b0.Kind b1.Kind).bind fun v4 =>
  some v4
  else
  (s_l11Sign b0.Value b1.Value).bind fun v5 =>
  some v5))
def s_ClauseOk_L1 (b0 : TProject) (b1 : List TLiteral) : List TLiteral → Int → Option (Unit ⊕ Bool)
  | [], z8 =>
    some (Sum.inl ())
  | x9 :: xs10, z8 =>
    (s_LiteralOk b0 x9).bind fun v12 =>
    Option.bind
    ((bif (!v12) then
    some true
    else
    (bif (decide (0 < z8)) then
    (idxL b1 (z8 - 1)).bind fun v16 =>
    (s_CompareLiterals v16 x9).bind fun v17 =>
    some (decide (0 ≤ v17))
    else
    some false))) fun e13 =>
    (bif e13 then
    some (Sum.inr false)
    else
    s_ClauseOk_L1 b0 b1 xs10 (z8 + 1))
def s_ClauseOk (b0 : TProject) (b1 : List TLiteral) : Option Bool :=
  sumBind
  (s_ClauseOk_L1 b0 b1 b1 0)
  (fun q20 => some q20) fun p19 =>
  some (decide ((b1.length : Int) ≤ 24))
def i_LiteralOk (b0 : TProject) (b1 : TLiteral) : Option Bool :=
  (i_ProjectOk b0).bind fun v1 =>
  Option.bind
  ((bif (!v1) then
  some true
  else
  (i_Project_hasActivity b0 b1.Activity).bind fun v4 =>
  some (!v4))) fun e2 =>
  (bif e2 then
  some false
  else
  Option.bind
  ((bif (b1.Kind == 1) then
  some (b1.Kind == 1)
  else
  some (b1.Kind == 2))) fun p11 =>
  (bif p11 then
  (i_within b1.Value (-1) 61).bind fun v13 =>
  some v13
  else
  Option.bind
  ((bif (b1.Kind == 3) then
  some (b1.Kind == 3)
  else
  some (b1.Kind == 4))) fun p19 =>
  (bif p19 then
  (idxL b0.Activities b1.Activity).bind fun v21 =>
  (i_within b1.Value 0 (W ((v21.Modes.length : Int) - 1))).bind fun v22 =>
  some v22
  else
  some false)))
def cmp_isNaN_int (b0 : Int) : Option Bool :=
  some (b0 != b0)
def cmp_Compare_int (b0 : Int) (b1 : Int) : Option Int :=
  (cmp_isNaN_int b0).bind fun v1 =>
  (cmp_isNaN_int b1).bind fun v2 =>
  (bif v1 then
  (bif v2 then
  some 0
  else
  some (-1))
  else
  (bif v2 then
  some 1
  else
  (bif (decide (b0 < b1)) then
  some (-1)
  else
  (bif (decide (b1 < b0)) then
  some 1
  else
  some 0))))
def cmp_Or_int_L1  : List Int → Int → Option (Unit ⊕ Int)
  | [], z8 =>
    some (Sum.inl ())
  | x9 :: xs10, z8 =>
    (bif (x9 != 0) then
    some (Sum.inr x9)
    else
    cmp_Or_int_L1 xs10 (z8 + 1))
def cmp_Or_int (b0 : List Int) : Option Int :=
  sumBind
  (cmp_Or_int_L1 b0 0)
  (fun q14 => some q14) fun p13 =>
  some 0
def i_CompareLiterals (b0 : TLiteral) (b1 : TLiteral) : Option Int :=
  (cmp_Compare_int b0.Activity b1.Activity).bind fun v1 =>
  (cmp_Compare_int b0.Kind b1.Kind).bind fun v2 =>
  (cmp_Compare_int b0.Value b1.Value).bind fun v3 =>
  (cmp_Or_int ([v1, v2, v3] : List Int)).bind fun v4 =>
  some v4
def i_ClauseOk_L1 (b0 : TProject) (b1 : List TLiteral) : List TLiteral → Int → Option (Unit ⊕ Bool)
  | [], z8 =>
    some (Sum.inl ())
  | x9 :: xs10, z8 =>
    (i_LiteralOk b0 x9).bind fun v12 =>
    Option.bind
    ((bif (!v12) then
    some true
    else
    (bif (decide (0 < z8)) then
    (idxL b1 (z8 - 1)).bind fun v16 =>
    (i_CompareLiterals v16 x9).bind fun v17 =>
    some (decide (0 ≤ v17))
    else
    some false))) fun e13 =>
    (bif e13 then
    some (Sum.inr false)
    else
    i_ClauseOk_L1 b0 b1 xs10 (z8 + 1))
def i_ClauseOk (b0 : TProject) (b1 : List TLiteral) : Option Bool :=
  sumBind
  (i_ClauseOk_L1 b0 b1 b1 0)
  (fun q20 => some q20) fun p19 =>
  some (decide ((b1.length : Int) ≤ 24))
def w_eqLiteral (b0 : TLiteral) (b1 : TLiteral) : Option Bool :=
  (bif (b0.Kind != b1.Kind) then
  some false
  else
  (bif (b0.Activity != b1.Activity) then
  some false
  else
  (bif (b0.Value != b1.Value) then
  some false
  else
  some true)))
def w_eqLiteralS_L1 (b1 : List TLiteral) : List TLiteral → Int → Option (Unit ⊕ Bool)
  | [], z9 =>
    some (Sum.inl ())
  | x10 :: xs11, z9 =>
    (idxL b1 z9).bind fun v13 =>
    (w_eqLiteral x10 v13).bind fun v14 =>
    (bif (!v14) then
    some (Sum.inr false)
    else
    w_eqLiteralS_L1 b1 xs11 (z9 + 1))
def w_eqLiteralS (b0 : List TLiteral) (b1 : List TLiteral) : Option Bool :=
  (bif ((b0.length : Int) != (b1.length : Int)) then
  some false
  else
  sumBind
  (w_eqLiteralS_L1 b1 b0 0)
  (fun q17 => some q17) fun p16 =>
  some true)
def w_FnExactClauseOk (b0 : TProject) (b1 : List TLiteral) : Option Bool :=
  (w_szProject b0 1048576).bind fun v1 =>
  (bif (decide (v1 < 0)) then
  some true
  else
  (w_szLiteralS b1 v1).bind fun v3 =>
  (bif (decide (v3 < 0)) then
  some true
  else
  (w_toProject b0).bind fun v5 =>
  (w_toLiteralS b1).bind fun v6 =>
  (s_ClauseOk v5 v6).bind fun v7 =>
  (w_toProject b0).bind fun v8 =>
  (w_toLiteralS b1).bind fun v9 =>
  (i_ClauseOk v8 v9).bind fun v10 =>
  (bif (v10 != v7) then
  some false
  else
  (w_toProject b0).bind fun v12 =>
  (w_eqProject v8 v12).bind fun v13 =>
  (bif (!v13) then
  some false
  else
  (w_toLiteralS b1).bind fun v15 =>
  (w_eqLiteralS v9 v15).bind fun v16 =>
  (bif (!v16) then
  some false
  else
  some true)))))
def w_szSchedule (b0 : TSchedule) (b1 : Int) : Option Int :=
  (w_szIntS b0.Starts b1).bind fun v1 =>
  (bif (decide (v1 < 0)) then
  some (-1)
  else
  (w_szIntS b0.Modes v1).bind fun v3 =>
  (bif (decide (v3 < 0)) then
  some (-1)
  else
  some v3))
def w_szPlan (b0 : TPlan) (b1 : Int) : Option Int :=
  (w_szSchedule b0.Schedule b1).bind fun v1 =>
  (bif (decide (v1 < 0)) then
  some (-1)
  else
  (w_szIntS b0.Done v1).bind fun v3 =>
  (bif (decide (v3 < 0)) then
  some (-1)
  else
  some v3))
def w_toSchedule (b0 : TSchedule) : Option TSchedule :=
  (w_toIntS b0.Starts).bind fun v1 =>
  (w_toIntS b0.Modes).bind fun v2 =>
  some (TSchedule.mk v1 v2)
def w_toPlan (b0 : TPlan) : Option TPlan :=
  (w_toSchedule b0.Schedule).bind fun v1 =>
  (w_toIntS b0.Done).bind fun v2 =>
  some (TPlan.mk v1 v2)
def s_ScheduleForm_L1 (b1 : TSchedule) : List TActivity → Int → Option (Unit ⊕ Bool)
  | [], z13 =>
    some (Sum.inl ())
  | x14 :: xs15, z13 =>
    (idxL b1.Starts z13).bind fun v17 =>
    (s_l01In v17 0 60).bind fun v18 =>
    Option.bind
    ((bif (!v18) then
    some true
    else
    (idxL b1.Modes z13).bind fun v21 =>
    (s_l01In v21 0 (W ((x14.Modes.length : Int) - 1))).bind fun v22 =>
    some (!v22))) fun e19 =>
    (bif e19 then
    some (Sum.inr false)
    else
    s_ScheduleForm_L1 b1 xs15 (z13 + 1))
def s_ScheduleForm (b0 : TProject) (b1 : TSchedule) : Option Bool :=
  (s_ProjectOk b0).bind fun v1 =>
  Option.bind
  ((bif (!v1) then
  some true
  else
  (bif ((b1.Starts.length : Int) != (b0.Activities.length : Int)) then
  some true
  else
  some ((b1.Modes.length : Int) != (b0.Activities.length : Int))))) fun e2 =>
  (bif e2 then
  some false
  else
  sumBind
  (s_ScheduleForm_L1 b1 b0.Activities 0)
  (fun q25 => some q25) fun p24 =>
  some true)
def s_SetOk_L1 (b0 : List Int) : List Int → Int → Option (Unit ⊕ Bool)
  | [], z8 =>
    some (Sum.inl ())
  | x9 :: xs10, z8 =>
    Option.bind
    ((bif (decide (0 < z8)) then
    (idxL b0 (z8 - 1)).bind fun v14 =>
    some (decide (x9 ≤ v14))
    else
    some false)) fun e12 =>
    (bif e12 then
    some (Sum.inr false)
    else
    s_SetOk_L1 b0 xs10 (z8 + 1))
def s_SetOk (b0 : List Int) : Option Bool :=
  sumBind
  (s_SetOk_L1 b0 b0 0)
  (fun q17 => some q17) fun p16 =>
  some true
def s_IntRange_L1 (b0 : Int) : Nat → Int → (List Int) → Option (List Int)
  | 0, _, _ => none
  | fuel + 1, a9, a10 =>
    (bif (decide (a9 < b0)) then
    (appL a10 ([a9] : List Int)).bind fun v14 =>
    s_IntRange_L1 b0 fuel (W (a9 + 1)) v14
    else
    some a10)
def s_IntRange (b0 : Int) : Option (List Int) :=
  (s_l01In b0 0 200).bind fun v1 =>
  (bif (!v1) then
  some ([] : List Int)
  else
  Option.bind
  (s_IntRange_L1 b0 F0 0 ([] : List Int)) fun p15 =>
  some p15)
def s_SetHas_L1 (b1 : Int) : List Int → Int → Option (Unit ⊕ Bool)
  | [], z8 =>
    some (Sum.inl ())
  | x9 :: xs10, z8 =>
    (bif (x9 == b1) then
    some (Sum.inr true)
    else
    s_SetHas_L1 b1 xs10 (z8 + 1))
def s_SetHas (b0 : List Int) (b1 : Int) : Option Bool :=
  sumBind
  (s_SetHas_L1 b1 b0 0)
  (fun q14 => some q14) fun p13 =>
  some false
def s_SetSubset_L1 (b1 : List Int) : List Int → Int → Option (Unit ⊕ Bool)
  | [], z8 =>
    some (Sum.inl ())
  | x9 :: xs10, z8 =>
    (s_SetHas b1 x9).bind fun v12 =>
    (bif (!v12) then
    some (Sum.inr false)
    else
    s_SetSubset_L1 b1 xs10 (z8 + 1))
def s_SetSubset (b0 : List Int) (b1 : List Int) : Option Bool :=
  sumBind
  (s_SetSubset_L1 b1 b0 0)
  (fun q15 => some q15) fun p14 =>
  some true
def s_PlanOk (b0 : TProject) (b1 : TPlan) : Option Bool :=
  (s_ScheduleForm b0 b1.Schedule).bind fun v1 =>
  Option.bind
  ((bif v1 then
  (s_SetOk b1.Done).bind fun v4 =>
  (bif v4 then
  (s_IntRange (b0.Activities.length : Int)).bind fun v6 =>
  (s_SetSubset b1.Done v6).bind fun v7 =>
  some v7
  else
  some false)
  else
  some false)) fun e2 =>
  some e2
def i_ScheduleForm_L1 (b1 : TSchedule) : List TActivity → Int → Option (Unit ⊕ Bool)
  | [], z13 =>
    some (Sum.inl ())
  | x14 :: xs15, z13 =>
    (idxL b1.Starts z13).bind fun v17 =>
    (i_isTime v17).bind fun v18 =>
    Option.bind
    ((bif (!v18) then
    some true
    else
    (idxL b1.Modes z13).bind fun v21 =>
    (i_within v21 0 (W ((x14.Modes.length : Int) - 1))).bind fun v22 =>
    some (!v22))) fun e19 =>
    (bif e19 then
    some (Sum.inr false)
    else
    i_ScheduleForm_L1 b1 xs15 (z13 + 1))
def i_ScheduleForm (b0 : TProject) (b1 : TSchedule) : Option Bool :=
  (i_ProjectOk b0).bind fun v1 =>
  Option.bind
  ((bif (!v1) then
  some true
  else
  (bif ((b1.Starts.length : Int) != (b0.Activities.length : Int)) then
  some true
  else
  some ((b1.Modes.length : Int) != (b0.Activities.length : Int))))) fun e2 =>
  (bif e2 then
  some false
  else
  sumBind
  (i_ScheduleForm_L1 b1 b0.Activities 0)
  (fun q25 => some q25) fun p24 =>
  some true)
def i_SetOk_L1 (b0 : List Int) : Nat → Int → Option (Unit ⊕ Bool)
  | 0, _ => none
  | fuel + 1, a6 =>
    (bif (decide (a6 < (b0.length : Int))) then
    (idxL b0 a6).bind fun v10 =>
    (idxL b0 (W (a6 - 1))).bind fun v11 =>
    (bif (decide (v10 ≤ v11)) then
    some (Sum.inr false)
    else
    i_SetOk_L1 b0 fuel (W (a6 + 1)))
    else
    some (Sum.inl ()))
def i_SetOk (b0 : List Int) : Option Bool :=
  sumBind
  (i_SetOk_L1 b0 F0 1)
  (fun q14 => some q14) fun p13 =>
  some true
def i_IntRange_L1 (b0 : Int) : Nat → Int → (List Int) → Option (List Int)
  | 0, _, _ => none
  | fuel + 1, a9, a10 =>
    (bif (decide (a9 < b0)) then
    (appL a10 ([a9] : List Int)).bind fun v14 =>
    i_IntRange_L1 b0 fuel (W (a9 + 1)) v14
    else
    some a10)
def i_IntRange (b0 : Int) : Option (List Int) :=
  (i_within b0 0 200).bind fun v1 =>
  (bif (!v1) then
  some ([] : List Int)
  else
  Option.bind
  (i_IntRange_L1 b0 F0 0 ([] : List Int)) fun p15 =>
  some p15)
def slices_Index_int_L1 (b1 : Int) : List Int → Int → Option (Unit ⊕ Int)
  | [], z8 =>
    some (Sum.inl ())
  | x9 :: xs10, z8 =>
    (bif (b1 == x9) then
    some (Sum.inr z8)
    else
    slices_Index_int_L1 b1 xs10 (z8 + 1))
def slices_Index_int (b0 : List Int) (b1 : Int) : Option Int :=
  sumBind
  (slices_Index_int_L1 b1 b0 0)
  (fun q14 => some q14) fun p13 =>
  some (-1)
def slices_Contains_int (b0 : List Int) (b1 : Int) : Option Bool :=
  (slices_Index_int b0 b1).bind fun v1 =>
  some (decide (0 ≤ v1))
def i_SetHas (b0 : List Int) (b1 : Int) : Option Bool :=
  (slices_Contains_int b0 b1).bind fun v1 =>
  some v1
def i_SetSubset_L1 (b1 : List Int) : List Int → Int → Option (Unit ⊕ Bool)
  | [], z8 =>
    some (Sum.inl ())
  | x9 :: xs10, z8 =>
    (i_SetHas b1 x9).bind fun v12 =>
    (bif (!v12) then
    some (Sum.inr false)
    else
    i_SetSubset_L1 b1 xs10 (z8 + 1))
def i_SetSubset (b0 : List Int) (b1 : List Int) : Option Bool :=
  sumBind
  (i_SetSubset_L1 b1 b0 0)
  (fun q15 => some q15) fun p14 =>
  some true
def i_PlanOk (b0 : TProject) (b1 : TPlan) : Option Bool :=
  (i_ScheduleForm b0 b1.Schedule).bind fun v1 =>
  Option.bind
  ((bif v1 then
  (i_SetOk b1.Done).bind fun v4 =>
  (bif v4 then
  (i_IntRange (b0.Activities.length : Int)).bind fun v6 =>
  (i_SetSubset b1.Done v6).bind fun v7 =>
  some v7
  else
  some false)
  else
  some false)) fun e2 =>
  some e2
def w_eqSchedule (b0 : TSchedule) (b1 : TSchedule) : Option Bool :=
  (w_eqIntS b0.Starts b1.Starts).bind fun v1 =>
  (bif (!v1) then
  some false
  else
  (w_eqIntS b0.Modes b1.Modes).bind fun v3 =>
  (bif (!v3) then
  some false
  else
  some true))
def w_eqPlan (b0 : TPlan) (b1 : TPlan) : Option Bool :=
  (w_eqSchedule b0.Schedule b1.Schedule).bind fun v1 =>
  (bif (!v1) then
  some false
  else
  (w_eqIntS b0.Done b1.Done).bind fun v3 =>
  (bif (!v3) then
  some false
  else
  some true))
def w_FnExactPlanOk (b0 : TProject) (b1 : TPlan) : Option Bool :=
  (w_szProject b0 1048576).bind fun v1 =>
  (bif (decide (v1 < 0)) then
  some true
  else
  (w_szPlan b1 v1).bind fun v3 =>
  (bif (decide (v3 < 0)) then
  some true
  else
  (w_toProject b0).bind fun v5 =>
  (w_toPlan b1).bind fun v6 =>
  (s_PlanOk v5 v6).bind fun v7 =>
  (w_toProject b0).bind fun v8 =>
  (w_toPlan b1).bind fun v9 =>
  (i_PlanOk v8 v9).bind fun v10 =>
  (bif (v10 != v7) then
  some false
  else
  (w_toProject b0).bind fun v12 =>
  (w_eqProject v8 v12).bind fun v13 =>
  (bif (!v13) then
  some false
  else
  (w_toPlan b1).bind fun v15 =>
  (w_eqPlan v9 v15).bind fun v16 =>
  (bif (!v16) then
  some false
  else
  some true)))))
def s_NewPlan (b0 : TProject) : Option TPlan :=
  (s_ProjectOk b0).bind fun v1 =>
  (bif (!v1) then
  some (TPlan.mk (TSchedule.mk ([] : List Int) ([] : List Int)) ([] : List Int))
  else
  (makeL 0 (b0.Activities.length : Int)).bind fun v3 =>
  (makeL 0 (b0.Activities.length : Int)).bind fun v4 =>
  some (TPlan.mk (TSchedule.mk v3 v4) ([] : List Int)))
def i_NewPlan_L1  : List TActivity → Int → (List Int) → (List Int) → Option ((List Int) × (List Int))
  | [], z10, a11, a12 =>
    some (a11, a12)
  | x13 :: xs14, z10, a11, a12 =>
    (appL a11 ([0] : List Int)).bind fun v16 =>
    (appL a12 ([0] : List Int)).bind fun v17 =>
    i_NewPlan_L1 xs14 (z10 + 1) v16 v17
def i_NewPlan (b0 : TProject) : Option TPlan :=
  (i_ProjectOk b0).bind fun v1 =>
  (bif (!v1) then
  some (TPlan.mk (TSchedule.mk ([] : List Int) ([] : List Int)) ([] : List Int))
  else
  Option.bind
  (i_NewPlan_L1 b0.Activities 0 ([] : List Int) ([] : List Int)) fun p18 =>
  some (TPlan.mk (TSchedule.mk p18.1 p18.2) ([] : List Int)))
def w_markText_L1  : Nat → Int → ByteArray → Option ByteArray
  | 0, _, _ => none
  | fuel + 1, a7, a8 =>
    (bif (decide (0 < a7)) then
    (catS (strB ([(IntKind.u8.wrap (W (48 + (a7.tmod 10))))] : List Int)) a8).bind fun v12 =>
    w_markText_L1 fuel (W (a7.tdiv 10)) v12
    else
    some a8)
def w_markText (b0 : Int) : Option ByteArray :=
  (bif (decide (b0 ≤ 0)) then
  some (⟨#[109, 48]⟩ : ByteArray)
  else
  Option.bind
  (w_markText_L1 F0 b0 ByteArray.empty) fun p13 =>
  (catS (⟨#[109]⟩ : ByteArray) p13).bind fun v14 =>
  some v14)
def w_markIntS_k_L1  : List Int → Int → Int → Option Int
  | [], z8, a9 =>
    some a9
  | x10 :: xs11, z8, a9 =>
    w_markIntS_k_L1 xs11 (z8 + 1) (W (a9 + 1))
def w_markIntS_k (b0 : List Int) (b1 : Int) : Option Int :=
  Option.bind
  (w_markIntS_k_L1 b0 0 b1) fun p13 =>
  some p13
def w_markModeS_k_L1  : List TMode → Int → Int → Option Int
  | [], z8, a9 =>
    some a9
  | x10 :: xs11, z8, a9 =>
    (w_markIntS_k x10.Usage (W (a9 + 1))).bind fun v13 =>
    (w_markIntS_k x10.Consumption v13).bind fun v14 =>
    w_markModeS_k_L1 xs11 (z8 + 1) v14
def w_markModeS_k (b0 : List TMode) (b1 : Int) : Option Int :=
  Option.bind
  (w_markModeS_k_L1 b0 0 b1) fun p15 =>
  some p15
def w_markActivityS_k_L1  : List TActivity → Int → Int → Option Int
  | [], z8, a9 =>
    some a9
  | x10 :: xs11, z8, a9 =>
    (w_markText a9).bind fun v13 =>
    (w_markModeS_k x10.Modes (W ((W (a9 + 1)) + 1))).bind fun v14 =>
    w_markActivityS_k_L1 xs11 (z8 + 1) v14
def w_markActivityS_k (b0 : List TActivity) (b1 : Int) : Option Int :=
  Option.bind
  (w_markActivityS_k_L1 b0 0 b1) fun p15 =>
  some p15
def w_markLinkS_k_L1  : List TLink → Int → Int → Option Int
  | [], z8, a9 =>
    some a9
  | x10 :: xs11, z8, a9 =>
    w_markLinkS_k_L1 xs11 (z8 + 1) (W ((W ((W ((W (a9 + 1)) + 1)) + 1)) + 1))
def w_markLinkS_k (b0 : List TLink) (b1 : Int) : Option Int :=
  Option.bind
  (w_markLinkS_k_L1 b0 0 b1) fun p13 =>
  some p13
def w_markStepS_k_L1  : List TStep → Int → Int → Option Int
  | [], z8, a9 =>
    some a9
  | x10 :: xs11, z8, a9 =>
    w_markStepS_k_L1 xs11 (z8 + 1) (W ((W (a9 + 1)) + 1))
def w_markStepS_k (b0 : List TStep) (b1 : Int) : Option Int :=
  Option.bind
  (w_markStepS_k_L1 b0 0 b1) fun p13 =>
  some p13
def w_markIntSS_k_L1  : List (List Int) → Int → Int → Option Int
  | [], z8, a9 =>
    some a9
  | x10 :: xs11, z8, a9 =>
    (w_markIntS_k x10 a9).bind fun v13 =>
    w_markIntSS_k_L1 xs11 (z8 + 1) v13
def w_markIntSS_k (b0 : List (List Int)) (b1 : Int) : Option Int :=
  Option.bind
  (w_markIntSS_k_L1 b0 0 b1) fun p14 =>
  some p14
def w_markResourceS_k_L1  : List TResource → Int → Int → Option Int
  | [], z8, a9 =>
    some a9
  | x10 :: xs11, z8, a9 =>
    (w_markStepS_k x10.Steps a9).bind fun v13 =>
    (w_markIntSS_k x10.Setup v13).bind fun v14 =>
    w_markResourceS_k_L1 xs11 (z8 + 1) v14
def w_markResourceS_k (b0 : List TResource) (b1 : Int) : Option Int :=
  Option.bind
  (w_markResourceS_k_L1 b0 0 b1) fun p15 =>
  some p15
def w_markProject_k (b0 : TProject) (b1 : Int) : Option Int :=
  (w_markActivityS_k b0.Activities b1).bind fun v1 =>
  (w_markLinkS_k b0.Links v1).bind fun v2 =>
  (w_markResourceS_k b0.Resources v2).bind fun v3 =>
  (w_markIntS_k b0.Stocks v3).bind fun v4 =>
  some v4
def w_markIntS_L1  : Nat → Int → Int → (List Int) → Option (Int × (List Int))
  | 0, _, _, _ => none
  | fuel + 1, a7, a8, a9 =>
    (bif (decide (a8 < (a9.length : Int))) then
    (idxL a9 a8).bind fun v13 =>
    w_markIntS_L1 fuel (W (a7 + 1)) (W (a8 + 1)) (setL a9 a8 a7)
    else
    some (a7, a9))
def w_markIntS (b0 : List Int) (b1 : Int) : Option (Int × (List Int)) :=
  Option.bind
  (w_markIntS_L1 F0 b1 0 b0) fun p14 =>
  some (p14.1, p14.2)
def w_markSchedule (b0 : TSchedule) (b1 : Int) : Option (Int × (List Int) × (List Int)) :=
  (w_markIntS b0.Starts b1).bind fun v1 =>
  (w_markIntS b0.Modes v1.1).bind fun v2 =>
  some (v2.1, v1.2, v2.2)
def w_markPlan (b0 : TPlan) (b1 : Int) : Option (Int × (List Int) × (List Int) × (List Int)) :=
  (w_markSchedule b0.Schedule b1).bind fun v1 =>
  (w_markIntS b0.Done v1.1).bind fun v2 =>
  some (v2.1, v1.2.1, v1.2.2, v2.2)
def w_heldIntS_L1  : List Int → Int → Int → Option (Int ⊕ Int)
  | [], z8, a9 =>
    some (Sum.inl a9)
  | x10 :: xs11, z8, a9 =>
    (bif (x10 != a9) then
    some (Sum.inr (-1))
    else
    w_heldIntS_L1 xs11 (z8 + 1) (W (a9 + 1)))
def w_heldIntS (b0 : List Int) (b1 : Int) : Option Int :=
  sumBind
  (w_heldIntS_L1 b0 0 b1)
  (fun q15 => some q15) fun p14 =>
  some p14
def w_heldSchedule (b0 : TSchedule) (b1 : Int) : Option Int :=
  (w_heldIntS b0.Starts b1).bind fun v1 =>
  (bif (decide (v1 < 0)) then
  some (-1)
  else
  (w_heldIntS b0.Modes v1).bind fun v3 =>
  (bif (decide (v3 < 0)) then
  some (-1)
  else
  some v3))
def w_heldPlan (b0 : TPlan) (b1 : Int) : Option Int :=
  (w_heldSchedule b0.Schedule b1).bind fun v1 =>
  (bif (decide (v1 < 0)) then
  some (-1)
  else
  (w_heldIntS b0.Done v1).bind fun v3 =>
  (bif (decide (v3 < 0)) then
  some (-1)
  else
  some v3))
def w_FnExactNewPlan (b0 : TProject) : Option Bool :=
  (w_szProject b0 1048576).bind fun v1 =>
  (bif (decide (v1 < 0)) then
  some true
  else
  (w_toProject b0).bind fun v3 =>
  (s_NewPlan v3).bind fun v4 =>
  (w_toProject b0).bind fun v5 =>
  (i_NewPlan v5).bind fun v6 =>
  (w_eqPlan v6 v4).bind fun v7 =>
  (bif (!v7) then
  some false
  else
  (w_toProject b0).bind fun v9 =>
  (w_eqProject v5 v9).bind fun v10 =>
  (bif (!v10) then
  some false
  else
  (w_markProject_k v5 1).bind fun v12 =>
  Option.bind
  ((bif (decide (v12 < 0)) then
  some true
  else
  (w_eqPlan v6 v4).bind fun v15 =>
  some (!v15))) fun e13 =>
  (bif e13 then
  some false
  else
  (w_markPlan v6 1).bind fun v17 =>
  (w_heldPlan (TPlan.mk (TSchedule.mk v17.2.1 v17.2.2.1) v17.2.2.2) 1).bind fun v18 =>
  (bif (decide (v18 < 0)) then
  some false
  else
  (bif (v18 != v17.1) then
  some false
  else
  (w_toProject b0).bind fun v21 =>
  (i_NewPlan v21).bind fun v22 =>
  (w_eqPlan v22 v4).bind fun v23 =>
  (bif (!v23) then
  some false
  else
  (w_heldPlan (TPlan.mk (TSchedule.mk v17.2.1 v17.2.2.1) v17.2.2.2) 1).bind fun v25 =>
  (bif (decide (v25 < 0)) then
  some false
  else
  (bif (v25 != v17.1) then
  some false
  else
  some true)))))))))
def w_szDomain (b0 : TDomain) (b1 : Int) : Option Int :=
  (w_szIntS b0.MinStart b1).bind fun v1 =>
  (bif (decide (v1 < 0)) then
  some (-1)
  else
  (w_szIntS b0.MaxStart v1).bind fun v3 =>
  (bif (decide (v3 < 0)) then
  some (-1)
  else
  (w_szIntSS b0.Modes v3).bind fun v5 =>
  (bif (decide (v5 < 0)) then
  some (-1)
  else
  some v5)))
def w_szLine (b0 : TLine) (b1 : Int) : Option Int :=
  (w_szLiteralS b0.Clause b1).bind fun v1 =>
  (bif (decide (v1 < 0)) then
  some (-1)
  else
  some v1)
def w_szLineS_L1  : List TLine → Int → Int → Option (Int ⊕ Int)
  | [], z9, a10 =>
    some (Sum.inl a10)
  | x11 :: xs12, z9, a10 =>
    (w_szLine x11 a10).bind fun v14 =>
    (bif (decide (v14 < 0)) then
    some (Sum.inr (-1))
    else
    w_szLineS_L1 xs12 (z9 + 1) v14)
def w_szLineS (b0 : List TLine) (b1 : Int) : Option Int :=
  (bif (decide ((W (b1 - (b0.length : Int))) < 0)) then
  some (-1)
  else
  sumBind
  (w_szLineS_L1 b0 0 (W (b1 - (b0.length : Int))))
  (fun q17 => some q17) fun p16 =>
  some p16)
def w_szLog (b0 : TLog) (b1 : Int) : Option Int :=
  (w_szProject b0.Project b1).bind fun v1 =>
  (bif (decide (v1 < 0)) then
  some (-1)
  else
  (w_szDomain b0.Domain v1).bind fun v3 =>
  (bif (decide (v3 < 0)) then
  some (-1)
  else
  (w_szLiteralS b0.Decisions v3).bind fun v5 =>
  (bif (decide (v5 < 0)) then
  some (-1)
  else
  (w_szLineS b0.Lines v5).bind fun v7 =>
  (bif (decide (v7 < 0)) then
  some (-1)
  else
  some v7))))
def w_toDomain (b0 : TDomain) : Option TDomain :=
  (w_toIntS b0.MinStart).bind fun v1 =>
  (w_toIntS b0.MaxStart).bind fun v2 =>
  (w_toIntSS b0.Modes).bind fun v3 =>
  some (TDomain.mk v1 v2 v3)
def w_toRule (b0 : TRule) : Option TRule :=
  some b0
def w_toLine (b0 : TLine) : Option TLine :=
  (w_toRule b0.Rule).bind fun v1 =>
  (w_toLiteralS b0.Clause).bind fun v2 =>
  some (TLine.mk b0.Kind v1 v2)
def w_toLineS_L1  : List TLine → Int → (List TLine) → Option (List TLine)
  | [], z9, a10 =>
    some a10
  | x11 :: xs12, z9, a10 =>
    (w_toLine x11).bind fun v14 =>
    (idxL a10 z9).bind fun v15 =>
    w_toLineS_L1 xs12 (z9 + 1) (setL a10 z9 v14)
def w_toLineS (b0 : List TLine) : Option (List TLine) :=
  (makeL (TLine.mk 0 (TRule.mk 0 0 0 0) []) (b0.length : Int)).bind fun v1 =>
  Option.bind
  (w_toLineS_L1 b0 0 v1) fun p16 =>
  some p16
def w_toLog (b0 : TLog) : Option TLog :=
  (w_toProject b0.Project).bind fun v1 =>
  (w_toDomain b0.Domain).bind fun v2 =>
  (w_toLiteralS b0.Decisions).bind fun v3 =>
  (w_toLineS b0.Lines).bind fun v4 =>
  some (TLog.mk v1 v2 v3 v4)
def s_SetEqual_L1 (b1 : List Int) : List Int → Int → Option (Unit ⊕ Bool)
  | [], z9 =>
    some (Sum.inl ())
  | x10 :: xs11, z9 =>
    (idxL b1 z9).bind fun v13 =>
    (bif (x10 != v13) then
    some (Sum.inr false)
    else
    s_SetEqual_L1 b1 xs11 (z9 + 1))
def s_SetEqual (b0 : List Int) (b1 : List Int) : Option Bool :=
  (bif ((b0.length : Int) != (b1.length : Int)) then
  some false
  else
  sumBind
  (s_SetEqual_L1 b1 b0 0)
  (fun q16 => some q16) fun p15 =>
  some true)
def s_ActivityEqual_L1 (b1 : TActivity) : List TMode → Int → Option (Unit ⊕ Bool)
  | [], z12 =>
    some (Sum.inl ())
  | x13 :: xs14, z12 =>
    (idxL b1.Modes z12).bind fun v16 =>
    Option.bind
    ((bif (x13.Duration != v16.Duration) then
    some true
    else
    (s_SetEqual x13.Usage v16.Usage).bind fun v19 =>
    (bif (!v19) then
    some true
    else
    (s_SetEqual x13.Consumption v16.Consumption).bind fun v21 =>
    some (!v21)))) fun e17 =>
    (bif e17 then
    some (Sum.inr false)
    else
    s_ActivityEqual_L1 b1 xs14 (z12 + 1))
def s_ActivityEqual (b0 : TActivity) (b1 : TActivity) : Option Bool :=
  Option.bind
  ((bif (b0.Name != b1.Name) then
  some true
  else
  (bif (b0.Family != b1.Family) then
  some true
  else
  some ((b0.Modes.length : Int) != (b1.Modes.length : Int))))) fun e1 =>
  (bif e1 then
  some false
  else
  sumBind
  (s_ActivityEqual_L1 b1 b0.Modes 0)
  (fun q24 => some q24) fun p23 =>
  some true)
def s_StepsEqual_L1 (b1 : List TStep) : List TStep → Int → Option (Unit ⊕ Bool)
  | [], z9 =>
    some (Sum.inl ())
  | x10 :: xs11, z9 =>
    (idxL b1 z9).bind fun v13 =>
    (bif (!(x10.At == v13.At && (x10.Capacity == v13.Capacity && true))) then
    some (Sum.inr false)
    else
    s_StepsEqual_L1 b1 xs11 (z9 + 1))
def s_StepsEqual (b0 : List TStep) (b1 : List TStep) : Option Bool :=
  (bif ((b0.length : Int) != (b1.length : Int)) then
  some false
  else
  sumBind
  (s_StepsEqual_L1 b1 b0 0)
  (fun q16 => some q16) fun p15 =>
  some true)
def s_ProjectEqual_L1 (b1 : TProject) : List TActivity → Int → Option (Unit ⊕ Bool)
  | [], z15 =>
    some (Sum.inl ())
  | x16 :: xs17, z15 =>
    (idxL b1.Activities z15).bind fun v19 =>
    (s_ActivityEqual x16 v19).bind fun v20 =>
    (bif (!v20) then
    some (Sum.inr false)
    else
    s_ProjectEqual_L1 b1 xs17 (z15 + 1))
def s_ProjectEqual_L2 (b1 : TProject) : List TLink → Int → Option (Unit ⊕ Bool)
  | [], z31 =>
    some (Sum.inl ())
  | x32 :: xs33, z31 =>
    (idxL b1.Links z31).bind fun v35 =>
    (bif (!(x32.From == v35.From && (x32.To == v35.To && (x32.FromEnd == v35.FromEnd && (x32.Lag == v35.Lag && true))))) then
    some (Sum.inr false)
    else
    s_ProjectEqual_L2 b1 xs33 (z31 + 1))
def s_ProjectEqual_L4 (v50 : TResource) : List (List Int) → Int → Option (Unit ⊕ Bool)
  | [], z62 =>
    some (Sum.inl ())
  | x63 :: xs64, z62 =>
    (idxL v50.Setup z62).bind fun v66 =>
    (s_SetEqual x63 v66).bind fun v67 =>
    (bif (!v67) then
    some (Sum.inr false)
    else
    s_ProjectEqual_L4 v50 xs64 (z62 + 1))
def s_ProjectEqual_L3 (b1 : TProject) : List TResource → Int → Option (Unit ⊕ Bool)
  | [], z46 =>
    some (Sum.inl ())
  | x47 :: xs48, z46 =>
    (idxL b1.Resources z46).bind fun v50 =>
    (s_StepsEqual x47.Steps v50.Steps).bind fun v51 =>
    Option.bind
    ((bif (!v51) then
    some true
    else
    some ((x47.Setup.length : Int) != (v50.Setup.length : Int)))) fun e52 =>
    (bif e52 then
    some (Sum.inr false)
    else
    sumBind
    (s_ProjectEqual_L4 v50 x47.Setup 0)
    (fun q70 => some (Sum.inr q70)) fun p69 =>
    s_ProjectEqual_L3 b1 xs48 (z46 + 1))
def s_ProjectEqual (b0 : TProject) (b1 : TProject) : Option Bool :=
  Option.bind
  ((bif (b0.Deadline != b1.Deadline) then
  some true
  else
  (bif ((b0.Activities.length : Int) != (b1.Activities.length : Int)) then
  some true
  else
  (bif ((b0.Links.length : Int) != (b1.Links.length : Int)) then
  some true
  else
  (bif ((b0.Resources.length : Int) != (b1.Resources.length : Int)) then
  some true
  else
  (s_SetEqual b0.Stocks b1.Stocks).bind fun v6 =>
  some (!v6)))))) fun e1 =>
  (bif e1 then
  some false
  else
  sumBind
  (s_ProjectEqual_L1 b1 b0.Activities 0)
  (fun q23 => some q23) fun p22 =>
  sumBind
  (s_ProjectEqual_L2 b1 b0.Links 0)
  (fun q38 => some q38) fun p37 =>
  sumBind
  (s_ProjectEqual_L3 b1 b0.Resources 0)
  (fun q72 => some q72) fun p71 =>
  some true)
def s_DomainEqual_L1 (b1 : TDomain) : List (List Int) → Int → Option (Unit ⊕ Bool)
  | [], z14 =>
    some (Sum.inl ())
  | x15 :: xs16, z14 =>
    (idxL b1.Modes z14).bind fun v18 =>
    (s_SetEqual x15 v18).bind fun v19 =>
    (bif (!v19) then
    some (Sum.inr false)
    else
    s_DomainEqual_L1 b1 xs16 (z14 + 1))
def s_DomainEqual (b0 : TDomain) (b1 : TDomain) : Option Bool :=
  (s_SetEqual b0.MinStart b1.MinStart).bind fun v1 =>
  Option.bind
  ((bif (!v1) then
  some true
  else
  (s_SetEqual b0.MaxStart b1.MaxStart).bind fun v4 =>
  (bif (!v4) then
  some true
  else
  some ((b0.Modes.length : Int) != (b1.Modes.length : Int))))) fun e2 =>
  (bif e2 then
  some false
  else
  sumBind
  (s_DomainEqual_L1 b1 b0.Modes 0)
  (fun q22 => some q22) fun p21 =>
  some true)
def s_ClauseEqual_L1 (b1 : List TLiteral) : List TLiteral → Int → Option (Unit ⊕ Bool)
  | [], z9 =>
    some (Sum.inl ())
  | x10 :: xs11, z9 =>
    (idxL b1 z9).bind fun v13 =>
    (bif (!(x10.Kind == v13.Kind && (x10.Activity == v13.Activity && (x10.Value == v13.Value && true)))) then
    some (Sum.inr false)
    else
    s_ClauseEqual_L1 b1 xs11 (z9 + 1))
def s_ClauseEqual (b0 : List TLiteral) (b1 : List TLiteral) : Option Bool :=
  (bif ((b0.length : Int) != (b1.length : Int)) then
  some false
  else
  sumBind
  (s_ClauseEqual_L1 b1 b0 0)
  (fun q16 => some q16) fun p15 =>
  some true)
def s_LineEqual (b0 : TLine) (b1 : TLine) : Option Bool :=
  Option.bind
  ((bif (b0.Kind == b1.Kind) then
  (bif (b0.Rule.Kind == b1.Rule.Kind && (b0.Rule.A == b1.Rule.A && (b0.Rule.B == b1.Rule.B && (b0.Rule.C == b1.Rule.C && true)))) then
  (s_ClauseEqual b0.Clause b1.Clause).bind fun v4 =>
  some v4
  else
  some false)
  else
  some false)) fun e1 =>
  some e1
def s_LogEqual_L1 (b1 : TLog) : List TLine → Int → Option (Unit ⊕ Bool)
  | [], z16 =>
    some (Sum.inl ())
  | x17 :: xs18, z16 =>
    (idxL b1.Lines z16).bind fun v20 =>
    (s_LineEqual x17 v20).bind fun v21 =>
    (bif (!v21) then
    some (Sum.inr false)
    else
    s_LogEqual_L1 b1 xs18 (z16 + 1))
def s_LogEqual (b0 : TLog) (b1 : TLog) : Option Bool :=
  (s_ProjectEqual b0.Project b1.Project).bind fun v1 =>
  Option.bind
  ((bif (!v1) then
  some true
  else
  (s_DomainEqual b0.Domain b1.Domain).bind fun v4 =>
  (bif (!v4) then
  some true
  else
  (s_ClauseEqual b0.Decisions b1.Decisions).bind fun v6 =>
  (bif (!v6) then
  some true
  else
  some ((b0.Lines.length : Int) != (b1.Lines.length : Int)))))) fun e2 =>
  (bif e2 then
  some false
  else
  sumBind
  (s_LogEqual_L1 b1 b0.Lines 0)
  (fun q24 => some q24) fun p23 =>
  some true)
def slices_EqualFunc_Activity_L1 (b1 : List TActivity) (g2 : TActivity → TActivity → Option Bool) : List TActivity → Int → Option (Unit ⊕ Bool)
  | [], z9 =>
    some (Sum.inl ())
  | x10 :: xs11, z9 =>
    (idxL b1 z9).bind fun v13 =>
    (g2 x10 v13).bind fun v14 =>
    (bif (!v14) then
    some (Sum.inr false)
    else
    slices_EqualFunc_Activity_L1 b1 g2 xs11 (z9 + 1))
def slices_EqualFunc_Activity (b0 : List TActivity) (b1 : List TActivity) (g2 : TActivity → TActivity → Option Bool) : Option Bool :=
  (bif ((b0.length : Int) != (b1.length : Int)) then
  some false
  else
  sumBind
  (slices_EqualFunc_Activity_L1 b1 g2 b0 0)
  (fun q17 => some q17) fun p16 =>
  some true)
def slices_EqualFunc_Mode_L1 (b1 : List TMode) (g2 : TMode → TMode → Option Bool) : List TMode → Int → Option (Unit ⊕ Bool)
  | [], z9 =>
    some (Sum.inl ())
  | x10 :: xs11, z9 =>
    (idxL b1 z9).bind fun v13 =>
    (g2 x10 v13).bind fun v14 =>
    (bif (!v14) then
    some (Sum.inr false)
    else
    slices_EqualFunc_Mode_L1 b1 g2 xs11 (z9 + 1))
def slices_EqualFunc_Mode (b0 : List TMode) (b1 : List TMode) (g2 : TMode → TMode → Option Bool) : Option Bool :=
  (bif ((b0.length : Int) != (b1.length : Int)) then
  some false
  else
  sumBind
  (slices_EqualFunc_Mode_L1 b1 g2 b0 0)
  (fun q17 => some q17) fun p16 =>
  some true)
def slices_Equal_int_L1 (b1 : List Int) : List Int → Int → Option (Unit ⊕ Bool)
  | [], z9 =>
    some (Sum.inl ())
  | x10 :: xs11, z9 =>
    (idxL b1 z9).bind fun v13 =>
    (bif (x10 != v13) then
    some (Sum.inr false)
    else
    slices_Equal_int_L1 b1 xs11 (z9 + 1))
def slices_Equal_int (b0 : List Int) (b1 : List Int) : Option Bool :=
  (bif ((b0.length : Int) != (b1.length : Int)) then
  some false
  else
  sumBind
  (slices_Equal_int_L1 b1 b0 0)
  (fun q16 => some q16) fun p15 =>
  some true)
def i_sameMode (b0 : TMode) (b1 : TMode) : Option Bool :=
  Option.bind
  ((bif (b0.Duration == b1.Duration) then
  (slices_Equal_int b0.Usage b1.Usage).bind fun v3 =>
  (bif v3 then
  (slices_Equal_int b0.Consumption b1.Consumption).bind fun v5 =>
  some v5
  else
  some false)
  else
  some false)) fun e1 =>
  some e1
def i_ActivityEqual (b0 : TActivity) (b1 : TActivity) : Option Bool :=
  Option.bind
  ((bif (b0.Name == b1.Name) then
  (bif (b0.Family == b1.Family) then
  (slices_EqualFunc_Mode b0.Modes b1.Modes (fun x0 x1 => i_sameMode x0 x1)).bind fun v4 =>
  some v4
  else
  some false)
  else
  some false)) fun e1 =>
  some e1
def slices_Equal_Link_L1 (b1 : List TLink) : List TLink → Int → Option (Unit ⊕ Bool)
  | [], z9 =>
    some (Sum.inl ())
  | x10 :: xs11, z9 =>
    (idxL b1 z9).bind fun v13 =>
    (bif (!(x10.From == v13.From && (x10.To == v13.To && (x10.FromEnd == v13.FromEnd && (x10.Lag == v13.Lag && true))))) then
    some (Sum.inr false)
    else
    slices_Equal_Link_L1 b1 xs11 (z9 + 1))
def slices_Equal_Link (b0 : List TLink) (b1 : List TLink) : Option Bool :=
  (bif ((b0.length : Int) != (b1.length : Int)) then
  some false
  else
  sumBind
  (slices_Equal_Link_L1 b1 b0 0)
  (fun q16 => some q16) fun p15 =>
  some true)
def slices_EqualFunc_Resource_L1 (b1 : List TResource) (g2 : TResource → TResource → Option Bool) : List TResource → Int → Option (Unit ⊕ Bool)
  | [], z9 =>
    some (Sum.inl ())
  | x10 :: xs11, z9 =>
    (idxL b1 z9).bind fun v13 =>
    (g2 x10 v13).bind fun v14 =>
    (bif (!v14) then
    some (Sum.inr false)
    else
    slices_EqualFunc_Resource_L1 b1 g2 xs11 (z9 + 1))
def slices_EqualFunc_Resource (b0 : List TResource) (b1 : List TResource) (g2 : TResource → TResource → Option Bool) : Option Bool :=
  (bif ((b0.length : Int) != (b1.length : Int)) then
  some false
  else
  sumBind
  (slices_EqualFunc_Resource_L1 b1 g2 b0 0)
  (fun q17 => some q17) fun p16 =>
  some true)
def slices_Equal_Step_L1 (b1 : List TStep) : List TStep → Int → Option (Unit ⊕ Bool)
  | [], z9 =>
    some (Sum.inl ())
  | x10 :: xs11, z9 =>
    (idxL b1 z9).bind fun v13 =>
    (bif (!(x10.At == v13.At && (x10.Capacity == v13.Capacity && true))) then
    some (Sum.inr false)
    else
    slices_Equal_Step_L1 b1 xs11 (z9 + 1))
def slices_Equal_Step (b0 : List TStep) (b1 : List TStep) : Option Bool :=
  (bif ((b0.length : Int) != (b1.length : Int)) then
  some false
  else
  sumBind
  (slices_Equal_Step_L1 b1 b0 0)
  (fun q16 => some q16) fun p15 =>
  some true)
def slices_EqualFunc__int_L1 (b1 : List (List Int)) (g2 : (List Int) → (List Int) → Option Bool) : List (List Int) → Int → Option (Unit ⊕ Bool)
  | [], z9 =>
    some (Sum.inl ())
  | x10 :: xs11, z9 =>
    (idxL b1 z9).bind fun v13 =>
    (g2 x10 v13).bind fun v14 =>
    (bif (!v14) then
    some (Sum.inr false)
    else
    slices_EqualFunc__int_L1 b1 g2 xs11 (z9 + 1))
def slices_EqualFunc__int (b0 : List (List Int)) (b1 : List (List Int)) (g2 : (List Int) → (List Int) → Option Bool) : Option Bool :=
  (bif ((b0.length : Int) != (b1.length : Int)) then
  some false
  else
  sumBind
  (slices_EqualFunc__int_L1 b1 g2 b0 0)
  (fun q17 => some q17) fun p16 =>
  some true)
def i_sameResource (b0 : TResource) (b1 : TResource) : Option Bool :=
  (slices_Equal_Step b0.Steps b1.Steps).bind fun v1 =>
  Option.bind
  ((bif v1 then
  (slices_EqualFunc__int b0.Setup b1.Setup (fun x0 x1 => slices_Equal_int x0 x1)).bind fun v4 =>
  some v4
  else
  some false)) fun e2 =>
  some e2
def i_ProjectEqual (b0 : TProject) (b1 : TProject) : Option Bool :=
  Option.bind
  ((bif (b0.Deadline == b1.Deadline) then
  (slices_EqualFunc_Activity b0.Activities b1.Activities (fun x0 x1 => i_ActivityEqual x0 x1)).bind fun v3 =>
  (bif v3 then
  (slices_Equal_Link b0.Links b1.Links).bind fun v5 =>
  (bif v5 then
  (slices_EqualFunc_Resource b0.Resources b1.Resources (fun x0 x1 => i_sameResource x0 x1)).bind fun v7 =>
  (bif v7 then
  (slices_Equal_int b0.Stocks b1.Stocks).bind fun v9 =>
  some v9
  else
  some false)
  else
  some false)
  else
  some false)
  else
  some false)) fun e1 =>
  some e1
def i_DomainEqual (b0 : TDomain) (b1 : TDomain) : Option Bool :=
  (slices_Equal_int b0.MinStart b1.MinStart).bind fun v1 =>
  Option.bind
  ((bif v1 then
  (slices_Equal_int b0.MaxStart b1.MaxStart).bind fun v4 =>
  (bif v4 then
  (slices_EqualFunc__int b0.Modes b1.Modes (fun x0 x1 => slices_Equal_int x0 x1)).bind fun v6 =>
  some v6
  else
  some false)
  else
  some false)) fun e2 =>
  some e2
def slices_Equal_Literal_L1 (b1 : List TLiteral) : List TLiteral → Int → Option (Unit ⊕ Bool)
  | [], z9 =>
    some (Sum.inl ())
  | x10 :: xs11, z9 =>
    (idxL b1 z9).bind fun v13 =>
    (bif (!(x10.Kind == v13.Kind && (x10.Activity == v13.Activity && (x10.Value == v13.Value && true)))) then
    some (Sum.inr false)
    else
    slices_Equal_Literal_L1 b1 xs11 (z9 + 1))
def slices_Equal_Literal (b0 : List TLiteral) (b1 : List TLiteral) : Option Bool :=
  (bif ((b0.length : Int) != (b1.length : Int)) then
  some false
  else
  sumBind
  (slices_Equal_Literal_L1 b1 b0 0)
  (fun q16 => some q16) fun p15 =>
  some true)
def slices_EqualFunc_Line_L1 (b1 : List TLine) (g2 : TLine → TLine → Option Bool) : List TLine → Int → Option (Unit ⊕ Bool)
  | [], z9 =>
    some (Sum.inl ())
  | x10 :: xs11, z9 =>
    (idxL b1 z9).bind fun v13 =>
    (g2 x10 v13).bind fun v14 =>
    (bif (!v14) then
    some (Sum.inr false)
    else
    slices_EqualFunc_Line_L1 b1 g2 xs11 (z9 + 1))
def slices_EqualFunc_Line (b0 : List TLine) (b1 : List TLine) (g2 : TLine → TLine → Option Bool) : Option Bool :=
  (bif ((b0.length : Int) != (b1.length : Int)) then
  some false
  else
  sumBind
  (slices_EqualFunc_Line_L1 b1 g2 b0 0)
  (fun q17 => some q17) fun p16 =>
  some true)
def i_LineEqual (b0 : TLine) (b1 : TLine) : Option Bool :=
  Option.bind
  ((bif (b0.Kind == b1.Kind) then
  (bif (b0.Rule.Kind == b1.Rule.Kind && (b0.Rule.A == b1.Rule.A && (b0.Rule.B == b1.Rule.B && (b0.Rule.C == b1.Rule.C && true)))) then
  (slices_Equal_Literal b0.Clause b1.Clause).bind fun v4 =>
  some v4
  else
  some false)
  else
  some false)) fun e1 =>
  some e1
def i_LogEqual (b0 : TLog) (b1 : TLog) : Option Bool :=
  (i_ProjectEqual b0.Project b1.Project).bind fun v1 =>
  Option.bind
  ((bif v1 then
  (i_DomainEqual b0.Domain b1.Domain).bind fun v4 =>
  (bif v4 then
  (slices_Equal_Literal b0.Decisions b1.Decisions).bind fun v6 =>
  (bif v6 then
  (slices_EqualFunc_Line b0.Lines b1.Lines (fun x0 x1 => i_LineEqual x0 x1)).bind fun v8 =>
  some v8
  else
  some false)
  else
  some false)
  else
  some false)) fun e2 =>
  some e2
def w_eqDomain (b0 : TDomain) (b1 : TDomain) : Option Bool :=
  (w_eqIntS b0.MinStart b1.MinStart).bind fun v1 =>
  (bif (!v1) then
  some false
  else
  (w_eqIntS b0.MaxStart b1.MaxStart).bind fun v3 =>
  (bif (!v3) then
  some false
  else
  (w_eqIntSS b0.Modes b1.Modes).bind fun v5 =>
  (bif (!v5) then
  some false
  else
  some true)))
def w_eqRule (b0 : TRule) (b1 : TRule) : Option Bool :=
  (bif (b0.Kind != b1.Kind) then
  some false
  else
  (bif (b0.A != b1.A) then
  some false
  else
  (bif (b0.B != b1.B) then
  some false
  else
  (bif (b0.C != b1.C) then
  some false
  else
  some true))))
def w_eqLine (b0 : TLine) (b1 : TLine) : Option Bool :=
  (bif (b0.Kind != b1.Kind) then
  some false
  else
  (w_eqRule b0.Rule b1.Rule).bind fun v2 =>
  (bif (!v2) then
  some false
  else
  (w_eqLiteralS b0.Clause b1.Clause).bind fun v4 =>
  (bif (!v4) then
  some false
  else
  some true)))
def w_eqLineS_L1 (b1 : List TLine) : List TLine → Int → Option (Unit ⊕ Bool)
  | [], z9 =>
    some (Sum.inl ())
  | x10 :: xs11, z9 =>
    (idxL b1 z9).bind fun v13 =>
    (w_eqLine x10 v13).bind fun v14 =>
    (bif (!v14) then
    some (Sum.inr false)
    else
    w_eqLineS_L1 b1 xs11 (z9 + 1))
def w_eqLineS (b0 : List TLine) (b1 : List TLine) : Option Bool :=
  (bif ((b0.length : Int) != (b1.length : Int)) then
  some false
  else
  sumBind
  (w_eqLineS_L1 b1 b0 0)
  (fun q17 => some q17) fun p16 =>
  some true)
def w_eqLog (b0 : TLog) (b1 : TLog) : Option Bool :=
  (w_eqProject b0.Project b1.Project).bind fun v1 =>
  (bif (!v1) then
  some false
  else
  (w_eqDomain b0.Domain b1.Domain).bind fun v3 =>
  (bif (!v3) then
  some false
  else
  (w_eqLiteralS b0.Decisions b1.Decisions).bind fun v5 =>
  (bif (!v5) then
  some false
  else
  (w_eqLineS b0.Lines b1.Lines).bind fun v7 =>
  (bif (!v7) then
  some false
  else
  some true))))
def w_FnExactLogEqual (b0 : TLog) (b1 : TLog) : Option Bool :=
  (w_szLog b0 1048576).bind fun v1 =>
  (bif (decide (v1 < 0)) then
  some true
  else
  (w_szLog b1 v1).bind fun v3 =>
  (bif (decide (v3 < 0)) then
  some true
  else
  (w_toLog b0).bind fun v5 =>
  (w_toLog b1).bind fun v6 =>
  (s_LogEqual v5 v6).bind fun v7 =>
  (w_toLog b0).bind fun v8 =>
  (w_toLog b1).bind fun v9 =>
  (i_LogEqual v8 v9).bind fun v10 =>
  (bif (v10 != v7) then
  some false
  else
  (w_toLog b0).bind fun v12 =>
  (w_eqLog v8 v12).bind fun v13 =>
  (bif (!v13) then
  some false
  else
  (w_toLog b1).bind fun v15 =>
  (w_eqLog v9 v15).bind fun v16 =>
  (bif (!v16) then
  some false
  else
  some true)))))
def s_LineOk (b0 : TProject) (b1 : TLine) : Option Bool :=
  (s_ClauseOk b0 b1.Clause).bind fun v1 =>
  Option.bind
  ((bif v1 then
  (bif (b1.Kind == 1) then
  some true
  else
  (bif (b1.Kind == 2) then
  some (b1.Rule.Kind == 0 && (b1.Rule.A == 0 && (b1.Rule.B == 0 && (b1.Rule.C == 0 && true))))
  else
  some false))
  else
  some false)) fun e2 =>
  some e2
def i_LineOk (b0 : TProject) (b1 : TLine) : Option Bool :=
  (i_ClauseOk b0 b1.Clause).bind fun v1 =>
  Option.bind
  ((bif v1 then
  (bif (b1.Kind == 1) then
  some true
  else
  (bif (b1.Kind == 2) then
  some (b1.Rule.Kind == 0 && (b1.Rule.A == 0 && (b1.Rule.B == 0 && (b1.Rule.C == 0 && true))))
  else
  some false))
  else
  some false)) fun e2 =>
  some e2
def w_FnExactLineOk (b0 : TProject) (b1 : TLine) : Option Bool :=
  (w_szProject b0 1048576).bind fun v1 =>
  (bif (decide (v1 < 0)) then
  some true
  else
  (w_szLine b1 v1).bind fun v3 =>
  (bif (decide (v3 < 0)) then
  some true
  else
  (w_toProject b0).bind fun v5 =>
  (w_toLine b1).bind fun v6 =>
  (s_LineOk v5 v6).bind fun v7 =>
  (w_toProject b0).bind fun v8 =>
  (w_toLine b1).bind fun v9 =>
  (i_LineOk v8 v9).bind fun v10 =>
  (bif (v10 != v7) then
  some false
  else
  (w_toProject b0).bind fun v12 =>
  (w_eqProject v8 v12).bind fun v13 =>
  (bif (!v13) then
  some false
  else
  (w_toLine b1).bind fun v15 =>
  (w_eqLine v9 v15).bind fun v16 =>
  (bif (!v16) then
  some false
  else
  some true)))))
def s_ModeIndexes (b0 : TActivity) : Option (List Int) :=
  (s_IntRange (b0.Modes.length : Int)).bind fun v1 =>
  some v1
def s_DomainForm_L1 (b1 : TDomain) : List TActivity → Int → Option (Unit ⊕ Bool)
  | [], z14 =>
    some (Sum.inl ())
  | x15 :: xs16, z14 =>
    (idxL b1.MinStart z14).bind fun v18 =>
    (s_l01In v18 (-2) 62).bind fun v19 =>
    Option.bind
    ((bif (!v19) then
    some true
    else
    (idxL b1.MaxStart z14).bind fun v22 =>
    (s_l01In v22 (-2) 62).bind fun v23 =>
    (bif (!v23) then
    some true
    else
    (idxL b1.Modes z14).bind fun v25 =>
    (s_SetOk v25).bind fun v26 =>
    (bif (!v26) then
    some true
    else
    (s_ModeIndexes x15).bind fun v28 =>
    (s_SetSubset v25 v28).bind fun v29 =>
    some (!v29))))) fun e20 =>
    (bif e20 then
    some (Sum.inr false)
    else
    s_DomainForm_L1 b1 xs16 (z14 + 1))
def s_DomainForm (b0 : TProject) (b1 : TDomain) : Option Bool :=
  (s_ProjectOk b0).bind fun v1 =>
  Option.bind
  ((bif (!v1) then
  some true
  else
  (bif ((b1.MinStart.length : Int) != (b0.Activities.length : Int)) then
  some true
  else
  (bif ((b1.MaxStart.length : Int) != (b0.Activities.length : Int)) then
  some true
  else
  some ((b1.Modes.length : Int) != (b0.Activities.length : Int)))))) fun e2 =>
  (bif e2 then
  some false
  else
  sumBind
  (s_DomainForm_L1 b1 b0.Activities 0)
  (fun q32 => some q32) fun p31 =>
  some true)
def s_DomainEmpty_L1 (b0 : TDomain) : List Int → Int → Option (Unit ⊕ Bool)
  | [], z8 =>
    some (Sum.inl ())
  | x9 :: xs10, z8 =>
    Option.bind
    ((bif (decide (z8 < (b0.MaxStart.length : Int))) then
    (idxL b0.MaxStart z8).bind fun v14 =>
    some (decide (v14 < x9))
    else
    some false)) fun e12 =>
    (bif e12 then
    some (Sum.inr true)
    else
    s_DomainEmpty_L1 b0 xs10 (z8 + 1))
def s_DomainEmpty_L2  : List (List Int) → Int → Option (Unit ⊕ Bool)
  | [], z25 =>
    some (Sum.inl ())
  | x26 :: xs27, z25 =>
    (bif ((x26.length : Int) == 0) then
    some (Sum.inr true)
    else
    s_DomainEmpty_L2 xs27 (z25 + 1))
def s_DomainEmpty (b0 : TDomain) : Option Bool :=
  sumBind
  (s_DomainEmpty_L1 b0 b0.MinStart 0)
  (fun q17 => some q17) fun p16 =>
  sumBind
  (s_DomainEmpty_L2 b0.Modes 0)
  (fun q31 => some q31) fun p30 =>
  some false
def s_l14Ok (b0 : TProject) (b1 : TDomain) : Option Bool :=
  (s_DomainForm b0 b1).bind fun v1 =>
  Option.bind
  ((bif v1 then
  (s_DomainEmpty b1).bind fun v4 =>
  some (!v4)
  else
  some false)) fun e2 =>
  some e2
def s_MinDuration_L1 (b1 : List Int) : List TMode → Int → Int → Bool → Option Int
  | [], z8, a9, a10 =>
    some a9
  | x11 :: xs12, z8, a9, a10 =>
    (s_SetHas b1 z8).bind fun v14 =>
    Option.bind
    ((bif v14 then
    (bif (!a10) then
    some true
    else
    some (decide (x11.Duration < a9)))
    else
    some false)) fun e15 =>
    (bif e15 then
    s_MinDuration_L1 b1 xs12 (z8 + 1) x11.Duration true
    else
    s_MinDuration_L1 b1 xs12 (z8 + 1) a9 a10)
def s_MinDuration (b0 : TActivity) (b1 : List Int) : Option Int :=
  Option.bind
  (s_MinDuration_L1 b1 b0.Modes 0 0 false) fun p19 =>
  some p19
def s_l14Short (b0 : TProject) (b1 : TDomain) (b2 : Int) : Option Int :=
  (idxL b0.Activities b2).bind fun v1 =>
  (idxL b1.Modes b2).bind fun v2 =>
  (s_MinDuration v1 v2).bind fun v3 =>
  some v3
def s_ShortestDuration (b0 : TProject) (b1 : TDomain) (b2 : Int) : Option Int :=
  (s_l14Ok b0 b1).bind fun v1 =>
  Option.bind
  ((bif (!v1) then
  some true
  else
  (s_l01In b2 0 (W ((b0.Activities.length : Int) - 1))).bind fun v4 =>
  some (!v4))) fun e2 =>
  (bif e2 then
  some 0
  else
  (s_l14Short b0 b1 b2).bind fun v6 =>
  some v6)
def i_isStart (b0 : Int) : Option Bool :=
  (i_within b0 (-2) 62).bind fun v1 =>
  some v1
def i_ModeIndexes (b0 : TActivity) : Option (List Int) :=
  (i_IntRange (b0.Modes.length : Int)).bind fun v1 =>
  some v1
def i_DomainForm_L1 (b0 : TProject) (b1 : TDomain) : List (List Int) → Int → Option (Unit ⊕ Bool)
  | [], z14 =>
    some (Sum.inl ())
  | x15 :: xs16, z14 =>
    (idxL b1.MinStart z14).bind fun v18 =>
    (i_isStart v18).bind fun v19 =>
    Option.bind
    ((bif (!v19) then
    some true
    else
    (idxL b1.MaxStart z14).bind fun v22 =>
    (i_isStart v22).bind fun v23 =>
    (bif (!v23) then
    some true
    else
    (i_SetOk x15).bind fun v25 =>
    (bif (!v25) then
    some true
    else
    (idxL b0.Activities z14).bind fun v27 =>
    (i_ModeIndexes v27).bind fun v28 =>
    (i_SetSubset x15 v28).bind fun v29 =>
    some (!v29))))) fun e20 =>
    (bif e20 then
    some (Sum.inr false)
    else
    i_DomainForm_L1 b0 b1 xs16 (z14 + 1))
def i_DomainForm (b0 : TProject) (b1 : TDomain) : Option Bool :=
  (i_ProjectOk b0).bind fun v1 =>
  Option.bind
  ((bif (!v1) then
  some true
  else
  (bif ((b1.MinStart.length : Int) != (b0.Activities.length : Int)) then
  some true
  else
  (bif ((b1.MaxStart.length : Int) != (b0.Activities.length : Int)) then
  some true
  else
  some ((b1.Modes.length : Int) != (b0.Activities.length : Int)))))) fun e2 =>
  (bif e2 then
  some false
  else
  sumBind
  (i_DomainForm_L1 b0 b1 b1.Modes 0)
  (fun q32 => some q32) fun p31 =>
  some true)
def slices_IndexFunc__int_L1 (g1 : (List Int) → Option Bool) : List (List Int) → Int → Option (Unit ⊕ Int)
  | [], z8 =>
    some (Sum.inl ())
  | x9 :: xs10, z8 =>
    (g1 x9).bind fun v12 =>
    (bif v12 then
    some (Sum.inr z8)
    else
    slices_IndexFunc__int_L1 g1 xs10 (z8 + 1))
def slices_IndexFunc__int (b0 : List (List Int)) (g1 : (List Int) → Option Bool) : Option Int :=
  sumBind
  (slices_IndexFunc__int_L1 g1 b0 0)
  (fun q15 => some q15) fun p14 =>
  some (-1)
def slices_ContainsFunc__int (b0 : List (List Int)) (g1 : (List Int) → Option Bool) : Option Bool :=
  (slices_IndexFunc__int b0 g1).bind fun v1 =>
  some (decide (0 ≤ v1))
def i_DomainEmpty_c1 (b0 : List Int) : Option Bool :=
  some ((b0.length : Int) == 0)
def i_DomainEmpty_L1 (b0 : TDomain) : List Int → Int → Option (Unit ⊕ Bool)
  | [], z8 =>
    some (Sum.inl ())
  | x9 :: xs10, z8 =>
    Option.bind
    ((bif (decide (z8 < (b0.MaxStart.length : Int))) then
    (idxL b0.MaxStart z8).bind fun v14 =>
    some (decide (v14 < x9))
    else
    some false)) fun e12 =>
    (bif e12 then
    some (Sum.inr true)
    else
    i_DomainEmpty_L1 b0 xs10 (z8 + 1))
def i_DomainEmpty (b0 : TDomain) : Option Bool :=
  sumBind
  (i_DomainEmpty_L1 b0 b0.MinStart 0)
  (fun q17 => some q17) fun p16 =>
  (slices_ContainsFunc__int b0.Modes (fun x0 => i_DomainEmpty_c1 x0)).bind fun v18 =>
  some v18
def i_isUsable (b0 : TProject) (b1 : TDomain) : Option Bool :=
  (i_DomainForm b0 b1).bind fun v1 =>
  Option.bind
  ((bif v1 then
  (i_DomainEmpty b1).bind fun v4 =>
  some (!v4)
  else
  some false)) fun e2 =>
  some e2
def i_chosen_L1 (b1 : List Int) : List TMode → Int → (List TMode) → Option (List TMode)
  | [], z8, a9 =>
    some a9
  | x10 :: xs11, z8, a9 =>
    (i_SetHas b1 z8).bind fun v13 =>
    (bif v13 then
    (appL a9 ([x10] : List TMode)).bind fun v15 =>
    i_chosen_L1 b1 xs11 (z8 + 1) v15
    else
    i_chosen_L1 b1 xs11 (z8 + 1) a9)
def i_chosen (b0 : TActivity) (b1 : List Int) : Option (List TMode) :=
  Option.bind
  (i_chosen_L1 b1 b0.Modes 0 ([] : List TMode)) fun p16 =>
  some p16
def i_MinDuration_L1  : List TMode → Int → Int → Option Int
  | [], z9, a10 =>
    some a10
  | x11 :: xs12, z9, a10 =>
    Option.bind
    ((bif (z9 == 0) then
    some true
    else
    some (decide (x11.Duration < a10)))) fun e14 =>
    (bif e14 then
    i_MinDuration_L1 xs12 (z9 + 1) x11.Duration
    else
    i_MinDuration_L1 xs12 (z9 + 1) a10)
def i_MinDuration (b0 : TActivity) (b1 : List Int) : Option Int :=
  (i_chosen b0 b1).bind fun v1 =>
  Option.bind
  (i_MinDuration_L1 v1 0 0) fun p17 =>
  some p17
def i_Project_duration (b0 : TProject) (b1 : TDomain) (b2 : Int) : Option Int :=
  (idxL b0.Activities b2).bind fun v1 =>
  (idxL b1.Modes b2).bind fun v2 =>
  (i_MinDuration v1 v2).bind fun v3 =>
  some v3
def i_ShortestDuration (b0 : TProject) (b1 : TDomain) (b2 : Int) : Option Int :=
  (i_isUsable b0 b1).bind fun v1 =>
  Option.bind
  ((bif (!v1) then
  some true
  else
  (i_Project_hasActivity b0 b2).bind fun v4 =>
  some (!v4))) fun e2 =>
  (bif e2 then
  some 0
  else
  (i_Project_duration b0 b1 b2).bind fun v6 =>
  some v6)
def w_FnExactShortestDuration (b0 : TProject) (b1 : TDomain) (b2 : Int) : Option Bool :=
  (w_szProject b0 1048576).bind fun v1 =>
  (bif (decide (v1 < 0)) then
  some true
  else
  (w_szDomain b1 v1).bind fun v3 =>
  (bif (decide (v3 < 0)) then
  some true
  else
  (w_toProject b0).bind fun v5 =>
  (w_toDomain b1).bind fun v6 =>
  (s_ShortestDuration v5 v6 b2).bind fun v7 =>
  (w_toProject b0).bind fun v8 =>
  (w_toDomain b1).bind fun v9 =>
  (i_ShortestDuration v8 v9 b2).bind fun v10 =>
  (bif (v10 != v7) then
  some false
  else
  (w_toProject b0).bind fun v12 =>
  (w_eqProject v8 v12).bind fun v13 =>
  (bif (!v13) then
  some false
  else
  (w_toDomain b1).bind fun v15 =>
  (w_eqDomain v9 v15).bind fun v16 =>
  (bif (!v16) then
  some false
  else
  some true)))))
def s_CompulsoryPart (b0 : TProject) (b1 : TDomain) (b2 : Int) : Option (Int × Int × Bool) :=
  (s_l14Ok b0 b1).bind fun v1 =>
  Option.bind
  ((bif (!v1) then
  some true
  else
  (s_l01In b2 0 (W ((b0.Activities.length : Int) - 1))).bind fun v4 =>
  some (!v4))) fun e2 =>
  (bif e2 then
  some (0, 0, false)
  else
  (idxL b1.MaxStart b2).bind fun v6 =>
  (idxL b1.MinStart b2).bind fun v7 =>
  (s_l14Short b0 b1 b2).bind fun v8 =>
  (bif (decide ((W (v7 + v8)) ≤ v6)) then
  some (0, 0, false)
  else
  some (v6, (W (v7 + v8)), true)))
def i_Project_compulsory (b0 : TProject) (b1 : TDomain) (b2 : Int) : Option (Int × Int) :=
  (idxL b1.MaxStart b2).bind fun v1 =>
  (idxL b1.MinStart b2).bind fun v2 =>
  (i_Project_duration b0 b1 b2).bind fun v3 =>
  some (v1, (W (v2 + v3)))
def i_CompulsoryPart (b0 : TProject) (b1 : TDomain) (b2 : Int) : Option (Int × Int × Bool) :=
  (i_isUsable b0 b1).bind fun v1 =>
  Option.bind
  ((bif (!v1) then
  some true
  else
  (i_Project_hasActivity b0 b2).bind fun v4 =>
  some (!v4))) fun e2 =>
  (bif e2 then
  some (0, 0, false)
  else
  (i_Project_compulsory b0 b1 b2).bind fun v6 =>
  (bif (decide (v6.2 ≤ v6.1)) then
  some (0, 0, false)
  else
  some (v6.1, v6.2, true)))
def w_FnExactCompulsoryPart (b0 : TProject) (b1 : TDomain) (b2 : Int) : Option Bool :=
  (w_szProject b0 1048576).bind fun v1 =>
  (bif (decide (v1 < 0)) then
  some true
  else
  (w_szDomain b1 v1).bind fun v3 =>
  (bif (decide (v3 < 0)) then
  some true
  else
  (w_toProject b0).bind fun v5 =>
  (w_toDomain b1).bind fun v6 =>
  (s_CompulsoryPart v5 v6 b2).bind fun v7 =>
  (w_toProject b0).bind fun v8 =>
  (w_toDomain b1).bind fun v9 =>
  (i_CompulsoryPart v8 v9 b2).bind fun v10 =>
  Option.bind
  ((bif (v10.1 != v7.1) then
  some true
  else
  (bif (v10.2.1 != v7.2.1) then
  some true
  else
  some (v10.2.2 != v7.2.2)))) fun e11 =>
  (bif e11 then
  some false
  else
  (w_toProject b0).bind fun v15 =>
  (w_eqProject v8 v15).bind fun v16 =>
  (bif (!v16) then
  some false
  else
  (w_toDomain b1).bind fun v18 =>
  (w_eqDomain v9 v18).bind fun v19 =>
  (bif (!v19) then
  some false
  else
  some true)))))
def s_ChooseDecision_L1 (b1 : TDomain) : List TActivity → Int → Int → Option Int
  | [], z10, a11 =>
    some a11
  | x12 :: xs13, z10, a11 =>
    (idxL b1.Modes z10).bind fun v15 =>
    Option.bind
    ((bif (decide ((v15.length : Int) < 2)) then
    (idxL b1.MinStart z10).bind fun v18 =>
    (idxL b1.MaxStart z10).bind fun v19 =>
    some (v18 == v19)
    else
    some false)) fun e16 =>
    (bif e16 then
    s_ChooseDecision_L1 b1 xs13 (z10 + 1) a11
    else
    Option.bind
    ((bif (decide (a11 < 0)) then
    some true
    else
    (idxL b1.MinStart z10).bind fun v23 =>
    (idxL b1.MinStart a11).bind fun v24 =>
    some (decide (v23 < v24)))) fun e21 =>
    (bif e21 then
    s_ChooseDecision_L1 b1 xs13 (z10 + 1) z10
    else
    s_ChooseDecision_L1 b1 xs13 (z10 + 1) a11))
def s_ChooseDecision_L2 (b0 : TProject) (p26 : Int) : List Int → Int → Int → Option Int
  | [], z39, a40 =>
    some a40
  | x41 :: xs42, z39, a40 =>
    (idxL b0.Activities p26).bind fun v44 =>
    (idxL v44.Modes x41).bind fun v45 =>
    (idxL v44.Modes a40).bind fun v46 =>
    (bif (decide (v45.Duration < v46.Duration)) then
    s_ChooseDecision_L2 b0 p26 xs42 (z39 + 1) x41
    else
    s_ChooseDecision_L2 b0 p26 xs42 (z39 + 1) a40)
def s_ChooseDecision (b0 : TProject) (b1 : TDomain) : Option (TLiteral × Bool) :=
  (s_l14Ok b0 b1).bind fun v1 =>
  (bif (!v1) then
  some ((TLiteral.mk 0 0 0), false)
  else
  Option.bind
  (s_ChooseDecision_L1 b1 b0.Activities 0 (-1)) fun p26 =>
  (bif (decide (p26 < 0)) then
  some ((TLiteral.mk 0 0 0), false)
  else
  (idxL b1.Modes p26).bind fun v28 =>
  (bif (decide ((v28.length : Int) < 2)) then
  (idxL b1.MinStart p26).bind fun v30 =>
  some ((TLiteral.mk 2 p26 v30), true)
  else
  (idxL v28 0).bind fun v31 =>
  Option.bind
  (s_ChooseDecision_L2 b0 p26 v28 0 v31) fun p48 =>
  some ((TLiteral.mk 3 p26 p48), true))))
def i_ChooseDecision_L1 (b1 : TDomain) : List TActivity → Int → Int → Option Int
  | [], z10, a11 =>
    some a11
  | x12 :: xs13, z10, a11 =>
    (idxL b1.Modes z10).bind fun v15 =>
    Option.bind
    ((bif (decide (1 < (v15.length : Int))) then
    (bif (decide (a11 < 0)) then
    some true
    else
    (idxL b1.MinStart z10).bind fun v24 =>
    (idxL b1.MinStart a11).bind fun v25 =>
    some (decide (v24 < v25)))
    else
    (idxL b1.MinStart z10).bind fun v18 =>
    (idxL b1.MaxStart z10).bind fun v19 =>
    (bif (decide (v18 < v19)) then
    (bif (decide (a11 < 0)) then
    some true
    else
    (idxL b1.MinStart a11).bind fun v22 =>
    some (decide (v18 < v22)))
    else
    some false))) fun e16 =>
    (bif e16 then
    i_ChooseDecision_L1 b1 xs13 (z10 + 1) z10
    else
    i_ChooseDecision_L1 b1 xs13 (z10 + 1) a11)
def i_ChooseDecision_L2 (b0 : TProject) (p27 : Int) : List Int → Int → Int → Option Int
  | [], z40, a41 =>
    some a41
  | x42 :: xs43, z40, a41 =>
    (idxL b0.Activities p27).bind fun v45 =>
    (idxL v45.Modes x42).bind fun v46 =>
    (idxL v45.Modes a41).bind fun v47 =>
    (bif (decide (v46.Duration < v47.Duration)) then
    i_ChooseDecision_L2 b0 p27 xs43 (z40 + 1) x42
    else
    i_ChooseDecision_L2 b0 p27 xs43 (z40 + 1) a41)
def i_ChooseDecision (b0 : TProject) (b1 : TDomain) : Option (TLiteral × Bool) :=
  (i_isUsable b0 b1).bind fun v1 =>
  (bif (!v1) then
  some ((TLiteral.mk 0 0 0), false)
  else
  Option.bind
  (i_ChooseDecision_L1 b1 b0.Activities 0 (-1)) fun p27 =>
  (bif (decide (p27 < 0)) then
  some ((TLiteral.mk 0 0 0), false)
  else
  (idxL b1.Modes p27).bind fun v29 =>
  (bif (decide ((v29.length : Int) < 2)) then
  (idxL b1.MinStart p27).bind fun v31 =>
  some ((TLiteral.mk 2 p27 v31), true)
  else
  (idxL v29 0).bind fun v32 =>
  Option.bind
  (i_ChooseDecision_L2 b0 p27 v29 0 v32) fun p49 =>
  some ((TLiteral.mk 3 p27 p49), true))))
def w_FnExactChooseDecision (b0 : TProject) (b1 : TDomain) : Option Bool :=
  (w_szProject b0 1048576).bind fun v1 =>
  (bif (decide (v1 < 0)) then
  some true
  else
  (w_szDomain b1 v1).bind fun v3 =>
  (bif (decide (v3 < 0)) then
  some true
  else
  (w_toProject b0).bind fun v5 =>
  (w_toDomain b1).bind fun v6 =>
  (s_ChooseDecision v5 v6).bind fun v7 =>
  (w_toProject b0).bind fun v8 =>
  (w_toDomain b1).bind fun v9 =>
  (i_ChooseDecision v8 v9).bind fun v10 =>
  (w_eqLiteral v10.1 v7.1).bind fun v11 =>
  Option.bind
  ((bif (!v11) then
  some true
  else
  some (v10.2 != v7.2))) fun e12 =>
  (bif e12 then
  some false
  else
  (w_toProject b0).bind fun v15 =>
  (w_eqProject v8 v15).bind fun v16 =>
  (bif (!v16) then
  some false
  else
  (w_toDomain b1).bind fun v18 =>
  (w_eqDomain v9 v18).bind fun v19 =>
  (bif (!v19) then
  some false
  else
  some true)))))
def s_Overlap_L1  : List Int → Int → Option (Unit ⊕ Int)
  | [], z8 =>
    some (Sum.inl ())
  | x9 :: xs10, z8 =>
    (s_l01In x9 (-100000) 100000).bind fun v12 =>
    (bif (!v12) then
    some (Sum.inr 0)
    else
    s_Overlap_L1 xs10 (z8 + 1))
def s_Overlap (b0 : Int) (b1 : Int) (b2 : Int) (b3 : Int) : Option Int :=
  sumBind
  (s_Overlap_L1 ([b0, b1, b2, b3] : List Int) 0)
  (fun q15 => some q15) fun p14 =>
  (bif (decide (b1 < 1)) then
  some 0
  else
  (s_l02Min (W (b0 + b1)) b3).bind fun v17 =>
  (s_l02Max b0 b2).bind fun v18 =>
  (s_l02Max 0 (W (v17 - v18))).bind fun v19 =>
  some v19)
def s_l15Work_L1 (b0 : TProject) (b1 : TDomain) (b2 : Int) (b3 : Int) (b4 : Int) (b5 : Int) : List Int → Int → Int → Option Int
  | [], z9, a10 =>
    some a10
  | x11 :: xs12, z9, a10 =>
    (idxL b0.Activities b2).bind fun v14 =>
    (idxL v14.Modes x11).bind fun v15 =>
    (idxL v15.Usage b3).bind fun v16 =>
    (idxL b1.MinStart b2).bind fun v17 =>
    (s_Overlap v17 v15.Duration b4 b5).bind fun v18 =>
    (idxL b1.MaxStart b2).bind fun v19 =>
    (s_Overlap v19 v15.Duration b4 b5).bind fun v20 =>
    (s_l02Min v18 v20).bind fun v21 =>
    Option.bind
    ((bif (decide (a10 < 0)) then
    some true
    else
    some (decide ((W (v16 * v21)) < a10)))) fun e22 =>
    (bif e22 then
    s_l15Work_L1 b0 b1 b2 b3 b4 b5 xs12 (z9 + 1) (W (v16 * v21))
    else
    s_l15Work_L1 b0 b1 b2 b3 b4 b5 xs12 (z9 + 1) a10)
def s_l15Work (b0 : TProject) (b1 : TDomain) (b2 : Int) (b3 : Int) (b4 : Int) (b5 : Int) : Option Int :=
  (idxL b1.Modes b2).bind fun v1 =>
  Option.bind
  (s_l15Work_L1 b0 b1 b2 b3 b4 b5 v1 0 (-1)) fun p25 =>
  (s_l02Max p25 0).bind fun v26 =>
  some v26
def s_MinWorkIn (b0 : TProject) (b1 : TDomain) (b2 : Int) (b3 : Int) (b4 : Int) (b5 : Int) : Option Int :=
  (s_l14Ok b0 b1).bind fun v1 =>
  Option.bind
  ((bif (!v1) then
  some true
  else
  (s_l01In b2 0 (W ((b0.Activities.length : Int) - 1))).bind fun v4 =>
  (bif (!v4) then
  some true
  else
  (s_l01In b3 0 (W ((b0.Resources.length : Int) - 1))).bind fun v6 =>
  some (!v6)))) fun e2 =>
  (bif e2 then
  some 0
  else
  (s_l15Work b0 b1 b2 b3 b4 b5).bind fun v8 =>
  some v8)
def i_Overlap_L1  : List Int → Int → Option (Unit ⊕ Int)
  | [], z8 =>
    some (Sum.inl ())
  | x9 :: xs10, z8 =>
    (i_within x9 (-100000) 100000).bind fun v12 =>
    (bif (!v12) then
    some (Sum.inr 0)
    else
    i_Overlap_L1 xs10 (z8 + 1))
def i_Overlap (b0 : Int) (b1 : Int) (b2 : Int) (b3 : Int) : Option Int :=
  sumBind
  (i_Overlap_L1 ([b0, b1, b2, b3] : List Int) 0)
  (fun q15 => some q15) fun p14 =>
  (bif (decide (b1 < 1)) then
  some 0
  else
  some (max (W ((min (W (b0 + b1)) b3) - (max b0 b2))) 0))
def i_Project_minWork_L1 (b0 : TProject) (b1 : TDomain) (b2 : Int) (b3 : Int) (b4 : Int) (b5 : Int) : List Int → Int → Int → Bool → Option Int
  | [], z9, a10, a11 =>
    some a10
  | x12 :: xs13, z9, a10, a11 =>
    (idxL b0.Activities b2).bind fun v15 =>
    (idxL v15.Modes x12).bind fun v16 =>
    (idxL b1.MinStart b2).bind fun v17 =>
    (i_Overlap v17 v16.Duration b4 b5).bind fun v18 =>
    (idxL b1.MaxStart b2).bind fun v19 =>
    (i_Overlap v19 v16.Duration b4 b5).bind fun v20 =>
    (idxL v16.Usage b3).bind fun v21 =>
    Option.bind
    ((bif (!a11) then
    some true
    else
    some (decide ((W ((min v18 v20) * v21)) < a10)))) fun e22 =>
    (bif e22 then
    i_Project_minWork_L1 b0 b1 b2 b3 b4 b5 xs13 (z9 + 1) (W ((min v18 v20) * v21)) true
    else
    i_Project_minWork_L1 b0 b1 b2 b3 b4 b5 xs13 (z9 + 1) a10 a11)
def i_Project_minWork (b0 : TProject) (b1 : TDomain) (b2 : Int) (b3 : Int) (b4 : Int) (b5 : Int) : Option Int :=
  (idxL b1.Modes b2).bind fun v1 =>
  Option.bind
  (i_Project_minWork_L1 b0 b1 b2 b3 b4 b5 v1 0 0 false) fun p25 =>
  some p25
def i_MinWorkIn (b0 : TProject) (b1 : TDomain) (b2 : Int) (b3 : Int) (b4 : Int) (b5 : Int) : Option Int :=
  (i_isUsable b0 b1).bind fun v1 =>
  Option.bind
  ((bif (!v1) then
  some true
  else
  (i_Project_hasActivity b0 b2).bind fun v4 =>
  (bif (!v4) then
  some true
  else
  (i_Project_hasResource b0 b3).bind fun v6 =>
  some (!v6)))) fun e2 =>
  (bif e2 then
  some 0
  else
  (i_Project_minWork b0 b1 b2 b3 b4 b5).bind fun v8 =>
  some v8)
def w_FnExactMinWorkIn (b0 : TProject) (b1 : TDomain) (b2 : Int) (b3 : Int) (b4 : Int) (b5 : Int) : Option Bool :=
  (w_szProject b0 1048576).bind fun v1 =>
  (bif (decide (v1 < 0)) then
  some true
  else
  (w_szDomain b1 v1).bind fun v3 =>
  (bif (decide (v3 < 0)) then
  some true
  else
  (w_toProject b0).bind fun v5 =>
  (w_toDomain b1).bind fun v6 =>
  (s_MinWorkIn v5 v6 b2 b3 b4 b5).bind fun v7 =>
  (w_toProject b0).bind fun v8 =>
  (w_toDomain b1).bind fun v9 =>
  (i_MinWorkIn v8 v9 b2 b3 b4 b5).bind fun v10 =>
  (bif (v10 != v7) then
  some false
  else
  (w_toProject b0).bind fun v12 =>
  (w_eqProject v8 v12).bind fun v13 =>
  (bif (!v13) then
  some false
  else
  (w_toDomain b1).bind fun v15 =>
  (w_eqDomain v9 v15).bind fun v16 =>
  (bif (!v16) then
  some false
  else
  some true)))))
def s_TotalWorkIn_L1 (b0 : TProject) (b1 : TDomain) (b2 : Int) (b3 : Int) (b4 : Int) : List TActivity → Int → Int → Option Int
  | [], z13, a14 =>
    some a14
  | x15 :: xs16, z13, a14 =>
    (s_l15Work b0 b1 z13 b2 b3 b4).bind fun v18 =>
    s_TotalWorkIn_L1 b0 b1 b2 b3 b4 xs16 (z13 + 1) (W (a14 + v18))
def s_TotalWorkIn (b0 : TProject) (b1 : TDomain) (b2 : Int) (b3 : Int) (b4 : Int) : Option Int :=
  (s_l14Ok b0 b1).bind fun v1 =>
  Option.bind
  ((bif (!v1) then
  some true
  else
  (s_l01In b2 0 (W ((b0.Resources.length : Int) - 1))).bind fun v4 =>
  some (!v4))) fun e2 =>
  (bif e2 then
  some 0
  else
  Option.bind
  (s_TotalWorkIn_L1 b0 b1 b2 b3 b4 b0.Activities 0 0) fun p19 =>
  some p19)
def i_Project_totalWork_L1 (b0 : TProject) (b1 : TDomain) (b2 : Int) (b3 : Int) (b4 : Int) : List TActivity → Int → Int → Option Int
  | [], z8, a9 =>
    some a9
  | x10 :: xs11, z8, a9 =>
    (i_Project_minWork b0 b1 z8 b2 b3 b4).bind fun v13 =>
    i_Project_totalWork_L1 b0 b1 b2 b3 b4 xs11 (z8 + 1) (W (a9 + v13))
def i_Project_totalWork (b0 : TProject) (b1 : TDomain) (b2 : Int) (b3 : Int) (b4 : Int) : Option Int :=
  Option.bind
  (i_Project_totalWork_L1 b0 b1 b2 b3 b4 b0.Activities 0 0) fun p14 =>
  some p14
def i_TotalWorkIn (b0 : TProject) (b1 : TDomain) (b2 : Int) (b3 : Int) (b4 : Int) : Option Int :=
  (i_isUsable b0 b1).bind fun v1 =>
  Option.bind
  ((bif (!v1) then
  some true
  else
  (i_Project_hasResource b0 b2).bind fun v4 =>
  some (!v4))) fun e2 =>
  (bif e2 then
  some 0
  else
  (i_Project_totalWork b0 b1 b2 b3 b4).bind fun v6 =>
  some v6)
def w_FnExactTotalWorkIn (b0 : TProject) (b1 : TDomain) (b2 : Int) (b3 : Int) (b4 : Int) : Option Bool :=
  (w_szProject b0 1048576).bind fun v1 =>
  (bif (decide (v1 < 0)) then
  some true
  else
  (w_szDomain b1 v1).bind fun v3 =>
  (bif (decide (v3 < 0)) then
  some true
  else
  (w_toProject b0).bind fun v5 =>
  (w_toDomain b1).bind fun v6 =>
  (s_TotalWorkIn v5 v6 b2 b3 b4).bind fun v7 =>
  (w_toProject b0).bind fun v8 =>
  (w_toDomain b1).bind fun v9 =>
  (i_TotalWorkIn v8 v9 b2 b3 b4).bind fun v10 =>
  (bif (v10 != v7) then
  some false
  else
  (w_toProject b0).bind fun v12 =>
  (w_eqProject v8 v12).bind fun v13 =>
  (bif (!v13) then
  some false
  else
  (w_toDomain b1).bind fun v15 =>
  (w_eqDomain v9 v15).bind fun v16 =>
  (bif (!v16) then
  some false
  else
  some true)))))
def s_l07Gap (b0 : TProject) (b1 : Int) (b2 : List Int) : Option Int :=
  (idxL b0.Links b1).bind fun v1 =>
  (bif v1.FromEnd then
  (idxL b0.Activities v1.From).bind fun v3 =>
  (s_MinDuration v3 b2).bind fun v4 =>
  some (W (v1.Lag + v4))
  else
  some v1.Lag)
def s_l07All (b0 : TProject) (b1 : Int) : Option Int :=
  (idxL b0.Links b1).bind fun v1 =>
  (idxL b0.Activities v1.From).bind fun v2 =>
  (s_ModeIndexes v2).bind fun v3 =>
  (s_l07Gap b0 b1 v3).bind fun v4 =>
  some v4
def i_Project_gap (b0 : TProject) (b1 : TLink) (b2 : List Int) : Option Int :=
  (bif b1.FromEnd then
  (idxL b0.Activities b1.From).bind fun v2 =>
  (i_MinDuration v2 b2).bind fun v3 =>
  some (W (b1.Lag + v3))
  else
  some b1.Lag)
def i_Project_fullGap (b0 : TProject) (b1 : TLink) : Option Int :=
  (idxL b0.Activities b1.From).bind fun v1 =>
  (i_ModeIndexes v1).bind fun v2 =>
  (i_Project_gap b0 b1 v2).bind fun v3 =>
  some v3
def w_markLinkS_L1  : Nat → Int → Int → (List TLink) → Option (Int × (List TLink))
  | 0, _, _, _ => none
  | fuel + 1, a7, a8, a9 =>
    (bif (decide (a8 < (a9.length : Int))) then
    (idxL a9 a8).bind fun v13 =>
    (idxL (setL a9 a8 (TLink.mk a7 v13.To v13.FromEnd v13.Lag)) a8).bind fun v14 =>
    (idxL (setL (setL a9 a8 (TLink.mk a7 v13.To v13.FromEnd v13.Lag)) a8 (TLink.mk v14.From (W (a7 + 1)) v14.FromEnd v14.Lag)) a8).bind fun v15 =>
    (idxL (setL (setL (setL a9 a8 (TLink.mk a7 v13.To v13.FromEnd v13.Lag)) a8 (TLink.mk v14.From (W (a7 + 1)) v14.FromEnd v14.Lag)) a8 (TLink.mk v15.From v15.To (((W ((W (a7 + 1)) + 1)).tmod 3) == 0) v15.Lag)) a8).bind fun v16 =>
    w_markLinkS_L1 fuel (W ((W ((W ((W (a7 + 1)) + 1)) + 1)) + 1)) (W (a8 + 1)) (setL (setL (setL (setL a9 a8 (TLink.mk a7 v13.To v13.FromEnd v13.Lag)) a8 (TLink.mk v14.From (W (a7 + 1)) v14.FromEnd v14.Lag)) a8 (TLink.mk v15.From v15.To (((W ((W (a7 + 1)) + 1)).tmod 3) == 0) v15.Lag)) a8 (TLink.mk v16.From v16.To v16.FromEnd (W ((W ((W (a7 + 1)) + 1)) + 1))))
    else
    some (a7, a9))
def w_markLinkS (b0 : List TLink) (b1 : Int) : Option (Int × (List TLink)) :=
  Option.bind
  (w_markLinkS_L1 F0 b1 0 b0) fun p17 =>
  some (p17.1, p17.2)
def w_markStepS_L1  : Nat → Int → Int → (List TStep) → Option (Int × (List TStep))
  | 0, _, _, _ => none
  | fuel + 1, a7, a8, a9 =>
    (bif (decide (a8 < (a9.length : Int))) then
    (idxL a9 a8).bind fun v13 =>
    (idxL (setL a9 a8 (TStep.mk a7 v13.Capacity)) a8).bind fun v14 =>
    w_markStepS_L1 fuel (W ((W (a7 + 1)) + 1)) (W (a8 + 1)) (setL (setL a9 a8 (TStep.mk a7 v13.Capacity)) a8 (TStep.mk v14.At (W (a7 + 1))))
    else
    some (a7, a9))
def w_markStepS (b0 : List TStep) (b1 : Int) : Option (Int × (List TStep)) :=
  Option.bind
  (w_markStepS_L1 F0 b1 0 b0) fun p15 =>
  some (p15.1, p15.2)
def s_l08Short (b0 : TProject) (b1 : Int) : Option Int :=
  (idxL b0.Activities b1).bind fun v1 =>
  (s_ModeIndexes v1).bind fun v2 =>
  (s_MinDuration v1 v2).bind fun v3 =>
  some v3
def i_Project_shortest (b0 : TProject) (b1 : Int) : Option Int :=
  (idxL b0.Activities b1).bind fun v1 =>
  (i_ModeIndexes v1).bind fun v2 =>
  (i_MinDuration v1 v2).bind fun v3 =>
  some v3
def b_l_int (M : Nat) (l : List Int) : Prop := l.length ≤ M
theorem w_szIntS_ok (x : List Int) (h : b_l_int 9223372036854775807 x) : SzOk w_szIntS (b_l_int 1048576) x := szFlat x (fun _ => rfl) h
def b_str (M : Nat) (x : ByteArray) : Prop := x.size ≤ M
def bTMode (M : Nat) (x : TMode) : Prop := b_l_int M x.Usage ∧ b_l_int M x.Consumption ∧  True
theorem w_szMode_ok (x : TMode) (h : bTMode 9223372036854775807 x) : SzOk w_szMode (bTMode 1048576) x := fun n m0 hn => by
  unfold w_szMode bTMode
  unfold bTMode at h
  exact szThen (w_szIntS_ok _ h.1) m0 (by omega) (fun n1 m1 _ _ => szThen (w_szIntS_ok _ h.2.1) m1 (by omega) (fun n2 m2 _ _ => szEnd m2))
def b_l_eTMode (M : Nat) (l : List TMode) : Prop := l.length ≤ M ∧ ∀ x ∈ l, bTMode M x
theorem w_szModeS_ok (x : List TMode) (h : b_l_eTMode 9223372036854775807 x) : SzOk w_szModeS (b_l_eTMode 1048576) x := szList (F := w_szModeS_L1) (sz := w_szMode) (Q := bTMode 1048576) x (fun _ _ => rfl) (fun _ _ _ _ => rfl) (fun _ => rfl) h.1 (fun y hy => w_szMode_ok y (h.2 y hy))
def bTActivity (M : Nat) (x : TActivity) : Prop := b_str M x.Name ∧ b_l_eTMode M x.Modes ∧  True
theorem w_szActivity_ok (x : TActivity) (h : bTActivity 9223372036854775807 x) : SzOk w_szActivity (bTActivity 1048576) x := fun n m0 hn => by
  unfold w_szActivity bTActivity
  unfold bTActivity at h
  exact szStr h.1 m0 (by omega) (fun n1 m1 _ _ => szThen (w_szModeS_ok _ h.2.1) m1 (by omega) (fun n2 m2 _ _ => szEnd m2))
def b_l_eTActivity (M : Nat) (l : List TActivity) : Prop := l.length ≤ M ∧ ∀ x ∈ l, bTActivity M x
theorem w_szActivityS_ok (x : List TActivity) (h : b_l_eTActivity 9223372036854775807 x) : SzOk w_szActivityS (b_l_eTActivity 1048576) x := szList (F := w_szActivityS_L1) (sz := w_szActivity) (Q := bTActivity 1048576) x (fun _ _ => rfl) (fun _ _ _ _ => rfl) (fun _ => rfl) h.1 (fun y hy => w_szActivity_ok y (h.2 y hy))
def b_l_eTLink (M : Nat) (l : List TLink) : Prop := l.length ≤ M
theorem w_szLinkS_ok (x : List TLink) (h : b_l_eTLink 9223372036854775807 x) : SzOk w_szLinkS (b_l_eTLink 1048576) x := szFlat x (fun _ => rfl) h
def b_l_eTStep (M : Nat) (l : List TStep) : Prop := l.length ≤ M
theorem w_szStepS_ok (x : List TStep) (h : b_l_eTStep 9223372036854775807 x) : SzOk w_szStepS (b_l_eTStep 1048576) x := szFlat x (fun _ => rfl) h
def b_l_l_int (M : Nat) (l : List (List Int)) : Prop := l.length ≤ M ∧ ∀ x ∈ l, b_l_int M x
theorem w_szIntSS_ok (x : List (List Int)) (h : b_l_l_int 9223372036854775807 x) : SzOk w_szIntSS (b_l_l_int 1048576) x := szList (F := w_szIntSS_L1) (sz := w_szIntS) (Q := b_l_int 1048576) x (fun _ _ => rfl) (fun _ _ _ _ => rfl) (fun _ => rfl) h.1 (fun y hy => w_szIntS_ok y (h.2 y hy))
def bTResource (M : Nat) (x : TResource) : Prop := b_l_eTStep M x.Steps ∧ b_l_l_int M x.Setup ∧  True
theorem w_szResource_ok (x : TResource) (h : bTResource 9223372036854775807 x) : SzOk w_szResource (bTResource 1048576) x := fun n m0 hn => by
  unfold w_szResource bTResource
  unfold bTResource at h
  exact szThen (w_szStepS_ok _ h.1) m0 (by omega) (fun n1 m1 _ _ => szThen (w_szIntSS_ok _ h.2.1) m1 (by omega) (fun n2 m2 _ _ => szEnd m2))
def b_l_eTResource (M : Nat) (l : List TResource) : Prop := l.length ≤ M ∧ ∀ x ∈ l, bTResource M x
theorem w_szResourceS_ok (x : List TResource) (h : b_l_eTResource 9223372036854775807 x) : SzOk w_szResourceS (b_l_eTResource 1048576) x := szList (F := w_szResourceS_L1) (sz := w_szResource) (Q := bTResource 1048576) x (fun _ _ => rfl) (fun _ _ _ _ => rfl) (fun _ => rfl) h.1 (fun y hy => w_szResource_ok y (h.2 y hy))
def bTProject (M : Nat) (x : TProject) : Prop := b_l_eTActivity M x.Activities ∧ b_l_eTLink M x.Links ∧ b_l_eTResource M x.Resources ∧ b_l_int M x.Stocks ∧  True
theorem w_szProject_ok (x : TProject) (h : bTProject 9223372036854775807 x) : SzOk w_szProject (bTProject 1048576) x := fun n m0 hn => by
  unfold w_szProject bTProject
  unfold bTProject at h
  exact szThen (w_szActivityS_ok _ h.1) m0 (by omega) (fun n1 m1 _ _ => szThen (w_szLinkS_ok _ h.2.1) m1 (by omega) (fun n2 m2 _ _ => szThen (w_szResourceS_ok _ h.2.2.1) m2 (by omega) (fun n3 m3 _ _ => szThen (w_szIntS_ok _ h.2.2.2.1) m3 (by omega) (fun n4 m4 _ _ => szEnd m4))))
theorem w_toIntS_eq (x : List Int) (h : b_l_int 1048576 x) : w_toIntS x = some x := fillList (F := w_toIntS_L1) (Q := fun _ => True) (fun _ _ => rfl) (fun x xs z a y hq hy => by simp only [w_toIntS_L1, hy, Option.bind_some]) h (fun _ _ => trivial) rfl
theorem w_toMode_eq (x : TMode) (h : bTMode 1048576 x) : w_toMode x = some x := by
  unfold bTMode at h
  unfold w_toMode
  try simp only [w_toIntS_eq _ (h.1), w_toIntS_eq _ (h.2.1), Option.bind_some]
theorem w_toModeS_eq (x : List TMode) (h : b_l_eTMode 1048576 x) : w_toModeS x = some x := fillList (F := w_toModeS_L1) (Q := bTMode 1048576) (fun _ _ => rfl) (fun x xs z a y hq hy => by simp only [w_toModeS_L1, w_toMode_eq x hq, hy, Option.bind_some]) h.1 h.2 rfl
theorem w_toActivity_eq (x : TActivity) (h : bTActivity 1048576 x) : w_toActivity x = some x := by
  unfold bTActivity at h
  unfold w_toActivity
  try simp only [w_toModeS_eq _ (h.2.1), Option.bind_some]
theorem w_toActivityS_eq (x : List TActivity) (h : b_l_eTActivity 1048576 x) : w_toActivityS x = some x := fillList (F := w_toActivityS_L1) (Q := bTActivity 1048576) (fun _ _ => rfl) (fun x xs z a y hq hy => by simp only [w_toActivityS_L1, w_toActivity_eq x hq, hy, Option.bind_some]) h.1 h.2 rfl
theorem w_toLink_eq (x : TLink) : w_toLink x = some x := by
  unfold w_toLink
  try simp only [Option.bind_some]
theorem w_toLinkS_eq (x : List TLink) (h : b_l_eTLink 1048576 x) : w_toLinkS x = some x := fillList (F := w_toLinkS_L1) (Q := fun _ => True) (fun _ _ => rfl) (fun x xs z a y hq hy => by simp only [w_toLinkS_L1, w_toLink_eq, hy, Option.bind_some]) h (fun _ _ => trivial) rfl
theorem w_toStep_eq (x : TStep) : w_toStep x = some x := by
  unfold w_toStep
  try simp only [Option.bind_some]
theorem w_toStepS_eq (x : List TStep) (h : b_l_eTStep 1048576 x) : w_toStepS x = some x := fillList (F := w_toStepS_L1) (Q := fun _ => True) (fun _ _ => rfl) (fun x xs z a y hq hy => by simp only [w_toStepS_L1, w_toStep_eq, hy, Option.bind_some]) h (fun _ _ => trivial) rfl
theorem w_toIntSS_eq (x : List (List Int)) (h : b_l_l_int 1048576 x) : w_toIntSS x = some x := fillList (F := w_toIntSS_L1) (Q := b_l_int 1048576) (fun _ _ => rfl) (fun x xs z a y hq hy => by simp only [w_toIntSS_L1, w_toIntS_eq x hq, hy, Option.bind_some]) h.1 h.2 rfl
theorem w_toResource_eq (x : TResource) (h : bTResource 1048576 x) : w_toResource x = some x := by
  unfold bTResource at h
  unfold w_toResource
  try simp only [w_toStepS_eq _ (h.1), w_toIntSS_eq _ (h.2.1), Option.bind_some]
theorem w_toResourceS_eq (x : List TResource) (h : b_l_eTResource 1048576 x) : w_toResourceS x = some x := fillList (F := w_toResourceS_L1) (Q := bTResource 1048576) (fun _ _ => rfl) (fun x xs z a y hq hy => by simp only [w_toResourceS_L1, w_toResource_eq x hq, hy, Option.bind_some]) h.1 h.2 rfl
theorem w_toProject_eq (x : TProject) (h : bTProject 1048576 x) : w_toProject x = some x := by
  unfold bTProject at h
  unfold w_toProject
  try simp only [w_toActivityS_eq _ (h.1), w_toLinkS_eq _ (h.2.1), w_toResourceS_eq _ (h.2.2.1), w_toIntS_eq _ (h.2.2.2.1), Option.bind_some]
theorem w_eqIntS_eq (a b : List Int) : w_eqIntS a b = some (decide (a = b)) := eqList (F := w_eqIntS_L1 b) (fun _ => rfl) (fun x xs z y h => by simp only [w_eqIntS_L1, h, Option.bind_some, int_bne]; by_cases hxy : x = y <;> simp [hxy]) rfl
theorem w_eqMode_eq (a b : TMode) : w_eqMode a b = some (decide (a = b)) := by
  obtain ⟨a0, a1, a2⟩ := a
  obtain ⟨b0, b1, b2⟩ := b
  simp only [w_eqMode, w_eqIntS_eq, w_eqIntS_eq, TMode.mk.injEq, Option.bind_some, int_bne, bool_bne, ba_bne]
  by_cases h0 : a0 = b0 <;> by_cases h1 : a1 = b1 <;> by_cases h2 : a2 = b2 <;> simp [h0, h1, h2]
theorem w_eqModeS_eq (a b : List TMode) : w_eqModeS a b = some (decide (a = b)) := eqList (F := w_eqModeS_L1 b) (fun _ => rfl) (fun x xs z y h => by simp only [w_eqModeS_L1, h, Option.bind_some, int_bne, w_eqMode_eq]; by_cases hxy : x = y <;> simp [hxy]) rfl
theorem w_eqActivity_eq (a b : TActivity) : w_eqActivity a b = some (decide (a = b)) := by
  obtain ⟨a0, a1, a2⟩ := a
  obtain ⟨b0, b1, b2⟩ := b
  simp only [w_eqActivity, w_eqModeS_eq, TActivity.mk.injEq, Option.bind_some, int_bne, bool_bne, ba_bne]
  by_cases h0 : a0 = b0 <;> by_cases h1 : a1 = b1 <;> by_cases h2 : a2 = b2 <;> simp [h0, h1, h2]
theorem w_eqActivityS_eq (a b : List TActivity) : w_eqActivityS a b = some (decide (a = b)) := eqList (F := w_eqActivityS_L1 b) (fun _ => rfl) (fun x xs z y h => by simp only [w_eqActivityS_L1, h, Option.bind_some, int_bne, w_eqActivity_eq]; by_cases hxy : x = y <;> simp [hxy]) rfl
theorem w_eqLink_eq (a b : TLink) : w_eqLink a b = some (decide (a = b)) := by
  obtain ⟨a0, a1, a2, a3⟩ := a
  obtain ⟨b0, b1, b2, b3⟩ := b
  simp only [w_eqLink, TLink.mk.injEq, Option.bind_some, int_bne, bool_bne, ba_bne]
  by_cases h0 : a0 = b0 <;> by_cases h1 : a1 = b1 <;> by_cases h2 : a2 = b2 <;> by_cases h3 : a3 = b3 <;> simp [h0, h1, h2, h3]
theorem w_eqLinkS_eq (a b : List TLink) : w_eqLinkS a b = some (decide (a = b)) := eqList (F := w_eqLinkS_L1 b) (fun _ => rfl) (fun x xs z y h => by simp only [w_eqLinkS_L1, h, Option.bind_some, int_bne, w_eqLink_eq]; by_cases hxy : x = y <;> simp [hxy]) rfl
theorem w_eqStep_eq (a b : TStep) : w_eqStep a b = some (decide (a = b)) := by
  obtain ⟨a0, a1⟩ := a
  obtain ⟨b0, b1⟩ := b
  simp only [w_eqStep, TStep.mk.injEq, Option.bind_some, int_bne, bool_bne, ba_bne]
  by_cases h0 : a0 = b0 <;> by_cases h1 : a1 = b1 <;> simp [h0, h1]
theorem w_eqStepS_eq (a b : List TStep) : w_eqStepS a b = some (decide (a = b)) := eqList (F := w_eqStepS_L1 b) (fun _ => rfl) (fun x xs z y h => by simp only [w_eqStepS_L1, h, Option.bind_some, int_bne, w_eqStep_eq]; by_cases hxy : x = y <;> simp [hxy]) rfl
theorem w_eqIntSS_eq (a b : List (List Int)) : w_eqIntSS a b = some (decide (a = b)) := eqList (F := w_eqIntSS_L1 b) (fun _ => rfl) (fun x xs z y h => by simp only [w_eqIntSS_L1, h, Option.bind_some, int_bne, w_eqIntS_eq]; by_cases hxy : x = y <;> simp [hxy]) rfl
theorem w_eqResource_eq (a b : TResource) : w_eqResource a b = some (decide (a = b)) := by
  obtain ⟨a0, a1⟩ := a
  obtain ⟨b0, b1⟩ := b
  simp only [w_eqResource, w_eqStepS_eq, w_eqIntSS_eq, TResource.mk.injEq, Option.bind_some, int_bne, bool_bne, ba_bne]
  by_cases h0 : a0 = b0 <;> by_cases h1 : a1 = b1 <;> simp [h0, h1]
theorem w_eqResourceS_eq (a b : List TResource) : w_eqResourceS a b = some (decide (a = b)) := eqList (F := w_eqResourceS_L1 b) (fun _ => rfl) (fun x xs z y h => by simp only [w_eqResourceS_L1, h, Option.bind_some, int_bne, w_eqResource_eq]; by_cases hxy : x = y <;> simp [hxy]) rfl
theorem w_eqProject_eq (a b : TProject) : w_eqProject a b = some (decide (a = b)) := by
  obtain ⟨a0, a1, a2, a3, a4⟩ := a
  obtain ⟨b0, b1, b2, b3, b4⟩ := b
  simp only [w_eqProject, w_eqActivityS_eq, w_eqLinkS_eq, w_eqResourceS_eq, w_eqIntS_eq, TProject.mk.injEq, Option.bind_some, int_bne, bool_bne, ba_bne]
  by_cases h0 : a0 = b0 <;> by_cases h1 : a1 = b1 <;> by_cases h2 : a2 = b2 <;> by_cases h3 : a3 = b3 <;> by_cases h4 : a4 = b4 <;> simp [h0, h1, h2, h3, h4]
def b_l_eTLiteral (M : Nat) (l : List TLiteral) : Prop := l.length ≤ M
theorem w_szLiteralS_ok (x : List TLiteral) (h : b_l_eTLiteral 9223372036854775807 x) : SzOk w_szLiteralS (b_l_eTLiteral 1048576) x := szFlat x (fun _ => rfl) h
theorem w_toLiteral_eq (x : TLiteral) : w_toLiteral x = some x := by
  unfold w_toLiteral
  try simp only [Option.bind_some]
theorem w_toLiteralS_eq (x : List TLiteral) (h : b_l_eTLiteral 1048576 x) : w_toLiteralS x = some x := fillList (F := w_toLiteralS_L1) (Q := fun _ => True) (fun _ _ => rfl) (fun x xs z a y hq hy => by simp only [w_toLiteralS_L1, w_toLiteral_eq, hy, Option.bind_some]) h (fun _ _ => trivial) rfl
theorem w_eqLiteral_eq (a b : TLiteral) : w_eqLiteral a b = some (decide (a = b)) := by
  obtain ⟨a0, a1, a2⟩ := a
  obtain ⟨b0, b1, b2⟩ := b
  simp only [w_eqLiteral, TLiteral.mk.injEq, Option.bind_some, int_bne, bool_bne, ba_bne]
  by_cases h0 : a0 = b0 <;> by_cases h1 : a1 = b1 <;> by_cases h2 : a2 = b2 <;> simp [h0, h1, h2]
theorem w_eqLiteralS_eq (a b : List TLiteral) : w_eqLiteralS a b = some (decide (a = b)) := eqList (F := w_eqLiteralS_L1 b) (fun _ => rfl) (fun x xs z y h => by simp only [w_eqLiteralS_L1, h, Option.bind_some, int_bne, w_eqLiteral_eq]; by_cases hxy : x = y <;> simp [hxy]) rfl
def bTSchedule (M : Nat) (x : TSchedule) : Prop := b_l_int M x.Starts ∧ b_l_int M x.Modes ∧  True
theorem w_szSchedule_ok (x : TSchedule) (h : bTSchedule 9223372036854775807 x) : SzOk w_szSchedule (bTSchedule 1048576) x := fun n m0 hn => by
  unfold w_szSchedule bTSchedule
  unfold bTSchedule at h
  exact szThen (w_szIntS_ok _ h.1) m0 (by omega) (fun n1 m1 _ _ => szThen (w_szIntS_ok _ h.2.1) m1 (by omega) (fun n2 m2 _ _ => szEnd m2))
def bTPlan (M : Nat) (x : TPlan) : Prop := bTSchedule M x.Schedule ∧ b_l_int M x.Done ∧  True
theorem w_szPlan_ok (x : TPlan) (h : bTPlan 9223372036854775807 x) : SzOk w_szPlan (bTPlan 1048576) x := fun n m0 hn => by
  unfold w_szPlan bTPlan
  unfold bTPlan at h
  exact szThen (w_szSchedule_ok _ h.1) m0 (by omega) (fun n1 m1 _ _ => szThen (w_szIntS_ok _ h.2.1) m1 (by omega) (fun n2 m2 _ _ => szEnd m2))
theorem w_toSchedule_eq (x : TSchedule) (h : bTSchedule 1048576 x) : w_toSchedule x = some x := by
  unfold bTSchedule at h
  unfold w_toSchedule
  try simp only [w_toIntS_eq _ (h.1), w_toIntS_eq _ (h.2.1), Option.bind_some]
theorem w_toPlan_eq (x : TPlan) (h : bTPlan 1048576 x) : w_toPlan x = some x := by
  unfold bTPlan at h
  unfold w_toPlan
  try simp only [w_toSchedule_eq _ (h.1), w_toIntS_eq _ (h.2.1), Option.bind_some]
theorem w_eqSchedule_eq (a b : TSchedule) : w_eqSchedule a b = some (decide (a = b)) := by
  obtain ⟨a0, a1⟩ := a
  obtain ⟨b0, b1⟩ := b
  simp only [w_eqSchedule, w_eqIntS_eq, w_eqIntS_eq, TSchedule.mk.injEq, Option.bind_some, int_bne, bool_bne, ba_bne]
  by_cases h0 : a0 = b0 <;> by_cases h1 : a1 = b1 <;> simp [h0, h1]
theorem w_eqPlan_eq (a b : TPlan) : w_eqPlan a b = some (decide (a = b)) := by
  obtain ⟨a0, a1⟩ := a
  obtain ⟨b0, b1⟩ := b
  simp only [w_eqPlan, w_eqSchedule_eq, w_eqIntS_eq, TPlan.mk.injEq, Option.bind_some, int_bne, bool_bne, ba_bne]
  by_cases h0 : a0 = b0 <;> by_cases h1 : a1 = b1 <;> simp [h0, h1]
theorem w_markIntS_k_ok (x : List Int) (h : b_l_int 1048576 x) : MkOk w_markIntS_k 1048576 x :=
  MkOk.list (L1 := w_markIntS_k_L1) (e := 1) (Q := fun _ => True) (fun _ _ => rfl) (fun x xs z k hx h0 hb => by
    skip
    refine ⟨(k + 1), by omega, by omega, ?_⟩
    simp only [w_markIntS_k_L1]
    rw [W_of (n := (k + 1)) ⟨by omega, by omega⟩])
    (fun l k => by unfold w_markIntS_k; cases w_markIntS_k_L1 l 0 k <;> rfl) h (fun _ _ => trivial) (by decide)
theorem w_markModeS_k_ok (x : List TMode) (h : b_l_eTMode 1048576 x) : MkOk w_markModeS_k 2199024304128 x :=
  MkOk.list (L1 := w_markModeS_k_L1) (e := 2097153) (Q := bTMode 1048576) (fun _ _ => rfl) (fun x xs z k hx h0 hb => by
    unfold bTMode at hx
    obtain ⟨k0, e0, l0, u0⟩ := w_markIntS_k_ok x.Usage (hx.1) (k + 1) (by omega) (by omega)
    obtain ⟨k1, e1, l1, u1⟩ := w_markIntS_k_ok x.Consumption (hx.2.1) k0 (by omega) (by omega)
    refine ⟨k1, by omega, by omega, ?_⟩
    simp only [w_markModeS_k_L1]
    rw [W_of (n := (k + 1)) ⟨by omega, by omega⟩, e0, Option.bind_some, e1, Option.bind_some])
    (fun l k => by unfold w_markModeS_k; cases w_markModeS_k_L1 l 0 k <;> rfl) h.1 h.2 (by decide)
theorem w_markText_ok (k : Int) (h0 : 0 ≤ k) (h1 : k ≤ 9223372036854775807) : ∃ s, w_markText k = some s := by
  by_cases hk : k ≤ 0
  · exact ⟨_, by unfold w_markText; rw [decide_eq_true hk, cond_true]⟩
  obtain ⟨s, e1, e2⟩ := markText (L1 := w_markText_L1) (fun fuel k s hk hk3 hs => by
    have hd : decide (0 < k) = true := decide_eq_true hk
    have hz : ∀ n : Int, (strB [n]).size = 1 := fun n => rfl
    refine ⟨strB [IntKind.u8.wrap (W (48 + k.tmod 10))] ++ s, by rw [ByteArray.size_append, hz]; omega, ?_⟩
    simp only [w_markText_L1, hd, cond_true]
    have hc : catS (strB [IntKind.u8.wrap (W (48 + k.tmod 10))]) s = some (strB [IntKind.u8.wrap (W (48 + k.tmod 10))] ++ s) := by
      unfold catS; rw [if_pos (by rw [hz]; omega)]
    have hw : W (k.tdiv 10) = k.tdiv 10 := W_of ⟨by rw [Int.tdiv_eq_ediv_of_nonneg (by omega)]; omega, by rw [Int.tdiv_eq_ediv_of_nonneg (by omega)]; omega⟩
    rw [hc, Option.bind_some, hw]) (fun fuel k s hk => by
    have hd : decide (0 < k) = false := decide_eq_false (by omega)
    simp only [w_markText_L1, hd, cond_false]) 19 F0 k ByteArray.empty (by have := F0_gt; omega) (by omega) h1 (by decide)
  refine ⟨_, by unfold w_markText; rw [decide_eq_false hk, cond_false, e1, Option.bind_some]; unfold catS; rw [if_pos (by have : ByteArray.empty.size = 0 := rfl; have : (⟨#[109]⟩ : ByteArray).size = 1 := rfl; omega), Option.bind_some]⟩
theorem w_markActivityS_k_ok (x : List TActivity) (h : b_l_eTActivity 1048576 x) : MkOk w_markActivityS_k 2305844108727418880 x :=
  MkOk.list (L1 := w_markActivityS_k_L1) (e := 2199024304130) (Q := bTActivity 1048576) (fun _ _ => rfl) (fun x xs z k hx h0 hb => by
    unfold bTActivity at hx
    obtain ⟨s0, es0⟩ := w_markText_ok k (by omega) (by omega)
    obtain ⟨k1, e1, l1, u1⟩ := w_markModeS_k_ok x.Modes (hx.2.1) ((k + 1) + 1) (by omega) (by omega)
    refine ⟨k1, by omega, by omega, ?_⟩
    simp only [w_markActivityS_k_L1]
    rw [es0, Option.bind_some, W_of (n := (k + 1)) ⟨by omega, by omega⟩, W_of (n := ((k + 1) + 1)) ⟨by omega, by omega⟩, e1, Option.bind_some])
    (fun l k => by unfold w_markActivityS_k; cases w_markActivityS_k_L1 l 0 k <;> rfl) h.1 h.2 (by decide)
theorem w_markLinkS_k_ok (x : List TLink) (h : b_l_eTLink 1048576 x) : MkOk w_markLinkS_k 4194304 x :=
  MkOk.list (L1 := w_markLinkS_k_L1) (e := 4) (Q := fun _ => True) (fun _ _ => rfl) (fun x xs z k hx h0 hb => by
    skip
    refine ⟨((((k + 1) + 1) + 1) + 1), by omega, by omega, ?_⟩
    simp only [w_markLinkS_k_L1]
    rw [W_of (n := (k + 1)) ⟨by omega, by omega⟩, W_of (n := ((k + 1) + 1)) ⟨by omega, by omega⟩, W_of (n := (((k + 1) + 1) + 1)) ⟨by omega, by omega⟩, W_of (n := ((((k + 1) + 1) + 1) + 1)) ⟨by omega, by omega⟩])
    (fun l k => by unfold w_markLinkS_k; cases w_markLinkS_k_L1 l 0 k <;> rfl) h (fun _ _ => trivial) (by decide)
theorem w_markStepS_k_ok (x : List TStep) (h : b_l_eTStep 1048576 x) : MkOk w_markStepS_k 2097152 x :=
  MkOk.list (L1 := w_markStepS_k_L1) (e := 2) (Q := fun _ => True) (fun _ _ => rfl) (fun x xs z k hx h0 hb => by
    skip
    refine ⟨((k + 1) + 1), by omega, by omega, ?_⟩
    simp only [w_markStepS_k_L1]
    rw [W_of (n := (k + 1)) ⟨by omega, by omega⟩, W_of (n := ((k + 1) + 1)) ⟨by omega, by omega⟩])
    (fun l k => by unfold w_markStepS_k; cases w_markStepS_k_L1 l 0 k <;> rfl) h (fun _ _ => trivial) (by decide)
theorem w_markIntSS_k_ok (x : List (List Int)) (h : b_l_l_int 1048576 x) : MkOk w_markIntSS_k 1099511627776 x :=
  MkOk.list (L1 := w_markIntSS_k_L1) (e := 1048576) (Q := b_l_int 1048576) (fun _ _ => rfl) (fun x xs z k hx h0 hb => by
    obtain ⟨k0, e0, l0, u0⟩ := w_markIntS_k_ok x hx k (by omega) (by omega)
    refine ⟨k0, by omega, by omega, ?_⟩
    simp only [w_markIntSS_k_L1]
    rw [e0, Option.bind_some])
    (fun l k => by unfold w_markIntSS_k; cases w_markIntSS_k_L1 l 0 k <;> rfl) h.1 h.2 (by decide)
theorem w_markResourceS_k_ok (x : List TResource) (h : b_l_eTResource 1048576 x) : MkOk w_markResourceS_k 1152923703630102528 x :=
  MkOk.list (L1 := w_markResourceS_k_L1) (e := 1099513724928) (Q := bTResource 1048576) (fun _ _ => rfl) (fun x xs z k hx h0 hb => by
    unfold bTResource at hx
    obtain ⟨k0, e0, l0, u0⟩ := w_markStepS_k_ok x.Steps (hx.1) k (by omega) (by omega)
    obtain ⟨k1, e1, l1, u1⟩ := w_markIntSS_k_ok x.Setup (hx.2.1) k0 (by omega) (by omega)
    refine ⟨k1, by omega, by omega, ?_⟩
    simp only [w_markResourceS_k_L1]
    rw [e0, Option.bind_some, e1, Option.bind_some])
    (fun l k => by unfold w_markResourceS_k; cases w_markResourceS_k_L1 l 0 k <;> rfl) h.1 h.2 (by decide)
theorem w_markProject_k_ok (x : TProject) (h : bTProject 1048576 x) : MkOk w_markProject_k 3458767812362764288 x := fun k h0 hb => by
  unfold bTProject at h
  obtain ⟨k0, e0, l0, u0⟩ := w_markActivityS_k_ok x.Activities (h.1) k (by omega) (by omega)
  obtain ⟨k1, e1, l1, u1⟩ := w_markLinkS_k_ok x.Links (h.2.1) k0 (by omega) (by omega)
  obtain ⟨k2, e2, l2, u2⟩ := w_markResourceS_k_ok x.Resources (h.2.2.1) k1 (by omega) (by omega)
  obtain ⟨k3, e3, l3, u3⟩ := w_markIntS_k_ok x.Stocks (h.2.2.2.1) k2 (by omega) (by omega)
  refine ⟨k3, ?_, by omega, by omega⟩
  unfold w_markProject_k
  rw [e0, Option.bind_some, e1, Option.bind_some, e2, Option.bind_some, e3, Option.bind_some]
theorem w_markIntS_res (x : List Int) (h : b_l_int 1048576 x) (k0 : Int) (hk0 : 0 ≤ k0) (hk1 : k0 + 1048576 ≤ 1099511627776) : ∃ k ys, w_markIntS x k0 = some (k, ys) ∧ w_heldIntS ys k0 = some k ∧ k0 ≤ k ∧ k ≤ k0 + 1048576 := by
  replace h : x.length ≤ 1048576 := h
  have e1 := markFlat (G := w_markIntS_L1) (c := 1) (up := (fun k _ => k)) (by decide) (fun fuel k i l x hi hil hl h0 hb hx => by
    have hd : decide (i < (l.length : Int)) = true := decide_eq_true hil
    have hlt : i.toNat < l.length := by omega
    have hx2 : ∀ y, idxL (l.set i.toNat y) i = some y := fun y => by simp [idxL, hi, hlt]
    replace hx : idxL l i = some x := by simp [idxL, hi, hx]
    simp only [w_markIntS_L1, hd, cond_true, hx, Option.bind_some, W_of (n := k + 1) ⟨by omega, by omega⟩, W_of (n := i + 1) ⟨by omega, by omega⟩, setL]; rfl)
    (fun fuel k i l hi => by
    have hd : decide (i < (l.length : Int)) = false := decide_eq_false (by omega)
    simp only [w_markIntS_L1, hd, cond_false]) h hk0 (by omega)
  have hb : (1 : Int) * (x.length : Int) ≤ 1048576 := by omega
  have e2 := heldFlat (H := w_heldIntS_L1) (c := 1) (up := (fun k _ => k)) (by decide) (fun x xs z k h0 hb => by
    simp only [w_heldIntS_L1, int_bne, decide_true, Bool.not_true, cond_false, W_of (n := k + 1) ⟨by omega, by omega⟩]; rfl) (fun _ _ => rfl) x 0 k0 hk0 (by omega)
  refine ⟨_, _, by unfold w_markIntS; rw [e1]; rfl, by unfold w_heldIntS; rw [e2]; rfl, by omega, by omega⟩
theorem w_markSchedule_res (x : TSchedule) (h : bTSchedule 1048576 x) (k0 : Int) (hk0 : 0 ≤ k0) (hk1 : k0 + 2097152 ≤ 1099511627776) : ∃ k y1 y2, w_markSchedule x k0 = some (k, y1, y2) ∧ w_heldSchedule (TSchedule.mk y1 y2) k0 = some k ∧ k0 ≤ k ∧ k ≤ k0 + 2097152 := by
  unfold bTSchedule at h
  obtain ⟨k1, a0_1, m0, l0, g0, n0⟩ := w_markIntS_res x.Starts (h.1) k0 (by omega) (by omega)
  obtain ⟨k2, a1_1, m1, l1, g1, n1⟩ := w_markIntS_res x.Modes (h.2.1) k1 (by omega) (by omega)
  refine ⟨k2, a0_1, a1_1, by unfold w_markSchedule; simp only [m0, Option.bind_some, m1, Option.bind_some], by unfold w_heldSchedule; simp only [l0, Option.bind_some, decide_eq_false (show ¬ k1 < 0 by omega), cond_false, l1, Option.bind_some, decide_eq_false (show ¬ k2 < 0 by omega), cond_false], by omega, by omega⟩
theorem w_markPlan_res (x : TPlan) (h : bTPlan 1048576 x) (k0 : Int) (hk0 : 0 ≤ k0) (hk1 : k0 + 3145728 ≤ 1099511627776) : ∃ k y1 y2 y3, w_markPlan x k0 = some (k, y1, y2, y3) ∧ w_heldPlan (TPlan.mk (TSchedule.mk y1 y2) y3) k0 = some k ∧ k0 ≤ k ∧ k ≤ k0 + 3145728 := by
  unfold bTPlan at h
  obtain ⟨k1, a0_1, a0_2, m0, l0, g0, n0⟩ := w_markSchedule_res x.Schedule (h.1) k0 (by omega) (by omega)
  obtain ⟨k2, a1_1, m1, l1, g1, n1⟩ := w_markIntS_res x.Done (h.2.1) k1 (by omega) (by omega)
  refine ⟨k2, a0_1, a0_2, a1_1, by unfold w_markPlan; simp only [m0, Option.bind_some, m1, Option.bind_some], by unfold w_heldPlan; simp only [l0, Option.bind_some, decide_eq_false (show ¬ k1 < 0 by omega), cond_false, l1, Option.bind_some, decide_eq_false (show ¬ k2 < 0 by omega), cond_false], by omega, by omega⟩
def bTDomain (M : Nat) (x : TDomain) : Prop := b_l_int M x.MinStart ∧ b_l_int M x.MaxStart ∧ b_l_l_int M x.Modes ∧  True
theorem w_szDomain_ok (x : TDomain) (h : bTDomain 9223372036854775807 x) : SzOk w_szDomain (bTDomain 1048576) x := fun n m0 hn => by
  unfold w_szDomain bTDomain
  unfold bTDomain at h
  exact szThen (w_szIntS_ok _ h.1) m0 (by omega) (fun n1 m1 _ _ => szThen (w_szIntS_ok _ h.2.1) m1 (by omega) (fun n2 m2 _ _ => szThen (w_szIntSS_ok _ h.2.2.1) m2 (by omega) (fun n3 m3 _ _ => szEnd m3)))
def bTLine (M : Nat) (x : TLine) : Prop := b_l_eTLiteral M x.Clause ∧  True
theorem w_szLine_ok (x : TLine) (h : bTLine 9223372036854775807 x) : SzOk w_szLine (bTLine 1048576) x := fun n m0 hn => by
  unfold w_szLine bTLine
  unfold bTLine at h
  exact szThen (w_szLiteralS_ok _ h.1) m0 (by omega) (fun n1 m1 _ _ => szEnd m1)
def b_l_eTLine (M : Nat) (l : List TLine) : Prop := l.length ≤ M ∧ ∀ x ∈ l, bTLine M x
theorem w_szLineS_ok (x : List TLine) (h : b_l_eTLine 9223372036854775807 x) : SzOk w_szLineS (b_l_eTLine 1048576) x := szList (F := w_szLineS_L1) (sz := w_szLine) (Q := bTLine 1048576) x (fun _ _ => rfl) (fun _ _ _ _ => rfl) (fun _ => rfl) h.1 (fun y hy => w_szLine_ok y (h.2 y hy))
def bTLog (M : Nat) (x : TLog) : Prop := bTProject M x.Project ∧ bTDomain M x.Domain ∧ b_l_eTLiteral M x.Decisions ∧ b_l_eTLine M x.Lines ∧  True
theorem w_szLog_ok (x : TLog) (h : bTLog 9223372036854775807 x) : SzOk w_szLog (bTLog 1048576) x := fun n m0 hn => by
  unfold w_szLog bTLog
  unfold bTLog at h
  exact szThen (w_szProject_ok _ h.1) m0 (by omega) (fun n1 m1 _ _ => szThen (w_szDomain_ok _ h.2.1) m1 (by omega) (fun n2 m2 _ _ => szThen (w_szLiteralS_ok _ h.2.2.1) m2 (by omega) (fun n3 m3 _ _ => szThen (w_szLineS_ok _ h.2.2.2.1) m3 (by omega) (fun n4 m4 _ _ => szEnd m4))))
theorem w_toDomain_eq (x : TDomain) (h : bTDomain 1048576 x) : w_toDomain x = some x := by
  unfold bTDomain at h
  unfold w_toDomain
  try simp only [w_toIntS_eq _ (h.1), w_toIntS_eq _ (h.2.1), w_toIntSS_eq _ (h.2.2.1), Option.bind_some]
theorem w_toRule_eq (x : TRule) : w_toRule x = some x := by
  unfold w_toRule
  try simp only [Option.bind_some]
theorem w_toLine_eq (x : TLine) (h : bTLine 1048576 x) : w_toLine x = some x := by
  unfold bTLine at h
  unfold w_toLine
  try simp only [w_toRule_eq, w_toLiteralS_eq _ (h.1), Option.bind_some]
theorem w_toLineS_eq (x : List TLine) (h : b_l_eTLine 1048576 x) : w_toLineS x = some x := fillList (F := w_toLineS_L1) (Q := bTLine 1048576) (fun _ _ => rfl) (fun x xs z a y hq hy => by simp only [w_toLineS_L1, w_toLine_eq x hq, hy, Option.bind_some]) h.1 h.2 rfl
theorem w_toLog_eq (x : TLog) (h : bTLog 1048576 x) : w_toLog x = some x := by
  unfold bTLog at h
  unfold w_toLog
  try simp only [w_toProject_eq _ (h.1), w_toDomain_eq _ (h.2.1), w_toLiteralS_eq _ (h.2.2.1), w_toLineS_eq _ (h.2.2.2.1), Option.bind_some]
theorem w_eqDomain_eq (a b : TDomain) : w_eqDomain a b = some (decide (a = b)) := by
  obtain ⟨a0, a1, a2⟩ := a
  obtain ⟨b0, b1, b2⟩ := b
  simp only [w_eqDomain, w_eqIntS_eq, w_eqIntS_eq, w_eqIntSS_eq, TDomain.mk.injEq, Option.bind_some, int_bne, bool_bne, ba_bne]
  by_cases h0 : a0 = b0 <;> by_cases h1 : a1 = b1 <;> by_cases h2 : a2 = b2 <;> simp [h0, h1, h2]
theorem w_eqRule_eq (a b : TRule) : w_eqRule a b = some (decide (a = b)) := by
  obtain ⟨a0, a1, a2, a3⟩ := a
  obtain ⟨b0, b1, b2, b3⟩ := b
  simp only [w_eqRule, TRule.mk.injEq, Option.bind_some, int_bne, bool_bne, ba_bne]
  by_cases h0 : a0 = b0 <;> by_cases h1 : a1 = b1 <;> by_cases h2 : a2 = b2 <;> by_cases h3 : a3 = b3 <;> simp [h0, h1, h2, h3]
theorem w_eqLine_eq (a b : TLine) : w_eqLine a b = some (decide (a = b)) := by
  obtain ⟨a0, a1, a2⟩ := a
  obtain ⟨b0, b1, b2⟩ := b
  simp only [w_eqLine, w_eqRule_eq, w_eqLiteralS_eq, TLine.mk.injEq, Option.bind_some, int_bne, bool_bne, ba_bne]
  by_cases h0 : a0 = b0 <;> by_cases h1 : a1 = b1 <;> by_cases h2 : a2 = b2 <;> simp [h0, h1, h2]
theorem w_eqLineS_eq (a b : List TLine) : w_eqLineS a b = some (decide (a = b)) := eqList (F := w_eqLineS_L1 b) (fun _ => rfl) (fun x xs z y h => by simp only [w_eqLineS_L1, h, Option.bind_some, int_bne, w_eqLine_eq]; by_cases hxy : x = y <;> simp [hxy]) rfl
theorem w_eqLog_eq (a b : TLog) : w_eqLog a b = some (decide (a = b)) := by
  obtain ⟨a0, a1, a2, a3⟩ := a
  obtain ⟨b0, b1, b2, b3⟩ := b
  simp only [w_eqLog, w_eqProject_eq, w_eqDomain_eq, w_eqLiteralS_eq, w_eqLineS_eq, TLog.mk.injEq, Option.bind_some, int_bne, bool_bne, ba_bne]
  by_cases h0 : a0 = b0 <;> by_cases h1 : a1 = b1 <;> by_cases h2 : a2 = b2 <;> by_cases h3 : a3 = b3 <;> simp [h0, h1, h2, h3]
structure TboundsError where
  x : Int
  y : Int
  signed : Bool
  code : Int
  deriving DecidableEq
structure TerrorAddressString where
  msg : ByteArray
  addr : Int
  deriving DecidableEq
theorem TRule_beq (x y : TRule) : (x.Kind == y.Kind && (x.A == y.A && (x.B == y.B && (x.C == y.C && true)))) = decide (x = y) := by
  obtain ⟨x0, x1, x2, x3⟩ := x
  obtain ⟨y0, y1, y2, y3⟩ := y
  simp only [TRule.mk.injEq, int_beq, bool_beq, ba_beq, Bool.and_true, Bool.decide_and]
theorem TLiteral_beq (x y : TLiteral) : (x.Kind == y.Kind && (x.Activity == y.Activity && (x.Value == y.Value && true))) = decide (x = y) := by
  obtain ⟨x0, x1, x2⟩ := x
  obtain ⟨y0, y1, y2⟩ := y
  simp only [TLiteral.mk.injEq, int_beq, bool_beq, ba_beq, Bool.and_true, Bool.decide_and]
theorem TLink_beq (x y : TLink) : (x.From == y.From && (x.To == y.To && (x.FromEnd == y.FromEnd && (x.Lag == y.Lag && true)))) = decide (x = y) := by
  obtain ⟨x0, x1, x2, x3⟩ := x
  obtain ⟨y0, y1, y2, y3⟩ := y
  simp only [TLink.mk.injEq, int_beq, bool_beq, ba_beq, Bool.and_true, Bool.decide_and]
theorem TStep_beq (x y : TStep) : (x.At == y.At && (x.Capacity == y.Capacity && true)) = decide (x = y) := by
  obtain ⟨x0, x1⟩ := x
  obtain ⟨y0, y1⟩ := y
  simp only [TStep.mk.injEq, int_beq, bool_beq, ba_beq, Bool.and_true, Bool.decide_and]
theorem decb_int : ∀ p, Val .int p → ∃ x : Int, p = int x ∧ True := fun p h => by obtain ⟨n, e⟩ := dec_int h; exact ⟨n, e, trivial⟩
theorem decb_str : ∀ p, Val .str p → ∃ x : ByteArray, p = str x ∧ b_str 9223372036854775807 x := fun p h => dec_str h
theorem decb_l_int : ∀ p, Val (.slice .int) p → ∃ x : List Int, p = .slice (x.map int) ∧ b_l_int 9223372036854775807 x := fun p h => by
  obtain ⟨l, e, h1, h2⟩ := dec_slice decb_int h
  exact ⟨l, e, h1⟩
theorem decb_TMode : ∀ p, Val (.agg [.int, .slice .int, .slice .int]) p → ∃ x : TMode, p = eTMode x ∧ bTMode 9223372036854775807 x := fun p h => by
  obtain ⟨zs0, rfl, hv0⟩ := h
  obtain ⟨x0, zs1, rfl, h0, hv1⟩ := vals_cons hv0
  obtain ⟨y0, rfl, b0⟩ := decb_int _ h0
  obtain ⟨x1, zs2, rfl, h1, hv2⟩ := vals_cons hv1
  obtain ⟨y1, rfl, b1⟩ := decb_l_int _ h1
  obtain ⟨x2, zs3, rfl, h2, hv3⟩ := vals_cons hv2
  obtain ⟨y2, rfl, b2⟩ := decb_l_int _ h2
  obtain rfl := vals_nil hv3
  exact ⟨⟨y0, y1, y2⟩, rfl, ⟨b1, b2, trivial⟩⟩
theorem decb_l_eTMode : ∀ p, Val (.slice (.agg [.int, .slice .int, .slice .int])) p → ∃ x : List TMode, p = .slice (x.map eTMode) ∧ b_l_eTMode 9223372036854775807 x := fun p h => by
  obtain ⟨l, e, h1, h2⟩ := dec_slice decb_TMode h
  exact ⟨l, e, h1, h2⟩
theorem decb_TActivity : ∀ p, Val (.agg [.str, .int, .slice (.agg [.int, .slice .int, .slice .int])]) p → ∃ x : TActivity, p = eTActivity x ∧ bTActivity 9223372036854775807 x := fun p h => by
  obtain ⟨zs0, rfl, hv0⟩ := h
  obtain ⟨x0, zs1, rfl, h0, hv1⟩ := vals_cons hv0
  obtain ⟨y0, rfl, b0⟩ := decb_str _ h0
  obtain ⟨x1, zs2, rfl, h1, hv2⟩ := vals_cons hv1
  obtain ⟨y1, rfl, b1⟩ := decb_int _ h1
  obtain ⟨x2, zs3, rfl, h2, hv3⟩ := vals_cons hv2
  obtain ⟨y2, rfl, b2⟩ := decb_l_eTMode _ h2
  obtain rfl := vals_nil hv3
  exact ⟨⟨y0, y1, y2⟩, rfl, ⟨b0, b2, trivial⟩⟩
theorem decb_l_eTActivity : ∀ p, Val (.slice (.agg [.str, .int, .slice (.agg [.int, .slice .int, .slice .int])])) p → ∃ x : List TActivity, p = .slice (x.map eTActivity) ∧ b_l_eTActivity 9223372036854775807 x := fun p h => by
  obtain ⟨l, e, h1, h2⟩ := dec_slice decb_TActivity h
  exact ⟨l, e, h1, h2⟩
theorem decb_bool : ∀ p, Val .bool p → ∃ x : Bool, p = bool x ∧ True := fun p h => by obtain ⟨n, e⟩ := dec_bool h; exact ⟨n, e, trivial⟩
theorem decb_TLink : ∀ p, Val (.agg [.int, .int, .bool, .int]) p → ∃ x : TLink, p = eTLink x ∧ True := fun p h => by
  obtain ⟨zs0, rfl, hv0⟩ := h
  obtain ⟨x0, zs1, rfl, h0, hv1⟩ := vals_cons hv0
  obtain ⟨y0, rfl, b0⟩ := decb_int _ h0
  obtain ⟨x1, zs2, rfl, h1, hv2⟩ := vals_cons hv1
  obtain ⟨y1, rfl, b1⟩ := decb_int _ h1
  obtain ⟨x2, zs3, rfl, h2, hv3⟩ := vals_cons hv2
  obtain ⟨y2, rfl, b2⟩ := decb_bool _ h2
  obtain ⟨x3, zs4, rfl, h3, hv4⟩ := vals_cons hv3
  obtain ⟨y3, rfl, b3⟩ := decb_int _ h3
  obtain rfl := vals_nil hv4
  exact ⟨⟨y0, y1, y2, y3⟩, rfl, trivial⟩
theorem decb_l_eTLink : ∀ p, Val (.slice (.agg [.int, .int, .bool, .int])) p → ∃ x : List TLink, p = .slice (x.map eTLink) ∧ b_l_eTLink 9223372036854775807 x := fun p h => by
  obtain ⟨l, e, h1, h2⟩ := dec_slice decb_TLink h
  exact ⟨l, e, h1⟩
theorem decb_TStep : ∀ p, Val (.agg [.int, .int]) p → ∃ x : TStep, p = eTStep x ∧ True := fun p h => by
  obtain ⟨zs0, rfl, hv0⟩ := h
  obtain ⟨x0, zs1, rfl, h0, hv1⟩ := vals_cons hv0
  obtain ⟨y0, rfl, b0⟩ := decb_int _ h0
  obtain ⟨x1, zs2, rfl, h1, hv2⟩ := vals_cons hv1
  obtain ⟨y1, rfl, b1⟩ := decb_int _ h1
  obtain rfl := vals_nil hv2
  exact ⟨⟨y0, y1⟩, rfl, trivial⟩
theorem decb_l_eTStep : ∀ p, Val (.slice (.agg [.int, .int])) p → ∃ x : List TStep, p = .slice (x.map eTStep) ∧ b_l_eTStep 9223372036854775807 x := fun p h => by
  obtain ⟨l, e, h1, h2⟩ := dec_slice decb_TStep h
  exact ⟨l, e, h1⟩
theorem decb_l_l_int : ∀ p, Val (.slice (.slice .int)) p → ∃ x : List (List Int), p = .slice (x.map l_int) ∧ b_l_l_int 9223372036854775807 x := fun p h => by
  obtain ⟨l, e, h1, h2⟩ := dec_slice decb_l_int h
  exact ⟨l, e, h1, h2⟩
theorem decb_TResource : ∀ p, Val (.agg [.slice (.agg [.int, .int]), .slice (.slice .int)]) p → ∃ x : TResource, p = eTResource x ∧ bTResource 9223372036854775807 x := fun p h => by
  obtain ⟨zs0, rfl, hv0⟩ := h
  obtain ⟨x0, zs1, rfl, h0, hv1⟩ := vals_cons hv0
  obtain ⟨y0, rfl, b0⟩ := decb_l_eTStep _ h0
  obtain ⟨x1, zs2, rfl, h1, hv2⟩ := vals_cons hv1
  obtain ⟨y1, rfl, b1⟩ := decb_l_l_int _ h1
  obtain rfl := vals_nil hv2
  exact ⟨⟨y0, y1⟩, rfl, ⟨b0, b1, trivial⟩⟩
theorem decb_l_eTResource : ∀ p, Val (.slice (.agg [.slice (.agg [.int, .int]), .slice (.slice .int)])) p → ∃ x : List TResource, p = .slice (x.map eTResource) ∧ b_l_eTResource 9223372036854775807 x := fun p h => by
  obtain ⟨l, e, h1, h2⟩ := dec_slice decb_TResource h
  exact ⟨l, e, h1, h2⟩
theorem decb_TProject : ∀ p, Val (.agg [.int, .slice (.agg [.str, .int, .slice (.agg [.int, .slice .int, .slice .int])]), .slice (.agg [.int, .int, .bool, .int]), .slice (.agg [.slice (.agg [.int, .int]), .slice (.slice .int)]), .slice .int]) p → ∃ x : TProject, p = eTProject x ∧ bTProject 9223372036854775807 x := fun p h => by
  obtain ⟨zs0, rfl, hv0⟩ := h
  obtain ⟨x0, zs1, rfl, h0, hv1⟩ := vals_cons hv0
  obtain ⟨y0, rfl, b0⟩ := decb_int _ h0
  obtain ⟨x1, zs2, rfl, h1, hv2⟩ := vals_cons hv1
  obtain ⟨y1, rfl, b1⟩ := decb_l_eTActivity _ h1
  obtain ⟨x2, zs3, rfl, h2, hv3⟩ := vals_cons hv2
  obtain ⟨y2, rfl, b2⟩ := decb_l_eTLink _ h2
  obtain ⟨x3, zs4, rfl, h3, hv4⟩ := vals_cons hv3
  obtain ⟨y3, rfl, b3⟩ := decb_l_eTResource _ h3
  obtain ⟨x4, zs5, rfl, h4, hv5⟩ := vals_cons hv4
  obtain ⟨y4, rfl, b4⟩ := decb_l_int _ h4
  obtain rfl := vals_nil hv5
  exact ⟨⟨y0, y1, y2, y3, y4⟩, rfl, ⟨b1, b2, b3, b4, trivial⟩⟩
end Go.Px.Ytjncefleglnnjaa
