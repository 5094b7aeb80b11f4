/-
  PROVED: definitions that say what functions of the program compute. No condition.
-/
import Derived.Test.YtjncefleglnnjaaGreatQ2
namespace Go.Px.YtjncefleglnnjaaGreat
set_option linter.unusedSimpArgs false
set_option linter.unusedVariables false
open Go.Px
structure TMode where
  Duration : Int
  Usage : List Int
  Consumption : List Int
  deriving DecidableEq
structure TActivity where
  Name : ByteArray
  Family : Int
  Modes : List TMode
  deriving DecidableEq
structure TLink where
  From : Int
  To : Int
  FromEnd : Bool
  Lag : Int
  deriving DecidableEq
structure TStep where
  At : Int
  Capacity : Int
  deriving DecidableEq
structure TResource where
  Steps : List TStep
  Setup : List (List Int)
  deriving DecidableEq
structure TProject where
  Deadline : Int
  Activities : List TActivity
  Links : List TLink
  Resources : List TResource
  Stocks : List Int
  deriving DecidableEq
structure TLiteral where
  Kind : Int
  Activity : Int
  Value : Int
  deriving DecidableEq
structure TSchedule where
  Starts : List Int
  Modes : List Int
  deriving DecidableEq
structure TPlan where
  Schedule : TSchedule
  Done : List Int
  deriving DecidableEq
structure TDomain where
  MinStart : List Int
  MaxStart : List Int
  Modes : List (List Int)
  deriving DecidableEq
structure TRule where
  Kind : Int
  A : Int
  B : Int
  C : Int
  deriving DecidableEq
structure TLine where
  Kind : Int
  Rule : TRule
  Clause : List TLiteral
  deriving DecidableEq
structure TLog where
  Project : TProject
  Domain : TDomain
  Decisions : List TLiteral
  Lines : List TLine
  deriving DecidableEq
structure TboundsError where
  x : Int
  y : Int
  signed : Bool
  code : Int
  deriving DecidableEq
structure TerrorAddressString where
  msg : ByteArray
  addr : Int
  deriving DecidableEq
abbrev eTMode (x : TMode) : PV := .agg [int x.Duration, .slice (x.Usage.map int), .slice (x.Consumption.map int)]
abbrev eTActivity (x : TActivity) : PV := .agg [str x.Name, int x.Family, .slice (x.Modes.map eTMode)]
abbrev eTLink (x : TLink) : PV := .agg [int x.From, int x.To, bool x.FromEnd, int x.Lag]
abbrev eTStep (x : TStep) : PV := .agg [int x.At, int x.Capacity]
abbrev l_int (x : List Int) : PV := .slice (x.map int)
abbrev eTResource (x : TResource) : PV := .agg [.slice (x.Steps.map eTStep), .slice (x.Setup.map l_int)]
abbrev eTProject (x : TProject) : PV := .agg [int x.Deadline, .slice (x.Activities.map eTActivity), .slice (x.Links.map eTLink), .slice (x.Resources.map eTResource), .slice (x.Stocks.map int)]
abbrev eTLiteral (x : TLiteral) : PV := .agg [int x.Kind, int x.Activity, int x.Value]
abbrev eTPlan (x : TPlan) : PV := .agg [.slice (x.Schedule.Starts.map int), .slice (x.Schedule.Modes.map int), .slice (x.Done.map int)]
abbrev eTSchedule (x : TSchedule) : PV := .agg [.slice (x.Starts.map int), .slice (x.Modes.map int)]
abbrev eTLine (x : TLine) : PV := .agg [int x.Kind, int x.Rule.Kind, int x.Rule.A, int x.Rule.B, int x.Rule.C, .slice (x.Clause.map eTLiteral)]
abbrev eTLog (x : TLog) : PV := .agg [int x.Project.Deadline, .slice (x.Project.Activities.map eTActivity), .slice (x.Project.Links.map eTLink), .slice (x.Project.Resources.map eTResource), .slice (x.Project.Stocks.map int), .slice (x.Domain.MinStart.map int), .slice (x.Domain.MaxStart.map int), .slice (x.Domain.Modes.map l_int), .slice (x.Decisions.map eTLiteral), .slice (x.Lines.map eTLine)]
abbrev eTDomain (x : TDomain) : PV := .agg [.slice (x.MinStart.map int), .slice (x.MaxStart.map int), .slice (x.Modes.map l_int)]
abbrev eTRule (x : TRule) : PV := .agg [int x.Kind, int x.A, int x.B, int x.C]
abbrev l_eTMode (x : List TMode) : PV := .slice (x.map eTMode)
abbrev l_eTActivity (x : List TActivity) : PV := .slice (x.map eTActivity)
abbrev l_eTLink (x : List TLink) : PV := .slice (x.map eTLink)
abbrev l_eTStep (x : List TStep) : PV := .slice (x.map eTStep)
abbrev l_l_int (x : List (List Int)) : PV := .slice (x.map l_int)
abbrev l_eTResource (x : List TResource) : PV := .slice (x.map eTResource)
abbrev l_eTLiteral (x : List TLiteral) : PV := .slice (x.map eTLiteral)
abbrev l_eTLine (x : List TLine) : PV := .slice (x.map eTLine)
def w_szIntS (b0 : List Int) (b1 : Int) : Option Int :=
  (bif (decide ((W (b1 - (b0.length : Int))) < 0)) then
  some (-1)
  else
  some (W (b1 - (b0.length : Int))))
def w_szMode (b0 : TMode) (b1 : Int) : Option Int :=
  (w_szIntS b0.Usage b1).bind fun v1 =>
  (bif (decide (v1 < 0)) then
  some (-1)
  else
  (w_szIntS b0.Consumption v1).bind fun v3 =>
  (bif (decide (v3 < 0)) then
  some (-1)
  else
  some v3))
def w_szModeS_L1  : List TMode → Int → Int → Option (Int ⊕ Int)
  | [], z9, a10 =>
    some (Sum.inl a10)
  | x11 :: xs12, z9, a10 =>
    (w_szMode x11 a10).bind fun v14 =>
    (bif (decide (v14 < 0)) then
    some (Sum.inr (-1))
    else
    w_szModeS_L1 xs12 (z9 + 1) v14)
def w_szModeS (b0 : List TMode) (b1 : Int) : Option Int :=
  (bif (decide ((W (b1 - (b0.length : Int))) < 0)) then
  some (-1)
  else
  sumBind
  (w_szModeS_L1 b0 0 (W (b1 - (b0.length : Int))))
  (fun q17 => some q17) fun p16 =>
  some p16)
def w_szActivity (b0 : TActivity) (b1 : Int) : Option Int :=
  (bif (decide ((W (b1 - (b0.Name.size : Int))) < 0)) then
  some (-1)
  else
  (w_szModeS b0.Modes (W (b1 - (b0.Name.size : Int)))).bind fun v2 =>
  (bif (decide (v2 < 0)) then
  some (-1)
  else
  some v2))
def w_szActivityS_L1  : List TActivity → Int → Int → Option (Int ⊕ Int)
  | [], z9, a10 =>
    some (Sum.inl a10)
  | x11 :: xs12, z9, a10 =>
    (w_szActivity x11 a10).bind fun v14 =>
    (bif (decide (v14 < 0)) then
    some (Sum.inr (-1))
    else
    w_szActivityS_L1 xs12 (z9 + 1) v14)
def w_szActivityS (b0 : List TActivity) (b1 : Int) : Option Int :=
  (bif (decide ((W (b1 - (b0.length : Int))) < 0)) then
  some (-1)
  else
  sumBind
  (w_szActivityS_L1 b0 0 (W (b1 - (b0.length : Int))))
  (fun q17 => some q17) fun p16 =>
  some p16)
def w_szLinkS (b0 : List TLink) (b1 : Int) : Option Int :=
  (bif (decide ((W (b1 - (b0.length : Int))) < 0)) then
  some (-1)
  else
  some (W (b1 - (b0.length : Int))))
def w_szStepS (b0 : List TStep) (b1 : Int) : Option Int :=
  (bif (decide ((W (b1 - (b0.length : Int))) < 0)) then
  some (-1)
  else
  some (W (b1 - (b0.length : Int))))
def w_szIntSS_L1  : List (List Int) → Int → Int → Option (Int ⊕ Int)
  | [], z9, a10 =>
    some (Sum.inl a10)
  | x11 :: xs12, z9, a10 =>
    (w_szIntS x11 a10).bind fun v14 =>
    (bif (decide (v14 < 0)) then
    some (Sum.inr (-1))
    else
    w_szIntSS_L1 xs12 (z9 + 1) v14)
def w_szIntSS (b0 : List (List Int)) (b1 : Int) : Option Int :=
  (bif (decide ((W (b1 - (b0.length : Int))) < 0)) then
  some (-1)
  else
  sumBind
  (w_szIntSS_L1 b0 0 (W (b1 - (b0.length : Int))))
  (fun q17 => some q17) fun p16 =>
  some p16)
def w_szResource (b0 : TResource) (b1 : Int) : Option Int :=
  (w_szStepS b0.Steps b1).bind fun v1 =>
  (bif (decide (v1 < 0)) then
  some (-1)
  else
  (w_szIntSS b0.Setup v1).bind fun v3 =>
  (bif (decide (v3 < 0)) then
  some (-1)
  else
  some v3))
def w_szResourceS_L1  : List TResource → Int → Int → Option (Int ⊕ Int)
  | [], z9, a10 =>
    some (Sum.inl a10)
  | x11 :: xs12, z9, a10 =>
    (w_szResource x11 a10).bind fun v14 =>
    (bif (decide (v14 < 0)) then
    some (Sum.inr (-1))
    else
    w_szResourceS_L1 xs12 (z9 + 1) v14)
def w_szResourceS (b0 : List TResource) (b1 : Int) : Option Int :=
  (bif (decide ((W (b1 - (b0.length : Int))) < 0)) then
  some (-1)
  else
  sumBind
  (w_szResourceS_L1 b0 0 (W (b1 - (b0.length : Int))))
  (fun q17 => some q17) fun p16 =>
  some p16)
def w_szProject (b0 : TProject) (b1 : Int) : Option Int :=
  (w_szActivityS b0.Activities b1).bind fun v1 =>
  (bif (decide (v1 < 0)) then
  some (-1)
  else
  (w_szLinkS b0.Links v1).bind fun v3 =>
  (bif (decide (v3 < 0)) then
  some (-1)
  else
  (w_szResourceS b0.Resources v3).bind fun v5 =>
  (bif (decide (v5 < 0)) then
  some (-1)
  else
  (w_szIntS b0.Stocks v5).bind fun v7 =>
  (bif (decide (v7 < 0)) then
  some (-1)
  else
  some v7))))
def w_toIntS_L1  : List Int → Int → (List Int) → Option (List Int)
  | [], z9, a10 =>
    some a10
  | x11 :: xs12, z9, a10 =>
    (idxL a10 z9).bind fun v14 =>
    w_toIntS_L1 xs12 (z9 + 1) (setL a10 z9 x11)
def w_toIntS (b0 : List Int) : Option (List Int) :=
  (makeL 0 (b0.length : Int)).bind fun v1 =>
  Option.bind
  (w_toIntS_L1 b0 0 v1) fun p15 =>
  some p15
def w_toMode (b0 : TMode) : Option TMode :=
  (w_toIntS b0.Usage).bind fun v1 =>
  (w_toIntS b0.Consumption).bind fun v2 =>
  some (TMode.mk b0.Duration v1 v2)
def w_toModeS_L1  : List TMode → Int → (List TMode) → Option (List TMode)
  | [], z9, a10 =>
    some a10
  | x11 :: xs12, z9, a10 =>
    (w_toMode x11).bind fun v14 =>
    (idxL a10 z9).bind fun v15 =>
    w_toModeS_L1 xs12 (z9 + 1) (setL a10 z9 v14)
def w_toModeS (b0 : List TMode) : Option (List TMode) :=
  (makeL (TMode.mk 0 [] []) (b0.length : Int)).bind fun v1 =>
  Option.bind
  (w_toModeS_L1 b0 0 v1) fun p16 =>
  some p16
def w_toActivity (b0 : TActivity) : Option TActivity :=
  (w_toModeS b0.Modes).bind fun v1 =>
  some (TActivity.mk b0.Name b0.Family v1)
def w_toActivityS_L1  : List TActivity → Int → (List TActivity) → Option (List TActivity)
  | [], z9, a10 =>
    some a10
  | x11 :: xs12, z9, a10 =>
    (w_toActivity x11).bind fun v14 =>
    (idxL a10 z9).bind fun v15 =>
    w_toActivityS_L1 xs12 (z9 + 1) (setL a10 z9 v14)
def w_toActivityS (b0 : List TActivity) : Option (List TActivity) :=
  (makeL (TActivity.mk ByteArray.empty 0 []) (b0.length : Int)).bind fun v1 =>
  Option.bind
  (w_toActivityS_L1 b0 0 v1) fun p16 =>
  some p16
def w_toLink (b0 : TLink) : Option TLink :=
  some b0
def w_toLinkS_L1  : List TLink → Int → (List TLink) → Option (List TLink)
  | [], z9, a10 =>
    some a10
  | x11 :: xs12, z9, a10 =>
    (w_toLink x11).bind fun v14 =>
    (idxL a10 z9).bind fun v15 =>
    w_toLinkS_L1 xs12 (z9 + 1) (setL a10 z9 v14)
def w_toLinkS (b0 : List TLink) : Option (List TLink) :=
  (makeL (TLink.mk 0 0 false 0) (b0.length : Int)).bind fun v1 =>
  Option.bind
  (w_toLinkS_L1 b0 0 v1) fun p16 =>
  some p16
def w_toStep (b0 : TStep) : Option TStep :=
  some b0
def w_toStepS_L1  : List TStep → Int → (List TStep) → Option (List TStep)
  | [], z9, a10 =>
    some a10
  | x11 :: xs12, z9, a10 =>
    (w_toStep x11).bind fun v14 =>
    (idxL a10 z9).bind fun v15 =>
    w_toStepS_L1 xs12 (z9 + 1) (setL a10 z9 v14)
def w_toStepS (b0 : List TStep) : Option (List TStep) :=
  (makeL (TStep.mk 0 0) (b0.length : Int)).bind fun v1 =>
  Option.bind
  (w_toStepS_L1 b0 0 v1) fun p16 =>
  some p16
def w_toIntSS_L1  : List (List Int) → Int → (List (List Int)) → Option (List (List Int))
  | [], z9, a10 =>
    some a10
  | x11 :: xs12, z9, a10 =>
    (w_toIntS x11).bind fun v14 =>
    (idxL a10 z9).bind fun v15 =>
    w_toIntSS_L1 xs12 (z9 + 1) (setL a10 z9 v14)
def w_toIntSS (b0 : List (List Int)) : Option (List (List Int)) :=
  (makeL ([] : List Int) (b0.length : Int)).bind fun v1 =>
  Option.bind
  (w_toIntSS_L1 b0 0 v1) fun p16 =>
  some p16
def w_toResource (b0 : TResource) : Option TResource :=
  (w_toStepS b0.Steps).bind fun v1 =>
  (w_toIntSS b0.Setup).bind fun v2 =>
  some (TResource.mk v1 v2)
def w_toResourceS_L1  : List TResource → Int → (List TResource) → Option (List TResource)
  | [], z9, a10 =>
    some a10
  | x11 :: xs12, z9, a10 =>
    (w_toResource x11).bind fun v14 =>
    (idxL a10 z9).bind fun v15 =>
    w_toResourceS_L1 xs12 (z9 + 1) (setL a10 z9 v14)
def w_toResourceS (b0 : List TResource) : Option (List TResource) :=
  (makeL (TResource.mk [] []) (b0.length : Int)).bind fun v1 =>
  Option.bind
  (w_toResourceS_L1 b0 0 v1) fun p16 =>
  some p16
def w_toProject (b0 : TProject) : Option TProject :=
  (w_toActivityS b0.Activities).bind fun v1 =>
  (w_toLinkS b0.Links).bind fun v2 =>
  (w_toResourceS b0.Resources).bind fun v3 =>
  (w_toIntS b0.Stocks).bind fun v4 =>
  some (TProject.mk b0.Deadline v1 v2 v3 v4)
def s_l01In (b0 : Int) (b1 : Int) (b2 : Int) : Option Bool :=
  Option.bind
  ((bif (decide (b1 ≤ b0)) then
  some (decide (b0 ≤ b2))
  else
  some false)) fun e1 =>
  some e1
def s_l04Nums_L1  : List Int → Int → Option (Unit ⊕ Bool)
  | [], z8 =>
    some (Sum.inl ())
  | x9 :: xs10, z8 =>
    (s_l01In x9 0 20).bind fun v12 =>
    (bif (!v12) then
    some (Sum.inr false)
    else
    s_l04Nums_L1 xs10 (z8 + 1))
def s_l04Nums (b0 : List Int) (b1 : Int) : Option Bool :=
  sumBind
  (s_l04Nums_L1 b0 0)
  (fun q15 => some q15) fun p14 =>
  some ((b0.length : Int) == b1)
def s_ModeOk (b0 : TMode) (b1 : Int) (b2 : Int) : Option Bool :=
  (s_l01In b0.Duration 1 12).bind fun v1 =>
  Option.bind
  ((bif v1 then
  (s_l04Nums b0.Usage b1).bind fun v4 =>
  (bif v4 then
  (s_l04Nums b0.Consumption b2).bind fun v6 =>
  some v6
  else
  some false)
  else
  some false)) fun e2 =>
  some e2
def s_IsName_L1 (b0 : ByteArray) : Nat → Int → Option (Unit ⊕ Bool)
  | 0, _ => none
  | fuel + 1, a7 =>
    (bif (decide (a7 < (b0.size : Int))) then
    (idxS b0 a7).bind fun v11 =>
    Option.bind
    ((bif (decide (97 ≤ v11)) then
    some (decide (v11 ≤ 122))
    else
    some false)) fun e12 =>
    Option.bind
    ((bif (!e12) then
    (bif (a7 == 0) then
    some true
    else
    (bif (decide (v11 < 48)) then
    some true
    else
    some (decide (57 < v11))))
    else
    some false)) fun e14 =>
    (bif e14 then
    some (Sum.inr false)
    else
    s_IsName_L1 b0 fuel (W (a7 + 1)))
    else
    some (Sum.inl ()))
def s_IsName (b0 : ByteArray) : Option Bool :=
  sumBind
  (s_IsName_L1 b0 F0 0)
  (fun q20 => some q20) fun p19 =>
  (s_l01In (b0.size : Int) 1 8).bind fun v21 =>
  some v21
def s_ActivityOk_L1 (b1 : Int) (b2 : Int) : List TMode → Int → Option (Unit ⊕ Bool)
  | [], z8 =>
    some (Sum.inl ())
  | x9 :: xs10, z8 =>
    (s_ModeOk x9 b1 b2).bind fun v12 =>
    (bif (!v12) then
    some (Sum.inr false)
    else
    s_ActivityOk_L1 b1 b2 xs10 (z8 + 1))
def s_ActivityOk (b0 : TActivity) (b1 : Int) (b2 : Int) : Option Bool :=
  sumBind
  (s_ActivityOk_L1 b1 b2 b0.Modes 0)
  (fun q15 => some q15) fun p14 =>
  (s_IsName b0.Name).bind fun v16 =>
  Option.bind
  ((bif v16 then
  (s_l01In b0.Family 0 3).bind fun v19 =>
  (bif v19 then
  (s_l01In (b0.Modes.length : Int) 1 3).bind fun v21 =>
  some v21
  else
  some false)
  else
  some false)) fun e17 =>
  some e17
def s_ActivityIndex_L1 (b1 : ByteArray) : List TActivity → Int → Option (Unit ⊕ Int)
  | [], z8 =>
    some (Sum.inl ())
  | x9 :: xs10, z8 =>
    (bif (x9.Name == b1) then
    some (Sum.inr z8)
    else
    s_ActivityIndex_L1 b1 xs10 (z8 + 1))
def s_ActivityIndex (b0 : TProject) (b1 : ByteArray) : Option Int :=
  sumBind
  (s_ActivityIndex_L1 b1 b0.Activities 0)
  (fun q14 => some q14) fun p13 =>
  some (-1)
def s_StepsOk_L1 (b0 : List TStep) : List TStep → Int → Option (Unit ⊕ Bool)
  | [], z8 =>
    some (Sum.inl ())
  | x9 :: xs10, z8 =>
    (s_l01In x9.At 0 60).bind fun v12 =>
    Option.bind
    ((bif (!v12) then
    some true
    else
    (s_l01In x9.Capacity 0 20).bind fun v15 =>
    (bif (!v15) then
    some true
    else
    (bif (decide (0 < z8)) then
    (idxL b0 (z8 - 1)).bind fun v18 =>
    some (decide (x9.At ≤ v18.At))
    else
    some false)))) fun e13 =>
    (bif e13 then
    some (Sum.inr false)
    else
    s_StepsOk_L1 b0 xs10 (z8 + 1))
def s_StepsOk (b0 : List TStep) : Option Bool :=
  sumBind
  (s_StepsOk_L1 b0 b0 0)
  (fun q21 => some q21) fun p20 =>
  (s_l01In (b0.length : Int) 1 8).bind fun v22 =>
  Option.bind
  ((bif v22 then
  (idxL b0 0).bind fun v25 =>
  some (v25.At == 0)
  else
  some false)) fun e23 =>
  some e23
def s_ResourceOk_L2  : List Int → Int → Option (Unit ⊕ Bool)
  | [], z20 =>
    some (Sum.inl ())
  | x21 :: xs22, z20 =>
    (s_l01In x21 0 12).bind fun v24 =>
    (bif (!v24) then
    some (Sum.inr false)
    else
    s_ResourceOk_L2 xs22 (z20 + 1))
def s_ResourceOk_L1  : List (List Int) → Int → Option (Unit ⊕ Bool)
  | [], z8 =>
    some (Sum.inl ())
  | x9 :: xs10, z8 =>
    (bif ((x9.length : Int) != 4) then
    some (Sum.inr false)
    else
    sumBind
    (s_ResourceOk_L2 x9 0)
    (fun q27 => some (Sum.inr q27)) fun p26 =>
    s_ResourceOk_L1 xs10 (z8 + 1))
def s_ResourceOk (b0 : TResource) : Option Bool :=
  sumBind
  (s_ResourceOk_L1 b0.Setup 0)
  (fun q29 => some q29) fun p28 =>
  (s_StepsOk b0.Steps).bind fun v30 =>
  Option.bind
  ((bif v30 then
  (bif ((b0.Setup.length : Int) == 0) then
  some true
  else
  some ((b0.Setup.length : Int) == 4))
  else
  some false)) fun e31 =>
  some e31
def s_ProjectOk_L1 (b0 : TProject) : List TActivity → Int → Option (Unit ⊕ Bool)
  | [], z16 =>
    some (Sum.inl ())
  | x17 :: xs18, z16 =>
    (s_ActivityOk x17 (b0.Resources.length : Int) (b0.Stocks.length : Int)).bind fun v20 =>
    Option.bind
    ((bif (!v20) then
    some true
    else
    (s_ActivityIndex b0 x17.Name).bind fun v23 =>
    some (v23 != z16))) fun e21 =>
    (bif e21 then
    some (Sum.inr false)
    else
    s_ProjectOk_L1 b0 xs18 (z16 + 1))
def s_ProjectOk_L2  : List TResource → Int → Option (Unit ⊕ Bool)
  | [], z34 =>
    some (Sum.inl ())
  | x35 :: xs36, z34 =>
    (s_ResourceOk x35).bind fun v38 =>
    (bif (!v38) then
    some (Sum.inr false)
    else
    s_ProjectOk_L2 xs36 (z34 + 1))
def s_ProjectOk_L3  : List Int → Int → Option (Unit ⊕ Bool)
  | [], z49 =>
    some (Sum.inl ())
  | x50 :: xs51, z49 =>
    (s_l01In x50 0 100).bind fun v53 =>
    (bif (!v53) then
    some (Sum.inr false)
    else
    s_ProjectOk_L3 xs51 (z49 + 1))
def s_ProjectOk_L4 (b0 : TProject) : List TLink → Int → Option (Unit ⊕ Bool)
  | [], z64 =>
    some (Sum.inl ())
  | x65 :: xs66, z64 =>
    (s_l01In x65.From 0 (W ((b0.Activities.length : Int) - 1))).bind fun v68 =>
    Option.bind
    ((bif (!v68) then
    some true
    else
    (s_l01In x65.To 0 (W ((b0.Activities.length : Int) - 1))).bind fun v71 =>
    (bif (!v71) then
    some true
    else
    (bif (x65.From == x65.To) then
    some true
    else
    (s_l01In x65.Lag (-60) 60).bind fun v74 =>
    some (!v74))))) fun e69 =>
    (bif e69 then
    some (Sum.inr false)
    else
    s_ProjectOk_L4 b0 xs66 (z64 + 1))
def s_ProjectOk (b0 : TProject) : Option Bool :=
  (s_l01In b0.Deadline 1 60).bind fun v1 =>
  Option.bind
  ((bif (!v1) then
  some true
  else
  (s_l01In (b0.Activities.length : Int) 1 6).bind fun v4 =>
  (bif (!v4) then
  some true
  else
  (bif (decide (3 < (b0.Resources.length : Int))) then
  some true
  else
  (bif (decide (2 < (b0.Stocks.length : Int))) then
  some true
  else
  some (decide (12 < (b0.Links.length : Int)))))))) fun e2 =>
  (bif e2 then
  some false
  else
  sumBind
  (s_ProjectOk_L1 b0 b0.Activities 0)
  (fun q26 => some q26) fun p25 =>
  sumBind
  (s_ProjectOk_L2 b0.Resources 0)
  (fun q41 => some q41) fun p40 =>
  sumBind
  (s_ProjectOk_L3 b0.Stocks 0)
  (fun q56 => some q56) fun p55 =>
  sumBind
  (s_ProjectOk_L4 b0 b0.Links 0)
  (fun q77 => some q77) fun p76 =>
  some true)
def s_l03Span (b0 : List TStep) (b1 : Int) (b2 : Int) : Option Bool :=
  (s_StepsOk b0).bind fun v1 =>
  Option.bind
  ((bif v1 then
  (s_l01In b1 0 60).bind fun v4 =>
  (bif v4 then
  (s_l01In b2 0 60).bind fun v6 =>
  some v6
  else
  some false)
  else
  some false)) fun e2 =>
  some e2
def s_l03At_L1 (b1 : Int) : List TStep → Int → Int → Option Int
  | [], z8, a9 =>
    some a9
  | x10 :: xs11, z8, a9 =>
    (bif (decide (x10.At ≤ b1)) then
    s_l03At_L1 b1 xs11 (z8 + 1) x10.Capacity
    else
    s_l03At_L1 b1 xs11 (z8 + 1) a9)
def s_l03At (b0 : List TStep) (b1 : Int) : Option Int :=
  Option.bind
  (s_l03At_L1 b1 b0 0 0) fun p14 =>
  some p14
def s_TotalCapacity_L1 (b0 : List TStep) (b2 : Int) : Nat → Int → Int → Option Int
  | 0, _, _ => none
  | fuel + 1, a8, a9 =>
    (bif (decide (a9 < b2)) then
    (s_l03At b0 a9).bind fun v13 =>
    s_TotalCapacity_L1 b0 b2 fuel (W (a8 + v13)) (W (a9 + 1))
    else
    some a8)
def s_TotalCapacity (b0 : List TStep) (b1 : Int) (b2 : Int) : Option Int :=
  (s_l03Span b0 b1 b2).bind fun v1 =>
  (bif (!v1) then
  some 0
  else
  Option.bind
  (s_TotalCapacity_L1 b0 b2 F0 0 b1) fun p14 =>
  some p14)
def s_CapacityIn (b0 : TProject) (b1 : Int) (b2 : Int) (b3 : Int) : Option Int :=
  (s_ProjectOk b0).bind fun v1 =>
  Option.bind
  ((bif (!v1) then
  some true
  else
  (s_l01In b1 0 (W ((b0.Resources.length : Int) - 1))).bind fun v4 =>
  some (!v4))) fun e2 =>
  (bif e2 then
  some 0
  else
  (idxL b0.Resources b1).bind fun v6 =>
  (s_TotalCapacity v6.Steps b2 b3).bind fun v7 =>
  some v7)
def i_within (b0 : Int) (b1 : Int) (b2 : Int) : Option Bool :=
  Option.bind
  ((bif (decide (b1 ≤ b0)) then
  some (decide (b0 ≤ b2))
  else
  some false)) fun e1 =>
  some e1
def i_isAmount (b0 : Int) : Option Bool :=
  (i_within b0 0 20).bind fun v1 =>
  some v1
def i_areAmounts_L1  : List Int → Int → Option (Unit ⊕ Bool)
  | [], z8 =>
    some (Sum.inl ())
  | x9 :: xs10, z8 =>
    (i_isAmount x9).bind fun v12 =>
    (bif (!v12) then
    some (Sum.inr false)
    else
    i_areAmounts_L1 xs10 (z8 + 1))
def i_areAmounts (b0 : List Int) (b1 : Int) : Option Bool :=
  sumBind
  (i_areAmounts_L1 b0 0)
  (fun q15 => some q15) fun p14 =>
  some ((b0.length : Int) == b1)
def i_ModeOk (b0 : TMode) (b1 : Int) (b2 : Int) : Option Bool :=
  (i_within b0.Duration 1 12).bind fun v1 =>
  Option.bind
  ((bif v1 then
  (i_areAmounts b0.Usage b1).bind fun v4 =>
  (bif v4 then
  (i_areAmounts b0.Consumption b2).bind fun v6 =>
  some v6
  else
  some false)
  else
  some false)) fun e2 =>
  some e2
def i_IsName_L1 (b0 : ByteArray) : Nat → Int → Option (Unit ⊕ Bool)
  | 0, _ => none
  | fuel + 1, a7 =>
    (bif (decide (a7 < (b0.size : Int))) then
    (idxS b0 a7).bind fun v11 =>
    Option.bind
    ((bif (decide (97 ≤ v11)) then
    some (decide (v11 ≤ 122))
    else
    some false)) fun e12 =>
    Option.bind
    ((bif (!e12) then
    (bif (a7 == 0) then
    some true
    else
    (bif (decide (v11 < 48)) then
    some true
    else
    some (decide (57 < v11))))
    else
    some false)) fun e14 =>
    (bif e14 then
    some (Sum.inr false)
    else
    i_IsName_L1 b0 fuel (W (a7 + 1)))
    else
    some (Sum.inl ()))
def i_IsName (b0 : ByteArray) : Option Bool :=
  sumBind
  (i_IsName_L1 b0 F0 0)
  (fun q20 => some q20) fun p19 =>
  (i_within (b0.size : Int) 1 8).bind fun v21 =>
  some v21
def i_ActivityOk_L1 (b1 : Int) (b2 : Int) : List TMode → Int → Option (Unit ⊕ Bool)
  | [], z8 =>
    some (Sum.inl ())
  | x9 :: xs10, z8 =>
    (i_ModeOk x9 b1 b2).bind fun v12 =>
    (bif (!v12) then
    some (Sum.inr false)
    else
    i_ActivityOk_L1 b1 b2 xs10 (z8 + 1))
def i_ActivityOk (b0 : TActivity) (b1 : Int) (b2 : Int) : Option Bool :=
  sumBind
  (i_ActivityOk_L1 b1 b2 b0.Modes 0)
  (fun q15 => some q15) fun p14 =>
  (i_IsName b0.Name).bind fun v16 =>
  Option.bind
  ((bif v16 then
  (i_within b0.Family 0 3).bind fun v19 =>
  (bif v19 then
  (i_within (b0.Modes.length : Int) 1 3).bind fun v21 =>
  some v21
  else
  some false)
  else
  some false)) fun e17 =>
  some e17
def i_ActivityIndex_c1 (b0 : TActivity) (c1 : ByteArray) : Option Bool :=
  some (b0.Name == c1)
def slices_IndexFunc_Activity_L1 (g1 : TActivity → Option Bool) : List TActivity → Int → Option (Unit ⊕ Int)
  | [], z8 =>
    some (Sum.inl ())
  | x9 :: xs10, z8 =>
    (g1 x9).bind fun v12 =>
    (bif v12 then
    some (Sum.inr z8)
    else
    slices_IndexFunc_Activity_L1 g1 xs10 (z8 + 1))
def slices_IndexFunc_Activity (b0 : List TActivity) (g1 : TActivity → Option Bool) : Option Int :=
  sumBind
  (slices_IndexFunc_Activity_L1 g1 b0 0)
  (fun q15 => some q15) fun p14 =>
  some (-1)
def i_ActivityIndex (b0 : TProject) (b1 : ByteArray) : Option Int :=
  (slices_IndexFunc_Activity b0.Activities (fun x0 => i_ActivityIndex_c1 x0 b1)).bind fun v1 =>
  some v1
def i_isTime (b0 : Int) : Option Bool :=
  (i_within b0 0 60).bind fun v1 =>
  some v1
def i_StepsOk_L1 (b0 : List TStep) : List TStep → Int → Option (Unit ⊕ Bool)
  | [], z8 =>
    some (Sum.inl ())
  | x9 :: xs10, z8 =>
    (i_isTime x9.At).bind fun v12 =>
    Option.bind
    ((bif (!v12) then
    some true
    else
    (i_isAmount x9.Capacity).bind fun v15 =>
    (bif (!v15) then
    some true
    else
    (bif (z8 == 0) then
    (bif (x9.At != 0) then
    some true
    else
    (bif (decide (0 < z8)) then
    (idxL b0 (z8 - 1)).bind fun v20 =>
    some (decide (x9.At ≤ v20.At))
    else
    some false))
    else
    (bif (decide (0 < z8)) then
    (idxL b0 (z8 - 1)).bind fun v22 =>
    some (decide (x9.At ≤ v22.At))
    else
    some false))))) fun e13 =>
    (bif e13 then
    some (Sum.inr false)
    else
    i_StepsOk_L1 b0 xs10 (z8 + 1))
def i_StepsOk (b0 : List TStep) : Option Bool :=
  sumBind
  (i_StepsOk_L1 b0 b0 0)
  (fun q25 => some q25) fun p24 =>
  (i_within (b0.length : Int) 1 8).bind fun v26 =>
  some v26
def i_ResourceOk_L2  : List Int → Int → Option (Unit ⊕ Bool)
  | [], z20 =>
    some (Sum.inl ())
  | x21 :: xs22, z20 =>
    (i_within x21 0 12).bind fun v24 =>
    (bif (!v24) then
    some (Sum.inr false)
    else
    i_ResourceOk_L2 xs22 (z20 + 1))
def i_ResourceOk_L1  : List (List Int) → Int → Option (Unit ⊕ Bool)
  | [], z8 =>
    some (Sum.inl ())
  | x9 :: xs10, z8 =>
    (bif ((x9.length : Int) != 4) then
    some (Sum.inr false)
    else
    sumBind
    (i_ResourceOk_L2 x9 0)
    (fun q27 => some (Sum.inr q27)) fun p26 =>
    i_ResourceOk_L1 xs10 (z8 + 1))
def i_ResourceOk (b0 : TResource) : Option Bool :=
  sumBind
  (i_ResourceOk_L1 b0.Setup 0)
  (fun q29 => some q29) fun p28 =>
  (i_StepsOk b0.Steps).bind fun v30 =>
  Option.bind
  ((bif v30 then
  (bif ((b0.Setup.length : Int) == 0) then
  some true
  else
  some ((b0.Setup.length : Int) == 4))
  else
  some false)) fun e31 =>
  some e31
def i_Project_hasActivity (b0 : TProject) (b1 : Int) : Option Bool :=
  (i_within b1 0 (W ((b0.Activities.length : Int) - 1))).bind fun v1 =>
  some v1
def i_Project_linkOk (b0 : TProject) (b1 : TLink) : Option Bool :=
  (i_Project_hasActivity b0 b1.From).bind fun v1 =>
  Option.bind
  ((bif v1 then
  (i_Project_hasActivity b0 b1.To).bind fun v4 =>
  (bif v4 then
  (bif (b1.From != b1.To) then
  (i_within b1.Lag (-60) 60).bind fun v7 =>
  some v7
  else
  some false)
  else
  some false)
  else
  some false)) fun e2 =>
  some e2
def i_ProjectOk_c1 (b0 : TLink) (c1 : TProject) : Option Bool :=
  (i_Project_linkOk c1 b0).bind fun v1 =>
  some (!v1)
def slices_IndexFunc_Link_L1 (g1 : TLink → Option Bool) : List TLink → Int → Option (Unit ⊕ Int)
  | [], z8 =>
    some (Sum.inl ())
  | x9 :: xs10, z8 =>
    (g1 x9).bind fun v12 =>
    (bif v12 then
    some (Sum.inr z8)
    else
    slices_IndexFunc_Link_L1 g1 xs10 (z8 + 1))
def slices_IndexFunc_Link (b0 : List TLink) (g1 : TLink → Option Bool) : Option Int :=
  sumBind
  (slices_IndexFunc_Link_L1 g1 b0 0)
  (fun q15 => some q15) fun p14 =>
  some (-1)
def slices_ContainsFunc_Link (b0 : List TLink) (g1 : TLink → Option Bool) : Option Bool :=
  (slices_IndexFunc_Link b0 g1).bind fun v1 =>
  some (decide (0 ≤ v1))
def i_ProjectOk_L1 (b0 : TProject) : List TActivity → Int → Option (Unit ⊕ Bool)
  | [], z16 =>
    some (Sum.inl ())
  | x17 :: xs18, z16 =>
    (i_ActivityOk x17 (b0.Resources.length : Int) (b0.Stocks.length : Int)).bind fun v20 =>
    Option.bind
    ((bif (!v20) then
    some true
    else
    (i_ActivityIndex b0 x17.Name).bind fun v23 =>
    some (v23 != z16))) fun e21 =>
    (bif e21 then
    some (Sum.inr false)
    else
    i_ProjectOk_L1 b0 xs18 (z16 + 1))
def i_ProjectOk_L2  : List TResource → Int → Option (Unit ⊕ Bool)
  | [], z34 =>
    some (Sum.inl ())
  | x35 :: xs36, z34 =>
    (i_ResourceOk x35).bind fun v38 =>
    (bif (!v38) then
    some (Sum.inr false)
    else
    i_ProjectOk_L2 xs36 (z34 + 1))
def i_ProjectOk_L3  : List Int → Int → Option (Unit ⊕ Bool)
  | [], z49 =>
    some (Sum.inl ())
  | x50 :: xs51, z49 =>
    (i_within x50 0 100).bind fun v53 =>
    (bif (!v53) then
    some (Sum.inr false)
    else
    i_ProjectOk_L3 xs51 (z49 + 1))
def i_ProjectOk (b0 : TProject) : Option Bool :=
  (i_within b0.Deadline 1 60).bind fun v1 =>
  Option.bind
  ((bif (!v1) then
  some true
  else
  (i_within (b0.Activities.length : Int) 1 6).bind fun v4 =>
  (bif (!v4) then
  some true
  else
  (bif (decide (3 < (b0.Resources.length : Int))) then
  some true
  else
  (bif (decide (2 < (b0.Stocks.length : Int))) then
  some true
  else
  some (decide (12 < (b0.Links.length : Int)))))))) fun e2 =>
  (bif e2 then
  some false
  else
  sumBind
  (i_ProjectOk_L1 b0 b0.Activities 0)
  (fun q26 => some q26) fun p25 =>
  sumBind
  (i_ProjectOk_L2 b0.Resources 0)
  (fun q41 => some q41) fun p40 =>
  sumBind
  (i_ProjectOk_L3 b0.Stocks 0)
  (fun q56 => some q56) fun p55 =>
  (slices_ContainsFunc_Link b0.Links (fun x0 => i_ProjectOk_c1 x0 b0)).bind fun v57 =>
  some (!v57))
def i_Project_hasResource (b0 : TProject) (b1 : Int) : Option Bool :=
  (i_within b1 0 (W ((b0.Resources.length : Int) - 1))).bind fun v1 =>
  some v1
def i_capacityAt_L1 (b1 : Int) : List TStep → Int → Int → Option Int
  | [], z8, a9 =>
    some a9
  | x10 :: xs11, z8, a9 =>
    (bif (decide (x10.At ≤ b1)) then
    i_capacityAt_L1 b1 xs11 (z8 + 1) x10.Capacity
    else
    i_capacityAt_L1 b1 xs11 (z8 + 1) a9)
def i_capacityAt (b0 : List TStep) (b1 : Int) : Option Int :=
  Option.bind
  (i_capacityAt_L1 b1 b0 0 0) fun p14 =>
  some p14
def i_TotalCapacity_L1 (b0 : List TStep) (b2 : Int) : Nat → Int → Int → Option Int
  | 0, _, _ => none
  | fuel + 1, a13, a14 =>
    (bif (decide (a14 < b2)) then
    (i_capacityAt b0 a14).bind fun v18 =>
    i_TotalCapacity_L1 b0 b2 fuel (W (a13 + v18)) (W (a14 + 1))
    else
    some a13)
def i_TotalCapacity (b0 : List TStep) (b1 : Int) (b2 : Int) : Option Int :=
  (i_StepsOk b0).bind fun v1 =>
  Option.bind
  ((bif (!v1) then
  some true
  else
  (i_isTime b1).bind fun v4 =>
  (bif (!v4) then
  some true
  else
  (i_isTime b2).bind fun v6 =>
  some (!v6)))) fun e2 =>
  (bif e2 then
  some 0
  else
  Option.bind
  (i_TotalCapacity_L1 b0 b2 F0 0 b1) fun p19 =>
  some p19)
def i_CapacityIn (b0 : TProject) (b1 : Int) (b2 : Int) (b3 : Int) : Option Int :=
  (i_ProjectOk b0).bind fun v1 =>
  Option.bind
  ((bif (!v1) then
  some true
  else
  (i_Project_hasResource b0 b1).bind fun v4 =>
  some (!v4))) fun e2 =>
  (bif e2 then
  some 0
  else
  (idxL b0.Resources b1).bind fun v6 =>
  (i_TotalCapacity v6.Steps b2 b3).bind fun v7 =>
  some v7)
def w_eqIntS_L1 (b1 : List Int) : List Int → Int → Option (Unit ⊕ Bool)
  | [], z9 =>
    some (Sum.inl ())
  | x10 :: xs11, z9 =>
    (idxL b1 z9).bind fun v13 =>
    (bif (x10 != v13) then
    some (Sum.inr false)
    else
    w_eqIntS_L1 b1 xs11 (z9 + 1))
def w_eqIntS (b0 : List Int) (b1 : List Int) : Option Bool :=
  (bif ((b0.length : Int) != (b1.length : Int)) then
  some false
  else
  sumBind
  (w_eqIntS_L1 b1 b0 0)
  (fun q16 => some q16) fun p15 =>
  some true)
def w_eqMode (b0 : TMode) (b1 : TMode) : Option Bool :=
  (bif (b0.Duration != b1.Duration) then
  some false
  else
  (w_eqIntS b0.Usage b1.Usage).bind fun v2 =>
  (bif (!v2) then
  some false
  else
  (w_eqIntS b0.Consumption b1.Consumption).bind fun v4 =>
  (bif (!v4) then
  some false
  else
  some true)))
def w_eqModeS_L1 (b1 : List TMode) : List TMode → Int → Option (Unit ⊕ Bool)
  | [], z9 =>
    some (Sum.inl ())
  | x10 :: xs11, z9 =>
    (idxL b1 z9).bind fun v13 =>
    (w_eqMode x10 v13).bind fun v14 =>
    (bif (!v14) then
    some (Sum.inr false)
    else
    w_eqModeS_L1 b1 xs11 (z9 + 1))
def w_eqModeS (b0 : List TMode) (b1 : List TMode) : Option Bool :=
  (bif ((b0.length : Int) != (b1.length : Int)) then
  some false
  else
  sumBind
  (w_eqModeS_L1 b1 b0 0)
  (fun q17 => some q17) fun p16 =>
  some true)
def w_eqActivity (b0 : TActivity) (b1 : TActivity) : Option Bool :=
  (bif (b0.Name != b1.Name) then
  some false
  else
  (bif (b0.Family != b1.Family) then
  some false
  else
  (w_eqModeS b0.Modes b1.Modes).bind fun v3 =>
  (bif (!v3) then
  some false
  else
  some true)))
def w_eqActivityS_L1 (b1 : List TActivity) : List TActivity → Int → Option (Unit ⊕ Bool)
  | [], z9 =>
    some (Sum.inl ())
  | x10 :: xs11, z9 =>
    (idxL b1 z9).bind fun v13 =>
    (w_eqActivity x10 v13).bind fun v14 =>
    (bif (!v14) then
    some (Sum.inr false)
    else
    w_eqActivityS_L1 b1 xs11 (z9 + 1))
def w_eqActivityS (b0 : List TActivity) (b1 : List TActivity) : Option Bool :=
  (bif ((b0.length : Int) != (b1.length : Int)) then
  some false
  else
  sumBind
  (w_eqActivityS_L1 b1 b0 0)
  (fun q17 => some q17) fun p16 =>
  some true)
def w_eqLink (b0 : TLink) (b1 : TLink) : Option Bool :=
  (bif (b0.From != b1.From) then
  some false
  else
  (bif (b0.To != b1.To) then
  some false
  else
  (bif (b0.FromEnd != b1.FromEnd) then
  some false
  else
  (bif (b0.Lag != b1.Lag) then
  some false
  else
  some true))))
def w_eqLinkS_L1 (b1 : List TLink) : List TLink → Int → Option (Unit ⊕ Bool)
  | [], z9 =>
    some (Sum.inl ())
  | x10 :: xs11, z9 =>
    (idxL b1 z9).bind fun v13 =>
    (w_eqLink x10 v13).bind fun v14 =>
    (bif (!v14) then
    some (Sum.inr false)
    else
    w_eqLinkS_L1 b1 xs11 (z9 + 1))
def w_eqLinkS (b0 : List TLink) (b1 : List TLink) : Option Bool :=
  (bif ((b0.length : Int) != (b1.length : Int)) then
  some false
  else
  sumBind
  (w_eqLinkS_L1 b1 b0 0)
  (fun q17 => some q17) fun p16 =>
  some true)
def w_eqStep (b0 : TStep) (b1 : TStep) : Option Bool :=
  (bif (b0.At != b1.At) then
  some false
  else
  (bif (b0.Capacity != b1.Capacity) then
  some false
  else
  some true))
def w_eqStepS_L1 (b1 : List TStep) : List TStep → Int → Option (Unit ⊕ Bool)
  | [], z9 =>
    some (Sum.inl ())
  | x10 :: xs11, z9 =>
    (idxL b1 z9).bind fun v13 =>
    (w_eqStep x10 v13).bind fun v14 =>
    (bif (!v14) then
    some (Sum.inr false)
    else
    w_eqStepS_L1 b1 xs11 (z9 + 1))
def w_eqStepS (b0 : List TStep) (b1 : List TStep) : Option Bool :=
  (bif ((b0.length : Int) != (b1.length : Int)) then
  some false
  else
  sumBind
  (w_eqStepS_L1 b1 b0 0)
  (fun q17 => some q17) fun p16 =>
  some true)
def w_eqIntSS_L1 (b1 : List (List Int)) : List (List Int) → Int → Option (Unit ⊕ Bool)
  | [], z9 =>
    some (Sum.inl ())
  | x10 :: xs11, z9 =>
    (idxL b1 z9).bind fun v13 =>
    (w_eqIntS x10 v13).bind fun v14 =>
    (bif (!v14) then
    some (Sum.inr false)
    else
    w_eqIntSS_L1 b1 xs11 (z9 + 1))
def w_eqIntSS (b0 : List (List Int)) (b1 : List (List Int)) : Option Bool :=
  (bif ((b0.length : Int) != (b1.length : Int)) then
  some false
  else
  sumBind
  (w_eqIntSS_L1 b1 b0 0)
  (fun q17 => some q17) fun p16 =>
  some true)
def w_eqResource (b0 : TResource) (b1 : TResource) : Option Bool :=
  (w_eqStepS b0.Steps b1.Steps).bind fun v1 =>
  (bif (!v1) then
  some false
  else
  (w_eqIntSS b0.Setup b1.Setup).bind fun v3 =>
  (bif (!v3) then
  some false
  else
  some true))
def w_eqResourceS_L1 (b1 : List TResource) : List TResource → Int → Option (Unit ⊕ Bool)
  | [], z9 =>
    some (Sum.inl ())
  | x10 :: xs11, z9 =>
    (idxL b1 z9).bind fun v13 =>
    (w_eqResource x10 v13).bind fun v14 =>
    (bif (!v14) then
    some (Sum.inr false)
    else
    w_eqResourceS_L1 b1 xs11 (z9 + 1))
def w_eqResourceS (b0 : List TResource) (b1 : List TResource) : Option Bool :=
  (bif ((b0.length : Int) != (b1.length : Int)) then
  some false
  else
  sumBind
  (w_eqResourceS_L1 b1 b0 0)
  (fun q17 => some q17) fun p16 =>
  some true)
def w_eqProject (b0 : TProject) (b1 : TProject) : Option Bool :=
  (bif (b0.Deadline != b1.Deadline) then
  some false
  else
  (w_eqActivityS b0.Activities b1.Activities).bind fun v2 =>
  (bif (!v2) then
  some false
  else
  (w_eqLinkS b0.Links b1.Links).bind fun v4 =>
  (bif (!v4) then
  some false
  else
  (w_eqResourceS b0.Resources b1.Resources).bind fun v6 =>
  (bif (!v6) then
  some false
  else
  (w_eqIntS b0.Stocks b1.Stocks).bind fun v8 =>
  (bif (!v8) then
  some false
  else
  some true)))))
def w_FnExactCapacityIn (b0 : TProject) (b1 : Int) (b2 : Int) (b3 : Int) : Option Bool :=
  (w_szProject b0 1048576).bind fun v1 =>
  (bif (decide (v1 < 0)) then
  some true
  else
  (w_toProject b0).bind fun v3 =>
  (s_CapacityIn v3 b1 b2 b3).bind fun v4 =>
  (w_toProject b0).bind fun v5 =>
  (i_CapacityIn v5 b1 b2 b3).bind fun v6 =>
  (bif (v6 != v4) then
  some false
  else
  (w_toProject b0).bind fun v8 =>
  (w_eqProject v5 v8).bind fun v9 =>
  (bif (!v9) then
  some false
  else
  some true)))
def s_l02Min (b0 : Int) (b1 : Int) : Option Int :=
  (bif (decide (b0 < b1)) then
  some b0
  else
  some b1)
def s_l02Max (b0 : Int) (b1 : Int) : Option Int :=
  (bif (decide (b1 < b0)) then
  some b0
  else
  some b1)
def s_ClampedSum_L1  : List Int → Int → Int → Option Int
  | [], z8, a9 =>
    some a9
  | x10 :: xs11, z8, a9 =>
    (s_l02Min 100000 x10).bind fun v13 =>
    (s_l02Max (-100000) v13).bind fun v14 =>
    s_ClampedSum_L1 xs11 (z8 + 1) (W (a9 + v14))
def s_ClampedSum (b0 : List Int) : Option Int :=
  Option.bind
  (s_ClampedSum_L1 b0 0 0) fun p15 =>
  some p15
def s_ChooseMode_L1 (b2 : Bool) (v6 : TActivity) : List TMode → Int → Int → Option Int
  | [], z14, a15 =>
    some a15
  | x16 :: xs17, z14, a15 =>
    (idxL v6.Modes a15).bind fun v19 =>
    Option.bind
    ((bif b2 then
    (s_ClampedSum x16.Usage).bind fun v22 =>
    (s_ClampedSum x16.Consumption).bind fun v23 =>
    (s_ClampedSum v19.Usage).bind fun v24 =>
    (s_ClampedSum v19.Consumption).bind fun v25 =>
    (bif (decide ((W (v22 + v23)) < (W (v24 + v25)))) then
    some true
    else
    some false)
    else
    some (decide (x16.Duration < v19.Duration)))) fun e20 =>
    (bif e20 then
    s_ChooseMode_L1 b2 v6 xs17 (z14 + 1) z14
    else
    s_ChooseMode_L1 b2 v6 xs17 (z14 + 1) a15)
def s_ChooseMode (b0 : TProject) (b1 : Int) (b2 : Bool) : Option Int :=
  (s_ProjectOk b0).bind fun v1 =>
  Option.bind
  ((bif (!v1) then
  some true
  else
  (s_l01In b1 0 (W ((b0.Activities.length : Int) - 1))).bind fun v4 =>
  some (!v4))) fun e2 =>
  (bif e2 then
  some 0
  else
  (idxL b0.Activities b1).bind fun v6 =>
  Option.bind
  (s_ChooseMode_L1 b2 v6 v6.Modes 0 0) fun p28 =>
  some p28)
def i_ClampedSum_L1  : List Int → Int → Int → Option Int
  | [], z8, a9 =>
    some a9
  | x10 :: xs11, z8, a9 =>
    i_ClampedSum_L1 xs11 (z8 + 1) (W (a9 + (min (max x10 (-100000)) 100000)))
def i_ClampedSum (b0 : List Int) : Option Int :=
  Option.bind
  (i_ClampedSum_L1 b0 0 0) fun p13 =>
  some p13
def i_ChooseMode_L1 (b2 : Bool) : List TMode → Int → Int → Int → Option Int
  | [], z14, a15, a16 =>
    some a15
  | x17 :: xs18, z14, a15, a16 =>
    Option.bind
    ((bif b2 then
    (i_ClampedSum x17.Usage).bind fun v25 =>
    (i_ClampedSum x17.Consumption).bind fun v26 =>
    some (W (v25 + v26))
    else
    some x17.Duration)) fun p27 =>
    Option.bind
    ((bif (z14 == 0) then
    some true
    else
    some (decide (p27 < a16)))) fun e28 =>
    (bif e28 then
    i_ChooseMode_L1 b2 xs18 (z14 + 1) z14 p27
    else
    i_ChooseMode_L1 b2 xs18 (z14 + 1) a15 a16)
def i_ChooseMode (b0 : TProject) (b1 : Int) (b2 : Bool) : Option Int :=
  (i_ProjectOk b0).bind fun v1 =>
  Option.bind
  ((bif (!v1) then
  some true
  else
  (i_Project_hasActivity b0 b1).bind fun v4 =>
  some (!v4))) fun e2 =>
  (bif e2 then
  some 0
  else
  (idxL b0.Activities b1).bind fun v6 =>
  Option.bind
  (i_ChooseMode_L1 b2 v6.Modes 0 0 0) fun p31 =>
  some p31)
def w_FnExactChooseMode (b0 : TProject) (b1 : Int) (b2 : Bool) : Option Bool :=
  (w_szProject b0 1048576).bind fun v1 =>
  (bif (decide (v1 < 0)) then
  some true
  else
  (w_toProject b0).bind fun v3 =>
  (s_ChooseMode v3 b1 b2).bind fun v4 =>
  (w_toProject b0).bind fun v5 =>
  (i_ChooseMode v5 b1 b2).bind fun v6 =>
  (bif (v6 != v4) then
  some false
  else
  (w_toProject b0).bind fun v8 =>
  (w_eqProject v5 v8).bind fun v9 =>
  (bif (!v9) then
  some false
  else
  some true)))
def w_szLiteralS (b0 : List TLiteral) (b1 : Int) : Option Int :=
  (bif (decide ((W (b1 - (b0.length : Int))) < 0)) then
  some (-1)
  else
  some (W (b1 - (b0.length : Int))))
def w_toLiteral (b0 : TLiteral) : Option TLiteral :=
  some b0
def w_toLiteralS_L1  : List TLiteral → Int → (List TLiteral) → Option (List TLiteral)
  | [], z9, a10 =>
    some a10
  | x11 :: xs12, z9, a10 =>
    (w_toLiteral x11).bind fun v14 =>
    (idxL a10 z9).bind fun v15 =>
    w_toLiteralS_L1 xs12 (z9 + 1) (setL a10 z9 v14)
def w_toLiteralS (b0 : List TLiteral) : Option (List TLiteral) :=
  (makeL (TLiteral.mk 0 0 0) (b0.length : Int)).bind fun v1 =>
  Option.bind
  (w_toLiteralS_L1 b0 0 v1) fun p16 =>
  some p16
def s_LiteralOk (b0 : TProject) (b1 : TLiteral) : Option Bool :=
  (s_ProjectOk b0).bind fun v1 =>
  Option.bind
  ((bif (!v1) then
  some true
  else
  (s_l01In b1.Activity 0 (W ((b0.Activities.length : Int) - 1))).bind fun v4 =>
  some (!v4))) fun e2 =>
  (bif e2 then
  some false
  else
  Option.bind
  ((bif (b1.Kind == 1) then
  some (b1.Kind == 1)
  else
  some (b1.Kind == 2))) fun p11 =>
  (bif p11 then
  (s_l01In b1.Value (-1) 61).bind fun v13 =>
  some v13
  else
  Option.bind
  ((bif (b1.Kind == 3) then
  some (b1.Kind == 3)
  else
  some (b1.Kind == 4))) fun p19 =>
  (bif p19 then
  (idxL b0.Activities b1.Activity).bind fun v21 =>
  (s_l01In b1.Value 0 (W ((v21.Modes.length : Int) - 1))).bind fun v22 =>
  some v22
  else
  some false)))
def s_l11Sign (b0 : Int) (b1 : Int) : Option Int :=
  (bif (decide (b0 < b1)) then
  some (-1)
  else
  (bif (decide (b1 < b0)) then
  some 1
  else
  some 0))
def s_CompareLiterals (b0 : TLiteral) (b1 : TLiteral) : Option Int :=
  (bif (b0.Activity != b1.Activity) then
  (s_l11Sign b0.Activity b1.Activity).bind fun v2 =>
  some v2
  else
  (bif (b0.Kind != b1.Kind) then
  (s_l11Sign b0.Kind b1.Kind).bind fun v4 =>
  some v4
  else
  (s_l11Sign b0.Value b1.Value).bind fun v5 =>
  some v5))
def s_ClauseOk_L1 (b0 : TProject) (b1 : List TLiteral) : List TLiteral → Int → Option (Unit ⊕ Bool)
  | [], z8 =>
    some (Sum.inl ())
  | x9 :: xs10, z8 =>
    (s_LiteralOk b0 x9).bind fun v12 =>
    Option.bind
    ((bif (!v12) then
    some true
    else
    (bif (decide (0 < z8)) then
    (idxL b1 (z8 - 1)).bind fun v16 =>
    (s_CompareLiterals v16 x9).bind fun v17 =>
    some (decide (0 ≤ v17))
    else
    some false))) fun e13 =>
    (bif e13 then
    some (Sum.inr false)
    else
    s_ClauseOk_L1 b0 b1 xs10 (z8 + 1))
def s_ClauseOk (b0 : TProject) (b1 : List TLiteral) : Option Bool :=
  sumBind
  (s_ClauseOk_L1 b0 b1 b1 0)
  (fun q20 => some q20) fun p19 =>
  some (decide ((b1.length : Int) ≤ 24))
def i_LiteralOk (b0 : TProject) (b1 : TLiteral) : Option Bool :=
  (i_ProjectOk b0).bind fun v1 =>
  Option.bind
  ((bif (!v1) then
  some true
  else
  (i_Project_hasActivity b0 b1.Activity).bind fun v4 =>
  some (!v4))) fun e2 =>
  (bif e2 then
  some false
  else
  Option.bind
  ((bif (b1.Kind == 1) then
  some (b1.Kind == 1)
  else
  some (b1.Kind == 2))) fun p11 =>
  (bif p11 then
  (i_within b1.Value (-1) 61).bind fun v13 =>
  some v13
  else
  Option.bind
  ((bif (b1.Kind == 3) then
  some (b1.Kind == 3)
  else
  some (b1.Kind == 4))) fun p19 =>
  (bif p19 then
  (idxL b0.Activities b1.Activity).bind fun v21 =>
  (i_within b1.Value 0 (W ((v21.Modes.length : Int) - 1))).bind fun v22 =>
  some v22
  else
  some false)))
def cmp_isNaN_int (b0 : Int) : Option Bool :=
  some (b0 != b0)
def cmp_Compare_int (b0 : Int) (b1 : Int) : Option Int :=
  (cmp_isNaN_int b0).bind fun v1 =>
  (cmp_isNaN_int b1).bind fun v2 =>
  (bif v1 then
  (bif v2 then
  some 0
  else
  some (-1))
  else
  (bif v2 then
  some 1
  else
  (bif (decide (b0 < b1)) then
  some (-1)
  else
  (bif (decide (b1 < b0)) then
  some 1
  else
  some 0))))
def cmp_Or_int_L1  : List Int → Int → Option (Unit ⊕ Int)
  | [], z8 =>
    some (Sum.inl ())
  | x9 :: xs10, z8 =>
    (bif (x9 != 0) then
    some (Sum.inr x9)
    else
    cmp_Or_int_L1 xs10 (z8 + 1))
def cmp_Or_int (b0 : List Int) : Option Int :=
  sumBind
  (cmp_Or_int_L1 b0 0)
  (fun q14 => some q14) fun p13 =>
  some 0
def i_CompareLiterals (b0 : TLiteral) (b1 : TLiteral) : Option Int :=
  (cmp_Compare_int b0.Activity b1.Activity).bind fun v1 =>
  (cmp_Compare_int b0.Kind b1.Kind).bind fun v2 =>
  (cmp_Compare_int b0.Value b1.Value).bind fun v3 =>
  (cmp_Or_int ([v1, v2, v3] : List Int)).bind fun v4 =>
  some v4
def i_ClauseOk_L1 (b0 : TProject) (b1 : List TLiteral) : List TLiteral → Int → Option (Unit ⊕ Bool)
  | [], z8 =>
    some (Sum.inl ())
  | x9 :: xs10, z8 =>
    (i_LiteralOk b0 x9).bind fun v12 =>
    Option.bind
    ((bif (!v12) then
    some true
    else
    (bif (decide (0 < z8)) then
    (idxL b1 (z8 - 1)).bind fun v16 =>
    (i_CompareLiterals v16 x9).bind fun v17 =>
    some (decide (0 ≤ v17))
    else
    some false))) fun e13 =>
    (bif e13 then
    some (Sum.inr false)
    else
    i_ClauseOk_L1 b0 b1 xs10 (z8 + 1))
def i_ClauseOk (b0 : TProject) (b1 : List TLiteral) : Option Bool :=
  sumBind
  (i_ClauseOk_L1 b0 b1 b1 0)
  (fun q20 => some q20) fun p19 =>
  some (decide ((b1.length : Int) ≤ 24))
def w_eqLiteral (b0 : TLiteral) (b1 : TLiteral) : Option Bool :=
  (bif (b0.Kind != b1.Kind) then
  some false
  else
  (bif (b0.Activity != b1.Activity) then
  some false
  else
  (bif (b0.Value != b1.Value) then
  some false
  else
  some true)))
def w_eqLiteralS_L1 (b1 : List TLiteral) : List TLiteral → Int → Option (Unit ⊕ Bool)
  | [], z9 =>
    some (Sum.inl ())
  | x10 :: xs11, z9 =>
    (idxL b1 z9).bind fun v13 =>
    (w_eqLiteral x10 v13).bind fun v14 =>
    (bif (!v14) then
    some (Sum.inr false)
    else
    w_eqLiteralS_L1 b1 xs11 (z9 + 1))
def w_eqLiteralS (b0 : List TLiteral) (b1 : List TLiteral) : Option Bool :=
  (bif ((b0.length : Int) != (b1.length : Int)) then
  some false
  else
  sumBind
  (w_eqLiteralS_L1 b1 b0 0)
  (fun q17 => some q17) fun p16 =>
  some true)
def w_FnExactClauseOk (b0 : TProject) (b1 : List TLiteral) : Option Bool :=
  (w_szProject b0 1048576).bind fun v1 =>
  (bif (decide (v1 < 0)) then
  some true
  else
  (w_szLiteralS b1 v1).bind fun v3 =>
  (bif (decide (v3 < 0)) then
  some true
  else
  (w_toProject b0).bind fun v5 =>
  (w_toLiteralS b1).bind fun v6 =>
  (s_ClauseOk v5 v6).bind fun v7 =>
  (w_toProject b0).bind fun v8 =>
  (w_toLiteralS b1).bind fun v9 =>
  (i_ClauseOk v8 v9).bind fun v10 =>
  (bif (v10 != v7) then
  some false
  else
  (w_toProject b0).bind fun v12 =>
  (w_eqProject v8 v12).bind fun v13 =>
  (bif (!v13) then
  some false
  else
  (w_toLiteralS b1).bind fun v15 =>
  (w_eqLiteralS v9 v15).bind fun v16 =>
  (bif (!v16) then
  some false
  else
  some true)))))
def w_szSchedule (b0 : TSchedule) (b1 : Int) : Option Int :=
  (w_szIntS b0.Starts b1).bind fun v1 =>
  (bif (decide (v1 < 0)) then
  some (-1)
  else
  (w_szIntS b0.Modes v1).bind fun v3 =>
  (bif (decide (v3 < 0)) then
  some (-1)
  else
  some v3))
def w_szPlan (b0 : TPlan) (b1 : Int) : Option Int :=
  (w_szSchedule b0.Schedule b1).bind fun v1 =>
  (bif (decide (v1 < 0)) then
  some (-1)
  else
  (w_szIntS b0.Done v1).bind fun v3 =>
  (bif (decide (v3 < 0)) then
  some (-1)
  else
  some v3))
def w_toSchedule (b0 : TSchedule) : Option TSchedule :=
  (w_toIntS b0.Starts).bind fun v1 =>
  (w_toIntS b0.Modes).bind fun v2 =>
  some (TSchedule.mk v1 v2)
def w_toPlan (b0 : TPlan) : Option TPlan :=
  (w_toSchedule b0.Schedule).bind fun v1 =>
  (w_toIntS b0.Done).bind fun v2 =>
  some (TPlan.mk v1 v2)
def s_ScheduleForm_L1 (b1 : TSchedule) : List TActivity → Int → Option (Unit ⊕ Bool)
  | [], z13 =>
    some (Sum.inl ())
  | x14 :: xs15, z13 =>
    (idxL b1.Starts z13).bind fun v17 =>
    (s_l01In v17 0 60).bind fun v18 =>
    Option.bind
    ((bif (!v18) then
    some true
    else
    (idxL b1.Modes z13).bind fun v21 =>
    (s_l01In v21 0 (W ((x14.Modes.length : Int) - 1))).bind fun v22 =>
    some (!v22))) fun e19 =>
    (bif e19 then
    some (Sum.inr false)
    else
    s_ScheduleForm_L1 b1 xs15 (z13 + 1))
def s_ScheduleForm (b0 : TProject) (b1 : TSchedule) : Option Bool :=
  (s_ProjectOk b0).bind fun v1 =>
  Option.bind
  ((bif (!v1) then
  some true
  else
  (bif ((b1.Starts.length : Int) != (b0.Activities.length : Int)) then
  some true
  else
  some ((b1.Modes.length : Int) != (b0.Activities.length : Int))))) fun e2 =>
  (bif e2 then
  some false
  else
  sumBind
  (s_ScheduleForm_L1 b1 b0.Activities 0)
  (fun q25 => some q25) fun p24 =>
  some true)
def s_SetOk_L1 (b0 : List Int) : List Int → Int → Option (Unit ⊕ Bool)
  | [], z8 =>
    some (Sum.inl ())
  | x9 :: xs10, z8 =>
    Option.bind
    ((bif (decide (0 < z8)) then
    (idxL b0 (z8 - 1)).bind fun v14 =>
    some (decide (x9 ≤ v14))
    else
    some false)) fun e12 =>
    (bif e12 then
    some (Sum.inr false)
    else
    s_SetOk_L1 b0 xs10 (z8 + 1))
def s_SetOk (b0 : List Int) : Option Bool :=
  sumBind
  (s_SetOk_L1 b0 b0 0)
  (fun q17 => some q17) fun p16 =>
  some true
def s_IntRange_L1 (b0 : Int) : Nat → Int → (List Int) → Option (List Int)
  | 0, _, _ => none
  | fuel + 1, a9, a10 =>
    (bif (decide (a9 < b0)) then
    (appL a10 ([a9] : List Int)).bind fun v14 =>
    s_IntRange_L1 b0 fuel (W (a9 + 1)) v14
    else
    some a10)
def s_IntRange (b0 : Int) : Option (List Int) :=
  (s_l01In b0 0 200).bind fun v1 =>
  (bif (!v1) then
  some ([] : List Int)
  else
  Option.bind
  (s_IntRange_L1 b0 F0 0 ([] : List Int)) fun p15 =>
  some p15)
def s_SetHas_L1 (b1 : Int) : List Int → Int → Option (Unit ⊕ Bool)
  | [], z8 =>
    some (Sum.inl ())
  | x9 :: xs10, z8 =>
    (bif (x9 == b1) then
    some (Sum.inr true)
    else
    s_SetHas_L1 b1 xs10 (z8 + 1))
def s_SetHas (b0 : List Int) (b1 : Int) : Option Bool :=
  sumBind
  (s_SetHas_L1 b1 b0 0)
  (fun q14 => some q14) fun p13 =>
  some false
def s_SetSubset_L1 (b1 : List Int) : List Int → Int → Option (Unit ⊕ Bool)
  | [], z8 =>
    some (Sum.inl ())
  | x9 :: xs10, z8 =>
    (s_SetHas b1 x9).bind fun v12 =>
    (bif (!v12) then
    some (Sum.inr false)
    else
    s_SetSubset_L1 b1 xs10 (z8 + 1))
def s_SetSubset (b0 : List Int) (b1 : List Int) : Option Bool :=
  sumBind
  (s_SetSubset_L1 b1 b0 0)
  (fun q15 => some q15) fun p14 =>
  some true
def s_PlanOk (b0 : TProject) (b1 : TPlan) : Option Bool :=
  (s_ScheduleForm b0 b1.Schedule).bind fun v1 =>
  Option.bind
  ((bif v1 then
  (s_SetOk b1.Done).bind fun v4 =>
  (bif v4 then
  (s_IntRange (b0.Activities.length : Int)).bind fun v6 =>
  (s_SetSubset b1.Done v6).bind fun v7 =>
  some v7
  else
  some false)
  else
  some false)) fun e2 =>
  some e2
def i_ScheduleForm_L1 (b1 : TSchedule) : List TActivity → Int → Option (Unit ⊕ Bool)
  | [], z13 =>
    some (Sum.inl ())
  | x14 :: xs15, z13 =>
    (idxL b1.Starts z13).bind fun v17 =>
    (i_isTime v17).bind fun v18 =>
    Option.bind
    ((bif (!v18) then
    some true
    else
    (idxL b1.Modes z13).bind fun v21 =>
    (i_within v21 0 (W ((x14.Modes.length : Int) - 1))).bind fun v22 =>
    some (!v22))) fun e19 =>
    (bif e19 then
    some (Sum.inr false)
    else
    i_ScheduleForm_L1 b1 xs15 (z13 + 1))
def i_ScheduleForm (b0 : TProject) (b1 : TSchedule) : Option Bool :=
  (i_ProjectOk b0).bind fun v1 =>
  Option.bind
  ((bif (!v1) then
  some true
  else
  (bif ((b1.Starts.length : Int) != (b0.Activities.length : Int)) then
  some true
  else
  some ((b1.Modes.length : Int) != (b0.Activities.length : Int))))) fun e2 =>
  (bif e2 then
  some false
  else
  sumBind
  (i_ScheduleForm_L1 b1 b0.Activities 0)
  (fun q25 => some q25) fun p24 =>
  some true)
def i_SetOk_L1 (b0 : List Int) : Nat → Int → Option (Unit ⊕ Bool)
  | 0, _ => none
  | fuel + 1, a6 =>
    (bif (decide (a6 < (b0.length : Int))) then
    (idxL b0 a6).bind fun v10 =>
    (idxL b0 (W (a6 - 1))).bind fun v11 =>
    (bif (decide (v10 ≤ v11)) then
    some (Sum.inr false)
    else
    i_SetOk_L1 b0 fuel (W (a6 + 1)))
    else
    some (Sum.inl ()))
def i_SetOk (b0 : List Int) : Option Bool :=
  sumBind
  (i_SetOk_L1 b0 F0 1)
  (fun q14 => some q14) fun p13 =>
  some true
def i_IntRange_L1 (b0 : Int) : Nat → Int → (List Int) → Option (List Int)
  | 0, _, _ => none
  | fuel + 1, a9, a10 =>
    (bif (decide (a9 < b0)) then
    (appL a10 ([a9] : List Int)).bind fun v14 =>
    i_IntRange_L1 b0 fuel (W (a9 + 1)) v14
    else
    some a10)
def i_IntRange (b0 : Int) : Option (List Int) :=
  (i_within b0 0 200).bind fun v1 =>
  (bif (!v1) then
  some ([] : List Int)
  else
  Option.bind
  (i_IntRange_L1 b0 F0 0 ([] : List Int)) fun p15 =>
  some p15)
def slices_Index_int_L1 (b1 : Int) : List Int → Int → Option (Unit ⊕ Int)
  | [], z8 =>
    some (Sum.inl ())
  | x9 :: xs10, z8 =>
    (bif (b1 == x9) then
    some (Sum.inr z8)
    else
    slices_Index_int_L1 b1 xs10 (z8 + 1))
def slices_Index_int (b0 : List Int) (b1 : Int) : Option Int :=
  sumBind
  (slices_Index_int_L1 b1 b0 0)
  (fun q14 => some q14) fun p13 =>
  some (-1)
def slices_Contains_int (b0 : List Int) (b1 : Int) : Option Bool :=
  (slices_Index_int b0 b1).bind fun v1 =>
  some (decide (0 ≤ v1))
def i_SetHas (b0 : List Int) (b1 : Int) : Option Bool :=
  (slices_Contains_int b0 b1).bind fun v1 =>
  some v1
def i_SetSubset_L1 (b1 : List Int) : List Int → Int → Option (Unit ⊕ Bool)
  | [], z8 =>
    some (Sum.inl ())
  | x9 :: xs10, z8 =>
    (i_SetHas b1 x9).bind fun v12 =>
    (bif (!v12) then
    some (Sum.inr false)
    else
    i_SetSubset_L1 b1 xs10 (z8 + 1))
def i_SetSubset (b0 : List Int) (b1 : List Int) : Option Bool :=
  sumBind
  (i_SetSubset_L1 b1 b0 0)
  (fun q15 => some q15) fun p14 =>
  some true
def i_PlanOk (b0 : TProject) (b1 : TPlan) : Option Bool :=
  (i_ScheduleForm b0 b1.Schedule).bind fun v1 =>
  Option.bind
  ((bif v1 then
  (i_SetOk b1.Done).bind fun v4 =>
  (bif v4 then
  (i_IntRange (b0.Activities.length : Int)).bind fun v6 =>
  (i_SetSubset b1.Done v6).bind fun v7 =>
  some v7
  else
  some false)
  else
  some false)) fun e2 =>
  some e2
def w_eqSchedule (b0 : TSchedule) (b1 : TSchedule) : Option Bool :=
  (w_eqIntS b0.Starts b1.Starts).bind fun v1 =>
  (bif (!v1) then
  some false
  else
  (w_eqIntS b0.Modes b1.Modes).bind fun v3 =>
  (bif (!v3) then
  some false
  else
  some true))
def w_eqPlan (b0 : TPlan) (b1 : TPlan) : Option Bool :=
  (w_eqSchedule b0.Schedule b1.Schedule).bind fun v1 =>
  (bif (!v1) then
  some false
  else
  (w_eqIntS b0.Done b1.Done).bind fun v3 =>
  (bif (!v3) then
  some false
  else
  some true))
def w_FnExactPlanOk (b0 : TProject) (b1 : TPlan) : Option Bool :=
  (w_szProject b0 1048576).bind fun v1 =>
  (bif (decide (v1 < 0)) then
  some true
  else
  (w_szPlan b1 v1).bind fun v3 =>
  (bif (decide (v3 < 0)) then
  some true
  else
  (w_toProject b0).bind fun v5 =>
  (w_toPlan b1).bind fun v6 =>
  (s_PlanOk v5 v6).bind fun v7 =>
  (w_toProject b0).bind fun v8 =>
  (w_toPlan b1).bind fun v9 =>
  (i_PlanOk v8 v9).bind fun v10 =>
  (bif (v10 != v7) then
  some false
  else
  (w_toProject b0).bind fun v12 =>
  (w_eqProject v8 v12).bind fun v13 =>
  (bif (!v13) then
  some false
  else
  (w_toPlan b1).bind fun v15 =>
  (w_eqPlan v9 v15).bind fun v16 =>
  (bif (!v16) then
  some false
  else
  some true)))))
def s_NewPlan (b0 : TProject) : Option TPlan :=
  (s_ProjectOk b0).bind fun v1 =>
  (bif (!v1) then
  some (TPlan.mk (TSchedule.mk ([] : List Int) ([] : List Int)) ([] : List Int))
  else
  (makeL 0 (b0.Activities.length : Int)).bind fun v3 =>
  (makeL 0 (b0.Activities.length : Int)).bind fun v4 =>
  some (TPlan.mk (TSchedule.mk v3 v4) ([] : List Int)))
def i_NewPlan_L1  : List TActivity → Int → (List Int) → (List Int) → Option ((List Int) × (List Int))
  | [], z10, a11, a12 =>
    some (a11, a12)
  | x13 :: xs14, z10, a11, a12 =>
    (appL a11 ([0] : List Int)).bind fun v16 =>
    (appL a12 ([0] : List Int)).bind fun v17 =>
    i_NewPlan_L1 xs14 (z10 + 1) v16 v17
def i_NewPlan (b0 : TProject) : Option TPlan :=
  (i_ProjectOk b0).bind fun v1 =>
  (bif (!v1) then
  some (TPlan.mk (TSchedule.mk ([] : List Int) ([] : List Int)) ([] : List Int))
  else
  Option.bind
  (i_NewPlan_L1 b0.Activities 0 ([] : List Int) ([] : List Int)) fun p18 =>
  some (TPlan.mk (TSchedule.mk p18.1 p18.2) ([] : List Int)))
def w_szDomain (b0 : TDomain) (b1 : Int) : Option Int :=
  (w_szIntS b0.MinStart b1).bind fun v1 =>
  (bif (decide (v1 < 0)) then
  some (-1)
  else
  (w_szIntS b0.MaxStart v1).bind fun v3 =>
  (bif (decide (v3 < 0)) then
  some (-1)
  else
  (w_szIntSS b0.Modes v3).bind fun v5 =>
  (bif (decide (v5 < 0)) then
  some (-1)
  else
  some v5)))
def w_szLine (b0 : TLine) (b1 : Int) : Option Int :=
  (w_szLiteralS b0.Clause b1).bind fun v1 =>
  (bif (decide (v1 < 0)) then
  some (-1)
  else
  some v1)
def w_szLineS_L1  : List TLine → Int → Int → Option (Int ⊕ Int)
  | [], z9, a10 =>
    some (Sum.inl a10)
  | x11 :: xs12, z9, a10 =>
    (w_szLine x11 a10).bind fun v14 =>
    (bif (decide (v14 < 0)) then
    some (Sum.inr (-1))
    else
    w_szLineS_L1 xs12 (z9 + 1) v14)
def w_szLineS (b0 : List TLine) (b1 : Int) : Option Int :=
  (bif (decide ((W (b1 - (b0.length : Int))) < 0)) then
  some (-1)
  else
  sumBind
  (w_szLineS_L1 b0 0 (W (b1 - (b0.length : Int))))
  (fun q17 => some q17) fun p16 =>
  some p16)
def w_szLog (b0 : TLog) (b1 : Int) : Option Int :=
  (w_szProject b0.Project b1).bind fun v1 =>
  (bif (decide (v1 < 0)) then
  some (-1)
  else
  (w_szDomain b0.Domain v1).bind fun v3 =>
  (bif (decide (v3 < 0)) then
  some (-1)
  else
  (w_szLiteralS b0.Decisions v3).bind fun v5 =>
  (bif (decide (v5 < 0)) then
  some (-1)
  else
  (w_szLineS b0.Lines v5).bind fun v7 =>
  (bif (decide (v7 < 0)) then
  some (-1)
  else
  some v7))))
def w_toDomain (b0 : TDomain) : Option TDomain :=
  (w_toIntS b0.MinStart).bind fun v1 =>
  (w_toIntS b0.MaxStart).bind fun v2 =>
  (w_toIntSS b0.Modes).bind fun v3 =>
  some (TDomain.mk v1 v2 v3)
def w_toRule (b0 : TRule) : Option TRule :=
  some b0
def w_toLine (b0 : TLine) : Option TLine :=
  (w_toRule b0.Rule).bind fun v1 =>
  (w_toLiteralS b0.Clause).bind fun v2 =>
  some (TLine.mk b0.Kind v1 v2)
def w_toLineS_L1  : List TLine → Int → (List TLine) → Option (List TLine)
  | [], z9, a10 =>
    some a10
  | x11 :: xs12, z9, a10 =>
    (w_toLine x11).bind fun v14 =>
    (idxL a10 z9).bind fun v15 =>
    w_toLineS_L1 xs12 (z9 + 1) (setL a10 z9 v14)
def w_toLineS (b0 : List TLine) : Option (List TLine) :=
  (makeL (TLine.mk 0 (TRule.mk 0 0 0 0) []) (b0.length : Int)).bind fun v1 =>
  Option.bind
  (w_toLineS_L1 b0 0 v1) fun p16 =>
  some p16
def w_toLog (b0 : TLog) : Option TLog :=
  (w_toProject b0.Project).bind fun v1 =>
  (w_toDomain b0.Domain).bind fun v2 =>
  (w_toLiteralS b0.Decisions).bind fun v3 =>
  (w_toLineS b0.Lines).bind fun v4 =>
  some (TLog.mk v1 v2 v3 v4)
def s_SetEqual_L1 (b1 : List Int) : List Int → Int → Option (Unit ⊕ Bool)
  | [], z9 =>
    some (Sum.inl ())
  | x10 :: xs11, z9 =>
    (idxL b1 z9).bind fun v13 =>
    (bif (x10 != v13) then
    some (Sum.inr false)
    else
    s_SetEqual_L1 b1 xs11 (z9 + 1))
def s_SetEqual (b0 : List Int) (b1 : List Int) : Option Bool :=
  (bif ((b0.length : Int) != (b1.length : Int)) then
  some false
  else
  sumBind
  (s_SetEqual_L1 b1 b0 0)
  (fun q16 => some q16) fun p15 =>
  some true)
def s_ActivityEqual_L1 (b1 : TActivity) : List TMode → Int → Option (Unit ⊕ Bool)
  | [], z12 =>
    some (Sum.inl ())
  | x13 :: xs14, z12 =>
    (idxL b1.Modes z12).bind fun v16 =>
    Option.bind
    ((bif (x13.Duration != v16.Duration) then
    some true
    else
    (s_SetEqual x13.Usage v16.Usage).bind fun v19 =>
    (bif (!v19) then
    some true
    else
    (s_SetEqual x13.Consumption v16.Consumption).bind fun v21 =>
    some (!v21)))) fun e17 =>
    (bif e17 then
    some (Sum.inr false)
    else
    s_ActivityEqual_L1 b1 xs14 (z12 + 1))
def s_ActivityEqual (b0 : TActivity) (b1 : TActivity) : Option Bool :=
  Option.bind
  ((bif (b0.Name != b1.Name) then
  some true
  else
  (bif (b0.Family != b1.Family) then
  some true
  else
  some ((b0.Modes.length : Int) != (b1.Modes.length : Int))))) fun e1 =>
  (bif e1 then
  some false
  else
  sumBind
  (s_ActivityEqual_L1 b1 b0.Modes 0)
  (fun q24 => some q24) fun p23 =>
  some true)
def s_StepsEqual_L1 (b1 : List TStep) : List TStep → Int → Option (Unit ⊕ Bool)
  | [], z9 =>
    some (Sum.inl ())
  | x10 :: xs11, z9 =>
    (idxL b1 z9).bind fun v13 =>
    (bif (!(x10.At == v13.At && (x10.Capacity == v13.Capacity && true))) then
    some (Sum.inr false)
    else
    s_StepsEqual_L1 b1 xs11 (z9 + 1))
def s_StepsEqual (b0 : List TStep) (b1 : List TStep) : Option Bool :=
  (bif ((b0.length : Int) != (b1.length : Int)) then
  some false
  else
  sumBind
  (s_StepsEqual_L1 b1 b0 0)
  (fun q16 => some q16) fun p15 =>
  some true)
def s_ProjectEqual_L1 (b1 : TProject) : List TActivity → Int → Option (Unit ⊕ Bool)
  | [], z15 =>
    some (Sum.inl ())
  | x16 :: xs17, z15 =>
    (idxL b1.Activities z15).bind fun v19 =>
    (s_ActivityEqual x16 v19).bind fun v20 =>
    (bif (!v20) then
    some (Sum.inr false)
    else
    s_ProjectEqual_L1 b1 xs17 (z15 + 1))
def s_ProjectEqual_L2 (b1 : TProject) : List TLink → Int → Option (Unit ⊕ Bool)
  | [], z31 =>
    some (Sum.inl ())
  | x32 :: xs33, z31 =>
    (idxL b1.Links z31).bind fun v35 =>
    (bif (!(x32.From == v35.From && (x32.To == v35.To && (x32.FromEnd == v35.FromEnd && (x32.Lag == v35.Lag && true))))) then
    some (Sum.inr false)
    else
    s_ProjectEqual_L2 b1 xs33 (z31 + 1))
def s_ProjectEqual_L4 (v50 : TResource) : List (List Int) → Int → Option (Unit ⊕ Bool)
  | [], z62 =>
    some (Sum.inl ())
  | x63 :: xs64, z62 =>
    (idxL v50.Setup z62).bind fun v66 =>
    (s_SetEqual x63 v66).bind fun v67 =>
    (bif (!v67) then
    some (Sum.inr false)
    else
    s_ProjectEqual_L4 v50 xs64 (z62 + 1))
def s_ProjectEqual_L3 (b1 : TProject) : List TResource → Int → Option (Unit ⊕ Bool)
  | [], z46 =>
    some (Sum.inl ())
  | x47 :: xs48, z46 =>
    (idxL b1.Resources z46).bind fun v50 =>
    (s_StepsEqual x47.Steps v50.Steps).bind fun v51 =>
    Option.bind
    ((bif (!v51) then
    some true
    else
    some ((x47.Setup.length : Int) != (v50.Setup.length : Int)))) fun e52 =>
    (bif e52 then
    some (Sum.inr false)
    else
    sumBind
    (s_ProjectEqual_L4 v50 x47.Setup 0)
    (fun q70 => some (Sum.inr q70)) fun p69 =>
    s_ProjectEqual_L3 b1 xs48 (z46 + 1))
def s_ProjectEqual (b0 : TProject) (b1 : TProject) : Option Bool :=
  Option.bind
  ((bif (b0.Deadline != b1.Deadline) then
  some true
  else
  (bif ((b0.Activities.length : Int) != (b1.Activities.length : Int)) then
  some true
  else
  (bif ((b0.Links.length : Int) != (b1.Links.length : Int)) then
  some true
  else
  (bif ((b0.Resources.length : Int) != (b1.Resources.length : Int)) then
  some true
  else
  (s_SetEqual b0.Stocks b1.Stocks).bind fun v6 =>
  some (!v6)))))) fun e1 =>
  (bif e1 then
  some false
  else
  sumBind
  (s_ProjectEqual_L1 b1 b0.Activities 0)
  (fun q23 => some q23) fun p22 =>
  sumBind
  (s_ProjectEqual_L2 b1 b0.Links 0)
  (fun q38 => some q38) fun p37 =>
  sumBind
  (s_ProjectEqual_L3 b1 b0.Resources 0)
  (fun q72 => some q72) fun p71 =>
  some true)
def s_DomainEqual_L1 (b1 : TDomain) : List (List Int) → Int → Option (Unit ⊕ Bool)
  | [], z14 =>
    some (Sum.inl ())
  | x15 :: xs16, z14 =>
    (idxL b1.Modes z14).bind fun v18 =>
    (s_SetEqual x15 v18).bind fun v19 =>
    (bif (!v19) then
    some (Sum.inr false)
    else
    s_DomainEqual_L1 b1 xs16 (z14 + 1))
def s_DomainEqual (b0 : TDomain) (b1 : TDomain) : Option Bool :=
  (s_SetEqual b0.MinStart b1.MinStart).bind fun v1 =>
  Option.bind
  ((bif (!v1) then
  some true
  else
  (s_SetEqual b0.MaxStart b1.MaxStart).bind fun v4 =>
  (bif (!v4) then
  some true
  else
  some ((b0.Modes.length : Int) != (b1.Modes.length : Int))))) fun e2 =>
  (bif e2 then
  some false
  else
  sumBind
  (s_DomainEqual_L1 b1 b0.Modes 0)
  (fun q22 => some q22) fun p21 =>
  some true)
def s_ClauseEqual_L1 (b1 : List TLiteral) : List TLiteral → Int → Option (Unit ⊕ Bool)
  | [], z9 =>
    some (Sum.inl ())
  | x10 :: xs11, z9 =>
    (idxL b1 z9).bind fun v13 =>
    (bif (!(x10.Kind == v13.Kind && (x10.Activity == v13.Activity && (x10.Value == v13.Value && true)))) then
    some (Sum.inr false)
    else
    s_ClauseEqual_L1 b1 xs11 (z9 + 1))
def s_ClauseEqual (b0 : List TLiteral) (b1 : List TLiteral) : Option Bool :=
  (bif ((b0.length : Int) != (b1.length : Int)) then
  some false
  else
  sumBind
  (s_ClauseEqual_L1 b1 b0 0)
  (fun q16 => some q16) fun p15 =>
  some true)
def s_LineEqual (b0 : TLine) (b1 : TLine) : Option Bool :=
  Option.bind
  ((bif (b0.Kind == b1.Kind) then
  (bif (b0.Rule.Kind == b1.Rule.Kind && (b0.Rule.A == b1.Rule.A && (b0.Rule.B == b1.Rule.B && (b0.Rule.C == b1.Rule.C && true)))) then
  (s_ClauseEqual b0.Clause b1.Clause).bind fun v4 =>
  some v4
  else
  some false)
  else
  some false)) fun e1 =>
  some e1
def s_LogEqual_L1 (b1 : TLog) : List TLine → Int → Option (Unit ⊕ Bool)
  | [], z16 =>
    some (Sum.inl ())
  | x17 :: xs18, z16 =>
    (idxL b1.Lines z16).bind fun v20 =>
    (s_LineEqual x17 v20).bind fun v21 =>
    (bif (!v21) then
    some (Sum.inr false)
    else
    s_LogEqual_L1 b1 xs18 (z16 + 1))
def s_LogEqual (b0 : TLog) (b1 : TLog) : Option Bool :=
  (s_ProjectEqual b0.Project b1.Project).bind fun v1 =>
  Option.bind
  ((bif (!v1) then
  some true
  else
  (s_DomainEqual b0.Domain b1.Domain).bind fun v4 =>
  (bif (!v4) then
  some true
  else
  (s_ClauseEqual b0.Decisions b1.Decisions).bind fun v6 =>
  (bif (!v6) then
  some true
  else
  some ((b0.Lines.length : Int) != (b1.Lines.length : Int)))))) fun e2 =>
  (bif e2 then
  some false
  else
  sumBind
  (s_LogEqual_L1 b1 b0.Lines 0)
  (fun q24 => some q24) fun p23 =>
  some true)
def slices_EqualFunc_Activity_L1 (b1 : List TActivity) (g2 : TActivity → TActivity → Option Bool) : List TActivity → Int → Option (Unit ⊕ Bool)
  | [], z9 =>
    some (Sum.inl ())
  | x10 :: xs11, z9 =>
    (idxL b1 z9).bind fun v13 =>
    (g2 x10 v13).bind fun v14 =>
    (bif (!v14) then
    some (Sum.inr false)
    else
    slices_EqualFunc_Activity_L1 b1 g2 xs11 (z9 + 1))
def slices_EqualFunc_Activity (b0 : List TActivity) (b1 : List TActivity) (g2 : TActivity → TActivity → Option Bool) : Option Bool :=
  (bif ((b0.length : Int) != (b1.length : Int)) then
  some false
  else
  sumBind
  (slices_EqualFunc_Activity_L1 b1 g2 b0 0)
  (fun q17 => some q17) fun p16 =>
  some true)
def slices_EqualFunc_Mode_L1 (b1 : List TMode) (g2 : TMode → TMode → Option Bool) : List TMode → Int → Option (Unit ⊕ Bool)
  | [], z9 =>
    some (Sum.inl ())
  | x10 :: xs11, z9 =>
    (idxL b1 z9).bind fun v13 =>
    (g2 x10 v13).bind fun v14 =>
    (bif (!v14) then
    some (Sum.inr false)
    else
    slices_EqualFunc_Mode_L1 b1 g2 xs11 (z9 + 1))
def slices_EqualFunc_Mode (b0 : List TMode) (b1 : List TMode) (g2 : TMode → TMode → Option Bool) : Option Bool :=
  (bif ((b0.length : Int) != (b1.length : Int)) then
  some false
  else
  sumBind
  (slices_EqualFunc_Mode_L1 b1 g2 b0 0)
  (fun q17 => some q17) fun p16 =>
  some true)
def slices_Equal_int_L1 (b1 : List Int) : List Int → Int → Option (Unit ⊕ Bool)
  | [], z9 =>
    some (Sum.inl ())
  | x10 :: xs11, z9 =>
    (idxL b1 z9).bind fun v13 =>
    (bif (x10 != v13) then
    some (Sum.inr false)
    else
    slices_Equal_int_L1 b1 xs11 (z9 + 1))
def slices_Equal_int (b0 : List Int) (b1 : List Int) : Option Bool :=
  (bif ((b0.length : Int) != (b1.length : Int)) then
  some false
  else
  sumBind
  (slices_Equal_int_L1 b1 b0 0)
  (fun q16 => some q16) fun p15 =>
  some true)
def i_sameMode (b0 : TMode) (b1 : TMode) : Option Bool :=
  Option.bind
  ((bif (b0.Duration == b1.Duration) then
  (slices_Equal_int b0.Usage b1.Usage).bind fun v3 =>
  (bif v3 then
  (slices_Equal_int b0.Consumption b1.Consumption).bind fun v5 =>
  some v5
  else
  some false)
  else
  some false)) fun e1 =>
  some e1
def i_ActivityEqual (b0 : TActivity) (b1 : TActivity) : Option Bool :=
  Option.bind
  ((bif (b0.Name == b1.Name) then
  (bif (b0.Family == b1.Family) then
  (slices_EqualFunc_Mode b0.Modes b1.Modes (fun x0 x1 => i_sameMode x0 x1)).bind fun v4 =>
  some v4
  else
  some false)
  else
  some false)) fun e1 =>
  some e1
def slices_Equal_Link_L1 (b1 : List TLink) : List TLink → Int → Option (Unit ⊕ Bool)
  | [], z9 =>
    some (Sum.inl ())
  | x10 :: xs11, z9 =>
    (idxL b1 z9).bind fun v13 =>
    (bif (!(x10.From == v13.From && (x10.To == v13.To && (x10.FromEnd == v13.FromEnd && (x10.Lag == v13.Lag && true))))) then
    some (Sum.inr false)
    else
    slices_Equal_Link_L1 b1 xs11 (z9 + 1))
def slices_Equal_Link (b0 : List TLink) (b1 : List TLink) : Option Bool :=
  (bif ((b0.length : Int) != (b1.length : Int)) then
  some false
  else
  sumBind
  (slices_Equal_Link_L1 b1 b0 0)
  (fun q16 => some q16) fun p15 =>
  some true)
def slices_EqualFunc_Resource_L1 (b1 : List TResource) (g2 : TResource → TResource → Option Bool) : List TResource → Int → Option (Unit ⊕ Bool)
  | [], z9 =>
    some (Sum.inl ())
  | x10 :: xs11, z9 =>
    (idxL b1 z9).bind fun v13 =>
    (g2 x10 v13).bind fun v14 =>
    (bif (!v14) then
    some (Sum.inr false)
    else
    slices_EqualFunc_Resource_L1 b1 g2 xs11 (z9 + 1))
def slices_EqualFunc_Resource (b0 : List TResource) (b1 : List TResource) (g2 : TResource → TResource → Option Bool) : Option Bool :=
  (bif ((b0.length : Int) != (b1.length : Int)) then
  some false
  else
  sumBind
  (slices_EqualFunc_Resource_L1 b1 g2 b0 0)
  (fun q17 => some q17) fun p16 =>
  some true)
def slices_Equal_Step_L1 (b1 : List TStep) : List TStep → Int → Option (Unit ⊕ Bool)
  | [], z9 =>
    some (Sum.inl ())
  | x10 :: xs11, z9 =>
    (idxL b1 z9).bind fun v13 =>
    (bif (!(x10.At == v13.At && (x10.Capacity == v13.Capacity && true))) then
    some (Sum.inr false)
    else
    slices_Equal_Step_L1 b1 xs11 (z9 + 1))
def slices_Equal_Step (b0 : List TStep) (b1 : List TStep) : Option Bool :=
  (bif ((b0.length : Int) != (b1.length : Int)) then
  some false
  else
  sumBind
  (slices_Equal_Step_L1 b1 b0 0)
  (fun q16 => some q16) fun p15 =>
  some true)
def slices_EqualFunc__int_L1 (b1 : List (List Int)) (g2 : (List Int) → (List Int) → Option Bool) : List (List Int) → Int → Option (Unit ⊕ Bool)
  | [], z9 =>
    some (Sum.inl ())
  | x10 :: xs11, z9 =>
    (idxL b1 z9).bind fun v13 =>
    (g2 x10 v13).bind fun v14 =>
    (bif (!v14) then
    some (Sum.inr false)
    else
    slices_EqualFunc__int_L1 b1 g2 xs11 (z9 + 1))
def slices_EqualFunc__int (b0 : List (List Int)) (b1 : List (List Int)) (g2 : (List Int) → (List Int) → Option Bool) : Option Bool :=
  (bif ((b0.length : Int) != (b1.length : Int)) then
  some false
  else
  sumBind
  (slices_EqualFunc__int_L1 b1 g2 b0 0)
  (fun q17 => some q17) fun p16 =>
  some true)
def i_sameResource (b0 : TResource) (b1 : TResource) : Option Bool :=
  (slices_Equal_Step b0.Steps b1.Steps).bind fun v1 =>
  Option.bind
  ((bif v1 then
  (slices_EqualFunc__int b0.Setup b1.Setup (fun x0 x1 => slices_Equal_int x0 x1)).bind fun v4 =>
  some v4
  else
  some false)) fun e2 =>
  some e2
def i_ProjectEqual (b0 : TProject) (b1 : TProject) : Option Bool :=
  Option.bind
  ((bif (b0.Deadline == b1.Deadline) then
  (slices_EqualFunc_Activity b0.Activities b1.Activities (fun x0 x1 => i_ActivityEqual x0 x1)).bind fun v3 =>
  (bif v3 then
  (slices_Equal_Link b0.Links b1.Links).bind fun v5 =>
  (bif v5 then
  (slices_EqualFunc_Resource b0.Resources b1.Resources (fun x0 x1 => i_sameResource x0 x1)).bind fun v7 =>
  (bif v7 then
  (slices_Equal_int b0.Stocks b1.Stocks).bind fun v9 =>
  some v9
  else
  some false)
  else
  some false)
  else
  some false)
  else
  some false)) fun e1 =>
  some e1
def i_DomainEqual (b0 : TDomain) (b1 : TDomain) : Option Bool :=
  (slices_Equal_int b0.MinStart b1.MinStart).bind fun v1 =>
  Option.bind
  ((bif v1 then
  (slices_Equal_int b0.MaxStart b1.MaxStart).bind fun v4 =>
  (bif v4 then
  (slices_EqualFunc__int b0.Modes b1.Modes (fun x0 x1 => slices_Equal_int x0 x1)).bind fun v6 =>
  some v6
  else
  some false)
  else
  some false)) fun e2 =>
  some e2
def slices_Equal_Literal_L1 (b1 : List TLiteral) : List TLiteral → Int → Option (Unit ⊕ Bool)
  | [], z9 =>
    some (Sum.inl ())
  | x10 :: xs11, z9 =>
    (idxL b1 z9).bind fun v13 =>
    (bif (!(x10.Kind == v13.Kind && (x10.Activity == v13.Activity && (x10.Value == v13.Value && true)))) then
    some (Sum.inr false)
    else
    slices_Equal_Literal_L1 b1 xs11 (z9 + 1))
def slices_Equal_Literal (b0 : List TLiteral) (b1 : List TLiteral) : Option Bool :=
  (bif ((b0.length : Int) != (b1.length : Int)) then
  some false
  else
  sumBind
  (slices_Equal_Literal_L1 b1 b0 0)
  (fun q16 => some q16) fun p15 =>
  some true)
def slices_EqualFunc_Line_L1 (b1 : List TLine) (g2 : TLine → TLine → Option Bool) : List TLine → Int → Option (Unit ⊕ Bool)
  | [], z9 =>
    some (Sum.inl ())
  | x10 :: xs11, z9 =>
    (idxL b1 z9).bind fun v13 =>
    (g2 x10 v13).bind fun v14 =>
    (bif (!v14) then
    some (Sum.inr false)
    else
    slices_EqualFunc_Line_L1 b1 g2 xs11 (z9 + 1))
def slices_EqualFunc_Line (b0 : List TLine) (b1 : List TLine) (g2 : TLine → TLine → Option Bool) : Option Bool :=
  (bif ((b0.length : Int) != (b1.length : Int)) then
  some false
  else
  sumBind
  (slices_EqualFunc_Line_L1 b1 g2 b0 0)
  (fun q17 => some q17) fun p16 =>
  some true)
def i_LineEqual (b0 : TLine) (b1 : TLine) : Option Bool :=
  Option.bind
  ((bif (b0.Kind == b1.Kind) then
  (bif (b0.Rule.Kind == b1.Rule.Kind && (b0.Rule.A == b1.Rule.A && (b0.Rule.B == b1.Rule.B && (b0.Rule.C == b1.Rule.C && true)))) then
  (slices_Equal_Literal b0.Clause b1.Clause).bind fun v4 =>
  some v4
  else
  some false)
  else
  some false)) fun e1 =>
  some e1
def i_LogEqual (b0 : TLog) (b1 : TLog) : Option Bool :=
  (i_ProjectEqual b0.Project b1.Project).bind fun v1 =>
  Option.bind
  ((bif v1 then
  (i_DomainEqual b0.Domain b1.Domain).bind fun v4 =>
  (bif v4 then
  (slices_Equal_Literal b0.Decisions b1.Decisions).bind fun v6 =>
  (bif v6 then
  (slices_EqualFunc_Line b0.Lines b1.Lines (fun x0 x1 => i_LineEqual x0 x1)).bind fun v8 =>
  some v8
  else
  some false)
  else
  some false)
  else
  some false)) fun e2 =>
  some e2
def w_eqDomain (b0 : TDomain) (b1 : TDomain) : Option Bool :=
  (w_eqIntS b0.MinStart b1.MinStart).bind fun v1 =>
  (bif (!v1) then
  some false
  else
  (w_eqIntS b0.MaxStart b1.MaxStart).bind fun v3 =>
  (bif (!v3) then
  some false
  else
  (w_eqIntSS b0.Modes b1.Modes).bind fun v5 =>
  (bif (!v5) then
  some false
  else
  some true)))
def w_eqRule (b0 : TRule) (b1 : TRule) : Option Bool :=
  (bif (b0.Kind != b1.Kind) then
  some false
  else
  (bif (b0.A != b1.A) then
  some false
  else
  (bif (b0.B != b1.B) then
  some false
  else
  (bif (b0.C != b1.C) then
  some false
  else
  some true))))
def w_eqLine (b0 : TLine) (b1 : TLine) : Option Bool :=
  (bif (b0.Kind != b1.Kind) then
  some false
  else
  (w_eqRule b0.Rule b1.Rule).bind fun v2 =>
  (bif (!v2) then
  some false
  else
  (w_eqLiteralS b0.Clause b1.Clause).bind fun v4 =>
  (bif (!v4) then
  some false
  else
  some true)))
def w_eqLineS_L1 (b1 : List TLine) : List TLine → Int → Option (Unit ⊕ Bool)
  | [], z9 =>
    some (Sum.inl ())
  | x10 :: xs11, z9 =>
    (idxL b1 z9).bind fun v13 =>
    (w_eqLine x10 v13).bind fun v14 =>
    (bif (!v14) then
    some (Sum.inr false)
    else
    w_eqLineS_L1 b1 xs11 (z9 + 1))
def w_eqLineS (b0 : List TLine) (b1 : List TLine) : Option Bool :=
  (bif ((b0.length : Int) != (b1.length : Int)) then
  some false
  else
  sumBind
  (w_eqLineS_L1 b1 b0 0)
  (fun q17 => some q17) fun p16 =>
  some true)
def w_eqLog (b0 : TLog) (b1 : TLog) : Option Bool :=
  (w_eqProject b0.Project b1.Project).bind fun v1 =>
  (bif (!v1) then
  some false
  else
  (w_eqDomain b0.Domain b1.Domain).bind fun v3 =>
  (bif (!v3) then
  some false
  else
  (w_eqLiteralS b0.Decisions b1.Decisions).bind fun v5 =>
  (bif (!v5) then
  some false
  else
  (w_eqLineS b0.Lines b1.Lines).bind fun v7 =>
  (bif (!v7) then
  some false
  else
  some true))))
def w_FnExactLogEqual (b0 : TLog) (b1 : TLog) : Option Bool :=
  (w_szLog b0 1048576).bind fun v1 =>
  (bif (decide (v1 < 0)) then
  some true
  else
  (w_szLog b1 v1).bind fun v3 =>
  (bif (decide (v3 < 0)) then
  some true
  else
  (w_toLog b0).bind fun v5 =>
  (w_toLog b1).bind fun v6 =>
  (s_LogEqual v5 v6).bind fun v7 =>
  (w_toLog b0).bind fun v8 =>
  (w_toLog b1).bind fun v9 =>
  (i_LogEqual v8 v9).bind fun v10 =>
  (bif (v10 != v7) then
  some false
  else
  (w_toLog b0).bind fun v12 =>
  (w_eqLog v8 v12).bind fun v13 =>
  (bif (!v13) then
  some false
  else
  (w_toLog b1).bind fun v15 =>
  (w_eqLog v9 v15).bind fun v16 =>
  (bif (!v16) then
  some false
  else
  some true)))))
def s_LineOk (b0 : TProject) (b1 : TLine) : Option Bool :=
  (s_ClauseOk b0 b1.Clause).bind fun v1 =>
  Option.bind
  ((bif v1 then
  (bif (b1.Kind == 1) then
  some true
  else
  (bif (b1.Kind == 2) then
  some (b1.Rule.Kind == 0 && (b1.Rule.A == 0 && (b1.Rule.B == 0 && (b1.Rule.C == 0 && true))))
  else
  some false))
  else
  some false)) fun e2 =>
  some e2
def i_LineOk (b0 : TProject) (b1 : TLine) : Option Bool :=
  (i_ClauseOk b0 b1.Clause).bind fun v1 =>
  Option.bind
  ((bif v1 then
  (bif (b1.Kind == 1) then
  some true
  else
  (bif (b1.Kind == 2) then
  some (b1.Rule.Kind == 0 && (b1.Rule.A == 0 && (b1.Rule.B == 0 && (b1.Rule.C == 0 && true))))
  else
  some false))
  else
  some false)) fun e2 =>
  some e2
def w_FnExactLineOk (b0 : TProject) (b1 : TLine) : Option Bool :=
  (w_szProject b0 1048576).bind fun v1 =>
  (bif (decide (v1 < 0)) then
  some true
  else
  (w_szLine b1 v1).bind fun v3 =>
  (bif (decide (v3 < 0)) then
  some true
  else
  (w_toProject b0).bind fun v5 =>
  (w_toLine b1).bind fun v6 =>
  (s_LineOk v5 v6).bind fun v7 =>
  (w_toProject b0).bind fun v8 =>
  (w_toLine b1).bind fun v9 =>
  (i_LineOk v8 v9).bind fun v10 =>
  (bif (v10 != v7) then
  some false
  else
  (w_toProject b0).bind fun v12 =>
  (w_eqProject v8 v12).bind fun v13 =>
  (bif (!v13) then
  some false
  else
  (w_toLine b1).bind fun v15 =>
  (w_eqLine v9 v15).bind fun v16 =>
  (bif (!v16) then
  some false
  else
  some true)))))
def s_ModeIndexes (b0 : TActivity) : Option (List Int) :=
  (s_IntRange (b0.Modes.length : Int)).bind fun v1 =>
  some v1
def s_DomainForm_L1 (b1 : TDomain) : List TActivity → Int → Option (Unit ⊕ Bool)
  | [], z14 =>
    some (Sum.inl ())
  | x15 :: xs16, z14 =>
    (idxL b1.MinStart z14).bind fun v18 =>
    (s_l01In v18 (-2) 62).bind fun v19 =>
    Option.bind
    ((bif (!v19) then
    some true
    else
    (idxL b1.MaxStart z14).bind fun v22 =>
    (s_l01In v22 (-2) 62).bind fun v23 =>
    (bif (!v23) then
    some true
    else
    (idxL b1.Modes z14).bind fun v25 =>
    (s_SetOk v25).bind fun v26 =>
    (bif (!v26) then
    some true
    else
    (s_ModeIndexes x15).bind fun v28 =>
    (s_SetSubset v25 v28).bind fun v29 =>
    some (!v29))))) fun e20 =>
    (bif e20 then
    some (Sum.inr false)
    else
    s_DomainForm_L1 b1 xs16 (z14 + 1))
def s_DomainForm (b0 : TProject) (b1 : TDomain) : Option Bool :=
  (s_ProjectOk b0).bind fun v1 =>
  Option.bind
  ((bif (!v1) then
  some true
  else
  (bif ((b1.MinStart.length : Int) != (b0.Activities.length : Int)) then
  some true
  else
  (bif ((b1.MaxStart.length : Int) != (b0.Activities.length : Int)) then
  some true
  else
  some ((b1.Modes.length : Int) != (b0.Activities.length : Int)))))) fun e2 =>
  (bif e2 then
  some false
  else
  sumBind
  (s_DomainForm_L1 b1 b0.Activities 0)
  (fun q32 => some q32) fun p31 =>
  some true)
def s_DomainEmpty_L1 (b0 : TDomain) : List Int → Int → Option (Unit ⊕ Bool)
  | [], z8 =>
    some (Sum.inl ())
  | x9 :: xs10, z8 =>
    Option.bind
    ((bif (decide (z8 < (b0.MaxStart.length : Int))) then
    (idxL b0.MaxStart z8).bind fun v14 =>
    some (decide (v14 < x9))
    else
    some false)) fun e12 =>
    (bif e12 then
    some (Sum.inr true)
    else
    s_DomainEmpty_L1 b0 xs10 (z8 + 1))
def s_DomainEmpty_L2  : List (List Int) → Int → Option (Unit ⊕ Bool)
  | [], z25 =>
    some (Sum.inl ())
  | x26 :: xs27, z25 =>
    (bif ((x26.length : Int) == 0) then
    some (Sum.inr true)
    else
    s_DomainEmpty_L2 xs27 (z25 + 1))
def s_DomainEmpty (b0 : TDomain) : Option Bool :=
  sumBind
  (s_DomainEmpty_L1 b0 b0.MinStart 0)
  (fun q17 => some q17) fun p16 =>
  sumBind
  (s_DomainEmpty_L2 b0.Modes 0)
  (fun q31 => some q31) fun p30 =>
  some false
def s_l14Ok (b0 : TProject) (b1 : TDomain) : Option Bool :=
  (s_DomainForm b0 b1).bind fun v1 =>
  Option.bind
  ((bif v1 then
  (s_DomainEmpty b1).bind fun v4 =>
  some (!v4)
  else
  some false)) fun e2 =>
  some e2
def s_MinDuration_L1 (b1 : List Int) : List TMode → Int → Int → Bool → Option Int
  | [], z8, a9, a10 =>
    some a9
  | x11 :: xs12, z8, a9, a10 =>
    (s_SetHas b1 z8).bind fun v14 =>
    Option.bind
    ((bif v14 then
    (bif (!a10) then
    some true
    else
    some (decide (x11.Duration < a9)))
    else
    some false)) fun e15 =>
    (bif e15 then
    s_MinDuration_L1 b1 xs12 (z8 + 1) x11.Duration true
    else
    s_MinDuration_L1 b1 xs12 (z8 + 1) a9 a10)
def s_MinDuration (b0 : TActivity) (b1 : List Int) : Option Int :=
  Option.bind
  (s_MinDuration_L1 b1 b0.Modes 0 0 false) fun p19 =>
  some p19
def s_l14Short (b0 : TProject) (b1 : TDomain) (b2 : Int) : Option Int :=
  (idxL b0.Activities b2).bind fun v1 =>
  (idxL b1.Modes b2).bind fun v2 =>
  (s_MinDuration v1 v2).bind fun v3 =>
  some v3
def s_ShortestDuration (b0 : TProject) (b1 : TDomain) (b2 : Int) : Option Int :=
  (s_l14Ok b0 b1).bind fun v1 =>
  Option.bind
  ((bif (!v1) then
  some true
  else
  (s_l01In b2 0 (W ((b0.Activities.length : Int) - 1))).bind fun v4 =>
  some (!v4))) fun e2 =>
  (bif e2 then
  some 0
  else
  (s_l14Short b0 b1 b2).bind fun v6 =>
  some v6)
def i_isStart (b0 : Int) : Option Bool :=
  (i_within b0 (-2) 62).bind fun v1 =>
  some v1
def i_ModeIndexes (b0 : TActivity) : Option (List Int) :=
  (i_IntRange (b0.Modes.length : Int)).bind fun v1 =>
  some v1
def i_DomainForm_L1 (b0 : TProject) (b1 : TDomain) : List (List Int) → Int → Option (Unit ⊕ Bool)
  | [], z14 =>
    some (Sum.inl ())
  | x15 :: xs16, z14 =>
    (idxL b1.MinStart z14).bind fun v18 =>
    (i_isStart v18).bind fun v19 =>
    Option.bind
    ((bif (!v19) then
    some true
    else
    (idxL b1.MaxStart z14).bind fun v22 =>
    (i_isStart v22).bind fun v23 =>
    (bif (!v23) then
    some true
    else
    (i_SetOk x15).bind fun v25 =>
    (bif (!v25) then
    some true
    else
    (idxL b0.Activities z14).bind fun v27 =>
    (i_ModeIndexes v27).bind fun v28 =>
    (i_SetSubset x15 v28).bind fun v29 =>
    some (!v29))))) fun e20 =>
    (bif e20 then
    some (Sum.inr false)
    else
    i_DomainForm_L1 b0 b1 xs16 (z14 + 1))
def i_DomainForm (b0 : TProject) (b1 : TDomain) : Option Bool :=
  (i_ProjectOk b0).bind fun v1 =>
  Option.bind
  ((bif (!v1) then
  some true
  else
  (bif ((b1.MinStart.length : Int) != (b0.Activities.length : Int)) then
  some true
  else
  (bif ((b1.MaxStart.length : Int) != (b0.Activities.length : Int)) then
  some true
  else
  some ((b1.Modes.length : Int) != (b0.Activities.length : Int)))))) fun e2 =>
  (bif e2 then
  some false
  else
  sumBind
  (i_DomainForm_L1 b0 b1 b1.Modes 0)
  (fun q32 => some q32) fun p31 =>
  some true)
def slices_IndexFunc__int_L1 (g1 : (List Int) → Option Bool) : List (List Int) → Int → Option (Unit ⊕ Int)
  | [], z8 =>
    some (Sum.inl ())
  | x9 :: xs10, z8 =>
    (g1 x9).bind fun v12 =>
    (bif v12 then
    some (Sum.inr z8)
    else
    slices_IndexFunc__int_L1 g1 xs10 (z8 + 1))
def slices_IndexFunc__int (b0 : List (List Int)) (g1 : (List Int) → Option Bool) : Option Int :=
  sumBind
  (slices_IndexFunc__int_L1 g1 b0 0)
  (fun q15 => some q15) fun p14 =>
  some (-1)
def slices_ContainsFunc__int (b0 : List (List Int)) (g1 : (List Int) → Option Bool) : Option Bool :=
  (slices_IndexFunc__int b0 g1).bind fun v1 =>
  some (decide (0 ≤ v1))
def i_DomainEmpty_c1 (b0 : List Int) : Option Bool :=
  some ((b0.length : Int) == 0)
def i_DomainEmpty_L1 (b0 : TDomain) : List Int → Int → Option (Unit ⊕ Bool)
  | [], z8 =>
    some (Sum.inl ())
  | x9 :: xs10, z8 =>
    Option.bind
    ((bif (decide (z8 < (b0.MaxStart.length : Int))) then
    (idxL b0.MaxStart z8).bind fun v14 =>
    some (decide (v14 < x9))
    else
    some false)) fun e12 =>
    (bif e12 then
    some (Sum.inr true)
    else
    i_DomainEmpty_L1 b0 xs10 (z8 + 1))
def i_DomainEmpty (b0 : TDomain) : Option Bool :=
  sumBind
  (i_DomainEmpty_L1 b0 b0.MinStart 0)
  (fun q17 => some q17) fun p16 =>
  (slices_ContainsFunc__int b0.Modes (fun x0 => i_DomainEmpty_c1 x0)).bind fun v18 =>
  some v18
def i_isUsable (b0 : TProject) (b1 : TDomain) : Option Bool :=
  (i_DomainForm b0 b1).bind fun v1 =>
  Option.bind
  ((bif v1 then
  (i_DomainEmpty b1).bind fun v4 =>
  some (!v4)
  else
  some false)) fun e2 =>
  some e2
def i_chosen_L1 (b1 : List Int) : List TMode → Int → (List TMode) → Option (List TMode)
  | [], z8, a9 =>
    some a9
  | x10 :: xs11, z8, a9 =>
    (i_SetHas b1 z8).bind fun v13 =>
    (bif v13 then
    (appL a9 ([x10] : List TMode)).bind fun v15 =>
    i_chosen_L1 b1 xs11 (z8 + 1) v15
    else
    i_chosen_L1 b1 xs11 (z8 + 1) a9)
def i_chosen (b0 : TActivity) (b1 : List Int) : Option (List TMode) :=
  Option.bind
  (i_chosen_L1 b1 b0.Modes 0 ([] : List TMode)) fun p16 =>
  some p16
def i_MinDuration_L1  : List TMode → Int → Int → Option Int
  | [], z9, a10 =>
    some a10
  | x11 :: xs12, z9, a10 =>
    Option.bind
    ((bif (z9 == 0) then
    some true
    else
    some (decide (x11.Duration < a10)))) fun e14 =>
    (bif e14 then
    i_MinDuration_L1 xs12 (z9 + 1) x11.Duration
    else
    i_MinDuration_L1 xs12 (z9 + 1) a10)
def i_MinDuration (b0 : TActivity) (b1 : List Int) : Option Int :=
  (i_chosen b0 b1).bind fun v1 =>
  Option.bind
  (i_MinDuration_L1 v1 0 0) fun p17 =>
  some p17
def i_Project_duration (b0 : TProject) (b1 : TDomain) (b2 : Int) : Option Int :=
  (idxL b0.Activities b2).bind fun v1 =>
  (idxL b1.Modes b2).bind fun v2 =>
  (i_MinDuration v1 v2).bind fun v3 =>
  some v3
def i_ShortestDuration (b0 : TProject) (b1 : TDomain) (b2 : Int) : Option Int :=
  (i_isUsable b0 b1).bind fun v1 =>
  Option.bind
  ((bif (!v1) then
  some true
  else
  (i_Project_hasActivity b0 b2).bind fun v4 =>
  some (!v4))) fun e2 =>
  (bif e2 then
  some 0
  else
  (i_Project_duration b0 b1 b2).bind fun v6 =>
  some v6)
def w_FnExactShortestDuration (b0 : TProject) (b1 : TDomain) (b2 : Int) : Option Bool :=
  (w_szProject b0 1048576).bind fun v1 =>
  (bif (decide (v1 < 0)) then
  some true
  else
  (w_szDomain b1 v1).bind fun v3 =>
  (bif (decide (v3 < 0)) then
  some true
  else
  (w_toProject b0).bind fun v5 =>
  (w_toDomain b1).bind fun v6 =>
  (s_ShortestDuration v5 v6 b2).bind fun v7 =>
  (w_toProject b0).bind fun v8 =>
  (w_toDomain b1).bind fun v9 =>
  (i_ShortestDuration v8 v9 b2).bind fun v10 =>
  (bif (v10 != v7) then
  some false
  else
  (w_toProject b0).bind fun v12 =>
  (w_eqProject v8 v12).bind fun v13 =>
  (bif (!v13) then
  some false
  else
  (w_toDomain b1).bind fun v15 =>
  (w_eqDomain v9 v15).bind fun v16 =>
  (bif (!v16) then
  some false
  else
  some true)))))
def s_CompulsoryPart (b0 : TProject) (b1 : TDomain) (b2 : Int) : Option (Int × Int × Bool) :=
  (s_l14Ok b0 b1).bind fun v1 =>
  Option.bind
  ((bif (!v1) then
  some true
  else
  (s_l01In b2 0 (W ((b0.Activities.length : Int) - 1))).bind fun v4 =>
  some (!v4))) fun e2 =>
  (bif e2 then
  some (0, 0, false)
  else
  (idxL b1.MaxStart b2).bind fun v6 =>
  (idxL b1.MinStart b2).bind fun v7 =>
  (s_l14Short b0 b1 b2).bind fun v8 =>
  (bif (decide ((W (v7 + v8)) ≤ v6)) then
  some (0, 0, false)
  else
  some (v6, (W (v7 + v8)), true)))
def i_Project_compulsory (b0 : TProject) (b1 : TDomain) (b2 : Int) : Option (Int × Int) :=
  (idxL b1.MaxStart b2).bind fun v1 =>
  (idxL b1.MinStart b2).bind fun v2 =>
  (i_Project_duration b0 b1 b2).bind fun v3 =>
  some (v1, (W (v2 + v3)))
def i_CompulsoryPart (b0 : TProject) (b1 : TDomain) (b2 : Int) : Option (Int × Int × Bool) :=
  (i_isUsable b0 b1).bind fun v1 =>
  Option.bind
  ((bif (!v1) then
  some true
  else
  (i_Project_hasActivity b0 b2).bind fun v4 =>
  some (!v4))) fun e2 =>
  (bif e2 then
  some (0, 0, false)
  else
  (i_Project_compulsory b0 b1 b2).bind fun v6 =>
  (bif (decide (v6.2 ≤ v6.1)) then
  some (0, 0, false)
  else
  some (v6.1, v6.2, true)))
def w_FnExactCompulsoryPart (b0 : TProject) (b1 : TDomain) (b2 : Int) : Option Bool :=
  (w_szProject b0 1048576).bind fun v1 =>
  (bif (decide (v1 < 0)) then
  some true
  else
  (w_szDomain b1 v1).bind fun v3 =>
  (bif (decide (v3 < 0)) then
  some true
  else
  (w_toProject b0).bind fun v5 =>
  (w_toDomain b1).bind fun v6 =>
  (s_CompulsoryPart v5 v6 b2).bind fun v7 =>
  (w_toProject b0).bind fun v8 =>
  (w_toDomain b1).bind fun v9 =>
  (i_CompulsoryPart v8 v9 b2).bind fun v10 =>
  Option.bind
  ((bif (v10.1 != v7.1) then
  some true
  else
  (bif (v10.2.1 != v7.2.1) then
  some true
  else
  some (v10.2.2 != v7.2.2)))) fun e11 =>
  (bif e11 then
  some false
  else
  (w_toProject b0).bind fun v15 =>
  (w_eqProject v8 v15).bind fun v16 =>
  (bif (!v16) then
  some false
  else
  (w_toDomain b1).bind fun v18 =>
  (w_eqDomain v9 v18).bind fun v19 =>
  (bif (!v19) then
  some false
  else
  some true)))))
def s_Overlap_L1  : List Int → Int → Option (Unit ⊕ Int)
  | [], z8 =>
    some (Sum.inl ())
  | x9 :: xs10, z8 =>
    (s_l01In x9 (-100000) 100000).bind fun v12 =>
    (bif (!v12) then
    some (Sum.inr 0)
    else
    s_Overlap_L1 xs10 (z8 + 1))
def s_Overlap (b0 : Int) (b1 : Int) (b2 : Int) (b3 : Int) : Option Int :=
  sumBind
  (s_Overlap_L1 ([b0, b1, b2, b3] : List Int) 0)
  (fun q15 => some q15) fun p14 =>
  (bif (decide (b1 < 1)) then
  some 0
  else
  (s_l02Min (W (b0 + b1)) b3).bind fun v17 =>
  (s_l02Max b0 b2).bind fun v18 =>
  (s_l02Max 0 (W (v17 - v18))).bind fun v19 =>
  some v19)
def s_l15Work_L1 (b0 : TProject) (b1 : TDomain) (b2 : Int) (b3 : Int) (b4 : Int) (b5 : Int) : List Int → Int → Int → Option Int
  | [], z9, a10 =>
    some a10
  | x11 :: xs12, z9, a10 =>
    (idxL b0.Activities b2).bind fun v14 =>
    (idxL v14.Modes x11).bind fun v15 =>
    (idxL v15.Usage b3).bind fun v16 =>
    (idxL b1.MinStart b2).bind fun v17 =>
    (s_Overlap v17 v15.Duration b4 b5).bind fun v18 =>
    (idxL b1.MaxStart b2).bind fun v19 =>
    (s_Overlap v19 v15.Duration b4 b5).bind fun v20 =>
    (s_l02Min v18 v20).bind fun v21 =>
    Option.bind
    ((bif (decide (a10 < 0)) then
    some true
    else
    some (decide ((W (v16 * v21)) < a10)))) fun e22 =>
    (bif e22 then
    s_l15Work_L1 b0 b1 b2 b3 b4 b5 xs12 (z9 + 1) (W (v16 * v21))
    else
    s_l15Work_L1 b0 b1 b2 b3 b4 b5 xs12 (z9 + 1) a10)
def s_l15Work (b0 : TProject) (b1 : TDomain) (b2 : Int) (b3 : Int) (b4 : Int) (b5 : Int) : Option Int :=
  (idxL b1.Modes b2).bind fun v1 =>
  Option.bind
  (s_l15Work_L1 b0 b1 b2 b3 b4 b5 v1 0 (-1)) fun p25 =>
  (s_l02Max p25 0).bind fun v26 =>
  some v26
def s_MinWorkIn (b0 : TProject) (b1 : TDomain) (b2 : Int) (b3 : Int) (b4 : Int) (b5 : Int) : Option Int :=
  (s_l14Ok b0 b1).bind fun v1 =>
  Option.bind
  ((bif (!v1) then
  some true
  else
  (s_l01In b2 0 (W ((b0.Activities.length : Int) - 1))).bind fun v4 =>
  (bif (!v4) then
  some true
  else
  (s_l01In b3 0 (W ((b0.Resources.length : Int) - 1))).bind fun v6 =>
  some (!v6)))) fun e2 =>
  (bif e2 then
  some 0
  else
  (s_l15Work b0 b1 b2 b3 b4 b5).bind fun v8 =>
  some v8)
def i_Overlap_L1  : List Int → Int → Option (Unit ⊕ Int)
  | [], z8 =>
    some (Sum.inl ())
  | x9 :: xs10, z8 =>
    (i_within x9 (-100000) 100000).bind fun v12 =>
    (bif (!v12) then
    some (Sum.inr 0)
    else
    i_Overlap_L1 xs10 (z8 + 1))
def i_Overlap (b0 : Int) (b1 : Int) (b2 : Int) (b3 : Int) : Option Int :=
  sumBind
  (i_Overlap_L1 ([b0, b1, b2, b3] : List Int) 0)
  (fun q15 => some q15) fun p14 =>
  (bif (decide (b1 < 1)) then
  some 0
  else
  some (max (W ((min (W (b0 + b1)) b3) - (max b0 b2))) 0))
def i_Project_minWork_L1 (b0 : TProject) (b1 : TDomain) (b2 : Int) (b3 : Int) (b4 : Int) (b5 : Int) : List Int → Int → Int → Bool → Option Int
  | [], z9, a10, a11 =>
    some a10
  | x12 :: xs13, z9, a10, a11 =>
    (idxL b0.Activities b2).bind fun v15 =>
    (idxL v15.Modes x12).bind fun v16 =>
    (idxL b1.MinStart b2).bind fun v17 =>
    (i_Overlap v17 v16.Duration b4 b5).bind fun v18 =>
    (idxL b1.MaxStart b2).bind fun v19 =>
    (i_Overlap v19 v16.Duration b4 b5).bind fun v20 =>
    (idxL v16.Usage b3).bind fun v21 =>
    Option.bind
    ((bif (!a11) then
    some true
    else
    some (decide ((W ((min v18 v20) * v21)) < a10)))) fun e22 =>
    (bif e22 then
    i_Project_minWork_L1 b0 b1 b2 b3 b4 b5 xs13 (z9 + 1) (W ((min v18 v20) * v21)) true
    else
    i_Project_minWork_L1 b0 b1 b2 b3 b4 b5 xs13 (z9 + 1) a10 a11)
def i_Project_minWork (b0 : TProject) (b1 : TDomain) (b2 : Int) (b3 : Int) (b4 : Int) (b5 : Int) : Option Int :=
  (idxL b1.Modes b2).bind fun v1 =>
  Option.bind
  (i_Project_minWork_L1 b0 b1 b2 b3 b4 b5 v1 0 0 false) fun p25 =>
  some p25
def i_MinWorkIn (b0 : TProject) (b1 : TDomain) (b2 : Int) (b3 : Int) (b4 : Int) (b5 : Int) : Option Int :=
  (i_isUsable b0 b1).bind fun v1 =>
  Option.bind
  ((bif (!v1) then
  some true
  else
  (i_Project_hasActivity b0 b2).bind fun v4 =>
  (bif (!v4) then
  some true
  else
  (i_Project_hasResource b0 b3).bind fun v6 =>
  some (!v6)))) fun e2 =>
  (bif e2 then
  some 0
  else
  (i_Project_minWork b0 b1 b2 b3 b4 b5).bind fun v8 =>
  some v8)
def w_FnExactMinWorkIn (b0 : TProject) (b1 : TDomain) (b2 : Int) (b3 : Int) (b4 : Int) (b5 : Int) : Option Bool :=
  (w_szProject b0 1048576).bind fun v1 =>
  (bif (decide (v1 < 0)) then
  some true
  else
  (w_szDomain b1 v1).bind fun v3 =>
  (bif (decide (v3 < 0)) then
  some true
  else
  (w_toProject b0).bind fun v5 =>
  (w_toDomain b1).bind fun v6 =>
  (s_MinWorkIn v5 v6 b2 b3 b4 b5).bind fun v7 =>
  (w_toProject b0).bind fun v8 =>
  (w_toDomain b1).bind fun v9 =>
  (i_MinWorkIn v8 v9 b2 b3 b4 b5).bind fun v10 =>
  (bif (v10 != v7) then
  some false
  else
  (w_toProject b0).bind fun v12 =>
  (w_eqProject v8 v12).bind fun v13 =>
  (bif (!v13) then
  some false
  else
  (w_toDomain b1).bind fun v15 =>
  (w_eqDomain v9 v15).bind fun v16 =>
  (bif (!v16) then
  some false
  else
  some true)))))
def s_TotalWorkIn_L1 (b0 : TProject) (b1 : TDomain) (b2 : Int) (b3 : Int) (b4 : Int) : List TActivity → Int → Int → Option Int
  | [], z13, a14 =>
    some a14
  | x15 :: xs16, z13, a14 =>
    (s_l15Work b0 b1 z13 b2 b3 b4).bind fun v18 =>
    s_TotalWorkIn_L1 b0 b1 b2 b3 b4 xs16 (z13 + 1) (W (a14 + v18))
def s_TotalWorkIn (b0 : TProject) (b1 : TDomain) (b2 : Int) (b3 : Int) (b4 : Int) : Option Int :=
  (s_l14Ok b0 b1).bind fun v1 =>
  Option.bind
  ((bif (!v1) then
  some true
  else
  (s_l01In b2 0 (W ((b0.Resources.length : Int) - 1))).bind fun v4 =>
  some (!v4))) fun e2 =>
  (bif e2 then
  some 0
  else
  Option.bind
  (s_TotalWorkIn_L1 b0 b1 b2 b3 b4 b0.Activities 0 0) fun p19 =>
  some p19)
def i_Project_totalWork_L1 (b0 : TProject) (b1 : TDomain) (b2 : Int) (b3 : Int) (b4 : Int) : List TActivity → Int → Int → Option Int
  | [], z8, a9 =>
    some a9
  | x10 :: xs11, z8, a9 =>
    (i_Project_minWork b0 b1 z8 b2 b3 b4).bind fun v13 =>
    i_Project_totalWork_L1 b0 b1 b2 b3 b4 xs11 (z8 + 1) (W (a9 + v13))
def i_Project_totalWork (b0 : TProject) (b1 : TDomain) (b2 : Int) (b3 : Int) (b4 : Int) : Option Int :=
  Option.bind
  (i_Project_totalWork_L1 b0 b1 b2 b3 b4 b0.Activities 0 0) fun p14 =>
  some p14
def i_TotalWorkIn (b0 : TProject) (b1 : TDomain) (b2 : Int) (b3 : Int) (b4 : Int) : Option Int :=
  (i_isUsable b0 b1).bind fun v1 =>
  Option.bind
  ((bif (!v1) then
  some true
  else
  (i_Project_hasResource b0 b2).bind fun v4 =>
  some (!v4))) fun e2 =>
  (bif e2 then
  some 0
  else
  (i_Project_totalWork b0 b1 b2 b3 b4).bind fun v6 =>
  some v6)
def w_FnExactTotalWorkIn (b0 : TProject) (b1 : TDomain) (b2 : Int) (b3 : Int) (b4 : Int) : Option Bool :=
  (w_szProject b0 1048576).bind fun v1 =>
  (bif (decide (v1 < 0)) then
  some true
  else
  (w_szDomain b1 v1).bind fun v3 =>
  (bif (decide (v3 < 0)) then
  some true
  else
  (w_toProject b0).bind fun v5 =>
  (w_toDomain b1).bind fun v6 =>
  (s_TotalWorkIn v5 v6 b2 b3 b4).bind fun v7 =>
  (w_toProject b0).bind fun v8 =>
  (w_toDomain b1).bind fun v9 =>
  (i_TotalWorkIn v8 v9 b2 b3 b4).bind fun v10 =>
  (bif (v10 != v7) then
  some false
  else
  (w_toProject b0).bind fun v12 =>
  (w_eqProject v8 v12).bind fun v13 =>
  (bif (!v13) then
  some false
  else
  (w_toDomain b1).bind fun v15 =>
  (w_eqDomain v9 v15).bind fun v16 =>
  (bif (!v16) then
  some false
  else
  some true)))))
def s_l07Gap (b0 : TProject) (b1 : Int) (b2 : List Int) : Option Int :=
  (idxL b0.Links b1).bind fun v1 =>
  (bif v1.FromEnd then
  (idxL b0.Activities v1.From).bind fun v3 =>
  (s_MinDuration v3 b2).bind fun v4 =>
  some (W (v1.Lag + v4))
  else
  some v1.Lag)
def s_l07All (b0 : TProject) (b1 : Int) : Option Int :=
  (idxL b0.Links b1).bind fun v1 =>
  (idxL b0.Activities v1.From).bind fun v2 =>
  (s_ModeIndexes v2).bind fun v3 =>
  (s_l07Gap b0 b1 v3).bind fun v4 =>
  some v4
def w_heldIntS_L1  : List Int → Int → Int → Option (Int ⊕ Int)
  | [], z8, a9 =>
    some (Sum.inl a9)
  | x10 :: xs11, z8, a9 =>
    (bif (x10 != a9) then
    some (Sum.inr (-1))
    else
    w_heldIntS_L1 xs11 (z8 + 1) (W (a9 + 1)))
def w_heldIntS (b0 : List Int) (b1 : Int) : Option Int :=
  sumBind
  (w_heldIntS_L1 b0 0 b1)
  (fun q15 => some q15) fun p14 =>
  some p14
def w_heldSchedule (b0 : TSchedule) (b1 : Int) : Option Int :=
  (w_heldIntS b0.Starts b1).bind fun v1 =>
  (bif (decide (v1 < 0)) then
  some (-1)
  else
  (w_heldIntS b0.Modes v1).bind fun v3 =>
  (bif (decide (v3 < 0)) then
  some (-1)
  else
  some v3))
def w_heldPlan (b0 : TPlan) (b1 : Int) : Option Int :=
  (w_heldSchedule b0.Schedule b1).bind fun v1 =>
  (bif (decide (v1 < 0)) then
  some (-1)
  else
  (w_heldIntS b0.Done v1).bind fun v3 =>
  (bif (decide (v3 < 0)) then
  some (-1)
  else
  some v3))
def i_Project_gap (b0 : TProject) (b1 : TLink) (b2 : List Int) : Option Int :=
  (bif b1.FromEnd then
  (idxL b0.Activities b1.From).bind fun v2 =>
  (i_MinDuration v2 b2).bind fun v3 =>
  some (W (b1.Lag + v3))
  else
  some b1.Lag)
def i_Project_fullGap (b0 : TProject) (b1 : TLink) : Option Int :=
  (idxL b0.Activities b1.From).bind fun v1 =>
  (i_ModeIndexes v1).bind fun v2 =>
  (i_Project_gap b0 b1 v2).bind fun v3 =>
  some v3
def s_l08Short (b0 : TProject) (b1 : Int) : Option Int :=
  (idxL b0.Activities b1).bind fun v1 =>
  (s_ModeIndexes v1).bind fun v2 =>
  (s_MinDuration v1 v2).bind fun v3 =>
  some v3
def i_Project_shortest (b0 : TProject) (b1 : Int) : Option Int :=
  (idxL b0.Activities b1).bind fun v1 =>
  (i_ModeIndexes v1).bind fun v2 =>
  (i_MinDuration v1 v2).bind fun v3 =>
  some v3
def b_l_int (M : Nat) (l : List Int) : Prop := l.length ≤ M
theorem w_szIntS_ok (x : List Int) (h : b_l_int 9223372036854775807 x) : SzOk w_szIntS (b_l_int 1048576) x := szFlat x (fun _ => rfl) h
def b_str (M : Nat) (x : ByteArray) : Prop := x.size ≤ M
def bTMode (M : Nat) (x : TMode) : Prop := b_l_int M x.Usage ∧ b_l_int M x.Consumption ∧  True
theorem w_szMode_ok (x : TMode) (h : bTMode 9223372036854775807 x) : SzOk w_szMode (bTMode 1048576) x := fun n m0 hn => by
  unfold w_szMode bTMode
  unfold bTMode at h
  exact szThen (w_szIntS_ok _ h.1) m0 (by omega) (fun n1 m1 _ _ => szThen (w_szIntS_ok _ h.2.1) m1 (by omega) (fun n2 m2 _ _ => szEnd m2))
def b_l_eTMode (M : Nat) (l : List TMode) : Prop := l.length ≤ M ∧ ∀ x ∈ l, bTMode M x
theorem w_szModeS_ok (x : List TMode) (h : b_l_eTMode 9223372036854775807 x) : SzOk w_szModeS (b_l_eTMode 1048576) x := szList (F := w_szModeS_L1) (sz := w_szMode) (Q := bTMode 1048576) x (fun _ _ => rfl) (fun _ _ _ _ => rfl) (fun _ => rfl) h.1 (fun y hy => w_szMode_ok y (h.2 y hy))
def bTActivity (M : Nat) (x : TActivity) : Prop := b_str M x.Name ∧ b_l_eTMode M x.Modes ∧  True
theorem w_szActivity_ok (x : TActivity) (h : bTActivity 9223372036854775807 x) : SzOk w_szActivity (bTActivity 1048576) x := fun n m0 hn => by
  unfold w_szActivity bTActivity
  unfold bTActivity at h
  exact szStr h.1 m0 (by omega) (fun n1 m1 _ _ => szThen (w_szModeS_ok _ h.2.1) m1 (by omega) (fun n2 m2 _ _ => szEnd m2))
def b_l_eTActivity (M : Nat) (l : List TActivity) : Prop := l.length ≤ M ∧ ∀ x ∈ l, bTActivity M x
theorem w_szActivityS_ok (x : List TActivity) (h : b_l_eTActivity 9223372036854775807 x) : SzOk w_szActivityS (b_l_eTActivity 1048576) x := szList (F := w_szActivityS_L1) (sz := w_szActivity) (Q := bTActivity 1048576) x (fun _ _ => rfl) (fun _ _ _ _ => rfl) (fun _ => rfl) h.1 (fun y hy => w_szActivity_ok y (h.2 y hy))
def b_l_eTLink (M : Nat) (l : List TLink) : Prop := l.length ≤ M
theorem w_szLinkS_ok (x : List TLink) (h : b_l_eTLink 9223372036854775807 x) : SzOk w_szLinkS (b_l_eTLink 1048576) x := szFlat x (fun _ => rfl) h
def b_l_eTStep (M : Nat) (l : List TStep) : Prop := l.length ≤ M
theorem w_szStepS_ok (x : List TStep) (h : b_l_eTStep 9223372036854775807 x) : SzOk w_szStepS (b_l_eTStep 1048576) x := szFlat x (fun _ => rfl) h
def b_l_l_int (M : Nat) (l : List (List Int)) : Prop := l.length ≤ M ∧ ∀ x ∈ l, b_l_int M x
theorem w_szIntSS_ok (x : List (List Int)) (h : b_l_l_int 9223372036854775807 x) : SzOk w_szIntSS (b_l_l_int 1048576) x := szList (F := w_szIntSS_L1) (sz := w_szIntS) (Q := b_l_int 1048576) x (fun _ _ => rfl) (fun _ _ _ _ => rfl) (fun _ => rfl) h.1 (fun y hy => w_szIntS_ok y (h.2 y hy))
def bTResource (M : Nat) (x : TResource) : Prop := b_l_eTStep M x.Steps ∧ b_l_l_int M x.Setup ∧  True
theorem w_szResource_ok (x : TResource) (h : bTResource 9223372036854775807 x) : SzOk w_szResource (bTResource 1048576) x := fun n m0 hn => by
  unfold w_szResource bTResource
  unfold bTResource at h
  exact szThen (w_szStepS_ok _ h.1) m0 (by omega) (fun n1 m1 _ _ => szThen (w_szIntSS_ok _ h.2.1) m1 (by omega) (fun n2 m2 _ _ => szEnd m2))
def b_l_eTResource (M : Nat) (l : List TResource) : Prop := l.length ≤ M ∧ ∀ x ∈ l, bTResource M x
theorem w_szResourceS_ok (x : List TResource) (h : b_l_eTResource 9223372036854775807 x) : SzOk w_szResourceS (b_l_eTResource 1048576) x := szList (F := w_szResourceS_L1) (sz := w_szResource) (Q := bTResource 1048576) x (fun _ _ => rfl) (fun _ _ _ _ => rfl) (fun _ => rfl) h.1 (fun y hy => w_szResource_ok y (h.2 y hy))
def bTProject (M : Nat) (x : TProject) : Prop := b_l_eTActivity M x.Activities ∧ b_l_eTLink M x.Links ∧ b_l_eTResource M x.Resources ∧ b_l_int M x.Stocks ∧  True
theorem w_szProject_ok (x : TProject) (h : bTProject 9223372036854775807 x) : SzOk w_szProject (bTProject 1048576) x := fun n m0 hn => by
  unfold w_szProject bTProject
  unfold bTProject at h
  exact szThen (w_szActivityS_ok _ h.1) m0 (by omega) (fun n1 m1 _ _ => szThen (w_szLinkS_ok _ h.2.1) m1 (by omega) (fun n2 m2 _ _ => szThen (w_szResourceS_ok _ h.2.2.1) m2 (by omega) (fun n3 m3 _ _ => szThen (w_szIntS_ok _ h.2.2.2.1) m3 (by omega) (fun n4 m4 _ _ => szEnd m4))))
theorem w_toIntS_eq (x : List Int) (h : b_l_int 1048576 x) : w_toIntS x = some x := fillList (F := w_toIntS_L1) (Q := fun _ => True) (fun _ _ => rfl) (fun x xs z a y hq hy => by simp only [w_toIntS_L1, hy, Option.bind_some]) h (fun _ _ => trivial) rfl
theorem w_toMode_eq (x : TMode) (h : bTMode 1048576 x) : w_toMode x = some x := by
  unfold bTMode at h
  unfold w_toMode
  try simp only [w_toIntS_eq _ (h.1), w_toIntS_eq _ (h.2.1), Option.bind_some]
theorem w_toModeS_eq (x : List TMode) (h : b_l_eTMode 1048576 x) : w_toModeS x = some x := fillList (F := w_toModeS_L1) (Q := bTMode 1048576) (fun _ _ => rfl) (fun x xs z a y hq hy => by simp only [w_toModeS_L1, w_toMode_eq x hq, hy, Option.bind_some]) h.1 h.2 rfl
theorem w_toActivity_eq (x : TActivity) (h : bTActivity 1048576 x) : w_toActivity x = some x := by
  unfold bTActivity at h
  unfold w_toActivity
  try simp only [w_toModeS_eq _ (h.2.1), Option.bind_some]
theorem w_toActivityS_eq (x : List TActivity) (h : b_l_eTActivity 1048576 x) : w_toActivityS x = some x := fillList (F := w_toActivityS_L1) (Q := bTActivity 1048576) (fun _ _ => rfl) (fun x xs z a y hq hy => by simp only [w_toActivityS_L1, w_toActivity_eq x hq, hy, Option.bind_some]) h.1 h.2 rfl
theorem w_toLink_eq (x : TLink) : w_toLink x = some x := by
  unfold w_toLink
  try simp only [Option.bind_some]
theorem w_toLinkS_eq (x : List TLink) (h : b_l_eTLink 1048576 x) : w_toLinkS x = some x := fillList (F := w_toLinkS_L1) (Q := fun _ => True) (fun _ _ => rfl) (fun x xs z a y hq hy => by simp only [w_toLinkS_L1, w_toLink_eq, hy, Option.bind_some]) h (fun _ _ => trivial) rfl
theorem w_toStep_eq (x : TStep) : w_toStep x = some x := by
  unfold w_toStep
  try simp only [Option.bind_some]
theorem w_toStepS_eq (x : List TStep) (h : b_l_eTStep 1048576 x) : w_toStepS x = some x := fillList (F := w_toStepS_L1) (Q := fun _ => True) (fun _ _ => rfl) (fun x xs z a y hq hy => by simp only [w_toStepS_L1, w_toStep_eq, hy, Option.bind_some]) h (fun _ _ => trivial) rfl
theorem w_toIntSS_eq (x : List (List Int)) (h : b_l_l_int 1048576 x) : w_toIntSS x = some x := fillList (F := w_toIntSS_L1) (Q := b_l_int 1048576) (fun _ _ => rfl) (fun x xs z a y hq hy => by simp only [w_toIntSS_L1, w_toIntS_eq x hq, hy, Option.bind_some]) h.1 h.2 rfl
theorem w_toResource_eq (x : TResource) (h : bTResource 1048576 x) : w_toResource x = some x := by
  unfold bTResource at h
  unfold w_toResource
  try simp only [w_toStepS_eq _ (h.1), w_toIntSS_eq _ (h.2.1), Option.bind_some]
theorem w_toResourceS_eq (x : List TResource) (h : b_l_eTResource 1048576 x) : w_toResourceS x = some x := fillList (F := w_toResourceS_L1) (Q := bTResource 1048576) (fun _ _ => rfl) (fun x xs z a y hq hy => by simp only [w_toResourceS_L1, w_toResource_eq x hq, hy, Option.bind_some]) h.1 h.2 rfl
theorem w_toProject_eq (x : TProject) (h : bTProject 1048576 x) : w_toProject x = some x := by
  unfold bTProject at h
  unfold w_toProject
  try simp only [w_toActivityS_eq _ (h.1), w_toLinkS_eq _ (h.2.1), w_toResourceS_eq _ (h.2.2.1), w_toIntS_eq _ (h.2.2.2.1), Option.bind_some]
theorem w_eqIntS_eq (a b : List Int) : w_eqIntS a b = some (decide (a = b)) := eqList (F := w_eqIntS_L1 b) (fun _ => rfl) (fun x xs z y h => by simp only [w_eqIntS_L1, h, Option.bind_some, int_bne]; by_cases hxy : x = y <;> simp [hxy]) rfl
theorem w_eqMode_eq (a b : TMode) : w_eqMode a b = some (decide (a = b)) := by
  obtain ⟨a0, a1, a2⟩ := a
  obtain ⟨b0, b1, b2⟩ := b
  simp only [w_eqMode, w_eqIntS_eq, w_eqIntS_eq, TMode.mk.injEq, Option.bind_some, int_bne, bool_bne, ba_bne]
  by_cases h0 : a0 = b0 <;> by_cases h1 : a1 = b1 <;> by_cases h2 : a2 = b2 <;> simp [h0, h1, h2]
theorem w_eqModeS_eq (a b : List TMode) : w_eqModeS a b = some (decide (a = b)) := eqList (F := w_eqModeS_L1 b) (fun _ => rfl) (fun x xs z y h => by simp only [w_eqModeS_L1, h, Option.bind_some, int_bne, w_eqMode_eq]; by_cases hxy : x = y <;> simp [hxy]) rfl
theorem w_eqActivity_eq (a b : TActivity) : w_eqActivity a b = some (decide (a = b)) := by
  obtain ⟨a0, a1, a2⟩ := a
  obtain ⟨b0, b1, b2⟩ := b
  simp only [w_eqActivity, w_eqModeS_eq, TActivity.mk.injEq, Option.bind_some, int_bne, bool_bne, ba_bne]
  by_cases h0 : a0 = b0 <;> by_cases h1 : a1 = b1 <;> by_cases h2 : a2 = b2 <;> simp [h0, h1, h2]
theorem w_eqActivityS_eq (a b : List TActivity) : w_eqActivityS a b = some (decide (a = b)) := eqList (F := w_eqActivityS_L1 b) (fun _ => rfl) (fun x xs z y h => by simp only [w_eqActivityS_L1, h, Option.bind_some, int_bne, w_eqActivity_eq]; by_cases hxy : x = y <;> simp [hxy]) rfl
theorem w_eqLink_eq (a b : TLink) : w_eqLink a b = some (decide (a = b)) := by
  obtain ⟨a0, a1, a2, a3⟩ := a
  obtain ⟨b0, b1, b2, b3⟩ := b
  simp only [w_eqLink, TLink.mk.injEq, Option.bind_some, int_bne, bool_bne, ba_bne]
  by_cases h0 : a0 = b0 <;> by_cases h1 : a1 = b1 <;> by_cases h2 : a2 = b2 <;> by_cases h3 : a3 = b3 <;> simp [h0, h1, h2, h3]
theorem w_eqLinkS_eq (a b : List TLink) : w_eqLinkS a b = some (decide (a = b)) := eqList (F := w_eqLinkS_L1 b) (fun _ => rfl) (fun x xs z y h => by simp only [w_eqLinkS_L1, h, Option.bind_some, int_bne, w_eqLink_eq]; by_cases hxy : x = y <;> simp [hxy]) rfl
theorem w_eqStep_eq (a b : TStep) : w_eqStep a b = some (decide (a = b)) := by
  obtain ⟨a0, a1⟩ := a
  obtain ⟨b0, b1⟩ := b
  simp only [w_eqStep, TStep.mk.injEq, Option.bind_some, int_bne, bool_bne, ba_bne]
  by_cases h0 : a0 = b0 <;> by_cases h1 : a1 = b1 <;> simp [h0, h1]
theorem w_eqStepS_eq (a b : List TStep) : w_eqStepS a b = some (decide (a = b)) := eqList (F := w_eqStepS_L1 b) (fun _ => rfl) (fun x xs z y h => by simp only [w_eqStepS_L1, h, Option.bind_some, int_bne, w_eqStep_eq]; by_cases hxy : x = y <;> simp [hxy]) rfl
theorem w_eqIntSS_eq (a b : List (List Int)) : w_eqIntSS a b = some (decide (a = b)) := eqList (F := w_eqIntSS_L1 b) (fun _ => rfl) (fun x xs z y h => by simp only [w_eqIntSS_L1, h, Option.bind_some, int_bne, w_eqIntS_eq]; by_cases hxy : x = y <;> simp [hxy]) rfl
theorem w_eqResource_eq (a b : TResource) : w_eqResource a b = some (decide (a = b)) := by
  obtain ⟨a0, a1⟩ := a
  obtain ⟨b0, b1⟩ := b
  simp only [w_eqResource, w_eqStepS_eq, w_eqIntSS_eq, TResource.mk.injEq, Option.bind_some, int_bne, bool_bne, ba_bne]
  by_cases h0 : a0 = b0 <;> by_cases h1 : a1 = b1 <;> simp [h0, h1]
theorem w_eqResourceS_eq (a b : List TResource) : w_eqResourceS a b = some (decide (a = b)) := eqList (F := w_eqResourceS_L1 b) (fun _ => rfl) (fun x xs z y h => by simp only [w_eqResourceS_L1, h, Option.bind_some, int_bne, w_eqResource_eq]; by_cases hxy : x = y <;> simp [hxy]) rfl
theorem w_eqProject_eq (a b : TProject) : w_eqProject a b = some (decide (a = b)) := by
  obtain ⟨a0, a1, a2, a3, a4⟩ := a
  obtain ⟨b0, b1, b2, b3, b4⟩ := b
  simp only [w_eqProject, w_eqActivityS_eq, w_eqLinkS_eq, w_eqResourceS_eq, w_eqIntS_eq, TProject.mk.injEq, Option.bind_some, int_bne, bool_bne, ba_bne]
  by_cases h0 : a0 = b0 <;> by_cases h1 : a1 = b1 <;> by_cases h2 : a2 = b2 <;> by_cases h3 : a3 = b3 <;> by_cases h4 : a4 = b4 <;> simp [h0, h1, h2, h3, h4]
def b_l_eTLiteral (M : Nat) (l : List TLiteral) : Prop := l.length ≤ M
theorem w_szLiteralS_ok (x : List TLiteral) (h : b_l_eTLiteral 9223372036854775807 x) : SzOk w_szLiteralS (b_l_eTLiteral 1048576) x := szFlat x (fun _ => rfl) h
theorem w_toLiteral_eq (x : TLiteral) : w_toLiteral x = some x := by
  unfold w_toLiteral
  try simp only [Option.bind_some]
theorem w_toLiteralS_eq (x : List TLiteral) (h : b_l_eTLiteral 1048576 x) : w_toLiteralS x = some x := fillList (F := w_toLiteralS_L1) (Q := fun _ => True) (fun _ _ => rfl) (fun x xs z a y hq hy => by simp only [w_toLiteralS_L1, w_toLiteral_eq, hy, Option.bind_some]) h (fun _ _ => trivial) rfl
theorem w_eqLiteral_eq (a b : TLiteral) : w_eqLiteral a b = some (decide (a = b)) := by
  obtain ⟨a0, a1, a2⟩ := a
  obtain ⟨b0, b1, b2⟩ := b
  simp only [w_eqLiteral, TLiteral.mk.injEq, Option.bind_some, int_bne, bool_bne, ba_bne]
  by_cases h0 : a0 = b0 <;> by_cases h1 : a1 = b1 <;> by_cases h2 : a2 = b2 <;> simp [h0, h1, h2]
theorem w_eqLiteralS_eq (a b : List TLiteral) : w_eqLiteralS a b = some (decide (a = b)) := eqList (F := w_eqLiteralS_L1 b) (fun _ => rfl) (fun x xs z y h => by simp only [w_eqLiteralS_L1, h, Option.bind_some, int_bne, w_eqLiteral_eq]; by_cases hxy : x = y <;> simp [hxy]) rfl
def bTSchedule (M : Nat) (x : TSchedule) : Prop := b_l_int M x.Starts ∧ b_l_int M x.Modes ∧  True
theorem w_szSchedule_ok (x : TSchedule) (h : bTSchedule 9223372036854775807 x) : SzOk w_szSchedule (bTSchedule 1048576) x := fun n m0 hn => by
  unfold w_szSchedule bTSchedule
  unfold bTSchedule at h
  exact szThen (w_szIntS_ok _ h.1) m0 (by omega) (fun n1 m1 _ _ => szThen (w_szIntS_ok _ h.2.1) m1 (by omega) (fun n2 m2 _ _ => szEnd m2))
def bTPlan (M : Nat) (x : TPlan) : Prop := bTSchedule M x.Schedule ∧ b_l_int M x.Done ∧  True
theorem w_szPlan_ok (x : TPlan) (h : bTPlan 9223372036854775807 x) : SzOk w_szPlan (bTPlan 1048576) x := fun n m0 hn => by
  unfold w_szPlan bTPlan
  unfold bTPlan at h
  exact szThen (w_szSchedule_ok _ h.1) m0 (by omega) (fun n1 m1 _ _ => szThen (w_szIntS_ok _ h.2.1) m1 (by omega) (fun n2 m2 _ _ => szEnd m2))
theorem w_toSchedule_eq (x : TSchedule) (h : bTSchedule 1048576 x) : w_toSchedule x = some x := by
  unfold bTSchedule at h
  unfold w_toSchedule
  try simp only [w_toIntS_eq _ (h.1), w_toIntS_eq _ (h.2.1), Option.bind_some]
theorem w_toPlan_eq (x : TPlan) (h : bTPlan 1048576 x) : w_toPlan x = some x := by
  unfold bTPlan at h
  unfold w_toPlan
  try simp only [w_toSchedule_eq _ (h.1), w_toIntS_eq _ (h.2.1), Option.bind_some]
theorem w_eqSchedule_eq (a b : TSchedule) : w_eqSchedule a b = some (decide (a = b)) := by
  obtain ⟨a0, a1⟩ := a
  obtain ⟨b0, b1⟩ := b
  simp only [w_eqSchedule, w_eqIntS_eq, w_eqIntS_eq, TSchedule.mk.injEq, Option.bind_some, int_bne, bool_bne, ba_bne]
  by_cases h0 : a0 = b0 <;> by_cases h1 : a1 = b1 <;> simp [h0, h1]
theorem w_eqPlan_eq (a b : TPlan) : w_eqPlan a b = some (decide (a = b)) := by
  obtain ⟨a0, a1⟩ := a
  obtain ⟨b0, b1⟩ := b
  simp only [w_eqPlan, w_eqSchedule_eq, w_eqIntS_eq, TPlan.mk.injEq, Option.bind_some, int_bne, bool_bne, ba_bne]
  by_cases h0 : a0 = b0 <;> by_cases h1 : a1 = b1 <;> simp [h0, h1]
def bTDomain (M : Nat) (x : TDomain) : Prop := b_l_int M x.MinStart ∧ b_l_int M x.MaxStart ∧ b_l_l_int M x.Modes ∧  True
theorem w_szDomain_ok (x : TDomain) (h : bTDomain 9223372036854775807 x) : SzOk w_szDomain (bTDomain 1048576) x := fun n m0 hn => by
  unfold w_szDomain bTDomain
  unfold bTDomain at h
  exact szThen (w_szIntS_ok _ h.1) m0 (by omega) (fun n1 m1 _ _ => szThen (w_szIntS_ok _ h.2.1) m1 (by omega) (fun n2 m2 _ _ => szThen (w_szIntSS_ok _ h.2.2.1) m2 (by omega) (fun n3 m3 _ _ => szEnd m3)))
def bTLine (M : Nat) (x : TLine) : Prop := b_l_eTLiteral M x.Clause ∧  True
theorem w_szLine_ok (x : TLine) (h : bTLine 9223372036854775807 x) : SzOk w_szLine (bTLine 1048576) x := fun n m0 hn => by
  unfold w_szLine bTLine
  unfold bTLine at h
  exact szThen (w_szLiteralS_ok _ h.1) m0 (by omega) (fun n1 m1 _ _ => szEnd m1)
def b_l_eTLine (M : Nat) (l : List TLine) : Prop := l.length ≤ M ∧ ∀ x ∈ l, bTLine M x
theorem w_szLineS_ok (x : List TLine) (h : b_l_eTLine 9223372036854775807 x) : SzOk w_szLineS (b_l_eTLine 1048576) x := szList (F := w_szLineS_L1) (sz := w_szLine) (Q := bTLine 1048576) x (fun _ _ => rfl) (fun _ _ _ _ => rfl) (fun _ => rfl) h.1 (fun y hy => w_szLine_ok y (h.2 y hy))
def bTLog (M : Nat) (x : TLog) : Prop := bTProject M x.Project ∧ bTDomain M x.Domain ∧ b_l_eTLiteral M x.Decisions ∧ b_l_eTLine M x.Lines ∧  True
theorem w_szLog_ok (x : TLog) (h : bTLog 9223372036854775807 x) : SzOk w_szLog (bTLog 1048576) x := fun n m0 hn => by
  unfold w_szLog bTLog
  unfold bTLog at h
  exact szThen (w_szProject_ok _ h.1) m0 (by omega) (fun n1 m1 _ _ => szThen (w_szDomain_ok _ h.2.1) m1 (by omega) (fun n2 m2 _ _ => szThen (w_szLiteralS_ok _ h.2.2.1) m2 (by omega) (fun n3 m3 _ _ => szThen (w_szLineS_ok _ h.2.2.2.1) m3 (by omega) (fun n4 m4 _ _ => szEnd m4))))
theorem w_toDomain_eq (x : TDomain) (h : bTDomain 1048576 x) : w_toDomain x = some x := by
  unfold bTDomain at h
  unfold w_toDomain
  try simp only [w_toIntS_eq _ (h.1), w_toIntS_eq _ (h.2.1), w_toIntSS_eq _ (h.2.2.1), Option.bind_some]
theorem w_toRule_eq (x : TRule) : w_toRule x = some x := by
  unfold w_toRule
  try simp only [Option.bind_some]
theorem w_toLine_eq (x : TLine) (h : bTLine 1048576 x) : w_toLine x = some x := by
  unfold bTLine at h
  unfold w_toLine
  try simp only [w_toRule_eq, w_toLiteralS_eq _ (h.1), Option.bind_some]
theorem w_toLineS_eq (x : List TLine) (h : b_l_eTLine 1048576 x) : w_toLineS x = some x := fillList (F := w_toLineS_L1) (Q := bTLine 1048576) (fun _ _ => rfl) (fun x xs z a y hq hy => by simp only [w_toLineS_L1, w_toLine_eq x hq, hy, Option.bind_some]) h.1 h.2 rfl
theorem w_toLog_eq (x : TLog) (h : bTLog 1048576 x) : w_toLog x = some x := by
  unfold bTLog at h
  unfold w_toLog
  try simp only [w_toProject_eq _ (h.1), w_toDomain_eq _ (h.2.1), w_toLiteralS_eq _ (h.2.2.1), w_toLineS_eq _ (h.2.2.2.1), Option.bind_some]
theorem w_eqDomain_eq (a b : TDomain) : w_eqDomain a b = some (decide (a = b)) := by
  obtain ⟨a0, a1, a2⟩ := a
  obtain ⟨b0, b1, b2⟩ := b
  simp only [w_eqDomain, w_eqIntS_eq, w_eqIntS_eq, w_eqIntSS_eq, TDomain.mk.injEq, Option.bind_some, int_bne, bool_bne, ba_bne]
  by_cases h0 : a0 = b0 <;> by_cases h1 : a1 = b1 <;> by_cases h2 : a2 = b2 <;> simp [h0, h1, h2]
theorem w_eqRule_eq (a b : TRule) : w_eqRule a b = some (decide (a = b)) := by
  obtain ⟨a0, a1, a2, a3⟩ := a
  obtain ⟨b0, b1, b2, b3⟩ := b
  simp only [w_eqRule, TRule.mk.injEq, Option.bind_some, int_bne, bool_bne, ba_bne]
  by_cases h0 : a0 = b0 <;> by_cases h1 : a1 = b1 <;> by_cases h2 : a2 = b2 <;> by_cases h3 : a3 = b3 <;> simp [h0, h1, h2, h3]
theorem w_eqLine_eq (a b : TLine) : w_eqLine a b = some (decide (a = b)) := by
  obtain ⟨a0, a1, a2⟩ := a
  obtain ⟨b0, b1, b2⟩ := b
  simp only [w_eqLine, w_eqRule_eq, w_eqLiteralS_eq, TLine.mk.injEq, Option.bind_some, int_bne, bool_bne, ba_bne]
  by_cases h0 : a0 = b0 <;> by_cases h1 : a1 = b1 <;> by_cases h2 : a2 = b2 <;> simp [h0, h1, h2]
theorem w_eqLineS_eq (a b : List TLine) : w_eqLineS a b = some (decide (a = b)) := eqList (F := w_eqLineS_L1 b) (fun _ => rfl) (fun x xs z y h => by simp only [w_eqLineS_L1, h, Option.bind_some, int_bne, w_eqLine_eq]; by_cases hxy : x = y <;> simp [hxy]) rfl
theorem w_eqLog_eq (a b : TLog) : w_eqLog a b = some (decide (a = b)) := by
  obtain ⟨a0, a1, a2, a3⟩ := a
  obtain ⟨b0, b1, b2, b3⟩ := b
  simp only [w_eqLog, w_eqProject_eq, w_eqDomain_eq, w_eqLiteralS_eq, w_eqLineS_eq, TLog.mk.injEq, Option.bind_some, int_bne, bool_bne, ba_bne]
  by_cases h0 : a0 = b0 <;> by_cases h1 : a1 = b1 <;> by_cases h2 : a2 = b2 <;> by_cases h3 : a3 = b3 <;> simp [h0, h1, h2, h3]
theorem TRule_beq (x y : TRule) : (x.Kind == y.Kind && (x.A == y.A && (x.B == y.B && (x.C == y.C && true)))) = decide (x = y) := by
  obtain ⟨x0, x1, x2, x3⟩ := x
  obtain ⟨y0, y1, y2, y3⟩ := y
  simp only [TRule.mk.injEq, int_beq, bool_beq, ba_beq, Bool.and_true, Bool.decide_and]
theorem TLiteral_beq (x y : TLiteral) : (x.Kind == y.Kind && (x.Activity == y.Activity && (x.Value == y.Value && true))) = decide (x = y) := by
  obtain ⟨x0, x1, x2⟩ := x
  obtain ⟨y0, y1, y2⟩ := y
  simp only [TLiteral.mk.injEq, int_beq, bool_beq, ba_beq, Bool.and_true, Bool.decide_and]
theorem TLink_beq (x y : TLink) : (x.From == y.From && (x.To == y.To && (x.FromEnd == y.FromEnd && (x.Lag == y.Lag && true)))) = decide (x = y) := by
  obtain ⟨x0, x1, x2, x3⟩ := x
  obtain ⟨y0, y1, y2, y3⟩ := y
  simp only [TLink.mk.injEq, int_beq, bool_beq, ba_beq, Bool.and_true, Bool.decide_and]
theorem TStep_beq (x y : TStep) : (x.At == y.At && (x.Capacity == y.Capacity && true)) = decide (x = y) := by
  obtain ⟨x0, x1⟩ := x
  obtain ⟨y0, y1⟩ := y
  simp only [TStep.mk.injEq, int_beq, bool_beq, ba_beq, Bool.and_true, Bool.decide_and]
structure Tl01Cur where
  b : List Int
  i : Int
  h : Int
  deriving DecidableEq
abbrev e_u8 (x : Int) : PV := .lit (.int .u8 x)
abbrev e_u64 (x : Int) : PV := .lit (.int .u64 x)
abbrev e_u32 (x : Int) : PV := .lit (.int .u32 x)
def s_IsMachine (b0 : TProject) (b1 : Int) : Option Bool :=
  (s_l01In b1 0 (W ((b0.Resources.length : Int) - 1))).bind fun v1 =>
  Option.bind
  ((bif v1 then
  (idxL b0.Resources b1).bind fun v4 =>
  some (decide (0 < (v4.Setup.length : Int)))
  else
  some false)) fun e2 =>
  some e2
def s_l16Ok (b0 : TProject) (b1 : TDomain) (b2 : Int) (b3 : Int) (b4 : Int) : Option Bool :=
  (s_l14Ok b0 b1).bind fun v1 =>
  Option.bind
  ((bif v1 then
  (s_IsMachine b0 b2).bind fun v4 =>
  (bif v4 then
  (s_l01In b3 0 (W ((b0.Activities.length : Int) - 1))).bind fun v6 =>
  (bif v6 then
  (s_l01In b4 0 (W ((b0.Activities.length : Int) - 1))).bind fun v8 =>
  (bif v8 then
  some (b3 != b4)
  else
  some false)
  else
  some false)
  else
  some false)
  else
  some false)) fun e2 =>
  some e2
def s_l16After (b0 : TProject) (b1 : TDomain) (b2 : Int) (b3 : Int) (b4 : Int) : Option Int :=
  (idxL b1.MinStart b3).bind fun v1 =>
  (s_l14Short b0 b1 b3).bind fun v2 =>
  (idxL b0.Resources b2).bind fun v3 =>
  (idxL b0.Activities b3).bind fun v4 =>
  (idxL v3.Setup v4.Family).bind fun v5 =>
  (idxL b0.Activities b4).bind fun v6 =>
  (idxL v5 v6.Family).bind fun v7 =>
  some (W ((W (v1 + v2)) + v7))
def s_CanPrecede (b0 : TProject) (b1 : TDomain) (b2 : Int) (b3 : Int) (b4 : Int) : Option Bool :=
  (s_l16Ok b0 b1 b2 b3 b4).bind fun v1 =>
  Option.bind
  ((bif v1 then
  (s_l16After b0 b1 b2 b3 b4).bind fun v4 =>
  (idxL b1.MaxStart b4).bind fun v5 =>
  some (decide (v4 ≤ v5))
  else
  some false)) fun e2 =>
  some e2
def i_IsMachine (b0 : TProject) (b1 : Int) : Option Bool :=
  (i_Project_hasResource b0 b1).bind fun v1 =>
  Option.bind
  ((bif v1 then
  (idxL b0.Resources b1).bind fun v4 =>
  some (decide (0 < (v4.Setup.length : Int)))
  else
  some false)) fun e2 =>
  some e2
def i_onMachine (b0 : TProject) (b1 : TDomain) (b2 : Int) : Option Bool :=
  (i_isUsable b0 b1).bind fun v1 =>
  Option.bind
  ((bif v1 then
  (i_IsMachine b0 b2).bind fun v4 =>
  some v4
  else
  some false)) fun e2 =>
  some e2
def i_arePair (b0 : TProject) (b1 : TDomain) (b2 : Int) (b3 : Int) (b4 : Int) : Option Bool :=
  (i_onMachine b0 b1 b2).bind fun v1 =>
  Option.bind
  ((bif v1 then
  (i_Project_hasActivity b0 b3).bind fun v4 =>
  (bif v4 then
  (i_Project_hasActivity b0 b4).bind fun v6 =>
  (bif v6 then
  some (b3 != b4)
  else
  some false)
  else
  some false)
  else
  some false)) fun e2 =>
  some e2
def i_SetupTime (b0 : TProject) (b1 : Int) (b2 : Int) (b3 : Int) : Option Int :=
  (i_IsMachine b0 b1).bind fun v1 =>
  Option.bind
  ((bif (!v1) then
  some true
  else
  (i_ProjectOk b0).bind fun v4 =>
  (bif (!v4) then
  some true
  else
  (i_Project_hasActivity b0 b2).bind fun v6 =>
  (bif (!v6) then
  some true
  else
  (i_Project_hasActivity b0 b3).bind fun v8 =>
  some (!v8))))) fun e2 =>
  (bif e2 then
  some 0
  else
  (idxL b0.Resources b1).bind fun v10 =>
  (idxL b0.Activities b2).bind fun v11 =>
  (idxL v10.Setup v11.Family).bind fun v12 =>
  (idxL b0.Activities b3).bind fun v13 =>
  (idxL v12 v13.Family).bind fun v14 =>
  some v14)
def i_Project_after (b0 : TProject) (b1 : TDomain) (b2 : Int) (b3 : Int) (b4 : Int) : Option Int :=
  (idxL b1.MinStart b3).bind fun v1 =>
  (i_Project_duration b0 b1 b3).bind fun v2 =>
  (i_SetupTime b0 b2 b3 b4).bind fun v3 =>
  some (W ((W (v1 + v2)) + v3))
def i_CanPrecede (b0 : TProject) (b1 : TDomain) (b2 : Int) (b3 : Int) (b4 : Int) : Option Bool :=
  (i_arePair b0 b1 b2 b3 b4).bind fun v1 =>
  Option.bind
  ((bif v1 then
  (i_Project_after b0 b1 b2 b3 b4).bind fun v4 =>
  (idxL b1.MaxStart b4).bind fun v5 =>
  some (decide (v4 ≤ v5))
  else
  some false)) fun e2 =>
  some e2
def w_FnExactCanPrecede (b0 : TProject) (b1 : TDomain) (b2 : Int) (b3 : Int) (b4 : Int) : Option Bool :=
  (w_szProject b0 1048576).bind fun v1 =>
  (bif (decide (v1 < 0)) then
  some true
  else
  (w_szDomain b1 v1).bind fun v3 =>
  (bif (decide (v3 < 0)) then
  some true
  else
  (w_toProject b0).bind fun v5 =>
  (w_toDomain b1).bind fun v6 =>
  (s_CanPrecede v5 v6 b2 b3 b4).bind fun v7 =>
  (w_toProject b0).bind fun v8 =>
  (w_toDomain b1).bind fun v9 =>
  (i_CanPrecede v8 v9 b2 b3 b4).bind fun v10 =>
  (bif (v10 != v7) then
  some false
  else
  (w_toProject b0).bind fun v12 =>
  (w_eqProject v8 v12).bind fun v13 =>
  (bif (!v13) then
  some false
  else
  (w_toDomain b1).bind fun v15 =>
  (w_eqDomain v9 v15).bind fun v16 =>
  (bif (!v16) then
  some false
  else
  some true)))))
def s_l04Least_L1 (b1 : List Int) (b2 : Int) (b3 : Bool) (b4 : Bool) : List TMode → Int → Int → Bool → Option (Int ⊕ Int)
  | [], z8, a9, a10 =>
    some (Sum.inl a9)
  | x11 :: xs12, z8, a9, a10 =>
    (s_SetHas b1 z8).bind fun v14 =>
    (bif (!v14) then
    s_l04Least_L1 b1 b2 b3 b4 xs12 (z8 + 1) a9 a10
    else
    Option.bind
    ((bif b3 then
    some x11.Consumption
    else
    some x11.Usage)) fun p21 =>
    (s_l01In b2 0 (W ((p21.length : Int) - 1))).bind fun v22 =>
    (bif (!v22) then
    some (Sum.inr 0)
    else
    (idxL p21 b2).bind fun v24 =>
    Option.bind
    ((bif b4 then
    some (W (v24 * x11.Duration))
    else
    some v24)) fun p30 =>
    Option.bind
    ((bif (!a10) then
    some true
    else
    some (decide (p30 < a9)))) fun e31 =>
    (bif e31 then
    s_l04Least_L1 b1 b2 b3 b4 xs12 (z8 + 1) p30 true
    else
    s_l04Least_L1 b1 b2 b3 b4 xs12 (z8 + 1) a9 true)))
def s_l04Least (b0 : TActivity) (b1 : List Int) (b2 : Int) (b3 : Bool) (b4 : Bool) : Option Int :=
  sumBind
  (s_l04Least_L1 b1 b2 b3 b4 b0.Modes 0 0 false)
  (fun q35 => some q35) fun p34 =>
  some p34
def s_MinUsage (b0 : TActivity) (b1 : List Int) (b2 : Int) : Option Int :=
  (s_l04Least b0 b1 b2 false false).bind fun v1 =>
  some v1
def s_l14Need (b0 : TProject) (b1 : TDomain) (b2 : Int) (b3 : Int) : Option Int :=
  (idxL b0.Activities b3).bind fun v1 =>
  (idxL b1.Modes b3).bind fun v2 =>
  (s_MinUsage v1 v2 b2).bind fun v3 =>
  some v3
def s_RequiredUsage (b0 : TProject) (b1 : TDomain) (b2 : Int) (b3 : Int) : Option Int :=
  (s_l14Ok b0 b1).bind fun v1 =>
  Option.bind
  ((bif (!v1) then
  some true
  else
  (s_l01In b3 0 (W ((b0.Activities.length : Int) - 1))).bind fun v4 =>
  (bif (!v4) then
  some true
  else
  (s_l01In b2 0 (W ((b0.Resources.length : Int) - 1))).bind fun v6 =>
  some (!v6)))) fun e2 =>
  (bif e2 then
  some 0
  else
  (s_l14Need b0 b1 b2 b3).bind fun v8 =>
  some v8)
def i_element (b0 : List Int) (b1 : Int) : Option (Int × Bool) :=
  (i_within b1 0 (W ((b0.length : Int) - 1))).bind fun v1 =>
  (bif (!v1) then
  some (0, false)
  else
  (idxL b0 b1).bind fun v3 =>
  some (v3, true))
def i_MinUsage_c1 (b0 : TMode) (c1 : Int) : Option (Int × Bool) :=
  (i_element b0.Usage c1).bind fun v1 =>
  some (v1.1, v1.2)
def i_leastOf_L1 (g1 : TMode → Option (Int × Bool)) : List TMode → Int → Int → Option (Int ⊕ Int)
  | [], z8, a9 =>
    some (Sum.inl a9)
  | x10 :: xs11, z8, a9 =>
    (g1 x10).bind fun v13 =>
    (bif (!v13.2) then
    some (Sum.inr 0)
    else
    Option.bind
    ((bif (z8 == 0) then
    some true
    else
    some (decide (v13.1 < a9)))) fun e15 =>
    (bif e15 then
    i_leastOf_L1 g1 xs11 (z8 + 1) v13.1
    else
    i_leastOf_L1 g1 xs11 (z8 + 1) a9))
def i_leastOf (b0 : List TMode) (g1 : TMode → Option (Int × Bool)) : Option Int :=
  sumBind
  (i_leastOf_L1 g1 b0 0 0)
  (fun q19 => some q19) fun p18 =>
  some p18
def i_MinUsage (b0 : TActivity) (b1 : List Int) (b2 : Int) : Option Int :=
  (i_chosen b0 b1).bind fun v1 =>
  (i_leastOf v1 (fun x0 => i_MinUsage_c1 x0 b2)).bind fun v2 =>
  some v2
def i_RequiredUsage (b0 : TProject) (b1 : TDomain) (b2 : Int) (b3 : Int) : Option Int :=
  (i_isUsable b0 b1).bind fun v1 =>
  Option.bind
  ((bif (!v1) then
  some true
  else
  (i_Project_hasActivity b0 b3).bind fun v4 =>
  (bif (!v4) then
  some true
  else
  (i_Project_hasResource b0 b2).bind fun v6 =>
  some (!v6)))) fun e2 =>
  (bif e2 then
  some 0
  else
  (idxL b0.Activities b3).bind fun v8 =>
  (idxL b1.Modes b3).bind fun v9 =>
  (i_MinUsage v8 v9 b2).bind fun v10 =>
  some v10)
def w_FnExactRequiredUsage (b0 : TProject) (b1 : TDomain) (b2 : Int) (b3 : Int) : Option Bool :=
  (w_szProject b0 1048576).bind fun v1 =>
  (bif (decide (v1 < 0)) then
  some true
  else
  (w_szDomain b1 v1).bind fun v3 =>
  (bif (decide (v3 < 0)) then
  some true
  else
  (w_toProject b0).bind fun v5 =>
  (w_toDomain b1).bind fun v6 =>
  (s_RequiredUsage v5 v6 b2 b3).bind fun v7 =>
  (w_toProject b0).bind fun v8 =>
  (w_toDomain b1).bind fun v9 =>
  (i_RequiredUsage v8 v9 b2 b3).bind fun v10 =>
  (bif (v10 != v7) then
  some false
  else
  (w_toProject b0).bind fun v12 =>
  (w_eqProject v8 v12).bind fun v13 =>
  (bif (!v13) then
  some false
  else
  (w_toDomain b1).bind fun v15 =>
  (w_eqDomain v9 v15).bind fun v16 =>
  (bif (!v16) then
  some false
  else
  some true)))))
def s_BothUse (b0 : TProject) (b1 : TDomain) (b2 : Int) (b3 : Int) (b4 : Int) : Option Bool :=
  (s_l16Ok b0 b1 b2 b3 b4).bind fun v1 =>
  Option.bind
  ((bif v1 then
  (s_l14Need b0 b1 b2 b3).bind fun v4 =>
  (bif (decide (0 < v4)) then
  (s_l14Need b0 b1 b2 b4).bind fun v6 =>
  some (decide (0 < v6))
  else
  some false)
  else
  some false)) fun e2 =>
  some e2
def i_BothUse (b0 : TProject) (b1 : TDomain) (b2 : Int) (b3 : Int) (b4 : Int) : Option Bool :=
  (i_arePair b0 b1 b2 b3 b4).bind fun v1 =>
  Option.bind
  ((bif v1 then
  (i_RequiredUsage b0 b1 b2 b3).bind fun v4 =>
  (bif (decide (0 < v4)) then
  (i_RequiredUsage b0 b1 b2 b4).bind fun v6 =>
  some (decide (0 < v6))
  else
  some false)
  else
  some false)) fun e2 =>
  some e2
def w_FnExactBothUse (b0 : TProject) (b1 : TDomain) (b2 : Int) (b3 : Int) (b4 : Int) : Option Bool :=
  (w_szProject b0 1048576).bind fun v1 =>
  (bif (decide (v1 < 0)) then
  some true
  else
  (w_szDomain b1 v1).bind fun v3 =>
  (bif (decide (v3 < 0)) then
  some true
  else
  (w_toProject b0).bind fun v5 =>
  (w_toDomain b1).bind fun v6 =>
  (s_BothUse v5 v6 b2 b3 b4).bind fun v7 =>
  (w_toProject b0).bind fun v8 =>
  (w_toDomain b1).bind fun v9 =>
  (i_BothUse v8 v9 b2 b3 b4).bind fun v10 =>
  (bif (v10 != v7) then
  some false
  else
  (w_toProject b0).bind fun v12 =>
  (w_eqProject v8 v12).bind fun v13 =>
  (bif (!v13) then
  some false
  else
  (w_toDomain b1).bind fun v15 =>
  (w_eqDomain v9 v15).bind fun v16 =>
  (bif (!v16) then
  some false
  else
  some true)))))
def s_l14Use_L1 (b0 : TProject) (b1 : TDomain) (b2 : Int) (b3 : Int) : List TActivity → Int → Int → Option Int
  | [], z8, a9 =>
    some a9
  | x10 :: xs11, z8, a9 =>
    (idxL b1.MaxStart z8).bind fun v13 =>
    Option.bind
    ((bif (decide (v13 ≤ b3)) then
    (idxL b1.MinStart z8).bind fun v16 =>
    (s_l14Short b0 b1 z8).bind fun v17 =>
    some (decide (b3 < (W (v16 + v17))))
    else
    some false)) fun e14 =>
    (bif e14 then
    (s_l14Need b0 b1 b2 z8).bind fun v19 =>
    s_l14Use_L1 b0 b1 b2 b3 xs11 (z8 + 1) (W (a9 + v19))
    else
    s_l14Use_L1 b0 b1 b2 b3 xs11 (z8 + 1) a9)
def s_l14Use (b0 : TProject) (b1 : TDomain) (b2 : Int) (b3 : Int) : Option Int :=
  Option.bind
  (s_l14Use_L1 b0 b1 b2 b3 b0.Activities 0 0) fun p20 =>
  some p20
def s_CompulsoryUsage (b0 : TProject) (b1 : TDomain) (b2 : Int) (b3 : Int) : Option Int :=
  (s_l14Ok b0 b1).bind fun v1 =>
  Option.bind
  ((bif (!v1) then
  some true
  else
  (s_l01In b2 0 (W ((b0.Resources.length : Int) - 1))).bind fun v4 =>
  some (!v4))) fun e2 =>
  (bif e2 then
  some 0
  else
  (s_l14Use b0 b1 b2 b3).bind fun v6 =>
  some v6)
def i_Project_compulsoryUsage_L1 (b0 : TProject) (b1 : TDomain) (b2 : Int) (b3 : Int) : List TActivity → Int → Int → Option Int
  | [], z8, a9 =>
    some a9
  | x10 :: xs11, z8, a9 =>
    (i_Project_compulsory b0 b1 z8).bind fun v13 =>
    Option.bind
    ((bif (decide (v13.1 ≤ b3)) then
    some (decide (b3 < v13.2))
    else
    some false)) fun e14 =>
    (bif e14 then
    (idxL b1.Modes z8).bind fun v17 =>
    (i_MinUsage x10 v17 b2).bind fun v18 =>
    i_Project_compulsoryUsage_L1 b0 b1 b2 b3 xs11 (z8 + 1) (W (a9 + v18))
    else
    i_Project_compulsoryUsage_L1 b0 b1 b2 b3 xs11 (z8 + 1) a9)
def i_Project_compulsoryUsage (b0 : TProject) (b1 : TDomain) (b2 : Int) (b3 : Int) : Option Int :=
  Option.bind
  (i_Project_compulsoryUsage_L1 b0 b1 b2 b3 b0.Activities 0 0) fun p19 =>
  some p19
def i_CompulsoryUsage (b0 : TProject) (b1 : TDomain) (b2 : Int) (b3 : Int) : Option Int :=
  (i_isUsable b0 b1).bind fun v1 =>
  Option.bind
  ((bif (!v1) then
  some true
  else
  (i_Project_hasResource b0 b2).bind fun v4 =>
  some (!v4))) fun e2 =>
  (bif e2 then
  some 0
  else
  (i_Project_compulsoryUsage b0 b1 b2 b3).bind fun v6 =>
  some v6)
def w_FnExactCompulsoryUsage (b0 : TProject) (b1 : TDomain) (b2 : Int) (b3 : Int) : Option Bool :=
  (w_szProject b0 1048576).bind fun v1 =>
  (bif (decide (v1 < 0)) then
  some true
  else
  (w_szDomain b1 v1).bind fun v3 =>
  (bif (decide (v3 < 0)) then
  some true
  else
  (w_toProject b0).bind fun v5 =>
  (w_toDomain b1).bind fun v6 =>
  (s_CompulsoryUsage v5 v6 b2 b3).bind fun v7 =>
  (w_toProject b0).bind fun v8 =>
  (w_toDomain b1).bind fun v9 =>
  (i_CompulsoryUsage v8 v9 b2 b3).bind fun v10 =>
  (bif (v10 != v7) then
  some false
  else
  (w_toProject b0).bind fun v12 =>
  (w_eqProject v8 v12).bind fun v13 =>
  (bif (!v13) then
  some false
  else
  (w_toDomain b1).bind fun v15 =>
  (w_eqDomain v9 v15).bind fun v16 =>
  (bif (!v16) then
  some false
  else
  some true)))))
def s_l15Over_L1 (b0 : TProject) (b1 : TDomain) (b2 : Int) (b3 : Int) (b4 : Int) : List TActivity → Int → Int → Option Int
  | [], z8, a9 =>
    some a9
  | x10 :: xs11, z8, a9 =>
    (s_l15Work b0 b1 z8 b2 b3 b4).bind fun v13 =>
    s_l15Over_L1 b0 b1 b2 b3 b4 xs11 (z8 + 1) (W (a9 + v13))
def s_l15Over (b0 : TProject) (b1 : TDomain) (b2 : Int) (b3 : Int) (b4 : Int) : Option Bool :=
  Option.bind
  (s_l15Over_L1 b0 b1 b2 b3 b4 b0.Activities 0 0) fun p14 =>
  (idxL b0.Resources b2).bind fun v15 =>
  (s_TotalCapacity v15.Steps b3 b4).bind fun v16 =>
  some (decide (v16 < p14))
def s_IsOverworked (b0 : TProject) (b1 : TDomain) (b2 : Int) (b3 : Int) (b4 : Int) : Option Bool :=
  (s_l01In b3 0 60).bind fun v1 =>
  Option.bind
  ((bif (!v1) then
  some true
  else
  (s_l01In b4 0 60).bind fun v4 =>
  (bif (!v4) then
  some true
  else
  some (decide (b4 ≤ b3))))) fun e2 =>
  (bif e2 then
  some false
  else
  (s_l14Ok b0 b1).bind fun v7 =>
  Option.bind
  ((bif v7 then
  (s_l01In b2 0 (W ((b0.Resources.length : Int) - 1))).bind fun v10 =>
  (bif v10 then
  (s_l15Over b0 b1 b2 b3 b4).bind fun v12 =>
  some v12
  else
  some false)
  else
  some false)) fun e8 =>
  some e8)
def i_IsOverworked (b0 : TProject) (b1 : TDomain) (b2 : Int) (b3 : Int) (b4 : Int) : Option Bool :=
  (i_isUsable b0 b1).bind fun v1 =>
  Option.bind
  ((bif (!v1) then
  some true
  else
  (i_Project_hasResource b0 b2).bind fun v4 =>
  (bif (!v4) then
  some true
  else
  (i_isTime b3).bind fun v6 =>
  (bif (!v6) then
  some true
  else
  (i_isTime b4).bind fun v8 =>
  (bif (!v8) then
  some true
  else
  some (decide (b4 ≤ b3))))))) fun e2 =>
  (bif e2 then
  some false
  else
  (i_Project_totalWork b0 b1 b2 b3 b4).bind fun v11 =>
  (idxL b0.Resources b2).bind fun v12 =>
  (i_TotalCapacity v12.Steps b3 b4).bind fun v13 =>
  some (decide (v13 < v11)))
def w_FnExactIsOverworked (b0 : TProject) (b1 : TDomain) (b2 : Int) (b3 : Int) (b4 : Int) : Option Bool :=
  (w_szProject b0 1048576).bind fun v1 =>
  (bif (decide (v1 < 0)) then
  some true
  else
  (w_szDomain b1 v1).bind fun v3 =>
  (bif (decide (v3 < 0)) then
  some true
  else
  (w_toProject b0).bind fun v5 =>
  (w_toDomain b1).bind fun v6 =>
  (s_IsOverworked v5 v6 b2 b3 b4).bind fun v7 =>
  (w_toProject b0).bind fun v8 =>
  (w_toDomain b1).bind fun v9 =>
  (i_IsOverworked v8 v9 b2 b3 b4).bind fun v10 =>
  (bif (v10 != v7) then
  some false
  else
  (w_toProject b0).bind fun v12 =>
  (w_eqProject v8 v12).bind fun v13 =>
  (bif (!v13) then
  some false
  else
  (w_toDomain b1).bind fun v15 =>
  (w_eqDomain v9 v15).bind fun v16 =>
  (bif (!v16) then
  some false
  else
  some true)))))
def s_CompulsoryWork_L1 (b0 : TProject) (b1 : TDomain) (b2 : Int) (b4 : Int) : Nat → Int → Int → Option Int
  | 0, _, _ => none
  | fuel + 1, a11, a12 =>
    (bif (decide (a12 < b4)) then
    (s_CompulsoryUsage b0 b1 b2 a12).bind fun v16 =>
    s_CompulsoryWork_L1 b0 b1 b2 b4 fuel (W (a11 + v16)) (W (a12 + 1))
    else
    some a11)
def s_CompulsoryWork (b0 : TProject) (b1 : TDomain) (b2 : Int) (b3 : Int) (b4 : Int) : Option Int :=
  (s_l01In b3 0 60).bind fun v1 =>
  Option.bind
  ((bif (!v1) then
  some true
  else
  (s_l01In b4 0 60).bind fun v4 =>
  some (!v4))) fun e2 =>
  (bif e2 then
  some 0
  else
  Option.bind
  (s_CompulsoryWork_L1 b0 b1 b2 b4 F0 0 b3) fun p17 =>
  some p17)
def i_CompulsoryWork_L1 (b0 : TProject) (b1 : TDomain) (b2 : Int) (b4 : Int) : Nat → Int → Int → Option Int
  | 0, _, _ => none
  | fuel + 1, a15, a16 =>
    (bif (decide (a16 < b4)) then
    (i_Project_compulsoryUsage b0 b1 b2 a16).bind fun v20 =>
    i_CompulsoryWork_L1 b0 b1 b2 b4 fuel (W (a15 + v20)) (W (a16 + 1))
    else
    some a15)
def i_CompulsoryWork (b0 : TProject) (b1 : TDomain) (b2 : Int) (b3 : Int) (b4 : Int) : Option Int :=
  (i_isUsable b0 b1).bind fun v1 =>
  Option.bind
  ((bif (!v1) then
  some true
  else
  (i_Project_hasResource b0 b2).bind fun v4 =>
  (bif (!v4) then
  some true
  else
  (i_isTime b3).bind fun v6 =>
  (bif (!v6) then
  some true
  else
  (i_isTime b4).bind fun v8 =>
  some (!v8))))) fun e2 =>
  (bif e2 then
  some 0
  else
  Option.bind
  (i_CompulsoryWork_L1 b0 b1 b2 b4 F0 0 b3) fun p21 =>
  some p21)
def w_FnExactCompulsoryWork (b0 : TProject) (b1 : TDomain) (b2 : Int) (b3 : Int) (b4 : Int) : Option Bool :=
  (w_szProject b0 1048576).bind fun v1 =>
  (bif (decide (v1 < 0)) then
  some true
  else
  (w_szDomain b1 v1).bind fun v3 =>
  (bif (decide (v3 < 0)) then
  some true
  else
  (w_toProject b0).bind fun v5 =>
  (w_toDomain b1).bind fun v6 =>
  (s_CompulsoryWork v5 v6 b2 b3 b4).bind fun v7 =>
  (w_toProject b0).bind fun v8 =>
  (w_toDomain b1).bind fun v9 =>
  (i_CompulsoryWork v8 v9 b2 b3 b4).bind fun v10 =>
  (bif (v10 != v7) then
  some false
  else
  (w_toProject b0).bind fun v12 =>
  (w_eqProject v8 v12).bind fun v13 =>
  (bif (!v13) then
  some false
  else
  (w_toDomain b1).bind fun v15 =>
  (w_eqDomain v9 v15).bind fun v16 =>
  (bif (!v16) then
  some false
  else
  some true)))))
def s_MustPrecede (b0 : TProject) (b1 : TDomain) (b2 : Int) (b3 : Int) (b4 : Int) : Option Bool :=
  (s_BothUse b0 b1 b2 b3 b4).bind fun v1 =>
  Option.bind
  ((bif v1 then
  (s_CanPrecede b0 b1 b2 b3 b4).bind fun v4 =>
  (bif v4 then
  (s_CanPrecede b0 b1 b2 b4 b3).bind fun v6 =>
  some (!v6)
  else
  some false)
  else
  some false)) fun e2 =>
  some e2
def i_MustPrecede (b0 : TProject) (b1 : TDomain) (b2 : Int) (b3 : Int) (b4 : Int) : Option Bool :=
  (i_BothUse b0 b1 b2 b3 b4).bind fun v1 =>
  Option.bind
  ((bif v1 then
  (i_CanPrecede b0 b1 b2 b3 b4).bind fun v4 =>
  (bif v4 then
  (i_CanPrecede b0 b1 b2 b4 b3).bind fun v6 =>
  some (!v6)
  else
  some false)
  else
  some false)) fun e2 =>
  some e2
def w_FnExactMustPrecede (b0 : TProject) (b1 : TDomain) (b2 : Int) (b3 : Int) (b4 : Int) : Option Bool :=
  (w_szProject b0 1048576).bind fun v1 =>
  (bif (decide (v1 < 0)) then
  some true
  else
  (w_szDomain b1 v1).bind fun v3 =>
  (bif (decide (v3 < 0)) then
  some true
  else
  (w_toProject b0).bind fun v5 =>
  (w_toDomain b1).bind fun v6 =>
  (s_MustPrecede v5 v6 b2 b3 b4).bind fun v7 =>
  (w_toProject b0).bind fun v8 =>
  (w_toDomain b1).bind fun v9 =>
  (i_MustPrecede v8 v9 b2 b3 b4).bind fun v10 =>
  (bif (v10 != v7) then
  some false
  else
  (w_toProject b0).bind fun v12 =>
  (w_eqProject v8 v12).bind fun v13 =>
  (bif (!v13) then
  some false
  else
  (w_toDomain b1).bind fun v15 =>
  (w_eqDomain v9 v15).bind fun v16 =>
  (bif (!v16) then
  some false
  else
  some true)))))
def s_PairConflict (b0 : TProject) (b1 : TDomain) (b2 : Int) (b3 : Int) (b4 : Int) : Option Bool :=
  (s_BothUse b0 b1 b2 b3 b4).bind fun v1 =>
  Option.bind
  ((bif v1 then
  (s_CanPrecede b0 b1 b2 b3 b4).bind fun v4 =>
  (bif (!v4) then
  (s_CanPrecede b0 b1 b2 b4 b3).bind fun v6 =>
  some (!v6)
  else
  some false)
  else
  some false)) fun e2 =>
  some e2
def i_PairConflict (b0 : TProject) (b1 : TDomain) (b2 : Int) (b3 : Int) (b4 : Int) : Option Bool :=
  (i_BothUse b0 b1 b2 b3 b4).bind fun v1 =>
  Option.bind
  ((bif v1 then
  (i_CanPrecede b0 b1 b2 b3 b4).bind fun v4 =>
  (bif (!v4) then
  (i_CanPrecede b0 b1 b2 b4 b3).bind fun v6 =>
  some (!v6)
  else
  some false)
  else
  some false)) fun e2 =>
  some e2
def w_FnExactPairConflict (b0 : TProject) (b1 : TDomain) (b2 : Int) (b3 : Int) (b4 : Int) : Option Bool :=
  (w_szProject b0 1048576).bind fun v1 =>
  (bif (decide (v1 < 0)) then
  some true
  else
  (w_szDomain b1 v1).bind fun v3 =>
  (bif (decide (v3 < 0)) then
  some true
  else
  (w_toProject b0).bind fun v5 =>
  (w_toDomain b1).bind fun v6 =>
  (s_PairConflict v5 v6 b2 b3 b4).bind fun v7 =>
  (w_toProject b0).bind fun v8 =>
  (w_toDomain b1).bind fun v9 =>
  (i_PairConflict v8 v9 b2 b3 b4).bind fun v10 =>
  (bif (v10 != v7) then
  some false
  else
  (w_toProject b0).bind fun v12 =>
  (w_eqProject v8 v12).bind fun v13 =>
  (bif (!v13) then
  some false
  else
  (w_toDomain b1).bind fun v15 =>
  (w_eqDomain v9 v15).bind fun v16 =>
  (bif (!v16) then
  some false
  else
  some true)))))
def s_EarliestAfter (b0 : TProject) (b1 : TDomain) (b2 : Int) (b3 : Int) (b4 : Int) : Option Int :=
  (s_MustPrecede b0 b1 b2 b3 b4).bind fun v1 =>
  (bif (!v1) then
  some 0
  else
  (s_l16After b0 b1 b2 b3 b4).bind fun v3 =>
  some v3)
def i_EarliestAfter (b0 : TProject) (b1 : TDomain) (b2 : Int) (b3 : Int) (b4 : Int) : Option Int :=
  (i_MustPrecede b0 b1 b2 b3 b4).bind fun v1 =>
  (bif (!v1) then
  some 0
  else
  (i_Project_after b0 b1 b2 b3 b4).bind fun v3 =>
  some v3)
def w_FnExactEarliestAfter (b0 : TProject) (b1 : TDomain) (b2 : Int) (b3 : Int) (b4 : Int) : Option Bool :=
  (w_szProject b0 1048576).bind fun v1 =>
  (bif (decide (v1 < 0)) then
  some true
  else
  (w_szDomain b1 v1).bind fun v3 =>
  (bif (decide (v3 < 0)) then
  some true
  else
  (w_toProject b0).bind fun v5 =>
  (w_toDomain b1).bind fun v6 =>
  (s_EarliestAfter v5 v6 b2 b3 b4).bind fun v7 =>
  (w_toProject b0).bind fun v8 =>
  (w_toDomain b1).bind fun v9 =>
  (i_EarliestAfter v8 v9 b2 b3 b4).bind fun v10 =>
  (bif (v10 != v7) then
  some false
  else
  (w_toProject b0).bind fun v12 =>
  (w_eqProject v8 v12).bind fun v13 =>
  (bif (!v13) then
  some false
  else
  (w_toDomain b1).bind fun v15 =>
  (w_eqDomain v9 v15).bind fun v16 =>
  (bif (!v16) then
  some false
  else
  some true)))))
def s_OverloadTime_L1 (b0 : TProject) (b1 : TDomain) (b2 : Int) : Nat → Int → Option (Unit ⊕ Int)
  | 0, _ => none
  | fuel + 1, a11 =>
    (bif (decide (a11 ≤ 60)) then
    (s_l14Use b0 b1 b2 a11).bind fun v15 =>
    (idxL b0.Resources b2).bind fun v16 =>
    (s_l03At v16.Steps a11).bind fun v17 =>
    (bif (decide (v17 < v15)) then
    some (Sum.inr a11)
    else
    s_OverloadTime_L1 b0 b1 b2 fuel (W (a11 + 1)))
    else
    some (Sum.inl ()))
def s_OverloadTime (b0 : TProject) (b1 : TDomain) (b2 : Int) : Option Int :=
  (s_l14Ok b0 b1).bind fun v1 =>
  Option.bind
  ((bif (!v1) then
  some true
  else
  (s_l01In b2 0 (W ((b0.Resources.length : Int) - 1))).bind fun v4 =>
  some (!v4))) fun e2 =>
  (bif e2 then
  some (-1)
  else
  sumBind
  (s_OverloadTime_L1 b0 b1 b2 F0 0)
  (fun q20 => some q20) fun p19 =>
  some (-1))
def i_OverloadTime_L1 (b0 : TProject) (b1 : TDomain) (b2 : Int) : Nat → Int → Option (Unit ⊕ Int)
  | 0, _ => none
  | fuel + 1, a12 =>
    (bif (decide (a12 < 61)) then
    (i_Project_compulsoryUsage b0 b1 b2 a12).bind fun v16 =>
    (idxL b0.Resources b2).bind fun v17 =>
    (i_capacityAt v17.Steps a12).bind fun v18 =>
    (bif (decide (v18 < v16)) then
    some (Sum.inr a12)
    else
    i_OverloadTime_L1 b0 b1 b2 fuel (W (a12 + 1)))
    else
    some (Sum.inl ()))
def i_OverloadTime (b0 : TProject) (b1 : TDomain) (b2 : Int) : Option Int :=
  (i_isUsable b0 b1).bind fun v1 =>
  Option.bind
  ((bif (!v1) then
  some true
  else
  (i_Project_hasResource b0 b2).bind fun v4 =>
  some (!v4))) fun e2 =>
  (bif e2 then
  some (-1)
  else
  sumBind
  (i_OverloadTime_L1 b0 b1 b2 F0 0)
  (fun q21 => some q21) fun p20 =>
  some (-1))
def w_FnExactOverloadTime (b0 : TProject) (b1 : TDomain) (b2 : Int) : Option Bool :=
  (w_szProject b0 1048576).bind fun v1 =>
  (bif (decide (v1 < 0)) then
  some true
  else
  (w_szDomain b1 v1).bind fun v3 =>
  (bif (decide (v3 < 0)) then
  some true
  else
  (w_toProject b0).bind fun v5 =>
  (w_toDomain b1).bind fun v6 =>
  (s_OverloadTime v5 v6 b2).bind fun v7 =>
  (w_toProject b0).bind fun v8 =>
  (w_toDomain b1).bind fun v9 =>
  (i_OverloadTime v8 v9 b2).bind fun v10 =>
  (bif (v10 != v7) then
  some false
  else
  (w_toProject b0).bind fun v12 =>
  (w_eqProject v8 v12).bind fun v13 =>
  (bif (!v13) then
  some false
  else
  (w_toDomain b1).bind fun v15 =>
  (w_eqDomain v9 v15).bind fun v16 =>
  (bif (!v16) then
  some false
  else
  some true)))))
def s_MachineChain_L2 (b1 : TDomain) (a14 : List Int) (z13 : Int) : Nat → Int → Option Int
  | 0, _ => none
  | fuel + 1, a25 =>
    Option.bind
    ((bif (decide (0 < a25)) then
    (idxL a14 (W (a25 - 1))).bind fun v30 =>
    (idxL b1.MinStart v30).bind fun v31 =>
    (idxL b1.MinStart z13).bind fun v32 =>
    some (decide (v32 < v31))
    else
    some false)) fun e28 =>
    (bif e28 then
    s_MachineChain_L2 b1 a14 z13 fuel (W (a25 - 1))
    else
    some a25)
def s_MachineChain_L1 (b0 : TProject) (b1 : TDomain) (b2 : Int) : List TActivity → Int → (List Int) → Option (List Int)
  | [], z13, a14 =>
    some a14
  | x15 :: xs16, z13, a14 =>
    (s_l14Need b0 b1 b2 z13).bind fun v18 =>
    (bif (v18 == 0) then
    s_MachineChain_L1 b0 b1 b2 xs16 (z13 + 1) a14
    else
    Option.bind
    (s_MachineChain_L2 b1 a14 z13 F0 (a14.length : Int)) fun p34 =>
    (subL a14 0 p34).bind fun v35 =>
    (appL ([] : List Int) v35).bind fun v36 =>
    (appL v36 ([z13] : List Int)).bind fun v37 =>
    (subL a14 p34 (a14.length : Int)).bind fun v38 =>
    (appL v37 v38).bind fun v39 =>
    s_MachineChain_L1 b0 b1 b2 xs16 (z13 + 1) v39)
def s_MachineChain (b0 : TProject) (b1 : TDomain) (b2 : Int) : Option (List Int) :=
  (s_l14Ok b0 b1).bind fun v1 =>
  Option.bind
  ((bif (!v1) then
  some true
  else
  (s_IsMachine b0 b2).bind fun v4 =>
  some (!v4))) fun e2 =>
  (bif e2 then
  some ([] : List Int)
  else
  Option.bind
  (s_MachineChain_L1 b0 b1 b2 b0.Activities 0 ([] : List Int)) fun p40 =>
  some p40)
def s_MachineBound_L2 (b0 : TProject) (b2 : Int) (x15 : Int) : List Int → Int → Int → Option Int
  | [], z26, a27 =>
    some a27
  | x28 :: xs29, z26, a27 =>
    (bif (x28 != x15) then
    (idxL b0.Resources b2).bind fun v32 =>
    (idxL b0.Activities x28).bind fun v33 =>
    (idxL v32.Setup v33.Family).bind fun v34 =>
    (idxL b0.Activities x15).bind fun v35 =>
    (idxL v34 v35.Family).bind fun v36 =>
    (s_l02Min a27 v36).bind fun v37 =>
    s_MachineBound_L2 b0 b2 x15 xs29 (z26 + 1) v37
    else
    s_MachineBound_L2 b0 b2 x15 xs29 (z26 + 1) a27)
def s_MachineBound_L1 (b0 : TProject) (b1 : TDomain) (b2 : Int) (v1 : List Int) : List Int → Int → Int → Int → Option (Int × Int)
  | [], z12, a13, a14 =>
    some (a13, a14)
  | x15 :: xs16, z12, a13, a14 =>
    (s_l14Short b0 b1 x15).bind fun v18 =>
    Option.bind
    (s_MachineBound_L2 b0 b2 x15 v1 0 12) fun p38 =>
    (bif (decide (1 < (v1.length : Int))) then
    (s_l02Max a14 p38).bind fun v40 =>
    s_MachineBound_L1 b0 b1 b2 v1 xs16 (z12 + 1) (W ((W (a13 + v18)) + p38)) v40
    else
    s_MachineBound_L1 b0 b1 b2 v1 xs16 (z12 + 1) (W (a13 + v18)) a14)
def s_MachineBound (b0 : TProject) (b1 : TDomain) (b2 : Int) : Option Int :=
  (s_MachineChain b0 b1 b2).bind fun v1 =>
  (bif ((v1.length : Int) == 0) then
  some 0
  else
  (idxL v1 0).bind fun v3 =>
  (idxL b1.MinStart v3).bind fun v4 =>
  Option.bind
  (s_MachineBound_L1 b0 b1 b2 v1 v1 0 v4 0) fun p41 =>
  some (W (p41.1 - p41.2)))
def i_MachineChain_c1 (b0 : Int) (c1 : TProject) (c2 : TDomain) (c3 : Int) : Option Bool :=
  (i_RequiredUsage c1 c2 c3 b0).bind fun v1 =>
  some (decide (0 < v1))
def i_kept_L1 (g1 : Int → Option Bool) : List Int → Int → (List Int) → Option (List Int)
  | [], z8, a9 =>
    some a9
  | x10 :: xs11, z8, a9 =>
    (g1 x10).bind fun v13 =>
    (bif v13 then
    (appL a9 ([x10] : List Int)).bind fun v15 =>
    i_kept_L1 g1 xs11 (z8 + 1) v15
    else
    i_kept_L1 g1 xs11 (z8 + 1) a9)
def i_kept (b0 : List Int) (g1 : Int → Option Bool) : Option (List Int) :=
  Option.bind
  (i_kept_L1 g1 b0 0 ([] : List Int)) fun p16 =>
  some p16
def i_MachineChain_c2 (b0 : Int) (b1 : Int) (c2 : TDomain) : Option Int :=
  (idxL c2.MinStart b0).bind fun v1 =>
  (idxL c2.MinStart b1).bind fun v2 =>
  (cmp_Compare_int v1 v2).bind fun v3 =>
  some v3
def s_l12Of_L1 (b0 : TProject) : List TActivity → Int → (List Int) → (List Int) → (List (List Int)) → Option ((List Int) × (List Int) × (List (List Int)))
  | [], z8, a9, a10, a11 =>
    some (a9, a10, a11)
  | x12 :: xs13, z8, a9, a10, a11 =>
    (appL a9 ([0] : List Int)).bind fun v15 =>
    (appL a10 ([(W (b0.Deadline - 1))] : List Int)).bind fun v16 =>
    (s_ModeIndexes x12).bind fun v17 =>
    (appL a11 ([v17] : List (List Int))).bind fun v18 =>
    s_l12Of_L1 b0 xs13 (z8 + 1) v15 v16 v18
def s_l12Of (b0 : TProject) : Option TDomain :=
  Option.bind
  (s_l12Of_L1 b0 b0.Activities 0 ([] : List Int) ([] : List Int) ([] : List (List Int))) fun p19 =>
  some (TDomain.mk p19.1 p19.2.1 p19.2.2)
def s_MachineLowerBound_L1 (b0 : TProject) : List TResource → Int → Int → Option Int
  | [], z10, a11 =>
    some a11
  | x12 :: xs13, z10, a11 =>
    (s_l12Of b0).bind fun v15 =>
    (s_MachineBound b0 v15 z10).bind fun v16 =>
    (s_l02Max a11 v16).bind fun v17 =>
    s_MachineLowerBound_L1 b0 xs13 (z10 + 1) v17
def s_MachineLowerBound (b0 : TProject) : Option Int :=
  (s_ProjectOk b0).bind fun v1 =>
  (bif (!v1) then
  some 0
  else
  Option.bind
  (s_MachineLowerBound_L1 b0 b0.Resources 0 0) fun p18 =>
  some p18)
def i_InitialDomain_L1 (b0 : TProject) : List TActivity → Int → (List Int) → (List Int) → (List (List Int)) → Option ((List Int) × (List Int) × (List (List Int)))
  | [], z10, a11, a12, a13 =>
    some (a11, a12, a13)
  | x14 :: xs15, z10, a11, a12, a13 =>
    (appL a11 ([0] : List Int)).bind fun v17 =>
    (appL a12 ([(W (b0.Deadline - 1))] : List Int)).bind fun v18 =>
    (i_ModeIndexes x14).bind fun v19 =>
    (appL a13 ([v19] : List (List Int))).bind fun v20 =>
    i_InitialDomain_L1 b0 xs15 (z10 + 1) v17 v18 v20
def i_InitialDomain (b0 : TProject) : Option TDomain :=
  (i_ProjectOk b0).bind fun v1 =>
  (bif (!v1) then
  some (TDomain.mk ([] : List Int) ([] : List Int) ([] : List (List Int)))
  else
  Option.bind
  (i_InitialDomain_L1 b0 b0.Activities 0 ([] : List Int) ([] : List Int) ([] : List (List Int))) fun p21 =>
  some (TDomain.mk p21.1 p21.2.1 p21.2.2))
def s_RuleOk (b0 : TProject) (b1 : TRule) : Option Bool :=
  (s_ProjectOk b0).bind fun v1 =>
  (bif (!v1) then
  some false
  else
  (bif (b1.Kind == 1) then
  (s_l01In b1.A 0 (W ((b0.Links.length : Int) - 1))).bind fun v4 =>
  Option.bind
  ((bif v4 then
  (bif (b1.B == 0) then
  some (b1.C == 0)
  else
  some false)
  else
  some false)) fun e5 =>
  some e5
  else
  (bif (b1.Kind == 2) then
  (s_l01In b1.A 0 (W ((b0.Activities.length : Int) - 1))).bind fun v9 =>
  Option.bind
  ((bif v9 then
  (bif (b1.B == 0) then
  some (b1.C == 0)
  else
  some false)
  else
  some false)) fun e10 =>
  some e10
  else
  (bif (b1.Kind == 3) then
  (s_l01In b1.A 0 (W ((b0.Resources.length : Int) - 1))).bind fun v14 =>
  Option.bind
  ((bif v14 then
  (s_l01In b1.B 0 60).bind fun v17 =>
  (bif v17 then
  some (b1.C == 0)
  else
  some false)
  else
  some false)) fun e15 =>
  some e15
  else
  (bif (b1.Kind == 4) then
  (s_l01In b1.A 0 (W ((b0.Resources.length : Int) - 1))).bind fun v20 =>
  Option.bind
  ((bif v20 then
  (s_l01In b1.B 0 60).bind fun v23 =>
  (bif v23 then
  (s_l01In b1.C 0 60).bind fun v25 =>
  (bif v25 then
  some (decide (b1.B < b1.C))
  else
  some false)
  else
  some false)
  else
  some false)) fun e21 =>
  some e21
  else
  (bif (b1.Kind == 5) then
  (s_IsMachine b0 b1.A).bind fun v28 =>
  Option.bind
  ((bif v28 then
  (s_l01In b1.B 0 (W ((b0.Activities.length : Int) - 1))).bind fun v31 =>
  (bif v31 then
  (s_l01In b1.C 0 (W ((b0.Activities.length : Int) - 1))).bind fun v33 =>
  (bif v33 then
  some (decide (b1.B < b1.C))
  else
  some false)
  else
  some false)
  else
  some false)) fun e29 =>
  some e29
  else
  (bif (b1.Kind == 6) then
  (s_l01In b1.A 0 (W ((b0.Stocks.length : Int) - 1))).bind fun v36 =>
  Option.bind
  ((bif v36 then
  (bif (b1.B == 0) then
  some (b1.C == 0)
  else
  some false)
  else
  some false)) fun e37 =>
  some e37
  else
  some false)))))))
def s_l16Jam (b0 : TProject) (b1 : TDomain) (b2 : Int) (b3 : Int) (b4 : Int) : Option Bool :=
  (s_l14Need b0 b1 b2 b3).bind fun v1 =>
  Option.bind
  ((bif (decide (0 < v1)) then
  (s_l14Need b0 b1 b2 b4).bind fun v4 =>
  some (decide (0 < v4))
  else
  some false)) fun e2 =>
  Option.bind
  ((bif e2 then
  (s_l16After b0 b1 b2 b3 b4).bind fun v7 =>
  (idxL b1.MaxStart b4).bind fun v8 =>
  (bif (decide (v8 < v7)) then
  (s_l16After b0 b1 b2 b4 b3).bind fun v10 =>
  (idxL b1.MaxStart b3).bind fun v11 =>
  some (decide (v11 < v10))
  else
  some false)
  else
  some false)) fun e5 =>
  some e5
def s_MinConsumption (b0 : TActivity) (b1 : List Int) (b2 : Int) : Option Int :=
  (s_l04Least b0 b1 b2 true false).bind fun v1 =>
  some v1
def s_l17Stock_L1 (b1 : TDomain) (b2 : Int) : List TActivity → Int → Int → Option Int
  | [], z8, a9 =>
    some a9
  | x10 :: xs11, z8, a9 =>
    (idxL b1.Modes z8).bind fun v13 =>
    (s_MinConsumption x10 v13 b2).bind fun v14 =>
    s_l17Stock_L1 b1 b2 xs11 (z8 + 1) (W (a9 + v14))
def s_l17Stock (b0 : TProject) (b1 : TDomain) (b2 : Int) : Option Bool :=
  Option.bind
  (s_l17Stock_L1 b1 b2 b0.Activities 0 0) fun p15 =>
  (idxL b0.Stocks b2).bind fun v16 =>
  some (decide (v16 < p15))
def s_l17Refutes (b0 : TProject) (b1 : TDomain) (b2 : TRule) : Option Bool :=
  (bif (b2.Kind == 1) then
  (idxL b0.Links b2.A).bind fun v2 =>
  (idxL b1.MinStart v2.From).bind fun v3 =>
  Option.bind
  ((bif v2.FromEnd then
  (s_l14Short b0 b1 v2.From).bind fun v9 =>
  some (W ((W (v3 + v2.Lag)) + v9))
  else
  some (W (v3 + v2.Lag)))) fun p10 =>
  (idxL b1.MaxStart v2.To).bind fun v11 =>
  some (decide (v11 < p10))
  else
  (bif (b2.Kind == 2) then
  (idxL b1.MinStart b2.A).bind fun v13 =>
  (s_l14Short b0 b1 b2.A).bind fun v14 =>
  some (decide (b0.Deadline < (W (v13 + v14))))
  else
  (bif (b2.Kind == 3) then
  (s_l14Use b0 b1 b2.A b2.B).bind fun v16 =>
  (idxL b0.Resources b2.A).bind fun v17 =>
  (s_l03At v17.Steps b2.B).bind fun v18 =>
  some (decide (v18 < v16))
  else
  (bif (b2.Kind == 4) then
  (s_l15Over b0 b1 b2.A b2.B b2.C).bind fun v20 =>
  some v20
  else
  (bif (b2.Kind == 5) then
  (s_l16Jam b0 b1 b2.A b2.B b2.C).bind fun v22 =>
  some v22
  else
  (s_l17Stock b0 b1 b2.A).bind fun v23 =>
  some v23)))))
def s_Refutes (b0 : TProject) (b1 : TDomain) (b2 : TRule) : Option Bool :=
  (s_DomainForm b0 b1).bind fun v1 =>
  (bif (!v1) then
  some false
  else
  (s_DomainEmpty b1).bind fun v3 =>
  Option.bind
  ((bif v3 then
  some true
  else
  (s_RuleOk b0 b2).bind fun v6 =>
  (bif v6 then
  (s_l17Refutes b0 b1 b2).bind fun v8 =>
  some v8
  else
  some false))) fun e4 =>
  some e4)
def i_Project_hasStock (b0 : TProject) (b1 : Int) : Option Bool :=
  (i_within b1 0 (W ((b0.Stocks.length : Int) - 1))).bind fun v1 =>
  some v1
def i_RuleOk (b0 : TProject) (b1 : TRule) : Option Bool :=
  (i_ProjectOk b0).bind fun v1 =>
  (bif (!v1) then
  some false
  else
  (bif (b1.Kind == 1) then
  (i_within b1.A 0 (W ((b0.Links.length : Int) - 1))).bind fun v4 =>
  Option.bind
  ((bif v4 then
  (bif (b1.B == 0) then
  some (b1.C == 0)
  else
  some false)
  else
  some false)) fun e5 =>
  some e5
  else
  (bif (b1.Kind == 2) then
  (i_Project_hasActivity b0 b1.A).bind fun v9 =>
  Option.bind
  ((bif v9 then
  (bif (b1.B == 0) then
  some (b1.C == 0)
  else
  some false)
  else
  some false)) fun e10 =>
  some e10
  else
  (bif (b1.Kind == 3) then
  (i_Project_hasResource b0 b1.A).bind fun v14 =>
  Option.bind
  ((bif v14 then
  (i_isTime b1.B).bind fun v17 =>
  (bif v17 then
  some (b1.C == 0)
  else
  some false)
  else
  some false)) fun e15 =>
  some e15
  else
  (bif (b1.Kind == 4) then
  (i_Project_hasResource b0 b1.A).bind fun v20 =>
  Option.bind
  ((bif v20 then
  (i_isTime b1.B).bind fun v23 =>
  (bif v23 then
  (i_isTime b1.C).bind fun v25 =>
  (bif v25 then
  some (decide (b1.B < b1.C))
  else
  some false)
  else
  some false)
  else
  some false)) fun e21 =>
  some e21
  else
  (bif (b1.Kind == 5) then
  (i_IsMachine b0 b1.A).bind fun v28 =>
  Option.bind
  ((bif v28 then
  (i_Project_hasActivity b0 b1.B).bind fun v31 =>
  (bif v31 then
  (i_Project_hasActivity b0 b1.C).bind fun v33 =>
  (bif v33 then
  some (decide (b1.B < b1.C))
  else
  some false)
  else
  some false)
  else
  some false)) fun e29 =>
  some e29
  else
  (bif (b1.Kind == 6) then
  (i_Project_hasStock b0 b1.A).bind fun v36 =>
  Option.bind
  ((bif v36 then
  (bif (b1.B == 0) then
  some (b1.C == 0)
  else
  some false)
  else
  some false)) fun e37 =>
  some e37
  else
  some false)))))))
def i_Project_refutesLink (b0 : TProject) (b1 : TDomain) (b2 : TLink) : Option Bool :=
  (idxL b1.MinStart b2.From).bind fun v1 =>
  Option.bind
  ((bif b2.FromEnd then
  (i_Project_duration b0 b1 b2.From).bind fun v7 =>
  some (W (v1 + v7))
  else
  some v1)) fun p8 =>
  (idxL b1.MaxStart b2.To).bind fun v9 =>
  some (decide (v9 < (W (p8 + b2.Lag))))
def i_MinConsumption_c1 (b0 : TMode) (c1 : Int) : Option (Int × Bool) :=
  (i_element b0.Consumption c1).bind fun v1 =>
  some (v1.1, v1.2)
def i_MinConsumption (b0 : TActivity) (b1 : List Int) (b2 : Int) : Option Int :=
  (i_chosen b0 b1).bind fun v1 =>
  (i_leastOf v1 (fun x0 => i_MinConsumption_c1 x0 b2)).bind fun v2 =>
  some v2
def i_Project_refutesStock_L1 (b1 : TDomain) (b2 : Int) : List TActivity → Int → Int → Option Int
  | [], z8, a9 =>
    some a9
  | x10 :: xs11, z8, a9 =>
    (idxL b1.Modes z8).bind fun v13 =>
    (i_MinConsumption x10 v13 b2).bind fun v14 =>
    i_Project_refutesStock_L1 b1 b2 xs11 (z8 + 1) (W (a9 + v14))
def i_Project_refutesStock (b0 : TProject) (b1 : TDomain) (b2 : Int) : Option Bool :=
  Option.bind
  (i_Project_refutesStock_L1 b1 b2 b0.Activities 0 0) fun p15 =>
  (idxL b0.Stocks b2).bind fun v16 =>
  some (decide (v16 < p15))
def i_Refutes (b0 : TProject) (b1 : TDomain) (b2 : TRule) : Option Bool :=
  (i_DomainForm b0 b1).bind fun v1 =>
  (bif (!v1) then
  some false
  else
  (i_DomainEmpty b1).bind fun v3 =>
  (bif v3 then
  some true
  else
  (i_RuleOk b0 b2).bind fun v5 =>
  (bif (!v5) then
  some false
  else
  (bif (b2.Kind == 1) then
  (idxL b0.Links b2.A).bind fun v8 =>
  (i_Project_refutesLink b0 b1 v8).bind fun v9 =>
  some v9
  else
  (bif (b2.Kind == 2) then
  (idxL b1.MinStart b2.A).bind fun v11 =>
  (i_Project_duration b0 b1 b2.A).bind fun v12 =>
  some (decide (b0.Deadline < (W (v11 + v12))))
  else
  (bif (b2.Kind == 3) then
  (i_Project_compulsoryUsage b0 b1 b2.A b2.B).bind fun v14 =>
  (idxL b0.Resources b2.A).bind fun v15 =>
  (i_capacityAt v15.Steps b2.B).bind fun v16 =>
  some (decide (v16 < v14))
  else
  (bif (b2.Kind == 4) then
  (i_IsOverworked b0 b1 b2.A b2.B b2.C).bind fun v18 =>
  some v18
  else
  (bif (b2.Kind == 5) then
  (i_PairConflict b0 b1 b2.A b2.B b2.C).bind fun v20 =>
  some v20
  else
  (i_Project_refutesStock b0 b1 b2.A).bind fun v21 =>
  some v21))))))))
def w_FnExactRefutes (b0 : TProject) (b1 : TDomain) (b2 : TRule) : Option Bool :=
  (w_szProject b0 1048576).bind fun v1 =>
  (bif (decide (v1 < 0)) then
  some true
  else
  (w_szDomain b1 v1).bind fun v3 =>
  (bif (decide (v3 < 0)) then
  some true
  else
  (w_toProject b0).bind fun v5 =>
  (w_toDomain b1).bind fun v6 =>
  (w_toRule b2).bind fun v7 =>
  (s_Refutes v5 v6 v7).bind fun v8 =>
  (w_toProject b0).bind fun v9 =>
  (w_toDomain b1).bind fun v10 =>
  (w_toRule b2).bind fun v11 =>
  (i_Refutes v9 v10 v11).bind fun v12 =>
  (bif (v12 != v8) then
  some false
  else
  (w_toProject b0).bind fun v14 =>
  (w_eqProject v9 v14).bind fun v15 =>
  (bif (!v15) then
  some false
  else
  (w_toDomain b1).bind fun v17 =>
  (w_eqDomain v10 v17).bind fun v18 =>
  (bif (!v18) then
  some false
  else
  some true)))))
def s_l02Put_L1 (b0 : List Int) (b1 : Int) : Nat → Int → Option Int
  | 0, _ => none
  | fuel + 1, a8 =>
    Option.bind
    ((bif (decide (a8 < (b0.length : Int))) then
    (idxL b0 a8).bind fun v13 =>
    some (decide (v13 < b1))
    else
    some false)) fun e11 =>
    (bif e11 then
    s_l02Put_L1 b0 b1 fuel (W (a8 + 1))
    else
    some a8)
def s_l02Put (b0 : List Int) (b1 : Int) : Option (List Int) :=
  (s_SetHas b0 b1).bind fun v1 =>
  (bif v1 then
  some b0
  else
  Option.bind
  (s_l02Put_L1 b0 b1 F0 0) fun p15 =>
  (subL b0 0 p15).bind fun v16 =>
  (appL ([] : List Int) v16).bind fun v17 =>
  (appL v17 ([b1] : List Int)).bind fun v18 =>
  (subL b0 p15 (b0.length : Int)).bind fun v19 =>
  (appL v18 v19).bind fun v20 =>
  some v20)
def s_SetOf_L1  : List Int → Int → (List Int) → Option (List Int)
  | [], z8, a9 =>
    some a9
  | x10 :: xs11, z8, a9 =>
    (s_l02Put a9 x10).bind fun v13 =>
    s_SetOf_L1 xs11 (z8 + 1) v13
def s_SetOf (b0 : List Int) : Option (List Int) :=
  Option.bind
  (s_SetOf_L1 b0 0 ([] : List Int)) fun p14 =>
  some p14
def s_SetAdd (b0 : List Int) (b1 : Int) : Option (List Int) :=
  (s_SetOf b0).bind fun v1 =>
  (s_l02Put v1 b1).bind fun v2 =>
  some v2
def s_Users_L2 (b1 : Int) (z13 : Int) : List TMode → Int → (List Int) → Option (List Int)
  | [], z25, a26 =>
    some a26
  | x27 :: xs28, z25, a26 =>
    (idxL x27.Usage b1).bind fun v30 =>
    (bif (decide (0 < v30)) then
    (s_SetAdd a26 z13).bind fun v32 =>
    s_Users_L2 b1 z13 xs28 (z25 + 1) v32
    else
    s_Users_L2 b1 z13 xs28 (z25 + 1) a26)
def s_Users_L1 (b1 : Int) : List TActivity → Int → (List Int) → Option (List Int)
  | [], z13, a14 =>
    some a14
  | x15 :: xs16, z13, a14 =>
    Option.bind
    (s_Users_L2 b1 z13 x15.Modes 0 a14) fun p33 =>
    s_Users_L1 b1 xs16 (z13 + 1) p33
def s_Users (b0 : TProject) (b1 : Int) : Option (List Int) :=
  (s_ProjectOk b0).bind fun v1 =>
  Option.bind
  ((bif (!v1) then
  some true
  else
  (s_l01In b1 0 (W ((b0.Resources.length : Int) - 1))).bind fun v4 =>
  some (!v4))) fun e2 =>
  (bif e2 then
  some ([] : List Int)
  else
  Option.bind
  (s_Users_L1 b1 b0.Activities 0 ([] : List Int)) fun p34 =>
  some p34)
def s_RuleActivities (b0 : TProject) (b1 : TRule) : Option (List Int) :=
  (s_RuleOk b0 b1).bind fun v1 =>
  (bif (!v1) then
  some ([] : List Int)
  else
  (bif (b1.Kind == 1) then
  (idxL b0.Links b1.A).bind fun v4 =>
  (s_SetOf ([v4.From, v4.To] : List Int)).bind fun v5 =>
  some v5
  else
  (bif (b1.Kind == 2) then
  some ([b1.A] : List Int)
  else
  (bif (b1.Kind == 5) then
  some ([b1.B, b1.C] : List Int)
  else
  (bif (b1.Kind == 6) then
  (s_IntRange (b0.Activities.length : Int)).bind fun v9 =>
  some v9
  else
  (s_Users b0 b1.A).bind fun v10 =>
  some v10)))))
def s_SetDifference_L1 (b1 : List Int) : List Int → Int → (List Int) → Option (List Int)
  | [], z8, a9 =>
    some a9
  | x10 :: xs11, z8, a9 =>
    (s_SetHas b1 x10).bind fun v13 =>
    (bif (!v13) then
    (appL a9 ([x10] : List Int)).bind fun v15 =>
    s_SetDifference_L1 b1 xs11 (z8 + 1) v15
    else
    s_SetDifference_L1 b1 xs11 (z8 + 1) a9)
def s_SetDifference (b0 : List Int) (b1 : List Int) : Option (List Int) :=
  Option.bind
  (s_SetDifference_L1 b1 b0 0 ([] : List Int)) fun p16 =>
  (s_SetOf p16).bind fun v17 =>
  some v17
def s_PlanRemaining (b0 : TProject) (b1 : TPlan) : Option (List Int) :=
  (s_PlanOk b0 b1).bind fun v1 =>
  (bif (!v1) then
  some ([] : List Int)
  else
  (s_IntRange (b0.Activities.length : Int)).bind fun v3 =>
  (s_SetDifference v3 b1.Done).bind fun v4 =>
  some v4)
def i_SetDifference_c1 (b0 : Int) (c1 : List Int) : Option Bool :=
  (i_SetHas c1 b0).bind fun v1 =>
  some (!v1)
def s_MaxDuration_L1 (b1 : List Int) : List TMode → Int → Int → Bool → Option Int
  | [], z8, a9, a10 =>
    some a9
  | x11 :: xs12, z8, a9, a10 =>
    (s_SetHas b1 z8).bind fun v14 =>
    Option.bind
    ((bif v14 then
    (bif (!a10) then
    some true
    else
    some (decide (a9 < x11.Duration)))
    else
    some false)) fun e15 =>
    (bif e15 then
    s_MaxDuration_L1 b1 xs12 (z8 + 1) x11.Duration true
    else
    s_MaxDuration_L1 b1 xs12 (z8 + 1) a9 a10)
def s_MaxDuration (b0 : TActivity) (b1 : List Int) : Option Int :=
  Option.bind
  (s_MaxDuration_L1 b1 b0.Modes 0 0 false) fun p19 =>
  some p19
def s_Intervals_L1 (b1 : TDomain) : List TActivity → Int → (List Int) → Option (List Int)
  | [], z10, a11 =>
    some a11
  | x12 :: xs13, z10, a11 =>
    (idxL b1.MaxStart z10).bind fun v15 =>
    (idxL b1.Modes z10).bind fun v16 =>
    (s_MaxDuration x12 v16).bind fun v17 =>
    (s_SetAdd a11 (W (v15 + v17))).bind fun v18 =>
    s_Intervals_L1 b1 xs13 (z10 + 1) v18
def s_Intervals_L3 (x30 : Int) : List Int → Int → (List (List Int)) → Option (List (List Int))
  | [], z40, a41 =>
    some a41
  | x42 :: xs43, z40, a41 =>
    Option.bind
    ((bif (decide (x30 < x42)) then
    (s_l01In x30 0 60).bind fun v47 =>
    (bif v47 then
    (s_l01In x42 0 60).bind fun v49 =>
    some v49
    else
    some false)
    else
    some false)) fun e45 =>
    (bif e45 then
    (appL a41 ([([x30, x42] : List Int)] : List (List Int))).bind fun v51 =>
    s_Intervals_L3 x30 xs43 (z40 + 1) v51
    else
    s_Intervals_L3 x30 xs43 (z40 + 1) a41)
def s_Intervals_L2 (p19 : (List Int)) : List Int → Int → (List (List Int)) → Option (List (List Int))
  | [], z28, a29 =>
    some a29
  | x30 :: xs31, z28, a29 =>
    Option.bind
    (s_Intervals_L3 x30 p19 0 a29) fun p52 =>
    s_Intervals_L2 p19 xs31 (z28 + 1) p52
def s_Intervals (b0 : TProject) (b1 : TDomain) : Option (List (List Int)) :=
  (s_l14Ok b0 b1).bind fun v1 =>
  (bif (!v1) then
  some ([] : List (List Int))
  else
  Option.bind
  (s_Intervals_L1 b1 b0.Activities 0 ([] : List Int)) fun p19 =>
  (s_SetOf b1.MinStart).bind fun v20 =>
  Option.bind
  (s_Intervals_L2 p19 v20 0 ([] : List (List Int))) fun p53 =>
  some p53)
def i_MaxDuration_L1  : List TMode → Int → Int → Option Int
  | [], z9, a10 =>
    some a10
  | x11 :: xs12, z9, a10 =>
    Option.bind
    ((bif (z9 == 0) then
    some true
    else
    some (decide (a10 < x11.Duration)))) fun e14 =>
    (bif e14 then
    i_MaxDuration_L1 xs12 (z9 + 1) x11.Duration
    else
    i_MaxDuration_L1 xs12 (z9 + 1) a10)
def i_MaxDuration (b0 : TActivity) (b1 : List Int) : Option Int :=
  (i_chosen b0 b1).bind fun v1 =>
  Option.bind
  (i_MaxDuration_L1 v1 0 0) fun p17 =>
  some p17
def s_l17For_L1  : List TLink → Int → (List TRule) → Option (List TRule)
  | [], z8, a9 =>
    some a9
  | x10 :: xs11, z8, a9 =>
    (appL a9 ([(TRule.mk 1 z8 0 0)] : List TRule)).bind fun v13 =>
    s_l17For_L1 xs11 (z8 + 1) v13
def s_l17For_L2  : List TActivity → Int → (List TRule) → Option (List TRule)
  | [], z22, a23 =>
    some a23
  | x24 :: xs25, z22, a23 =>
    (appL a23 ([(TRule.mk 2 z22 0 0)] : List TRule)).bind fun v27 =>
    s_l17For_L2 xs25 (z22 + 1) v27
def s_l17For_L3  : List Int → Int → (List TRule) → Option (List TRule)
  | [], z36, a37 =>
    some a37
  | x38 :: xs39, z36, a37 =>
    (appL a37 ([(TRule.mk 6 z36 0 0)] : List TRule)).bind fun v41 =>
    s_l17For_L3 xs39 (z36 + 1) v41
def s_l17For_L5  : List TStep → Int → (List Int) → Option (List Int)
  | [], z64, a65 =>
    some a65
  | x66 :: xs67, z64, a65 =>
    (s_SetAdd a65 x66.At).bind fun v69 =>
    s_l17For_L5 xs67 (z64 + 1) v69
def s_l17For_L6 (z52 : Int) : List Int → Int → (List TRule) → Option (List TRule)
  | [], z78, a79 =>
    some a79
  | x80 :: xs81, z78, a79 =>
    (s_l01In x80 0 60).bind fun v83 =>
    (bif v83 then
    (appL a79 ([(TRule.mk 3 z52 x80 0)] : List TRule)).bind fun v85 =>
    s_l17For_L6 z52 xs81 (z78 + 1) v85
    else
    s_l17For_L6 z52 xs81 (z78 + 1) a79)
def s_l17For_L7 (z52 : Int) : List (List Int) → Int → (List TRule) → Option (List TRule)
  | [], z94, a95 =>
    some a95
  | x96 :: xs97, z94, a95 =>
    (idxL x96 0).bind fun v99 =>
    (idxL x96 1).bind fun v100 =>
    (appL a95 ([(TRule.mk 4 z52 v99 v100)] : List TRule)).bind fun v101 =>
    s_l17For_L7 z52 xs97 (z94 + 1) v101
def s_l17For_L4 (v43 : List Int) (v44 : List (List Int)) : List TResource → Int → (List TRule) → Option (List TRule)
  | [], z52, a53 =>
    some a53
  | x54 :: xs55, z52, a53 =>
    Option.bind
    (s_l17For_L5 x54.Steps 0 v43) fun p70 =>
    Option.bind
    (s_l17For_L6 z52 p70 0 a53) fun p86 =>
    Option.bind
    (s_l17For_L7 z52 v44 0 p86) fun p102 =>
    s_l17For_L4 v43 v44 xs55 (z52 + 1) p102
def s_l17For_L10 (b0 : TProject) (z111 : Int) (z123 : Int) : Nat → Int → (List TRule) → Option (List TRule)
  | 0, _, _ => none
  | fuel + 1, a133, a134 =>
    Option.bind
    ((bif (decide (a133 < (b0.Activities.length : Int))) then
    (s_IsMachine b0 z111).bind fun v139 =>
    some v139
    else
    some false)) fun e137 =>
    (bif e137 then
    (appL a134 ([(TRule.mk 5 z111 z123 a133)] : List TRule)).bind fun v141 =>
    s_l17For_L10 b0 z111 z123 fuel (W (a133 + 1)) v141
    else
    some a134)
def s_l17For_L9 (b0 : TProject) (z111 : Int) : List TActivity → Int → (List TRule) → Option (List TRule)
  | [], z123, a124 =>
    some a124
  | x125 :: xs126, z123, a124 =>
    Option.bind
    (s_l17For_L10 b0 z111 z123 F0 (z123 + 1) a124) fun p142 =>
    s_l17For_L9 b0 z111 xs126 (z123 + 1) p142
def s_l17For_L8 (b0 : TProject) : List TResource → Int → (List TRule) → Option (List TRule)
  | [], z111, a112 =>
    some a112
  | x113 :: xs114, z111, a112 =>
    Option.bind
    (s_l17For_L9 b0 z111 b0.Activities 0 a112) fun p143 =>
    s_l17For_L8 b0 xs114 (z111 + 1) p143
def s_l17For (b0 : TProject) (b1 : TDomain) : Option (List TRule) :=
  Option.bind
  (s_l17For_L1 b0.Links 0 ([] : List TRule)) fun p14 =>
  Option.bind
  (s_l17For_L2 b0.Activities 0 p14) fun p28 =>
  Option.bind
  (s_l17For_L3 b0.Stocks 0 p28) fun p42 =>
  (s_SetOf b1.MaxStart).bind fun v43 =>
  (s_Intervals b0 b1).bind fun v44 =>
  Option.bind
  (s_l17For_L4 v43 v44 b0.Resources 0 p42) fun p103 =>
  Option.bind
  (s_l17For_L8 b0 b0.Resources 0 p103) fun p144 =>
  some p144
def s_CandidateRules (b0 : TProject) (b1 : TDomain) : Option (List TRule) :=
  (s_l14Ok b0 b1).bind fun v1 =>
  (bif (!v1) then
  some ([] : List TRule)
  else
  (s_l17For b0 b1).bind fun v3 =>
  some v3)
def i_Project_rules_L1  : List TLink → Int → (List TRule) → Option (List TRule)
  | [], z8, a9 =>
    some a9
  | x10 :: xs11, z8, a9 =>
    (appL a9 ([(TRule.mk 1 z8 0 0)] : List TRule)).bind fun v13 =>
    i_Project_rules_L1 xs11 (z8 + 1) v13
def i_Project_rules_L2  : List TActivity → Int → (List TRule) → Option (List TRule)
  | [], z22, a23 =>
    some a23
  | x24 :: xs25, z22, a23 =>
    (appL a23 ([(TRule.mk 2 z22 0 0)] : List TRule)).bind fun v27 =>
    i_Project_rules_L2 xs25 (z22 + 1) v27
def i_Project_rules_L4 (z36 : Int) : Nat → Int → (List TRule) → Option (List TRule)
  | 0, _, _ => none
  | fuel + 1, a47, a48 =>
    (bif (decide (a47 < 61)) then
    (appL a48 ([(TRule.mk 3 z36 a47 0)] : List TRule)).bind fun v52 =>
    i_Project_rules_L4 z36 fuel (W (a47 + 1)) v52
    else
    some a48)
def i_Project_rules_L3  : List TResource → Int → (List TRule) → Option (List TRule)
  | [], z36, a37 =>
    some a37
  | x38 :: xs39, z36, a37 =>
    Option.bind
    (i_Project_rules_L4 z36 F0 0 a37) fun p53 =>
    i_Project_rules_L3 xs39 (z36 + 1) p53
def i_Project_rules_L7 (b0 : TProject) (z62 : Int) (z74 : Int) : Nat → Int → (List TRule) → Option (List TRule)
  | 0, _, _ => none
  | fuel + 1, a84, a85 =>
    Option.bind
    ((bif (decide (a84 < (b0.Activities.length : Int))) then
    (i_IsMachine b0 z62).bind fun v90 =>
    some v90
    else
    some false)) fun e88 =>
    (bif e88 then
    (appL a85 ([(TRule.mk 5 z62 z74 a84)] : List TRule)).bind fun v92 =>
    i_Project_rules_L7 b0 z62 z74 fuel (W (a84 + 1)) v92
    else
    some a85)
def i_Project_rules_L6 (b0 : TProject) (z62 : Int) : List TActivity → Int → (List TRule) → Option (List TRule)
  | [], z74, a75 =>
    some a75
  | x76 :: xs77, z74, a75 =>
    Option.bind
    (i_Project_rules_L7 b0 z62 z74 F0 (z74 + 1) a75) fun p93 =>
    i_Project_rules_L6 b0 z62 xs77 (z74 + 1) p93
def i_Project_rules_L5 (b0 : TProject) : List TResource → Int → (List TRule) → Option (List TRule)
  | [], z62, a63 =>
    some a63
  | x64 :: xs65, z62, a63 =>
    Option.bind
    (i_Project_rules_L6 b0 z62 b0.Activities 0 a63) fun p94 =>
    i_Project_rules_L5 b0 xs65 (z62 + 1) p94
def i_Project_rules_L8  : List Int → Int → (List TRule) → Option (List TRule)
  | [], z103, a104 =>
    some a104
  | x105 :: xs106, z103, a104 =>
    (appL a104 ([(TRule.mk 6 z103 0 0)] : List TRule)).bind fun v108 =>
    i_Project_rules_L8 xs106 (z103 + 1) v108
def i_Project_rules (b0 : TProject) : Option (List TRule) :=
  Option.bind
  (i_Project_rules_L1 b0.Links 0 ([] : List TRule)) fun p14 =>
  Option.bind
  (i_Project_rules_L2 b0.Activities 0 p14) fun p28 =>
  Option.bind
  (i_Project_rules_L3 b0.Resources 0 p28) fun p54 =>
  Option.bind
  (i_Project_rules_L5 b0 b0.Resources 0 p54) fun p95 =>
  Option.bind
  (i_Project_rules_L8 b0.Stocks 0 p95) fun p109 =>
  some p109
def i_Contains_L1 (b0 : TDomain) (b1 : TSchedule) : List Int → Int → Option (Unit ⊕ Bool)
  | [], z13 =>
    some (Sum.inl ())
  | x14 :: xs15, z13 =>
    (idxL b0.MinStart z13).bind fun v17 =>
    Option.bind
    ((bif (decide (x14 < v17)) then
    some true
    else
    (idxL b0.MaxStart z13).bind fun v20 =>
    (bif (decide (v20 < x14)) then
    some true
    else
    (idxL b0.Modes z13).bind fun v22 =>
    (idxL b1.Modes z13).bind fun v23 =>
    (i_SetHas v22 v23).bind fun v24 =>
    some (!v24)))) fun e18 =>
    (bif e18 then
    some (Sum.inr false)
    else
    i_Contains_L1 b0 b1 xs15 (z13 + 1))
def i_Contains (b0 : TDomain) (b1 : TSchedule) : Option Bool :=
  Option.bind
  ((bif ((b1.Modes.length : Int) != (b1.Starts.length : Int)) then
  some true
  else
  (bif ((b0.MinStart.length : Int) != (b1.Starts.length : Int)) then
  some true
  else
  (bif ((b0.MaxStart.length : Int) != (b1.Starts.length : Int)) then
  some true
  else
  some ((b0.Modes.length : Int) != (b1.Starts.length : Int)))))) fun e1 =>
  (bif e1 then
  some false
  else
  sumBind
  (i_Contains_L1 b0 b1 b1.Starts 0)
  (fun q27 => some q27) fun p26 =>
  some true)
def i_Project_mode (b0 : TProject) (b1 : TSchedule) (b2 : Int) : Option TMode :=
  (idxL b0.Activities b2).bind fun v1 =>
  (idxL b1.Modes b2).bind fun v2 =>
  (idxL v1.Modes v2).bind fun v3 =>
  some v3
def w_heldIntSS_L1  : List (List Int) → Int → Int → Option (Int ⊕ Int)
  | [], z8, a9 =>
    some (Sum.inl a9)
  | x10 :: xs11, z8, a9 =>
    (w_heldIntS x10 a9).bind fun v13 =>
    (bif (decide (v13 < 0)) then
    some (Sum.inr (-1))
    else
    w_heldIntSS_L1 xs11 (z8 + 1) v13)
def w_heldIntSS (b0 : List (List Int)) (b1 : Int) : Option Int :=
  sumBind
  (w_heldIntSS_L1 b0 0 b1)
  (fun q16 => some q16) fun p15 =>
  some p15
def w_eqRuleS_L1 (b1 : List TRule) : List TRule → Int → Option (Unit ⊕ Bool)
  | [], z9 =>
    some (Sum.inl ())
  | x10 :: xs11, z9 =>
    (idxL b1 z9).bind fun v13 =>
    (w_eqRule x10 v13).bind fun v14 =>
    (bif (!v14) then
    some (Sum.inr false)
    else
    w_eqRuleS_L1 b1 xs11 (z9 + 1))
def w_eqRuleS (b0 : List TRule) (b1 : List TRule) : Option Bool :=
  (bif ((b0.length : Int) != (b1.length : Int)) then
  some false
  else
  sumBind
  (w_eqRuleS_L1 b1 b0 0)
  (fun q17 => some q17) fun p16 =>
  some true)
def w_heldRuleS_L1  : List TRule → Int → Int → Option (Int ⊕ Int)
  | [], z8, a9 =>
    some (Sum.inl a9)
  | x10 :: xs11, z8, a9 =>
    (bif (x10.Kind != a9) then
    some (Sum.inr (-1))
    else
    (bif (x10.A != (W (a9 + 1))) then
    some (Sum.inr (-1))
    else
    (bif (x10.B != (W ((W (a9 + 1)) + 1))) then
    some (Sum.inr (-1))
    else
    (bif (x10.C != (W ((W ((W (a9 + 1)) + 1)) + 1))) then
    some (Sum.inr (-1))
    else
    w_heldRuleS_L1 xs11 (z8 + 1) (W ((W ((W ((W (a9 + 1)) + 1)) + 1)) + 1))))))
def w_heldRuleS (b0 : List TRule) (b1 : Int) : Option Int :=
  sumBind
  (w_heldRuleS_L1 b0 0 b1)
  (fun q18 => some q18) fun p17 =>
  some p17
def s_InitialDomain (b0 : TProject) : Option TDomain :=
  (s_ProjectOk b0).bind fun v1 =>
  (bif (!v1) then
  some (TDomain.mk ([] : List Int) ([] : List Int) ([] : List (List Int)))
  else
  (s_l12Of b0).bind fun v3 =>
  some v3)
def s_l12Copy_L1  : List (List Int) → Int → (List (List Int)) → Option (List (List Int))
  | [], z10, a11 =>
    some a11
  | x12 :: xs13, z10, a11 =>
    (appL ([] : List Int) x12).bind fun v15 =>
    (appL a11 ([v15] : List (List Int))).bind fun v16 =>
    s_l12Copy_L1 xs13 (z10 + 1) v16
def s_l12Copy (b0 : TDomain) : Option TDomain :=
  (appL ([] : List Int) b0.MinStart).bind fun v1 =>
  (appL ([] : List Int) b0.MaxStart).bind fun v2 =>
  Option.bind
  (s_l12Copy_L1 b0.Modes 0 ([] : List (List Int))) fun p17 =>
  some (TDomain.mk v1 v2 p17)
def s_l12There (b0 : TDomain) (b1 : Int) : Option Bool :=
  (s_l01In b1 0 (W ((b0.MinStart.length : Int) - 1))).bind fun v1 =>
  Option.bind
  ((bif v1 then
  (s_l01In b1 0 (W ((b0.MaxStart.length : Int) - 1))).bind fun v4 =>
  (bif v4 then
  (s_l01In b1 0 (W ((b0.Modes.length : Int) - 1))).bind fun v6 =>
  some v6
  else
  some false)
  else
  some false)) fun e2 =>
  some e2
def s_l12Brought (b0 : Int) : Option Int :=
  (s_l02Min 62 b0).bind fun v1 =>
  (s_l02Max (-2) v1).bind fun v2 =>
  some v2
def s_MinWork (b0 : TActivity) (b1 : List Int) (b2 : Int) : Option Int :=
  (s_l04Least b0 b1 b2 false true).bind fun v1 =>
  some v1
def i_MinWork_c1 (b0 : TMode) (c1 : Int) : Option (Int × Bool) :=
  (i_element b0.Usage c1).bind fun v1 =>
  some ((W (b0.Duration * v1.1)), v1.2)
def i_MinWork (b0 : TActivity) (b1 : List Int) (b2 : Int) : Option Int :=
  (i_chosen b0 b1).bind fun v1 =>
  (i_leastOf v1 (fun x0 => i_MinWork_c1 x0 b2)).bind fun v2 =>
  some v2
def i_Users_c1 (b0 : TMode) (c1 : Int) : Option Bool :=
  (idxL b0.Usage c1).bind fun v1 =>
  some (decide (0 < v1))
def slices_IndexFunc_Mode_L1 (g1 : TMode → Option Bool) : List TMode → Int → Option (Unit ⊕ Int)
  | [], z8 =>
    some (Sum.inl ())
  | x9 :: xs10, z8 =>
    (g1 x9).bind fun v12 =>
    (bif v12 then
    some (Sum.inr z8)
    else
    slices_IndexFunc_Mode_L1 g1 xs10 (z8 + 1))
def slices_IndexFunc_Mode (b0 : List TMode) (g1 : TMode → Option Bool) : Option Int :=
  sumBind
  (slices_IndexFunc_Mode_L1 g1 b0 0)
  (fun q15 => some q15) fun p14 =>
  some (-1)
def slices_ContainsFunc_Mode (b0 : List TMode) (g1 : TMode → Option Bool) : Option Bool :=
  (slices_IndexFunc_Mode b0 g1).bind fun v1 =>
  some (decide (0 ≤ v1))
def s_PriorityName (b0 : Int) : Option ByteArray :=
  (s_l01In b0 1 4).bind fun v1 =>
  (bif (!v1) then
  some ByteArray.empty
  else
  (idxL ([ByteArray.empty, (⟨#[110, 117, 109, 98, 101, 114]⟩ : ByteArray), (⟨#[108, 97, 116, 101, 115, 116]⟩ : ByteArray), (⟨#[116, 97, 105, 108]⟩ : ByteArray), (⟨#[115, 104, 111, 114, 116, 101, 115, 116]⟩ : ByteArray)] : List ByteArray) b0).bind fun v3 =>
  some v3)
def s_SetIntersection_L1 (b1 : List Int) : List Int → Int → (List Int) → Option (List Int)
  | [], z8, a9 =>
    some a9
  | x10 :: xs11, z8, a9 =>
    (s_SetHas b1 x10).bind fun v13 =>
    (bif v13 then
    (appL a9 ([x10] : List Int)).bind fun v15 =>
    s_SetIntersection_L1 b1 xs11 (z8 + 1) v15
    else
    s_SetIntersection_L1 b1 xs11 (z8 + 1) a9)
def s_SetIntersection (b0 : List Int) (b1 : List Int) : Option (List Int) :=
  Option.bind
  (s_SetIntersection_L1 b1 b0 0 ([] : List Int)) fun p16 =>
  (s_SetOf p16).bind fun v17 =>
  some v17
def s_SetRemove_L1 (b1 : Int) : List Int → Int → (List Int) → Option (List Int)
  | [], z8, a9 =>
    some a9
  | x10 :: xs11, z8, a9 =>
    (bif (x10 != b1) then
    (appL a9 ([x10] : List Int)).bind fun v14 =>
    s_SetRemove_L1 b1 xs11 (z8 + 1) v14
    else
    s_SetRemove_L1 b1 xs11 (z8 + 1) a9)
def s_SetRemove (b0 : List Int) (b1 : Int) : Option (List Int) :=
  Option.bind
  (s_SetRemove_L1 b1 b0 0 ([] : List Int)) fun p15 =>
  some p15
def cmp_Less_int (b0 : Int) (b1 : Int) : Option Bool :=
  (cmp_isNaN_int b0).bind fun v1 =>
  Option.bind
  ((bif v1 then
  (cmp_isNaN_int b1).bind fun v4 =>
  (bif (!v4) then
  some true
  else
  some (decide (b0 < b1)))
  else
  some (decide (b0 < b1)))) fun e2 =>
  some e2
theorem w_eqRuleS_eq (a b : List TRule) : w_eqRuleS a b = some (decide (a = b)) := eqList (F := w_eqRuleS_L1 b) (fun _ => rfl) (fun x xs z y h => by simp only [w_eqRuleS_L1, h, Option.bind_some, int_bne, w_eqRule_eq]; by_cases hxy : x = y <;> simp [hxy]) rfl
theorem decb_int : ∀ p, Val .int p → ∃ x : Int, p = int x ∧ True := fun p h => by obtain ⟨n, e⟩ := dec_int h; exact ⟨n, e, trivial⟩
theorem decb_str : ∀ p, Val .str p → ∃ x : ByteArray, p = str x ∧ b_str 9223372036854775807 x := fun p h => dec_str h
theorem decb_l_int : ∀ p, Val (.slice .int) p → ∃ x : List Int, p = .slice (x.map int) ∧ b_l_int 9223372036854775807 x := fun p h => by
  obtain ⟨l, e, h1, h2⟩ := dec_slice decb_int h
  exact ⟨l, e, h1⟩
theorem decb_TMode : ∀ p, Val (.agg [.int, .slice .int, .slice .int]) p → ∃ x : TMode, p = eTMode x ∧ bTMode 9223372036854775807 x := fun p h => by
  obtain ⟨zs0, rfl, hv0⟩ := h
  obtain ⟨x0, zs1, rfl, h0, hv1⟩ := vals_cons hv0
  obtain ⟨y0, rfl, b0⟩ := decb_int _ h0
  obtain ⟨x1, zs2, rfl, h1, hv2⟩ := vals_cons hv1
  obtain ⟨y1, rfl, b1⟩ := decb_l_int _ h1
  obtain ⟨x2, zs3, rfl, h2, hv3⟩ := vals_cons hv2
  obtain ⟨y2, rfl, b2⟩ := decb_l_int _ h2
  obtain rfl := vals_nil hv3
  exact ⟨⟨y0, y1, y2⟩, rfl, ⟨b1, b2, trivial⟩⟩
theorem decb_l_eTMode : ∀ p, Val (.slice (.agg [.int, .slice .int, .slice .int])) p → ∃ x : List TMode, p = .slice (x.map eTMode) ∧ b_l_eTMode 9223372036854775807 x := fun p h => by
  obtain ⟨l, e, h1, h2⟩ := dec_slice decb_TMode h
  exact ⟨l, e, h1, h2⟩
theorem decb_TActivity : ∀ p, Val (.agg [.str, .int, .slice (.agg [.int, .slice .int, .slice .int])]) p → ∃ x : TActivity, p = eTActivity x ∧ bTActivity 9223372036854775807 x := fun p h => by
  obtain ⟨zs0, rfl, hv0⟩ := h
  obtain ⟨x0, zs1, rfl, h0, hv1⟩ := vals_cons hv0
  obtain ⟨y0, rfl, b0⟩ := decb_str _ h0
  obtain ⟨x1, zs2, rfl, h1, hv2⟩ := vals_cons hv1
  obtain ⟨y1, rfl, b1⟩ := decb_int _ h1
  obtain ⟨x2, zs3, rfl, h2, hv3⟩ := vals_cons hv2
  obtain ⟨y2, rfl, b2⟩ := decb_l_eTMode _ h2
  obtain rfl := vals_nil hv3
  exact ⟨⟨y0, y1, y2⟩, rfl, ⟨b0, b2, trivial⟩⟩
theorem decb_l_eTActivity : ∀ p, Val (.slice (.agg [.str, .int, .slice (.agg [.int, .slice .int, .slice .int])])) p → ∃ x : List TActivity, p = .slice (x.map eTActivity) ∧ b_l_eTActivity 9223372036854775807 x := fun p h => by
  obtain ⟨l, e, h1, h2⟩ := dec_slice decb_TActivity h
  exact ⟨l, e, h1, h2⟩
theorem decb_bool : ∀ p, Val .bool p → ∃ x : Bool, p = bool x ∧ True := fun p h => by obtain ⟨n, e⟩ := dec_bool h; exact ⟨n, e, trivial⟩
theorem decb_TLink : ∀ p, Val (.agg [.int, .int, .bool, .int]) p → ∃ x : TLink, p = eTLink x ∧ True := fun p h => by
  obtain ⟨zs0, rfl, hv0⟩ := h
  obtain ⟨x0, zs1, rfl, h0, hv1⟩ := vals_cons hv0
  obtain ⟨y0, rfl, b0⟩ := decb_int _ h0
  obtain ⟨x1, zs2, rfl, h1, hv2⟩ := vals_cons hv1
  obtain ⟨y1, rfl, b1⟩ := decb_int _ h1
  obtain ⟨x2, zs3, rfl, h2, hv3⟩ := vals_cons hv2
  obtain ⟨y2, rfl, b2⟩ := decb_bool _ h2
  obtain ⟨x3, zs4, rfl, h3, hv4⟩ := vals_cons hv3
  obtain ⟨y3, rfl, b3⟩ := decb_int _ h3
  obtain rfl := vals_nil hv4
  exact ⟨⟨y0, y1, y2, y3⟩, rfl, trivial⟩
theorem decb_l_eTLink : ∀ p, Val (.slice (.agg [.int, .int, .bool, .int])) p → ∃ x : List TLink, p = .slice (x.map eTLink) ∧ b_l_eTLink 9223372036854775807 x := fun p h => by
  obtain ⟨l, e, h1, h2⟩ := dec_slice decb_TLink h
  exact ⟨l, e, h1⟩
theorem decb_TStep : ∀ p, Val (.agg [.int, .int]) p → ∃ x : TStep, p = eTStep x ∧ True := fun p h => by
  obtain ⟨zs0, rfl, hv0⟩ := h
  obtain ⟨x0, zs1, rfl, h0, hv1⟩ := vals_cons hv0
  obtain ⟨y0, rfl, b0⟩ := decb_int _ h0
  obtain ⟨x1, zs2, rfl, h1, hv2⟩ := vals_cons hv1
  obtain ⟨y1, rfl, b1⟩ := decb_int _ h1
  obtain rfl := vals_nil hv2
  exact ⟨⟨y0, y1⟩, rfl, trivial⟩
theorem decb_l_eTStep : ∀ p, Val (.slice (.agg [.int, .int])) p → ∃ x : List TStep, p = .slice (x.map eTStep) ∧ b_l_eTStep 9223372036854775807 x := fun p h => by
  obtain ⟨l, e, h1, h2⟩ := dec_slice decb_TStep h
  exact ⟨l, e, h1⟩
theorem decb_l_l_int : ∀ p, Val (.slice (.slice .int)) p → ∃ x : List (List Int), p = .slice (x.map l_int) ∧ b_l_l_int 9223372036854775807 x := fun p h => by
  obtain ⟨l, e, h1, h2⟩ := dec_slice decb_l_int h
  exact ⟨l, e, h1, h2⟩
theorem decb_TResource : ∀ p, Val (.agg [.slice (.agg [.int, .int]), .slice (.slice .int)]) p → ∃ x : TResource, p = eTResource x ∧ bTResource 9223372036854775807 x := fun p h => by
  obtain ⟨zs0, rfl, hv0⟩ := h
  obtain ⟨x0, zs1, rfl, h0, hv1⟩ := vals_cons hv0
  obtain ⟨y0, rfl, b0⟩ := decb_l_eTStep _ h0
  obtain ⟨x1, zs2, rfl, h1, hv2⟩ := vals_cons hv1
  obtain ⟨y1, rfl, b1⟩ := decb_l_l_int _ h1
  obtain rfl := vals_nil hv2
  exact ⟨⟨y0, y1⟩, rfl, ⟨b0, b1, trivial⟩⟩
theorem decb_l_eTResource : ∀ p, Val (.slice (.agg [.slice (.agg [.int, .int]), .slice (.slice .int)])) p → ∃ x : List TResource, p = .slice (x.map eTResource) ∧ b_l_eTResource 9223372036854775807 x := fun p h => by
  obtain ⟨l, e, h1, h2⟩ := dec_slice decb_TResource h
  exact ⟨l, e, h1, h2⟩
theorem decb_TProject : ∀ p, Val (.agg [.int, .slice (.agg [.str, .int, .slice (.agg [.int, .slice .int, .slice .int])]), .slice (.agg [.int, .int, .bool, .int]), .slice (.agg [.slice (.agg [.int, .int]), .slice (.slice .int)]), .slice .int]) p → ∃ x : TProject, p = eTProject x ∧ bTProject 9223372036854775807 x := fun p h => by
  obtain ⟨zs0, rfl, hv0⟩ := h
  obtain ⟨x0, zs1, rfl, h0, hv1⟩ := vals_cons hv0
  obtain ⟨y0, rfl, b0⟩ := decb_int _ h0
  obtain ⟨x1, zs2, rfl, h1, hv2⟩ := vals_cons hv1
  obtain ⟨y1, rfl, b1⟩ := decb_l_eTActivity _ h1
  obtain ⟨x2, zs3, rfl, h2, hv3⟩ := vals_cons hv2
  obtain ⟨y2, rfl, b2⟩ := decb_l_eTLink _ h2
  obtain ⟨x3, zs4, rfl, h3, hv4⟩ := vals_cons hv3
  obtain ⟨y3, rfl, b3⟩ := decb_l_eTResource _ h3
  obtain ⟨x4, zs5, rfl, h4, hv5⟩ := vals_cons hv4
  obtain ⟨y4, rfl, b4⟩ := decb_l_int _ h4
  obtain rfl := vals_nil hv5
  exact ⟨⟨y0, y1, y2, y3, y4⟩, rfl, ⟨b1, b2, b3, b4, trivial⟩⟩
theorem decb_TDomain : ∀ p, Val (.agg [.slice .int, .slice .int, .slice (.slice .int)]) p → ∃ x : TDomain, p = eTDomain x ∧ bTDomain 9223372036854775807 x := fun p h => by
  obtain ⟨zs0, rfl, hv0⟩ := h
  obtain ⟨x0, zs1, rfl, h0, hv1⟩ := vals_cons hv0
  obtain ⟨y0, rfl, b0⟩ := decb_l_int _ h0
  obtain ⟨x1, zs2, rfl, h1, hv2⟩ := vals_cons hv1
  obtain ⟨y1, rfl, b1⟩ := decb_l_int _ h1
  obtain ⟨x2, zs3, rfl, h2, hv3⟩ := vals_cons hv2
  obtain ⟨y2, rfl, b2⟩ := decb_l_l_int _ h2
  obtain rfl := vals_nil hv3
  exact ⟨⟨y0, y1, y2⟩, rfl, ⟨b0, b1, b2, trivial⟩⟩
theorem decb_TRule : ∀ p, Val (.agg [.int, .int, .int, .int]) p → ∃ x : TRule, p = eTRule x ∧ True := fun p h => by
  obtain ⟨zs0, rfl, hv0⟩ := h
  obtain ⟨x0, zs1, rfl, h0, hv1⟩ := vals_cons hv0
  obtain ⟨y0, rfl, b0⟩ := decb_int _ h0
  obtain ⟨x1, zs2, rfl, h1, hv2⟩ := vals_cons hv1
  obtain ⟨y1, rfl, b1⟩ := decb_int _ h1
  obtain ⟨x2, zs3, rfl, h2, hv3⟩ := vals_cons hv2
  obtain ⟨y2, rfl, b2⟩ := decb_int _ h2
  obtain ⟨x3, zs4, rfl, h3, hv4⟩ := vals_cons hv3
  obtain ⟨y3, rfl, b3⟩ := decb_int _ h3
  obtain rfl := vals_nil hv4
  exact ⟨⟨y0, y1, y2, y3⟩, rfl, trivial⟩
end Go.Px.YtjncefleglnnjaaGreat
