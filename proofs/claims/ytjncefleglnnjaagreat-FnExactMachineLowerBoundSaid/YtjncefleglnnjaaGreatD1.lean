/-
  PROVED: definitions that say what functions of the program compute. No condition.
-/
import Derived.Test.YtjncefleglnnjaaGreatQ3
namespace Go.Px.YtjncefleglnnjaaGreat
set_option linter.unusedSimpArgs false
set_option linter.unusedVariables false
open Go.Px
structure TMode where
  Duration : Int
  Usage : List Int
  Consumption : List Int
  deriving DecidableEq
structure TActivity where
  Name : ByteArray
  Family : Int
  Modes : List TMode
  deriving DecidableEq
structure TLink where
  From : Int
  To : Int
  FromEnd : Bool
  Lag : Int
  deriving DecidableEq
structure TStep where
  At : Int
  Capacity : Int
  deriving DecidableEq
structure TResource where
  Steps : List TStep
  Setup : List (List Int)
  deriving DecidableEq
structure TProject where
  Deadline : Int
  Activities : List TActivity
  Links : List TLink
  Resources : List TResource
  Stocks : List Int
  deriving DecidableEq
structure TDomain where
  MinStart : List Int
  MaxStart : List Int
  Modes : List (List Int)
  deriving DecidableEq
abbrev eTMode (x : TMode) : PV := .agg [int x.Duration, .slice (x.Usage.map int), .slice (x.Consumption.map int)]
abbrev eTActivity (x : TActivity) : PV := .agg [str x.Name, int x.Family, .slice (x.Modes.map eTMode)]
abbrev eTLink (x : TLink) : PV := .agg [int x.From, int x.To, bool x.FromEnd, int x.Lag]
abbrev eTStep (x : TStep) : PV := .agg [int x.At, int x.Capacity]
abbrev l_int (x : List Int) : PV := .slice (x.map int)
abbrev eTResource (x : TResource) : PV := .agg [.slice (x.Steps.map eTStep), .slice (x.Setup.map l_int)]
abbrev eTProject (x : TProject) : PV := .agg [int x.Deadline, .slice (x.Activities.map eTActivity), .slice (x.Links.map eTLink), .slice (x.Resources.map eTResource), .slice (x.Stocks.map int)]
abbrev eTDomain (x : TDomain) : PV := .agg [.slice (x.MinStart.map int), .slice (x.MaxStart.map int), .slice (x.Modes.map l_int)]
def w_szIntS (b0 : List Int) (b1 : Int) : Option Int :=
  (bif (decide ((W (b1 - (b0.length : Int))) < 0)) then
  some (-1)
  else
  some (W (b1 - (b0.length : Int))))
def w_szMode (b0 : TMode) (b1 : Int) : Option Int :=
  (w_szIntS b0.Usage b1).bind fun v1 =>
  (bif (decide (v1 < 0)) then
  some (-1)
  else
  (w_szIntS b0.Consumption v1).bind fun v3 =>
  (bif (decide (v3 < 0)) then
  some (-1)
  else
  some v3))
def w_szModeS_L1  : List TMode → Int → Int → Option (Int ⊕ Int)
  | [], z9, a10 =>
    some (Sum.inl a10)
  | x11 :: xs12, z9, a10 =>
    (w_szMode x11 a10).bind fun v14 =>
    (bif (decide (v14 < 0)) then
    some (Sum.inr (-1))
    else
    w_szModeS_L1 xs12 (z9 + 1) v14)
def w_szModeS (b0 : List TMode) (b1 : Int) : Option Int :=
  (bif (decide ((W (b1 - (b0.length : Int))) < 0)) then
  some (-1)
  else
  sumBind
  (w_szModeS_L1 b0 0 (W (b1 - (b0.length : Int))))
  (fun q17 => some q17) fun p16 =>
  some p16)
def w_szActivity (b0 : TActivity) (b1 : Int) : Option Int :=
  (bif (decide ((W (b1 - (b0.Name.size : Int))) < 0)) then
  some (-1)
  else
  (w_szModeS b0.Modes (W (b1 - (b0.Name.size : Int)))).bind fun v2 =>
  (bif (decide (v2 < 0)) then
  some (-1)
  else
  some v2))
def w_szActivityS_L1  : List TActivity → Int → Int → Option (Int ⊕ Int)
  | [], z9, a10 =>
    some (Sum.inl a10)
  | x11 :: xs12, z9, a10 =>
    (w_szActivity x11 a10).bind fun v14 =>
    (bif (decide (v14 < 0)) then
    some (Sum.inr (-1))
    else
    w_szActivityS_L1 xs12 (z9 + 1) v14)
def w_szActivityS (b0 : List TActivity) (b1 : Int) : Option Int :=
  (bif (decide ((W (b1 - (b0.length : Int))) < 0)) then
  some (-1)
  else
  sumBind
  (w_szActivityS_L1 b0 0 (W (b1 - (b0.length : Int))))
  (fun q17 => some q17) fun p16 =>
  some p16)
def w_szLinkS (b0 : List TLink) (b1 : Int) : Option Int :=
  (bif (decide ((W (b1 - (b0.length : Int))) < 0)) then
  some (-1)
  else
  some (W (b1 - (b0.length : Int))))
def w_szStepS (b0 : List TStep) (b1 : Int) : Option Int :=
  (bif (decide ((W (b1 - (b0.length : Int))) < 0)) then
  some (-1)
  else
  some (W (b1 - (b0.length : Int))))
def w_szIntSS_L1  : List (List Int) → Int → Int → Option (Int ⊕ Int)
  | [], z9, a10 =>
    some (Sum.inl a10)
  | x11 :: xs12, z9, a10 =>
    (w_szIntS x11 a10).bind fun v14 =>
    (bif (decide (v14 < 0)) then
    some (Sum.inr (-1))
    else
    w_szIntSS_L1 xs12 (z9 + 1) v14)
def w_szIntSS (b0 : List (List Int)) (b1 : Int) : Option Int :=
  (bif (decide ((W (b1 - (b0.length : Int))) < 0)) then
  some (-1)
  else
  sumBind
  (w_szIntSS_L1 b0 0 (W (b1 - (b0.length : Int))))
  (fun q17 => some q17) fun p16 =>
  some p16)
def w_szResource (b0 : TResource) (b1 : Int) : Option Int :=
  (w_szStepS b0.Steps b1).bind fun v1 =>
  (bif (decide (v1 < 0)) then
  some (-1)
  else
  (w_szIntSS b0.Setup v1).bind fun v3 =>
  (bif (decide (v3 < 0)) then
  some (-1)
  else
  some v3))
def w_szResourceS_L1  : List TResource → Int → Int → Option (Int ⊕ Int)
  | [], z9, a10 =>
    some (Sum.inl a10)
  | x11 :: xs12, z9, a10 =>
    (w_szResource x11 a10).bind fun v14 =>
    (bif (decide (v14 < 0)) then
    some (Sum.inr (-1))
    else
    w_szResourceS_L1 xs12 (z9 + 1) v14)
def w_szResourceS (b0 : List TResource) (b1 : Int) : Option Int :=
  (bif (decide ((W (b1 - (b0.length : Int))) < 0)) then
  some (-1)
  else
  sumBind
  (w_szResourceS_L1 b0 0 (W (b1 - (b0.length : Int))))
  (fun q17 => some q17) fun p16 =>
  some p16)
def w_szProject (b0 : TProject) (b1 : Int) : Option Int :=
  (w_szActivityS b0.Activities b1).bind fun v1 =>
  (bif (decide (v1 < 0)) then
  some (-1)
  else
  (w_szLinkS b0.Links v1).bind fun v3 =>
  (bif (decide (v3 < 0)) then
  some (-1)
  else
  (w_szResourceS b0.Resources v3).bind fun v5 =>
  (bif (decide (v5 < 0)) then
  some (-1)
  else
  (w_szIntS b0.Stocks v5).bind fun v7 =>
  (bif (decide (v7 < 0)) then
  some (-1)
  else
  some v7))))
def w_toIntS_L1  : List Int → Int → (List Int) → Option (List Int)
  | [], z9, a10 =>
    some a10
  | x11 :: xs12, z9, a10 =>
    (idxL a10 z9).bind fun v14 =>
    w_toIntS_L1 xs12 (z9 + 1) (setL a10 z9 x11)
def w_toIntS (b0 : List Int) : Option (List Int) :=
  (makeL 0 (b0.length : Int)).bind fun v1 =>
  Option.bind
  (w_toIntS_L1 b0 0 v1) fun p15 =>
  some p15
def w_toMode (b0 : TMode) : Option TMode :=
  (w_toIntS b0.Usage).bind fun v1 =>
  (w_toIntS b0.Consumption).bind fun v2 =>
  some (TMode.mk b0.Duration v1 v2)
def w_toModeS_L1  : List TMode → Int → (List TMode) → Option (List TMode)
  | [], z9, a10 =>
    some a10
  | x11 :: xs12, z9, a10 =>
    (w_toMode x11).bind fun v14 =>
    (idxL a10 z9).bind fun v15 =>
    w_toModeS_L1 xs12 (z9 + 1) (setL a10 z9 v14)
def w_toModeS (b0 : List TMode) : Option (List TMode) :=
  (makeL (TMode.mk 0 [] []) (b0.length : Int)).bind fun v1 =>
  Option.bind
  (w_toModeS_L1 b0 0 v1) fun p16 =>
  some p16
def w_toActivity (b0 : TActivity) : Option TActivity :=
  (w_toModeS b0.Modes).bind fun v1 =>
  some (TActivity.mk b0.Name b0.Family v1)
def w_toActivityS_L1  : List TActivity → Int → (List TActivity) → Option (List TActivity)
  | [], z9, a10 =>
    some a10
  | x11 :: xs12, z9, a10 =>
    (w_toActivity x11).bind fun v14 =>
    (idxL a10 z9).bind fun v15 =>
    w_toActivityS_L1 xs12 (z9 + 1) (setL a10 z9 v14)
def w_toActivityS (b0 : List TActivity) : Option (List TActivity) :=
  (makeL (TActivity.mk ByteArray.empty 0 []) (b0.length : Int)).bind fun v1 =>
  Option.bind
  (w_toActivityS_L1 b0 0 v1) fun p16 =>
  some p16
def w_toLink (b0 : TLink) : Option TLink :=
  some b0
def w_toLinkS_L1  : List TLink → Int → (List TLink) → Option (List TLink)
  | [], z9, a10 =>
    some a10
  | x11 :: xs12, z9, a10 =>
    (w_toLink x11).bind fun v14 =>
    (idxL a10 z9).bind fun v15 =>
    w_toLinkS_L1 xs12 (z9 + 1) (setL a10 z9 v14)
def w_toLinkS (b0 : List TLink) : Option (List TLink) :=
  (makeL (TLink.mk 0 0 false 0) (b0.length : Int)).bind fun v1 =>
  Option.bind
  (w_toLinkS_L1 b0 0 v1) fun p16 =>
  some p16
def w_toStep (b0 : TStep) : Option TStep :=
  some b0
def w_toStepS_L1  : List TStep → Int → (List TStep) → Option (List TStep)
  | [], z9, a10 =>
    some a10
  | x11 :: xs12, z9, a10 =>
    (w_toStep x11).bind fun v14 =>
    (idxL a10 z9).bind fun v15 =>
    w_toStepS_L1 xs12 (z9 + 1) (setL a10 z9 v14)
def w_toStepS (b0 : List TStep) : Option (List TStep) :=
  (makeL (TStep.mk 0 0) (b0.length : Int)).bind fun v1 =>
  Option.bind
  (w_toStepS_L1 b0 0 v1) fun p16 =>
  some p16
def w_toIntSS_L1  : List (List Int) → Int → (List (List Int)) → Option (List (List Int))
  | [], z9, a10 =>
    some a10
  | x11 :: xs12, z9, a10 =>
    (w_toIntS x11).bind fun v14 =>
    (idxL a10 z9).bind fun v15 =>
    w_toIntSS_L1 xs12 (z9 + 1) (setL a10 z9 v14)
def w_toIntSS (b0 : List (List Int)) : Option (List (List Int)) :=
  (makeL ([] : List Int) (b0.length : Int)).bind fun v1 =>
  Option.bind
  (w_toIntSS_L1 b0 0 v1) fun p16 =>
  some p16
def w_toResource (b0 : TResource) : Option TResource :=
  (w_toStepS b0.Steps).bind fun v1 =>
  (w_toIntSS b0.Setup).bind fun v2 =>
  some (TResource.mk v1 v2)
def w_toResourceS_L1  : List TResource → Int → (List TResource) → Option (List TResource)
  | [], z9, a10 =>
    some a10
  | x11 :: xs12, z9, a10 =>
    (w_toResource x11).bind fun v14 =>
    (idxL a10 z9).bind fun v15 =>
    w_toResourceS_L1 xs12 (z9 + 1) (setL a10 z9 v14)
def w_toResourceS (b0 : List TResource) : Option (List TResource) :=
  (makeL (TResource.mk [] []) (b0.length : Int)).bind fun v1 =>
  Option.bind
  (w_toResourceS_L1 b0 0 v1) fun p16 =>
  some p16
def w_toProject (b0 : TProject) : Option TProject :=
  (w_toActivityS b0.Activities).bind fun v1 =>
  (w_toLinkS b0.Links).bind fun v2 =>
  (w_toResourceS b0.Resources).bind fun v3 =>
  (w_toIntS b0.Stocks).bind fun v4 =>
  some (TProject.mk b0.Deadline v1 v2 v3 v4)
def s_l01In (b0 : Int) (b1 : Int) (b2 : Int) : Option Bool :=
  Option.bind
  ((bif (decide (b1 ≤ b0)) then
  some (decide (b0 ≤ b2))
  else
  some false)) fun e1 =>
  some e1
def s_l04Nums_L1  : List Int → Int → Option (Unit ⊕ Bool)
  | [], z8 =>
    some (Sum.inl ())
  | x9 :: xs10, z8 =>
    (s_l01In x9 0 20).bind fun v12 =>
    (bif (!v12) then
    some (Sum.inr false)
    else
    s_l04Nums_L1 xs10 (z8 + 1))
def s_l04Nums (b0 : List Int) (b1 : Int) : Option Bool :=
  sumBind
  (s_l04Nums_L1 b0 0)
  (fun q15 => some q15) fun p14 =>
  some ((b0.length : Int) == b1)
def s_ModeOk (b0 : TMode) (b1 : Int) (b2 : Int) : Option Bool :=
  (s_l01In b0.Duration 1 12).bind fun v1 =>
  Option.bind
  ((bif v1 then
  (s_l04Nums b0.Usage b1).bind fun v4 =>
  (bif v4 then
  (s_l04Nums b0.Consumption b2).bind fun v6 =>
  some v6
  else
  some false)
  else
  some false)) fun e2 =>
  some e2
def s_IsName_L1 (b0 : ByteArray) : Nat → Int → Option (Unit ⊕ Bool)
  | 0, _ => none
  | fuel + 1, a7 =>
    (bif (decide (a7 < (b0.size : Int))) then
    (idxS b0 a7).bind fun v11 =>
    Option.bind
    ((bif (decide (97 ≤ v11)) then
    some (decide (v11 ≤ 122))
    else
    some false)) fun e12 =>
    Option.bind
    ((bif (!e12) then
    (bif (a7 == 0) then
    some true
    else
    (bif (decide (v11 < 48)) then
    some true
    else
    some (decide (57 < v11))))
    else
    some false)) fun e14 =>
    (bif e14 then
    some (Sum.inr false)
    else
    s_IsName_L1 b0 fuel (W (a7 + 1)))
    else
    some (Sum.inl ()))
def s_IsName (b0 : ByteArray) : Option Bool :=
  sumBind
  (s_IsName_L1 b0 F0 0)
  (fun q20 => some q20) fun p19 =>
  (s_l01In (b0.size : Int) 1 8).bind fun v21 =>
  some v21
def s_ActivityOk_L1 (b1 : Int) (b2 : Int) : List TMode → Int → Option (Unit ⊕ Bool)
  | [], z8 =>
    some (Sum.inl ())
  | x9 :: xs10, z8 =>
    (s_ModeOk x9 b1 b2).bind fun v12 =>
    (bif (!v12) then
    some (Sum.inr false)
    else
    s_ActivityOk_L1 b1 b2 xs10 (z8 + 1))
def s_ActivityOk (b0 : TActivity) (b1 : Int) (b2 : Int) : Option Bool :=
  sumBind
  (s_ActivityOk_L1 b1 b2 b0.Modes 0)
  (fun q15 => some q15) fun p14 =>
  (s_IsName b0.Name).bind fun v16 =>
  Option.bind
  ((bif v16 then
  (s_l01In b0.Family 0 3).bind fun v19 =>
  (bif v19 then
  (s_l01In (b0.Modes.length : Int) 1 3).bind fun v21 =>
  some v21
  else
  some false)
  else
  some false)) fun e17 =>
  some e17
def s_ActivityIndex_L1 (b1 : ByteArray) : List TActivity → Int → Option (Unit ⊕ Int)
  | [], z8 =>
    some (Sum.inl ())
  | x9 :: xs10, z8 =>
    (bif (x9.Name == b1) then
    some (Sum.inr z8)
    else
    s_ActivityIndex_L1 b1 xs10 (z8 + 1))
def s_ActivityIndex (b0 : TProject) (b1 : ByteArray) : Option Int :=
  sumBind
  (s_ActivityIndex_L1 b1 b0.Activities 0)
  (fun q14 => some q14) fun p13 =>
  some (-1)
def s_StepsOk_L1 (b0 : List TStep) : List TStep → Int → Option (Unit ⊕ Bool)
  | [], z8 =>
    some (Sum.inl ())
  | x9 :: xs10, z8 =>
    (s_l01In x9.At 0 60).bind fun v12 =>
    Option.bind
    ((bif (!v12) then
    some true
    else
    (s_l01In x9.Capacity 0 20).bind fun v15 =>
    (bif (!v15) then
    some true
    else
    (bif (decide (0 < z8)) then
    (idxL b0 (z8 - 1)).bind fun v18 =>
    some (decide (x9.At ≤ v18.At))
    else
    some false)))) fun e13 =>
    (bif e13 then
    some (Sum.inr false)
    else
    s_StepsOk_L1 b0 xs10 (z8 + 1))
def s_StepsOk (b0 : List TStep) : Option Bool :=
  sumBind
  (s_StepsOk_L1 b0 b0 0)
  (fun q21 => some q21) fun p20 =>
  (s_l01In (b0.length : Int) 1 8).bind fun v22 =>
  Option.bind
  ((bif v22 then
  (idxL b0 0).bind fun v25 =>
  some (v25.At == 0)
  else
  some false)) fun e23 =>
  some e23
def s_ResourceOk_L2  : List Int → Int → Option (Unit ⊕ Bool)
  | [], z20 =>
    some (Sum.inl ())
  | x21 :: xs22, z20 =>
    (s_l01In x21 0 12).bind fun v24 =>
    (bif (!v24) then
    some (Sum.inr false)
    else
    s_ResourceOk_L2 xs22 (z20 + 1))
def s_ResourceOk_L1  : List (List Int) → Int → Option (Unit ⊕ Bool)
  | [], z8 =>
    some (Sum.inl ())
  | x9 :: xs10, z8 =>
    (bif ((x9.length : Int) != 4) then
    some (Sum.inr false)
    else
    sumBind
    (s_ResourceOk_L2 x9 0)
    (fun q27 => some (Sum.inr q27)) fun p26 =>
    s_ResourceOk_L1 xs10 (z8 + 1))
def s_ResourceOk (b0 : TResource) : Option Bool :=
  sumBind
  (s_ResourceOk_L1 b0.Setup 0)
  (fun q29 => some q29) fun p28 =>
  (s_StepsOk b0.Steps).bind fun v30 =>
  Option.bind
  ((bif v30 then
  (bif ((b0.Setup.length : Int) == 0) then
  some true
  else
  some ((b0.Setup.length : Int) == 4))
  else
  some false)) fun e31 =>
  some e31
def s_ProjectOk_L1 (b0 : TProject) : List TActivity → Int → Option (Unit ⊕ Bool)
  | [], z16 =>
    some (Sum.inl ())
  | x17 :: xs18, z16 =>
    (s_ActivityOk x17 (b0.Resources.length : Int) (b0.Stocks.length : Int)).bind fun v20 =>
    Option.bind
    ((bif (!v20) then
    some true
    else
    (s_ActivityIndex b0 x17.Name).bind fun v23 =>
    some (v23 != z16))) fun e21 =>
    (bif e21 then
    some (Sum.inr false)
    else
    s_ProjectOk_L1 b0 xs18 (z16 + 1))
def s_ProjectOk_L2  : List TResource → Int → Option (Unit ⊕ Bool)
  | [], z34 =>
    some (Sum.inl ())
  | x35 :: xs36, z34 =>
    (s_ResourceOk x35).bind fun v38 =>
    (bif (!v38) then
    some (Sum.inr false)
    else
    s_ProjectOk_L2 xs36 (z34 + 1))
def s_ProjectOk_L3  : List Int → Int → Option (Unit ⊕ Bool)
  | [], z49 =>
    some (Sum.inl ())
  | x50 :: xs51, z49 =>
    (s_l01In x50 0 100).bind fun v53 =>
    (bif (!v53) then
    some (Sum.inr false)
    else
    s_ProjectOk_L3 xs51 (z49 + 1))
def s_ProjectOk_L4 (b0 : TProject) : List TLink → Int → Option (Unit ⊕ Bool)
  | [], z64 =>
    some (Sum.inl ())
  | x65 :: xs66, z64 =>
    (s_l01In x65.From 0 (W ((b0.Activities.length : Int) - 1))).bind fun v68 =>
    Option.bind
    ((bif (!v68) then
    some true
    else
    (s_l01In x65.To 0 (W ((b0.Activities.length : Int) - 1))).bind fun v71 =>
    (bif (!v71) then
    some true
    else
    (bif (x65.From == x65.To) then
    some true
    else
    (s_l01In x65.Lag (-60) 60).bind fun v74 =>
    some (!v74))))) fun e69 =>
    (bif e69 then
    some (Sum.inr false)
    else
    s_ProjectOk_L4 b0 xs66 (z64 + 1))
def s_ProjectOk (b0 : TProject) : Option Bool :=
  (s_l01In b0.Deadline 1 60).bind fun v1 =>
  Option.bind
  ((bif (!v1) then
  some true
  else
  (s_l01In (b0.Activities.length : Int) 1 6).bind fun v4 =>
  (bif (!v4) then
  some true
  else
  (bif (decide (3 < (b0.Resources.length : Int))) then
  some true
  else
  (bif (decide (2 < (b0.Stocks.length : Int))) then
  some true
  else
  some (decide (12 < (b0.Links.length : Int)))))))) fun e2 =>
  (bif e2 then
  some false
  else
  sumBind
  (s_ProjectOk_L1 b0 b0.Activities 0)
  (fun q26 => some q26) fun p25 =>
  sumBind
  (s_ProjectOk_L2 b0.Resources 0)
  (fun q41 => some q41) fun p40 =>
  sumBind
  (s_ProjectOk_L3 b0.Stocks 0)
  (fun q56 => some q56) fun p55 =>
  sumBind
  (s_ProjectOk_L4 b0 b0.Links 0)
  (fun q77 => some q77) fun p76 =>
  some true)
def i_within (b0 : Int) (b1 : Int) (b2 : Int) : Option Bool :=
  Option.bind
  ((bif (decide (b1 ≤ b0)) then
  some (decide (b0 ≤ b2))
  else
  some false)) fun e1 =>
  some e1
def i_isAmount (b0 : Int) : Option Bool :=
  (i_within b0 0 20).bind fun v1 =>
  some v1
def i_areAmounts_L1  : List Int → Int → Option (Unit ⊕ Bool)
  | [], z8 =>
    some (Sum.inl ())
  | x9 :: xs10, z8 =>
    (i_isAmount x9).bind fun v12 =>
    (bif (!v12) then
    some (Sum.inr false)
    else
    i_areAmounts_L1 xs10 (z8 + 1))
def i_areAmounts (b0 : List Int) (b1 : Int) : Option Bool :=
  sumBind
  (i_areAmounts_L1 b0 0)
  (fun q15 => some q15) fun p14 =>
  some ((b0.length : Int) == b1)
def i_ModeOk (b0 : TMode) (b1 : Int) (b2 : Int) : Option Bool :=
  (i_within b0.Duration 1 12).bind fun v1 =>
  Option.bind
  ((bif v1 then
  (i_areAmounts b0.Usage b1).bind fun v4 =>
  (bif v4 then
  (i_areAmounts b0.Consumption b2).bind fun v6 =>
  some v6
  else
  some false)
  else
  some false)) fun e2 =>
  some e2
def i_IsName_L1 (b0 : ByteArray) : Nat → Int → Option (Unit ⊕ Bool)
  | 0, _ => none
  | fuel + 1, a7 =>
    (bif (decide (a7 < (b0.size : Int))) then
    (idxS b0 a7).bind fun v11 =>
    Option.bind
    ((bif (decide (97 ≤ v11)) then
    some (decide (v11 ≤ 122))
    else
    some false)) fun e12 =>
    Option.bind
    ((bif (!e12) then
    (bif (a7 == 0) then
    some true
    else
    (bif (decide (v11 < 48)) then
    some true
    else
    some (decide (57 < v11))))
    else
    some false)) fun e14 =>
    (bif e14 then
    some (Sum.inr false)
    else
    i_IsName_L1 b0 fuel (W (a7 + 1)))
    else
    some (Sum.inl ()))
def i_IsName (b0 : ByteArray) : Option Bool :=
  sumBind
  (i_IsName_L1 b0 F0 0)
  (fun q20 => some q20) fun p19 =>
  (i_within (b0.size : Int) 1 8).bind fun v21 =>
  some v21
def i_ActivityOk_L1 (b1 : Int) (b2 : Int) : List TMode → Int → Option (Unit ⊕ Bool)
  | [], z8 =>
    some (Sum.inl ())
  | x9 :: xs10, z8 =>
    (i_ModeOk x9 b1 b2).bind fun v12 =>
    (bif (!v12) then
    some (Sum.inr false)
    else
    i_ActivityOk_L1 b1 b2 xs10 (z8 + 1))
def i_ActivityOk (b0 : TActivity) (b1 : Int) (b2 : Int) : Option Bool :=
  sumBind
  (i_ActivityOk_L1 b1 b2 b0.Modes 0)
  (fun q15 => some q15) fun p14 =>
  (i_IsName b0.Name).bind fun v16 =>
  Option.bind
  ((bif v16 then
  (i_within b0.Family 0 3).bind fun v19 =>
  (bif v19 then
  (i_within (b0.Modes.length : Int) 1 3).bind fun v21 =>
  some v21
  else
  some false)
  else
  some false)) fun e17 =>
  some e17
def i_ActivityIndex_c1 (b0 : TActivity) (c1 : ByteArray) : Option Bool :=
  some (b0.Name == c1)
def slices_IndexFunc_Activity_L1 (g1 : TActivity → Option Bool) : List TActivity → Int → Option (Unit ⊕ Int)
  | [], z8 =>
    some (Sum.inl ())
  | x9 :: xs10, z8 =>
    (g1 x9).bind fun v12 =>
    (bif v12 then
    some (Sum.inr z8)
    else
    slices_IndexFunc_Activity_L1 g1 xs10 (z8 + 1))
def slices_IndexFunc_Activity (b0 : List TActivity) (g1 : TActivity → Option Bool) : Option Int :=
  sumBind
  (slices_IndexFunc_Activity_L1 g1 b0 0)
  (fun q15 => some q15) fun p14 =>
  some (-1)
def i_ActivityIndex (b0 : TProject) (b1 : ByteArray) : Option Int :=
  (slices_IndexFunc_Activity b0.Activities (fun x0 => i_ActivityIndex_c1 x0 b1)).bind fun v1 =>
  some v1
def i_isTime (b0 : Int) : Option Bool :=
  (i_within b0 0 60).bind fun v1 =>
  some v1
def i_StepsOk_L1 (b0 : List TStep) : List TStep → Int → Option (Unit ⊕ Bool)
  | [], z8 =>
    some (Sum.inl ())
  | x9 :: xs10, z8 =>
    (i_isTime x9.At).bind fun v12 =>
    Option.bind
    ((bif (!v12) then
    some true
    else
    (i_isAmount x9.Capacity).bind fun v15 =>
    (bif (!v15) then
    some true
    else
    (bif (z8 == 0) then
    (bif (x9.At != 0) then
    some true
    else
    (bif (decide (0 < z8)) then
    (idxL b0 (z8 - 1)).bind fun v20 =>
    some (decide (x9.At ≤ v20.At))
    else
    some false))
    else
    (bif (decide (0 < z8)) then
    (idxL b0 (z8 - 1)).bind fun v22 =>
    some (decide (x9.At ≤ v22.At))
    else
    some false))))) fun e13 =>
    (bif e13 then
    some (Sum.inr false)
    else
    i_StepsOk_L1 b0 xs10 (z8 + 1))
def i_StepsOk (b0 : List TStep) : Option Bool :=
  sumBind
  (i_StepsOk_L1 b0 b0 0)
  (fun q25 => some q25) fun p24 =>
  (i_within (b0.length : Int) 1 8).bind fun v26 =>
  some v26
def i_ResourceOk_L2  : List Int → Int → Option (Unit ⊕ Bool)
  | [], z20 =>
    some (Sum.inl ())
  | x21 :: xs22, z20 =>
    (i_within x21 0 12).bind fun v24 =>
    (bif (!v24) then
    some (Sum.inr false)
    else
    i_ResourceOk_L2 xs22 (z20 + 1))
def i_ResourceOk_L1  : List (List Int) → Int → Option (Unit ⊕ Bool)
  | [], z8 =>
    some (Sum.inl ())
  | x9 :: xs10, z8 =>
    (bif ((x9.length : Int) != 4) then
    some (Sum.inr false)
    else
    sumBind
    (i_ResourceOk_L2 x9 0)
    (fun q27 => some (Sum.inr q27)) fun p26 =>
    i_ResourceOk_L1 xs10 (z8 + 1))
def i_ResourceOk (b0 : TResource) : Option Bool :=
  sumBind
  (i_ResourceOk_L1 b0.Setup 0)
  (fun q29 => some q29) fun p28 =>
  (i_StepsOk b0.Steps).bind fun v30 =>
  Option.bind
  ((bif v30 then
  (bif ((b0.Setup.length : Int) == 0) then
  some true
  else
  some ((b0.Setup.length : Int) == 4))
  else
  some false)) fun e31 =>
  some e31
def i_Project_hasActivity (b0 : TProject) (b1 : Int) : Option Bool :=
  (i_within b1 0 (W ((b0.Activities.length : Int) - 1))).bind fun v1 =>
  some v1
def i_Project_linkOk (b0 : TProject) (b1 : TLink) : Option Bool :=
  (i_Project_hasActivity b0 b1.From).bind fun v1 =>
  Option.bind
  ((bif v1 then
  (i_Project_hasActivity b0 b1.To).bind fun v4 =>
  (bif v4 then
  (bif (b1.From != b1.To) then
  (i_within b1.Lag (-60) 60).bind fun v7 =>
  some v7
  else
  some false)
  else
  some false)
  else
  some false)) fun e2 =>
  some e2
def i_ProjectOk_c1 (b0 : TLink) (c1 : TProject) : Option Bool :=
  (i_Project_linkOk c1 b0).bind fun v1 =>
  some (!v1)
def slices_IndexFunc_Link_L1 (g1 : TLink → Option Bool) : List TLink → Int → Option (Unit ⊕ Int)
  | [], z8 =>
    some (Sum.inl ())
  | x9 :: xs10, z8 =>
    (g1 x9).bind fun v12 =>
    (bif v12 then
    some (Sum.inr z8)
    else
    slices_IndexFunc_Link_L1 g1 xs10 (z8 + 1))
def slices_IndexFunc_Link (b0 : List TLink) (g1 : TLink → Option Bool) : Option Int :=
  sumBind
  (slices_IndexFunc_Link_L1 g1 b0 0)
  (fun q15 => some q15) fun p14 =>
  some (-1)
def slices_ContainsFunc_Link (b0 : List TLink) (g1 : TLink → Option Bool) : Option Bool :=
  (slices_IndexFunc_Link b0 g1).bind fun v1 =>
  some (decide (0 ≤ v1))
def i_ProjectOk_L1 (b0 : TProject) : List TActivity → Int → Option (Unit ⊕ Bool)
  | [], z16 =>
    some (Sum.inl ())
  | x17 :: xs18, z16 =>
    (i_ActivityOk x17 (b0.Resources.length : Int) (b0.Stocks.length : Int)).bind fun v20 =>
    Option.bind
    ((bif (!v20) then
    some true
    else
    (i_ActivityIndex b0 x17.Name).bind fun v23 =>
    some (v23 != z16))) fun e21 =>
    (bif e21 then
    some (Sum.inr false)
    else
    i_ProjectOk_L1 b0 xs18 (z16 + 1))
def i_ProjectOk_L2  : List TResource → Int → Option (Unit ⊕ Bool)
  | [], z34 =>
    some (Sum.inl ())
  | x35 :: xs36, z34 =>
    (i_ResourceOk x35).bind fun v38 =>
    (bif (!v38) then
    some (Sum.inr false)
    else
    i_ProjectOk_L2 xs36 (z34 + 1))
def i_ProjectOk_L3  : List Int → Int → Option (Unit ⊕ Bool)
  | [], z49 =>
    some (Sum.inl ())
  | x50 :: xs51, z49 =>
    (i_within x50 0 100).bind fun v53 =>
    (bif (!v53) then
    some (Sum.inr false)
    else
    i_ProjectOk_L3 xs51 (z49 + 1))
def i_ProjectOk (b0 : TProject) : Option Bool :=
  (i_within b0.Deadline 1 60).bind fun v1 =>
  Option.bind
  ((bif (!v1) then
  some true
  else
  (i_within (b0.Activities.length : Int) 1 6).bind fun v4 =>
  (bif (!v4) then
  some true
  else
  (bif (decide (3 < (b0.Resources.length : Int))) then
  some true
  else
  (bif (decide (2 < (b0.Stocks.length : Int))) then
  some true
  else
  some (decide (12 < (b0.Links.length : Int)))))))) fun e2 =>
  (bif e2 then
  some false
  else
  sumBind
  (i_ProjectOk_L1 b0 b0.Activities 0)
  (fun q26 => some q26) fun p25 =>
  sumBind
  (i_ProjectOk_L2 b0.Resources 0)
  (fun q41 => some q41) fun p40 =>
  sumBind
  (i_ProjectOk_L3 b0.Stocks 0)
  (fun q56 => some q56) fun p55 =>
  (slices_ContainsFunc_Link b0.Links (fun x0 => i_ProjectOk_c1 x0 b0)).bind fun v57 =>
  some (!v57))
def i_Project_hasResource (b0 : TProject) (b1 : Int) : Option Bool :=
  (i_within b1 0 (W ((b0.Resources.length : Int) - 1))).bind fun v1 =>
  some v1
def w_eqIntS_L1 (b1 : List Int) : List Int → Int → Option (Unit ⊕ Bool)
  | [], z9 =>
    some (Sum.inl ())
  | x10 :: xs11, z9 =>
    (idxL b1 z9).bind fun v13 =>
    (bif (x10 != v13) then
    some (Sum.inr false)
    else
    w_eqIntS_L1 b1 xs11 (z9 + 1))
def w_eqIntS (b0 : List Int) (b1 : List Int) : Option Bool :=
  (bif ((b0.length : Int) != (b1.length : Int)) then
  some false
  else
  sumBind
  (w_eqIntS_L1 b1 b0 0)
  (fun q16 => some q16) fun p15 =>
  some true)
def w_eqMode (b0 : TMode) (b1 : TMode) : Option Bool :=
  (bif (b0.Duration != b1.Duration) then
  some false
  else
  (w_eqIntS b0.Usage b1.Usage).bind fun v2 =>
  (bif (!v2) then
  some false
  else
  (w_eqIntS b0.Consumption b1.Consumption).bind fun v4 =>
  (bif (!v4) then
  some false
  else
  some true)))
def w_eqModeS_L1 (b1 : List TMode) : List TMode → Int → Option (Unit ⊕ Bool)
  | [], z9 =>
    some (Sum.inl ())
  | x10 :: xs11, z9 =>
    (idxL b1 z9).bind fun v13 =>
    (w_eqMode x10 v13).bind fun v14 =>
    (bif (!v14) then
    some (Sum.inr false)
    else
    w_eqModeS_L1 b1 xs11 (z9 + 1))
def w_eqModeS (b0 : List TMode) (b1 : List TMode) : Option Bool :=
  (bif ((b0.length : Int) != (b1.length : Int)) then
  some false
  else
  sumBind
  (w_eqModeS_L1 b1 b0 0)
  (fun q17 => some q17) fun p16 =>
  some true)
def w_eqActivity (b0 : TActivity) (b1 : TActivity) : Option Bool :=
  (bif (b0.Name != b1.Name) then
  some false
  else
  (bif (b0.Family != b1.Family) then
  some false
  else
  (w_eqModeS b0.Modes b1.Modes).bind fun v3 =>
  (bif (!v3) then
  some false
  else
  some true)))
def w_eqActivityS_L1 (b1 : List TActivity) : List TActivity → Int → Option (Unit ⊕ Bool)
  | [], z9 =>
    some (Sum.inl ())
  | x10 :: xs11, z9 =>
    (idxL b1 z9).bind fun v13 =>
    (w_eqActivity x10 v13).bind fun v14 =>
    (bif (!v14) then
    some (Sum.inr false)
    else
    w_eqActivityS_L1 b1 xs11 (z9 + 1))
def w_eqActivityS (b0 : List TActivity) (b1 : List TActivity) : Option Bool :=
  (bif ((b0.length : Int) != (b1.length : Int)) then
  some false
  else
  sumBind
  (w_eqActivityS_L1 b1 b0 0)
  (fun q17 => some q17) fun p16 =>
  some true)
def w_eqLink (b0 : TLink) (b1 : TLink) : Option Bool :=
  (bif (b0.From != b1.From) then
  some false
  else
  (bif (b0.To != b1.To) then
  some false
  else
  (bif (b0.FromEnd != b1.FromEnd) then
  some false
  else
  (bif (b0.Lag != b1.Lag) then
  some false
  else
  some true))))
def w_eqLinkS_L1 (b1 : List TLink) : List TLink → Int → Option (Unit ⊕ Bool)
  | [], z9 =>
    some (Sum.inl ())
  | x10 :: xs11, z9 =>
    (idxL b1 z9).bind fun v13 =>
    (w_eqLink x10 v13).bind fun v14 =>
    (bif (!v14) then
    some (Sum.inr false)
    else
    w_eqLinkS_L1 b1 xs11 (z9 + 1))
def w_eqLinkS (b0 : List TLink) (b1 : List TLink) : Option Bool :=
  (bif ((b0.length : Int) != (b1.length : Int)) then
  some false
  else
  sumBind
  (w_eqLinkS_L1 b1 b0 0)
  (fun q17 => some q17) fun p16 =>
  some true)
def w_eqStep (b0 : TStep) (b1 : TStep) : Option Bool :=
  (bif (b0.At != b1.At) then
  some false
  else
  (bif (b0.Capacity != b1.Capacity) then
  some false
  else
  some true))
def w_eqStepS_L1 (b1 : List TStep) : List TStep → Int → Option (Unit ⊕ Bool)
  | [], z9 =>
    some (Sum.inl ())
  | x10 :: xs11, z9 =>
    (idxL b1 z9).bind fun v13 =>
    (w_eqStep x10 v13).bind fun v14 =>
    (bif (!v14) then
    some (Sum.inr false)
    else
    w_eqStepS_L1 b1 xs11 (z9 + 1))
def w_eqStepS (b0 : List TStep) (b1 : List TStep) : Option Bool :=
  (bif ((b0.length : Int) != (b1.length : Int)) then
  some false
  else
  sumBind
  (w_eqStepS_L1 b1 b0 0)
  (fun q17 => some q17) fun p16 =>
  some true)
def w_eqIntSS_L1 (b1 : List (List Int)) : List (List Int) → Int → Option (Unit ⊕ Bool)
  | [], z9 =>
    some (Sum.inl ())
  | x10 :: xs11, z9 =>
    (idxL b1 z9).bind fun v13 =>
    (w_eqIntS x10 v13).bind fun v14 =>
    (bif (!v14) then
    some (Sum.inr false)
    else
    w_eqIntSS_L1 b1 xs11 (z9 + 1))
def w_eqIntSS (b0 : List (List Int)) (b1 : List (List Int)) : Option Bool :=
  (bif ((b0.length : Int) != (b1.length : Int)) then
  some false
  else
  sumBind
  (w_eqIntSS_L1 b1 b0 0)
  (fun q17 => some q17) fun p16 =>
  some true)
def w_eqResource (b0 : TResource) (b1 : TResource) : Option Bool :=
  (w_eqStepS b0.Steps b1.Steps).bind fun v1 =>
  (bif (!v1) then
  some false
  else
  (w_eqIntSS b0.Setup b1.Setup).bind fun v3 =>
  (bif (!v3) then
  some false
  else
  some true))
def w_eqResourceS_L1 (b1 : List TResource) : List TResource → Int → Option (Unit ⊕ Bool)
  | [], z9 =>
    some (Sum.inl ())
  | x10 :: xs11, z9 =>
    (idxL b1 z9).bind fun v13 =>
    (w_eqResource x10 v13).bind fun v14 =>
    (bif (!v14) then
    some (Sum.inr false)
    else
    w_eqResourceS_L1 b1 xs11 (z9 + 1))
def w_eqResourceS (b0 : List TResource) (b1 : List TResource) : Option Bool :=
  (bif ((b0.length : Int) != (b1.length : Int)) then
  some false
  else
  sumBind
  (w_eqResourceS_L1 b1 b0 0)
  (fun q17 => some q17) fun p16 =>
  some true)
def w_eqProject (b0 : TProject) (b1 : TProject) : Option Bool :=
  (bif (b0.Deadline != b1.Deadline) then
  some false
  else
  (w_eqActivityS b0.Activities b1.Activities).bind fun v2 =>
  (bif (!v2) then
  some false
  else
  (w_eqLinkS b0.Links b1.Links).bind fun v4 =>
  (bif (!v4) then
  some false
  else
  (w_eqResourceS b0.Resources b1.Resources).bind fun v6 =>
  (bif (!v6) then
  some false
  else
  (w_eqIntS b0.Stocks b1.Stocks).bind fun v8 =>
  (bif (!v8) then
  some false
  else
  some true)))))
def s_l02Min (b0 : Int) (b1 : Int) : Option Int :=
  (bif (decide (b0 < b1)) then
  some b0
  else
  some b1)
def s_l02Max (b0 : Int) (b1 : Int) : Option Int :=
  (bif (decide (b1 < b0)) then
  some b0
  else
  some b1)
def cmp_isNaN_int (b0 : Int) : Option Bool :=
  some (b0 != b0)
def cmp_Compare_int (b0 : Int) (b1 : Int) : Option Int :=
  (cmp_isNaN_int b0).bind fun v1 =>
  (cmp_isNaN_int b1).bind fun v2 =>
  (bif v1 then
  (bif v2 then
  some 0
  else
  some (-1))
  else
  (bif v2 then
  some 1
  else
  (bif (decide (b0 < b1)) then
  some (-1)
  else
  (bif (decide (b1 < b0)) then
  some 1
  else
  some 0))))
def s_SetOk_L1 (b0 : List Int) : List Int → Int → Option (Unit ⊕ Bool)
  | [], z8 =>
    some (Sum.inl ())
  | x9 :: xs10, z8 =>
    Option.bind
    ((bif (decide (0 < z8)) then
    (idxL b0 (z8 - 1)).bind fun v14 =>
    some (decide (x9 ≤ v14))
    else
    some false)) fun e12 =>
    (bif e12 then
    some (Sum.inr false)
    else
    s_SetOk_L1 b0 xs10 (z8 + 1))
def s_SetOk (b0 : List Int) : Option Bool :=
  sumBind
  (s_SetOk_L1 b0 b0 0)
  (fun q17 => some q17) fun p16 =>
  some true
def s_IntRange_L1 (b0 : Int) : Nat → Int → (List Int) → Option (List Int)
  | 0, _, _ => none
  | fuel + 1, a9, a10 =>
    (bif (decide (a9 < b0)) then
    (appL a10 ([a9] : List Int)).bind fun v14 =>
    s_IntRange_L1 b0 fuel (W (a9 + 1)) v14
    else
    some a10)
def s_IntRange (b0 : Int) : Option (List Int) :=
  (s_l01In b0 0 200).bind fun v1 =>
  (bif (!v1) then
  some ([] : List Int)
  else
  Option.bind
  (s_IntRange_L1 b0 F0 0 ([] : List Int)) fun p15 =>
  some p15)
def s_SetHas_L1 (b1 : Int) : List Int → Int → Option (Unit ⊕ Bool)
  | [], z8 =>
    some (Sum.inl ())
  | x9 :: xs10, z8 =>
    (bif (x9 == b1) then
    some (Sum.inr true)
    else
    s_SetHas_L1 b1 xs10 (z8 + 1))
def s_SetHas (b0 : List Int) (b1 : Int) : Option Bool :=
  sumBind
  (s_SetHas_L1 b1 b0 0)
  (fun q14 => some q14) fun p13 =>
  some false
def s_SetSubset_L1 (b1 : List Int) : List Int → Int → Option (Unit ⊕ Bool)
  | [], z8 =>
    some (Sum.inl ())
  | x9 :: xs10, z8 =>
    (s_SetHas b1 x9).bind fun v12 =>
    (bif (!v12) then
    some (Sum.inr false)
    else
    s_SetSubset_L1 b1 xs10 (z8 + 1))
def s_SetSubset (b0 : List Int) (b1 : List Int) : Option Bool :=
  sumBind
  (s_SetSubset_L1 b1 b0 0)
  (fun q15 => some q15) fun p14 =>
  some true
def i_SetOk_L1 (b0 : List Int) : Nat → Int → Option (Unit ⊕ Bool)
  | 0, _ => none
  | fuel + 1, a6 =>
    (bif (decide (a6 < (b0.length : Int))) then
    (idxL b0 a6).bind fun v10 =>
    (idxL b0 (W (a6 - 1))).bind fun v11 =>
    (bif (decide (v10 ≤ v11)) then
    some (Sum.inr false)
    else
    i_SetOk_L1 b0 fuel (W (a6 + 1)))
    else
    some (Sum.inl ()))
def i_SetOk (b0 : List Int) : Option Bool :=
  sumBind
  (i_SetOk_L1 b0 F0 1)
  (fun q14 => some q14) fun p13 =>
  some true
def i_IntRange_L1 (b0 : Int) : Nat → Int → (List Int) → Option (List Int)
  | 0, _, _ => none
  | fuel + 1, a9, a10 =>
    (bif (decide (a9 < b0)) then
    (appL a10 ([a9] : List Int)).bind fun v14 =>
    i_IntRange_L1 b0 fuel (W (a9 + 1)) v14
    else
    some a10)
def i_IntRange (b0 : Int) : Option (List Int) :=
  (i_within b0 0 200).bind fun v1 =>
  (bif (!v1) then
  some ([] : List Int)
  else
  Option.bind
  (i_IntRange_L1 b0 F0 0 ([] : List Int)) fun p15 =>
  some p15)
def slices_Index_int_L1 (b1 : Int) : List Int → Int → Option (Unit ⊕ Int)
  | [], z8 =>
    some (Sum.inl ())
  | x9 :: xs10, z8 =>
    (bif (b1 == x9) then
    some (Sum.inr z8)
    else
    slices_Index_int_L1 b1 xs10 (z8 + 1))
def slices_Index_int (b0 : List Int) (b1 : Int) : Option Int :=
  sumBind
  (slices_Index_int_L1 b1 b0 0)
  (fun q14 => some q14) fun p13 =>
  some (-1)
def slices_Contains_int (b0 : List Int) (b1 : Int) : Option Bool :=
  (slices_Index_int b0 b1).bind fun v1 =>
  some (decide (0 ≤ v1))
def i_SetHas (b0 : List Int) (b1 : Int) : Option Bool :=
  (slices_Contains_int b0 b1).bind fun v1 =>
  some v1
def i_SetSubset_L1 (b1 : List Int) : List Int → Int → Option (Unit ⊕ Bool)
  | [], z8 =>
    some (Sum.inl ())
  | x9 :: xs10, z8 =>
    (i_SetHas b1 x9).bind fun v12 =>
    (bif (!v12) then
    some (Sum.inr false)
    else
    i_SetSubset_L1 b1 xs10 (z8 + 1))
def i_SetSubset (b0 : List Int) (b1 : List Int) : Option Bool :=
  sumBind
  (i_SetSubset_L1 b1 b0 0)
  (fun q15 => some q15) fun p14 =>
  some true
def w_markText_L1  : Nat → Int → ByteArray → Option ByteArray
  | 0, _, _ => none
  | fuel + 1, a7, a8 =>
    (bif (decide (0 < a7)) then
    (catS (strB ([(IntKind.u8.wrap (W (48 + (a7.tmod 10))))] : List Int)) a8).bind fun v12 =>
    w_markText_L1 fuel (W (a7.tdiv 10)) v12
    else
    some a8)
def w_markText (b0 : Int) : Option ByteArray :=
  (bif (decide (b0 ≤ 0)) then
  some (⟨#[109, 48]⟩ : ByteArray)
  else
  Option.bind
  (w_markText_L1 F0 b0 ByteArray.empty) fun p13 =>
  (catS (⟨#[109]⟩ : ByteArray) p13).bind fun v14 =>
  some v14)
def w_markIntS_k_L1  : List Int → Int → Int → Option Int
  | [], z8, a9 =>
    some a9
  | x10 :: xs11, z8, a9 =>
    w_markIntS_k_L1 xs11 (z8 + 1) (W (a9 + 1))
def w_markIntS_k (b0 : List Int) (b1 : Int) : Option Int :=
  Option.bind
  (w_markIntS_k_L1 b0 0 b1) fun p13 =>
  some p13
def w_markModeS_k_L1  : List TMode → Int → Int → Option Int
  | [], z8, a9 =>
    some a9
  | x10 :: xs11, z8, a9 =>
    (w_markIntS_k x10.Usage (W (a9 + 1))).bind fun v13 =>
    (w_markIntS_k x10.Consumption v13).bind fun v14 =>
    w_markModeS_k_L1 xs11 (z8 + 1) v14
def w_markModeS_k (b0 : List TMode) (b1 : Int) : Option Int :=
  Option.bind
  (w_markModeS_k_L1 b0 0 b1) fun p15 =>
  some p15
def w_markActivityS_k_L1  : List TActivity → Int → Int → Option Int
  | [], z8, a9 =>
    some a9
  | x10 :: xs11, z8, a9 =>
    (w_markText a9).bind fun v13 =>
    (w_markModeS_k x10.Modes (W ((W (a9 + 1)) + 1))).bind fun v14 =>
    w_markActivityS_k_L1 xs11 (z8 + 1) v14
def w_markActivityS_k (b0 : List TActivity) (b1 : Int) : Option Int :=
  Option.bind
  (w_markActivityS_k_L1 b0 0 b1) fun p15 =>
  some p15
def w_markLinkS_k_L1  : List TLink → Int → Int → Option Int
  | [], z8, a9 =>
    some a9
  | x10 :: xs11, z8, a9 =>
    w_markLinkS_k_L1 xs11 (z8 + 1) (W ((W ((W ((W (a9 + 1)) + 1)) + 1)) + 1))
def w_markLinkS_k (b0 : List TLink) (b1 : Int) : Option Int :=
  Option.bind
  (w_markLinkS_k_L1 b0 0 b1) fun p13 =>
  some p13
def w_markStepS_k_L1  : List TStep → Int → Int → Option Int
  | [], z8, a9 =>
    some a9
  | x10 :: xs11, z8, a9 =>
    w_markStepS_k_L1 xs11 (z8 + 1) (W ((W (a9 + 1)) + 1))
def w_markStepS_k (b0 : List TStep) (b1 : Int) : Option Int :=
  Option.bind
  (w_markStepS_k_L1 b0 0 b1) fun p13 =>
  some p13
def w_markIntSS_k_L1  : List (List Int) → Int → Int → Option Int
  | [], z8, a9 =>
    some a9
  | x10 :: xs11, z8, a9 =>
    (w_markIntS_k x10 a9).bind fun v13 =>
    w_markIntSS_k_L1 xs11 (z8 + 1) v13
def w_markIntSS_k (b0 : List (List Int)) (b1 : Int) : Option Int :=
  Option.bind
  (w_markIntSS_k_L1 b0 0 b1) fun p14 =>
  some p14
def w_markResourceS_k_L1  : List TResource → Int → Int → Option Int
  | [], z8, a9 =>
    some a9
  | x10 :: xs11, z8, a9 =>
    (w_markStepS_k x10.Steps a9).bind fun v13 =>
    (w_markIntSS_k x10.Setup v13).bind fun v14 =>
    w_markResourceS_k_L1 xs11 (z8 + 1) v14
def w_markResourceS_k (b0 : List TResource) (b1 : Int) : Option Int :=
  Option.bind
  (w_markResourceS_k_L1 b0 0 b1) fun p15 =>
  some p15
def w_markProject_k (b0 : TProject) (b1 : Int) : Option Int :=
  (w_markActivityS_k b0.Activities b1).bind fun v1 =>
  (w_markLinkS_k b0.Links v1).bind fun v2 =>
  (w_markResourceS_k b0.Resources v2).bind fun v3 =>
  (w_markIntS_k b0.Stocks v3).bind fun v4 =>
  some v4
def w_markIntS_L1  : Nat → Int → Int → (List Int) → Option (Int × (List Int))
  | 0, _, _, _ => none
  | fuel + 1, a7, a8, a9 =>
    (bif (decide (a8 < (a9.length : Int))) then
    (idxL a9 a8).bind fun v13 =>
    w_markIntS_L1 fuel (W (a7 + 1)) (W (a8 + 1)) (setL a9 a8 a7)
    else
    some (a7, a9))
def w_markIntS (b0 : List Int) (b1 : Int) : Option (Int × (List Int)) :=
  Option.bind
  (w_markIntS_L1 F0 b1 0 b0) fun p14 =>
  some (p14.1, p14.2)
def w_heldIntS_L1  : List Int → Int → Int → Option (Int ⊕ Int)
  | [], z8, a9 =>
    some (Sum.inl a9)
  | x10 :: xs11, z8, a9 =>
    (bif (x10 != a9) then
    some (Sum.inr (-1))
    else
    w_heldIntS_L1 xs11 (z8 + 1) (W (a9 + 1)))
def w_heldIntS (b0 : List Int) (b1 : Int) : Option Int :=
  sumBind
  (w_heldIntS_L1 b0 0 b1)
  (fun q15 => some q15) fun p14 =>
  some p14
def w_szDomain (b0 : TDomain) (b1 : Int) : Option Int :=
  (w_szIntS b0.MinStart b1).bind fun v1 =>
  (bif (decide (v1 < 0)) then
  some (-1)
  else
  (w_szIntS b0.MaxStart v1).bind fun v3 =>
  (bif (decide (v3 < 0)) then
  some (-1)
  else
  (w_szIntSS b0.Modes v3).bind fun v5 =>
  (bif (decide (v5 < 0)) then
  some (-1)
  else
  some v5)))
def w_toDomain (b0 : TDomain) : Option TDomain :=
  (w_toIntS b0.MinStart).bind fun v1 =>
  (w_toIntS b0.MaxStart).bind fun v2 =>
  (w_toIntSS b0.Modes).bind fun v3 =>
  some (TDomain.mk v1 v2 v3)
def w_eqDomain (b0 : TDomain) (b1 : TDomain) : Option Bool :=
  (w_eqIntS b0.MinStart b1.MinStart).bind fun v1 =>
  (bif (!v1) then
  some false
  else
  (w_eqIntS b0.MaxStart b1.MaxStart).bind fun v3 =>
  (bif (!v3) then
  some false
  else
  (w_eqIntSS b0.Modes b1.Modes).bind fun v5 =>
  (bif (!v5) then
  some false
  else
  some true)))
def s_ModeIndexes (b0 : TActivity) : Option (List Int) :=
  (s_IntRange (b0.Modes.length : Int)).bind fun v1 =>
  some v1
def s_DomainForm_L1 (b1 : TDomain) : List TActivity → Int → Option (Unit ⊕ Bool)
  | [], z14 =>
    some (Sum.inl ())
  | x15 :: xs16, z14 =>
    (idxL b1.MinStart z14).bind fun v18 =>
    (s_l01In v18 (-2) 62).bind fun v19 =>
    Option.bind
    ((bif (!v19) then
    some true
    else
    (idxL b1.MaxStart z14).bind fun v22 =>
    (s_l01In v22 (-2) 62).bind fun v23 =>
    (bif (!v23) then
    some true
    else
    (idxL b1.Modes z14).bind fun v25 =>
    (s_SetOk v25).bind fun v26 =>
    (bif (!v26) then
    some true
    else
    (s_ModeIndexes x15).bind fun v28 =>
    (s_SetSubset v25 v28).bind fun v29 =>
    some (!v29))))) fun e20 =>
    (bif e20 then
    some (Sum.inr false)
    else
    s_DomainForm_L1 b1 xs16 (z14 + 1))
def s_DomainForm (b0 : TProject) (b1 : TDomain) : Option Bool :=
  (s_ProjectOk b0).bind fun v1 =>
  Option.bind
  ((bif (!v1) then
  some true
  else
  (bif ((b1.MinStart.length : Int) != (b0.Activities.length : Int)) then
  some true
  else
  (bif ((b1.MaxStart.length : Int) != (b0.Activities.length : Int)) then
  some true
  else
  some ((b1.Modes.length : Int) != (b0.Activities.length : Int)))))) fun e2 =>
  (bif e2 then
  some false
  else
  sumBind
  (s_DomainForm_L1 b1 b0.Activities 0)
  (fun q32 => some q32) fun p31 =>
  some true)
def s_DomainEmpty_L1 (b0 : TDomain) : List Int → Int → Option (Unit ⊕ Bool)
  | [], z8 =>
    some (Sum.inl ())
  | x9 :: xs10, z8 =>
    Option.bind
    ((bif (decide (z8 < (b0.MaxStart.length : Int))) then
    (idxL b0.MaxStart z8).bind fun v14 =>
    some (decide (v14 < x9))
    else
    some false)) fun e12 =>
    (bif e12 then
    some (Sum.inr true)
    else
    s_DomainEmpty_L1 b0 xs10 (z8 + 1))
def s_DomainEmpty_L2  : List (List Int) → Int → Option (Unit ⊕ Bool)
  | [], z25 =>
    some (Sum.inl ())
  | x26 :: xs27, z25 =>
    (bif ((x26.length : Int) == 0) then
    some (Sum.inr true)
    else
    s_DomainEmpty_L2 xs27 (z25 + 1))
def s_DomainEmpty (b0 : TDomain) : Option Bool :=
  sumBind
  (s_DomainEmpty_L1 b0 b0.MinStart 0)
  (fun q17 => some q17) fun p16 =>
  sumBind
  (s_DomainEmpty_L2 b0.Modes 0)
  (fun q31 => some q31) fun p30 =>
  some false
def s_l14Ok (b0 : TProject) (b1 : TDomain) : Option Bool :=
  (s_DomainForm b0 b1).bind fun v1 =>
  Option.bind
  ((bif v1 then
  (s_DomainEmpty b1).bind fun v4 =>
  some (!v4)
  else
  some false)) fun e2 =>
  some e2
def s_MinDuration_L1 (b1 : List Int) : List TMode → Int → Int → Bool → Option Int
  | [], z8, a9, a10 =>
    some a9
  | x11 :: xs12, z8, a9, a10 =>
    (s_SetHas b1 z8).bind fun v14 =>
    Option.bind
    ((bif v14 then
    (bif (!a10) then
    some true
    else
    some (decide (x11.Duration < a9)))
    else
    some false)) fun e15 =>
    (bif e15 then
    s_MinDuration_L1 b1 xs12 (z8 + 1) x11.Duration true
    else
    s_MinDuration_L1 b1 xs12 (z8 + 1) a9 a10)
def s_MinDuration (b0 : TActivity) (b1 : List Int) : Option Int :=
  Option.bind
  (s_MinDuration_L1 b1 b0.Modes 0 0 false) fun p19 =>
  some p19
def s_l14Short (b0 : TProject) (b1 : TDomain) (b2 : Int) : Option Int :=
  (idxL b0.Activities b2).bind fun v1 =>
  (idxL b1.Modes b2).bind fun v2 =>
  (s_MinDuration v1 v2).bind fun v3 =>
  some v3
def i_isStart (b0 : Int) : Option Bool :=
  (i_within b0 (-2) 62).bind fun v1 =>
  some v1
def i_ModeIndexes (b0 : TActivity) : Option (List Int) :=
  (i_IntRange (b0.Modes.length : Int)).bind fun v1 =>
  some v1
def i_DomainForm_L1 (b0 : TProject) (b1 : TDomain) : List (List Int) → Int → Option (Unit ⊕ Bool)
  | [], z14 =>
    some (Sum.inl ())
  | x15 :: xs16, z14 =>
    (idxL b1.MinStart z14).bind fun v18 =>
    (i_isStart v18).bind fun v19 =>
    Option.bind
    ((bif (!v19) then
    some true
    else
    (idxL b1.MaxStart z14).bind fun v22 =>
    (i_isStart v22).bind fun v23 =>
    (bif (!v23) then
    some true
    else
    (i_SetOk x15).bind fun v25 =>
    (bif (!v25) then
    some true
    else
    (idxL b0.Activities z14).bind fun v27 =>
    (i_ModeIndexes v27).bind fun v28 =>
    (i_SetSubset x15 v28).bind fun v29 =>
    some (!v29))))) fun e20 =>
    (bif e20 then
    some (Sum.inr false)
    else
    i_DomainForm_L1 b0 b1 xs16 (z14 + 1))
def i_DomainForm (b0 : TProject) (b1 : TDomain) : Option Bool :=
  (i_ProjectOk b0).bind fun v1 =>
  Option.bind
  ((bif (!v1) then
  some true
  else
  (bif ((b1.MinStart.length : Int) != (b0.Activities.length : Int)) then
  some true
  else
  (bif ((b1.MaxStart.length : Int) != (b0.Activities.length : Int)) then
  some true
  else
  some ((b1.Modes.length : Int) != (b0.Activities.length : Int)))))) fun e2 =>
  (bif e2 then
  some false
  else
  sumBind
  (i_DomainForm_L1 b0 b1 b1.Modes 0)
  (fun q32 => some q32) fun p31 =>
  some true)
def slices_IndexFunc__int_L1 (g1 : (List Int) → Option Bool) : List (List Int) → Int → Option (Unit ⊕ Int)
  | [], z8 =>
    some (Sum.inl ())
  | x9 :: xs10, z8 =>
    (g1 x9).bind fun v12 =>
    (bif v12 then
    some (Sum.inr z8)
    else
    slices_IndexFunc__int_L1 g1 xs10 (z8 + 1))
def slices_IndexFunc__int (b0 : List (List Int)) (g1 : (List Int) → Option Bool) : Option Int :=
  sumBind
  (slices_IndexFunc__int_L1 g1 b0 0)
  (fun q15 => some q15) fun p14 =>
  some (-1)
def slices_ContainsFunc__int (b0 : List (List Int)) (g1 : (List Int) → Option Bool) : Option Bool :=
  (slices_IndexFunc__int b0 g1).bind fun v1 =>
  some (decide (0 ≤ v1))
def i_DomainEmpty_c1 (b0 : List Int) : Option Bool :=
  some ((b0.length : Int) == 0)
def i_DomainEmpty_L1 (b0 : TDomain) : List Int → Int → Option (Unit ⊕ Bool)
  | [], z8 =>
    some (Sum.inl ())
  | x9 :: xs10, z8 =>
    Option.bind
    ((bif (decide (z8 < (b0.MaxStart.length : Int))) then
    (idxL b0.MaxStart z8).bind fun v14 =>
    some (decide (v14 < x9))
    else
    some false)) fun e12 =>
    (bif e12 then
    some (Sum.inr true)
    else
    i_DomainEmpty_L1 b0 xs10 (z8 + 1))
def i_DomainEmpty (b0 : TDomain) : Option Bool :=
  sumBind
  (i_DomainEmpty_L1 b0 b0.MinStart 0)
  (fun q17 => some q17) fun p16 =>
  (slices_ContainsFunc__int b0.Modes (fun x0 => i_DomainEmpty_c1 x0)).bind fun v18 =>
  some v18
def i_isUsable (b0 : TProject) (b1 : TDomain) : Option Bool :=
  (i_DomainForm b0 b1).bind fun v1 =>
  Option.bind
  ((bif v1 then
  (i_DomainEmpty b1).bind fun v4 =>
  some (!v4)
  else
  some false)) fun e2 =>
  some e2
def i_chosen_L1 (b1 : List Int) : List TMode → Int → (List TMode) → Option (List TMode)
  | [], z8, a9 =>
    some a9
  | x10 :: xs11, z8, a9 =>
    (i_SetHas b1 z8).bind fun v13 =>
    (bif v13 then
    (appL a9 ([x10] : List TMode)).bind fun v15 =>
    i_chosen_L1 b1 xs11 (z8 + 1) v15
    else
    i_chosen_L1 b1 xs11 (z8 + 1) a9)
def i_chosen (b0 : TActivity) (b1 : List Int) : Option (List TMode) :=
  Option.bind
  (i_chosen_L1 b1 b0.Modes 0 ([] : List TMode)) fun p16 =>
  some p16
def i_MinDuration_L1  : List TMode → Int → Int → Option Int
  | [], z9, a10 =>
    some a10
  | x11 :: xs12, z9, a10 =>
    Option.bind
    ((bif (z9 == 0) then
    some true
    else
    some (decide (x11.Duration < a10)))) fun e14 =>
    (bif e14 then
    i_MinDuration_L1 xs12 (z9 + 1) x11.Duration
    else
    i_MinDuration_L1 xs12 (z9 + 1) a10)
def i_MinDuration (b0 : TActivity) (b1 : List Int) : Option Int :=
  (i_chosen b0 b1).bind fun v1 =>
  Option.bind
  (i_MinDuration_L1 v1 0 0) fun p17 =>
  some p17
def i_Project_duration (b0 : TProject) (b1 : TDomain) (b2 : Int) : Option Int :=
  (idxL b0.Activities b2).bind fun v1 =>
  (idxL b1.Modes b2).bind fun v2 =>
  (i_MinDuration v1 v2).bind fun v3 =>
  some v3
def s_IsMachine (b0 : TProject) (b1 : Int) : Option Bool :=
  (s_l01In b1 0 (W ((b0.Resources.length : Int) - 1))).bind fun v1 =>
  Option.bind
  ((bif v1 then
  (idxL b0.Resources b1).bind fun v4 =>
  some (decide (0 < (v4.Setup.length : Int)))
  else
  some false)) fun e2 =>
  some e2
def i_IsMachine (b0 : TProject) (b1 : Int) : Option Bool :=
  (i_Project_hasResource b0 b1).bind fun v1 =>
  Option.bind
  ((bif v1 then
  (idxL b0.Resources b1).bind fun v4 =>
  some (decide (0 < (v4.Setup.length : Int)))
  else
  some false)) fun e2 =>
  some e2
def i_onMachine (b0 : TProject) (b1 : TDomain) (b2 : Int) : Option Bool :=
  (i_isUsable b0 b1).bind fun v1 =>
  Option.bind
  ((bif v1 then
  (i_IsMachine b0 b2).bind fun v4 =>
  some v4
  else
  some false)) fun e2 =>
  some e2
def i_SetupTime (b0 : TProject) (b1 : Int) (b2 : Int) (b3 : Int) : Option Int :=
  (i_IsMachine b0 b1).bind fun v1 =>
  Option.bind
  ((bif (!v1) then
  some true
  else
  (i_ProjectOk b0).bind fun v4 =>
  (bif (!v4) then
  some true
  else
  (i_Project_hasActivity b0 b2).bind fun v6 =>
  (bif (!v6) then
  some true
  else
  (i_Project_hasActivity b0 b3).bind fun v8 =>
  some (!v8))))) fun e2 =>
  (bif e2 then
  some 0
  else
  (idxL b0.Resources b1).bind fun v10 =>
  (idxL b0.Activities b2).bind fun v11 =>
  (idxL v10.Setup v11.Family).bind fun v12 =>
  (idxL b0.Activities b3).bind fun v13 =>
  (idxL v12 v13.Family).bind fun v14 =>
  some v14)
def s_l04Least_L1 (b1 : List Int) (b2 : Int) (b3 : Bool) (b4 : Bool) : List TMode → Int → Int → Bool → Option (Int ⊕ Int)
  | [], z8, a9, a10 =>
    some (Sum.inl a9)
  | x11 :: xs12, z8, a9, a10 =>
    (s_SetHas b1 z8).bind fun v14 =>
    (bif (!v14) then
    s_l04Least_L1 b1 b2 b3 b4 xs12 (z8 + 1) a9 a10
    else
    Option.bind
    ((bif b3 then
    some x11.Consumption
    else
    some x11.Usage)) fun p21 =>
    (s_l01In b2 0 (W ((p21.length : Int) - 1))).bind fun v22 =>
    (bif (!v22) then
    some (Sum.inr 0)
    else
    (idxL p21 b2).bind fun v24 =>
    Option.bind
    ((bif b4 then
    some (W (v24 * x11.Duration))
    else
    some v24)) fun p30 =>
    Option.bind
    ((bif (!a10) then
    some true
    else
    some (decide (p30 < a9)))) fun e31 =>
    (bif e31 then
    s_l04Least_L1 b1 b2 b3 b4 xs12 (z8 + 1) p30 true
    else
    s_l04Least_L1 b1 b2 b3 b4 xs12 (z8 + 1) a9 true)))
def s_l04Least (b0 : TActivity) (b1 : List Int) (b2 : Int) (b3 : Bool) (b4 : Bool) : Option Int :=
  sumBind
  (s_l04Least_L1 b1 b2 b3 b4 b0.Modes 0 0 false)
  (fun q35 => some q35) fun p34 =>
  some p34
def s_MinUsage (b0 : TActivity) (b1 : List Int) (b2 : Int) : Option Int :=
  (s_l04Least b0 b1 b2 false false).bind fun v1 =>
  some v1
def s_l14Need (b0 : TProject) (b1 : TDomain) (b2 : Int) (b3 : Int) : Option Int :=
  (idxL b0.Activities b3).bind fun v1 =>
  (idxL b1.Modes b3).bind fun v2 =>
  (s_MinUsage v1 v2 b2).bind fun v3 =>
  some v3
def s_RequiredUsage (b0 : TProject) (b1 : TDomain) (b2 : Int) (b3 : Int) : Option Int :=
  (s_l14Ok b0 b1).bind fun v1 =>
  Option.bind
  ((bif (!v1) then
  some true
  else
  (s_l01In b3 0 (W ((b0.Activities.length : Int) - 1))).bind fun v4 =>
  (bif (!v4) then
  some true
  else
  (s_l01In b2 0 (W ((b0.Resources.length : Int) - 1))).bind fun v6 =>
  some (!v6)))) fun e2 =>
  (bif e2 then
  some 0
  else
  (s_l14Need b0 b1 b2 b3).bind fun v8 =>
  some v8)
def i_element (b0 : List Int) (b1 : Int) : Option (Int × Bool) :=
  (i_within b1 0 (W ((b0.length : Int) - 1))).bind fun v1 =>
  (bif (!v1) then
  some (0, false)
  else
  (idxL b0 b1).bind fun v3 =>
  some (v3, true))
def i_MinUsage_c1 (b0 : TMode) (c1 : Int) : Option (Int × Bool) :=
  (i_element b0.Usage c1).bind fun v1 =>
  some (v1.1, v1.2)
def i_leastOf_L1 (g1 : TMode → Option (Int × Bool)) : List TMode → Int → Int → Option (Int ⊕ Int)
  | [], z8, a9 =>
    some (Sum.inl a9)
  | x10 :: xs11, z8, a9 =>
    (g1 x10).bind fun v13 =>
    (bif (!v13.2) then
    some (Sum.inr 0)
    else
    Option.bind
    ((bif (z8 == 0) then
    some true
    else
    some (decide (v13.1 < a9)))) fun e15 =>
    (bif e15 then
    i_leastOf_L1 g1 xs11 (z8 + 1) v13.1
    else
    i_leastOf_L1 g1 xs11 (z8 + 1) a9))
def i_leastOf (b0 : List TMode) (g1 : TMode → Option (Int × Bool)) : Option Int :=
  sumBind
  (i_leastOf_L1 g1 b0 0 0)
  (fun q19 => some q19) fun p18 =>
  some p18
def i_MinUsage (b0 : TActivity) (b1 : List Int) (b2 : Int) : Option Int :=
  (i_chosen b0 b1).bind fun v1 =>
  (i_leastOf v1 (fun x0 => i_MinUsage_c1 x0 b2)).bind fun v2 =>
  some v2
def i_RequiredUsage (b0 : TProject) (b1 : TDomain) (b2 : Int) (b3 : Int) : Option Int :=
  (i_isUsable b0 b1).bind fun v1 =>
  Option.bind
  ((bif (!v1) then
  some true
  else
  (i_Project_hasActivity b0 b3).bind fun v4 =>
  (bif (!v4) then
  some true
  else
  (i_Project_hasResource b0 b2).bind fun v6 =>
  some (!v6)))) fun e2 =>
  (bif e2 then
  some 0
  else
  (idxL b0.Activities b3).bind fun v8 =>
  (idxL b1.Modes b3).bind fun v9 =>
  (i_MinUsage v8 v9 b2).bind fun v10 =>
  some v10)
def s_MachineChain_L2 (b1 : TDomain) (a14 : List Int) (z13 : Int) : Nat → Int → Option Int
  | 0, _ => none
  | fuel + 1, a25 =>
    Option.bind
    ((bif (decide (0 < a25)) then
    (idxL a14 (W (a25 - 1))).bind fun v30 =>
    (idxL b1.MinStart v30).bind fun v31 =>
    (idxL b1.MinStart z13).bind fun v32 =>
    some (decide (v32 < v31))
    else
    some false)) fun e28 =>
    (bif e28 then
    s_MachineChain_L2 b1 a14 z13 fuel (W (a25 - 1))
    else
    some a25)
def s_MachineChain_L1 (b0 : TProject) (b1 : TDomain) (b2 : Int) : List TActivity → Int → (List Int) → Option (List Int)
  | [], z13, a14 =>
    some a14
  | x15 :: xs16, z13, a14 =>
    (s_l14Need b0 b1 b2 z13).bind fun v18 =>
    (bif (v18 == 0) then
    s_MachineChain_L1 b0 b1 b2 xs16 (z13 + 1) a14
    else
    Option.bind
    (s_MachineChain_L2 b1 a14 z13 F0 (a14.length : Int)) fun p34 =>
    (subL a14 0 p34).bind fun v35 =>
    (appL ([] : List Int) v35).bind fun v36 =>
    (appL v36 ([z13] : List Int)).bind fun v37 =>
    (subL a14 p34 (a14.length : Int)).bind fun v38 =>
    (appL v37 v38).bind fun v39 =>
    s_MachineChain_L1 b0 b1 b2 xs16 (z13 + 1) v39)
def s_MachineChain (b0 : TProject) (b1 : TDomain) (b2 : Int) : Option (List Int) :=
  (s_l14Ok b0 b1).bind fun v1 =>
  Option.bind
  ((bif (!v1) then
  some true
  else
  (s_IsMachine b0 b2).bind fun v4 =>
  some (!v4))) fun e2 =>
  (bif e2 then
  some ([] : List Int)
  else
  Option.bind
  (s_MachineChain_L1 b0 b1 b2 b0.Activities 0 ([] : List Int)) fun p40 =>
  some p40)
def s_MachineBound_L2 (b0 : TProject) (b2 : Int) (x15 : Int) : List Int → Int → Int → Option Int
  | [], z26, a27 =>
    some a27
  | x28 :: xs29, z26, a27 =>
    (bif (x28 != x15) then
    (idxL b0.Resources b2).bind fun v32 =>
    (idxL b0.Activities x28).bind fun v33 =>
    (idxL v32.Setup v33.Family).bind fun v34 =>
    (idxL b0.Activities x15).bind fun v35 =>
    (idxL v34 v35.Family).bind fun v36 =>
    (s_l02Min a27 v36).bind fun v37 =>
    s_MachineBound_L2 b0 b2 x15 xs29 (z26 + 1) v37
    else
    s_MachineBound_L2 b0 b2 x15 xs29 (z26 + 1) a27)
def s_MachineBound_L1 (b0 : TProject) (b1 : TDomain) (b2 : Int) (v1 : List Int) : List Int → Int → Int → Int → Option (Int × Int)
  | [], z12, a13, a14 =>
    some (a13, a14)
  | x15 :: xs16, z12, a13, a14 =>
    (s_l14Short b0 b1 x15).bind fun v18 =>
    Option.bind
    (s_MachineBound_L2 b0 b2 x15 v1 0 12) fun p38 =>
    (bif (decide (1 < (v1.length : Int))) then
    (s_l02Max a14 p38).bind fun v40 =>
    s_MachineBound_L1 b0 b1 b2 v1 xs16 (z12 + 1) (W ((W (a13 + v18)) + p38)) v40
    else
    s_MachineBound_L1 b0 b1 b2 v1 xs16 (z12 + 1) (W (a13 + v18)) a14)
def s_MachineBound (b0 : TProject) (b1 : TDomain) (b2 : Int) : Option Int :=
  (s_MachineChain b0 b1 b2).bind fun v1 =>
  (bif ((v1.length : Int) == 0) then
  some 0
  else
  (idxL v1 0).bind fun v3 =>
  (idxL b1.MinStart v3).bind fun v4 =>
  Option.bind
  (s_MachineBound_L1 b0 b1 b2 v1 v1 0 v4 0) fun p41 =>
  some (W (p41.1 - p41.2)))
def i_MachineChain_c1 (b0 : Int) (c1 : TProject) (c2 : TDomain) (c3 : Int) : Option Bool :=
  (i_RequiredUsage c1 c2 c3 b0).bind fun v1 =>
  some (decide (0 < v1))
def i_kept_L1 (g1 : Int → Option Bool) : List Int → Int → (List Int) → Option (List Int)
  | [], z8, a9 =>
    some a9
  | x10 :: xs11, z8, a9 =>
    (g1 x10).bind fun v13 =>
    (bif v13 then
    (appL a9 ([x10] : List Int)).bind fun v15 =>
    i_kept_L1 g1 xs11 (z8 + 1) v15
    else
    i_kept_L1 g1 xs11 (z8 + 1) a9)
def i_kept (b0 : List Int) (g1 : Int → Option Bool) : Option (List Int) :=
  Option.bind
  (i_kept_L1 g1 b0 0 ([] : List Int)) fun p16 =>
  some p16
def i_MachineChain_c2 (b0 : Int) (b1 : Int) (c2 : TDomain) : Option Int :=
  (idxL c2.MinStart b0).bind fun v1 =>
  (idxL c2.MinStart b1).bind fun v2 =>
  (cmp_Compare_int v1 v2).bind fun v3 =>
  some v3
def slices_insertionSortCmpFunc_int_L2 (b1 : Int) (g3 : Int → Int → Option Int) : Nat → Int → (List Int) → Option (List Int)
  | 0, _, _ => none
  | fuel + 1, a16, a17 =>
    Option.bind
    ((bif (decide (b1 < a16)) then
    (idxL a17 a16).bind fun v22 =>
    (idxL a17 (W (a16 - 1))).bind fun v23 =>
    (g3 v22 v23).bind fun v24 =>
    some (decide (v24 < 0))
    else
    some false)) fun e20 =>
    (bif e20 then
    (idxL a17 (W (a16 - 1))).bind fun v26 =>
    (idxL a17 a16).bind fun v27 =>
    (idxL (setL a17 a16 v26) (W (a16 - 1))).bind fun v28 =>
    slices_insertionSortCmpFunc_int_L2 b1 g3 fuel (W (a16 - 1)) (setL (setL a17 a16 v26) (W (a16 - 1)) v27)
    else
    some a17)
def slices_insertionSortCmpFunc_int_L1 (b1 : Int) (b2 : Int) (g3 : Int → Int → Option Int) : Nat → Int → (List Int) → Option (List Int)
  | 0, _, _ => none
  | fuel + 1, a6, a7 =>
    (bif (decide (a6 < b2)) then
    Option.bind
    (slices_insertionSortCmpFunc_int_L2 b1 g3 F0 a6 a7) fun p29 =>
    slices_insertionSortCmpFunc_int_L1 b1 b2 g3 fuel (W (a6 + 1)) p29
    else
    some a7)
def slices_insertionSortCmpFunc_int (b0 : List Int) (b1 : Int) (b2 : Int) (g3 : Int → Int → Option Int) : Option (List Int) :=
  Option.bind
  (slices_insertionSortCmpFunc_int_L1 b1 b2 g3 F0 (W (b1 + 1)) b0) fun p30 =>
  some p30
def slices_swapRangeCmpFunc_int_L1 (b1 : Int) (b2 : Int) (b3 : Int) : Nat → Int → (List Int) → Option (List Int)
  | 0, _, _ => none
  | fuel + 1, a7, a8 =>
    (bif (decide (a7 < b3)) then
    (idxL a8 (W (b2 + a7))).bind fun v12 =>
    (idxL a8 (W (b1 + a7))).bind fun v13 =>
    (idxL (setL a8 (W (b1 + a7)) v12) (W (b2 + a7))).bind fun v14 =>
    slices_swapRangeCmpFunc_int_L1 b1 b2 b3 fuel (W (a7 + 1)) (setL (setL a8 (W (b1 + a7)) v12) (W (b2 + a7)) v13)
    else
    some a8)
def slices_swapRangeCmpFunc_int (b0 : List Int) (b1 : Int) (b2 : Int) (b3 : Int) (g4 : Int → Int → Option Int) : Option (List Int) :=
  Option.bind
  (slices_swapRangeCmpFunc_int_L1 b1 b2 b3 F0 0 b0) fun p15 =>
  some p15
def slices_rotateCmpFunc_int_L1 (b2 : Int) (g4 : Int → Int → Option Int) : Nat → Int → Int → (List Int) → Option (Int × (List Int))
  | 0, _, _, _ => none
  | fuel + 1, a6, a7, a8 =>
    (bif (a6 != a7) then
    (bif (decide (a7 < a6)) then
    (slices_swapRangeCmpFunc_int a8 (W (b2 - a6)) b2 a7 g4).bind fun v13 =>
    slices_rotateCmpFunc_int_L1 b2 g4 fuel (W (a6 - a7)) a7 v13
    else
    (slices_swapRangeCmpFunc_int a8 (W (b2 - a6)) (W ((W (b2 + a7)) - a6)) a6 g4).bind fun v14 =>
    slices_rotateCmpFunc_int_L1 b2 g4 fuel a6 (W (a7 - a6)) v14)
    else
    some (a6, a8))
def slices_rotateCmpFunc_int (b0 : List Int) (b1 : Int) (b2 : Int) (b3 : Int) (g4 : Int → Int → Option Int) : Option (List Int) :=
  Option.bind
  (slices_rotateCmpFunc_int_L1 b2 g4 F0 (W (b2 - b1)) (W (b3 - b2)) b0) fun p15 =>
  (slices_swapRangeCmpFunc_int p15.2 (W (b2 - p15.1)) b2 p15.1 g4).bind fun v16 =>
  some v16
def slices_symMergeCmpFunc_int_L1 (b0 : List Int) (b1 : Int) (g4 : Int → Int → Option Int) : Nat → Int → Int → Option Int
  | 0, _, _ => none
  | fuel + 1, a7, a8 =>
    (bif (decide (a7 < a8)) then
    (idxL b0 (IntKind.i64.wrap (Int.fdiv (IntKind.u64.wrap (W (a7 + a8))) (2 ^ min (Int.toNat 1) (IntKind.bits .u64))))).bind fun v12 =>
    (idxL b0 b1).bind fun v13 =>
    (g4 v12 v13).bind fun v14 =>
    (bif (decide (v14 < 0)) then
    slices_symMergeCmpFunc_int_L1 b0 b1 g4 fuel (W ((IntKind.i64.wrap (Int.fdiv (IntKind.u64.wrap (W (a7 + a8))) (2 ^ min (Int.toNat 1) (IntKind.bits .u64)))) + 1)) a8
    else
    slices_symMergeCmpFunc_int_L1 b0 b1 g4 fuel a7 (IntKind.i64.wrap (Int.fdiv (IntKind.u64.wrap (W (a7 + a8))) (2 ^ min (Int.toNat 1) (IntKind.bits .u64)))))
    else
    some a7)
def slices_symMergeCmpFunc_int_L2 (p16 : Int) : Nat → Int → (List Int) → Option (List Int)
  | 0, _, _ => none
  | fuel + 1, a22, a23 =>
    (bif (decide (a22 < (W (p16 - 1)))) then
    (idxL a23 (W (a22 + 1))).bind fun v27 =>
    (idxL a23 a22).bind fun v28 =>
    (idxL (setL a23 a22 v27) (W (a22 + 1))).bind fun v29 =>
    slices_symMergeCmpFunc_int_L2 p16 fuel (W (a22 + 1)) (setL (setL a23 a22 v27) (W (a22 + 1)) v28)
    else
    some a23)
def slices_symMergeCmpFunc_int_L3 (b0 : List Int) (b2 : Int) (g4 : Int → Int → Option Int) : Nat → Int → Int → Option Int
  | 0, _, _ => none
  | fuel + 1, a37, a38 =>
    (bif (decide (a37 < a38)) then
    (idxL b0 b2).bind fun v42 =>
    (idxL b0 (IntKind.i64.wrap (Int.fdiv (IntKind.u64.wrap (W (a37 + a38))) (2 ^ min (Int.toNat 1) (IntKind.bits .u64))))).bind fun v43 =>
    (g4 v42 v43).bind fun v44 =>
    (bif (!(decide (v44 < 0))) then
    slices_symMergeCmpFunc_int_L3 b0 b2 g4 fuel (W ((IntKind.i64.wrap (Int.fdiv (IntKind.u64.wrap (W (a37 + a38))) (2 ^ min (Int.toNat 1) (IntKind.bits .u64)))) + 1)) a38
    else
    slices_symMergeCmpFunc_int_L3 b0 b2 g4 fuel a37 (IntKind.i64.wrap (Int.fdiv (IntKind.u64.wrap (W (a37 + a38))) (2 ^ min (Int.toNat 1) (IntKind.bits .u64)))))
    else
    some a37)
def slices_symMergeCmpFunc_int_L4 (p46 : Int) : Nat → Int → (List Int) → Option (List Int)
  | 0, _, _ => none
  | fuel + 1, a52, a53 =>
    (bif (decide (p46 < a52)) then
    (idxL a53 (W (a52 - 1))).bind fun v57 =>
    (idxL a53 a52).bind fun v58 =>
    (idxL (setL a53 a52 v57) (W (a52 - 1))).bind fun v59 =>
    slices_symMergeCmpFunc_int_L4 p46 fuel (W (a52 - 1)) (setL (setL a53 a52 v57) (W (a52 - 1)) v58)
    else
    some a53)
def slices_symMergeCmpFunc_int_L5 (b0 : List Int) (b1 : Int) (b2 : Int) (b3 : Int) (g4 : Int → Int → Option Int) : Nat → Int → Int → Option Int
  | 0, _, _ => none
  | fuel + 1, a72, a73 =>
    (bif (decide (a72 < a73)) then
    (idxL b0 (W ((W ((W ((IntKind.i64.wrap (Int.fdiv (IntKind.u64.wrap (W (b1 + b3))) (2 ^ min (Int.toNat 1) (IntKind.bits .u64)))) + b2)) - 1)) - (IntKind.i64.wrap (Int.fdiv (IntKind.u64.wrap (W (a72 + a73))) (2 ^ min (Int.toNat 1) (IntKind.bits .u64))))))).bind fun v77 =>
    (idxL b0 (IntKind.i64.wrap (Int.fdiv (IntKind.u64.wrap (W (a72 + a73))) (2 ^ min (Int.toNat 1) (IntKind.bits .u64))))).bind fun v78 =>
    (g4 v77 v78).bind fun v79 =>
    (bif (!(decide (v79 < 0))) then
    slices_symMergeCmpFunc_int_L5 b0 b1 b2 b3 g4 fuel (W ((IntKind.i64.wrap (Int.fdiv (IntKind.u64.wrap (W (a72 + a73))) (2 ^ min (Int.toNat 1) (IntKind.bits .u64)))) + 1)) a73
    else
    slices_symMergeCmpFunc_int_L5 b0 b1 b2 b3 g4 fuel a72 (IntKind.i64.wrap (Int.fdiv (IntKind.u64.wrap (W (a72 + a73))) (2 ^ min (Int.toNat 1) (IntKind.bits .u64)))))
    else
    some a72)
def slices_symMergeCmpFunc_int (b0 : List Int) (b1 : Int) (b2 : Int) (b3 : Int) (g4 : Int → Int → Option Int) : Option (List Int) :=
  (bif ((W (b2 - b1)) == 1) then
  Option.bind
  (slices_symMergeCmpFunc_int_L1 b0 b1 g4 F0 b2 b3) fun p16 =>
  Option.bind
  (slices_symMergeCmpFunc_int_L2 p16 F0 b1 b0) fun p30 =>
  some p30
  else
  (bif ((W (b3 - b2)) == 1) then
  Option.bind
  (slices_symMergeCmpFunc_int_L3 b0 b2 g4 F0 b1 b2) fun p46 =>
  Option.bind
  (slices_symMergeCmpFunc_int_L4 p46 F0 b2 b0) fun p60 =>
  some p60
  else
  Option.bind
  ((bif (decide ((IntKind.i64.wrap (Int.fdiv (IntKind.u64.wrap (W (b1 + b3))) (2 ^ min (Int.toNat 1) (IntKind.bits .u64)))) < b2)) then
  some ((W ((W ((IntKind.i64.wrap (Int.fdiv (IntKind.u64.wrap (W (b1 + b3))) (2 ^ min (Int.toNat 1) (IntKind.bits .u64)))) + b2)) - b3)), (IntKind.i64.wrap (Int.fdiv (IntKind.u64.wrap (W (b1 + b3))) (2 ^ min (Int.toNat 1) (IntKind.bits .u64)))))
  else
  some (b1, b2))) fun p66 =>
  Option.bind
  (slices_symMergeCmpFunc_int_L5 b0 b1 b2 b3 g4 F0 p66.1 p66.2) fun p81 =>
  Option.bind
  ((bif (decide (p81 < b2)) then
  some (decide (b2 < (W ((W ((IntKind.i64.wrap (Int.fdiv (IntKind.u64.wrap (W (b1 + b3))) (2 ^ min (Int.toNat 1) (IntKind.bits .u64)))) + b2)) - p81))))
  else
  some false)) fun e82 =>
  Option.bind
  ((bif e82 then
  (slices_rotateCmpFunc_int b0 p81 b2 (W ((W ((IntKind.i64.wrap (Int.fdiv (IntKind.u64.wrap (W (b1 + b3))) (2 ^ min (Int.toNat 1) (IntKind.bits .u64)))) + b2)) - p81)) g4).bind fun v89 =>
  some v89
  else
  some b0)) fun p90 =>
  Option.bind
  ((bif (decide (b1 < p81)) then
  some (decide (p81 < (IntKind.i64.wrap (Int.fdiv (IntKind.u64.wrap (W (b1 + b3))) (2 ^ min (Int.toNat 1) (IntKind.bits .u64))))))
  else
  some false)) fun e91 =>
  Option.bind
  ((bif e91 then
  none
  else
  some ())) fun p98 =>
  Option.bind
  ((bif (decide ((IntKind.i64.wrap (Int.fdiv (IntKind.u64.wrap (W (b1 + b3))) (2 ^ min (Int.toNat 1) (IntKind.bits .u64)))) < (W ((W ((IntKind.i64.wrap (Int.fdiv (IntKind.u64.wrap (W (b1 + b3))) (2 ^ min (Int.toNat 1) (IntKind.bits .u64)))) + b2)) - p81)))) then
  some (decide ((W ((W ((IntKind.i64.wrap (Int.fdiv (IntKind.u64.wrap (W (b1 + b3))) (2 ^ min (Int.toNat 1) (IntKind.bits .u64)))) + b2)) - p81)) < b3))
  else
  some false)) fun e99 =>
  (bif e99 then
  none
  else
  some p90)))
def slices_stableCmpFunc_int_L1 (b1 : Int) (g2 : Int → Int → Option Int) : Nat → Int → Int → (List Int) → Option (Int × (List Int))
  | 0, _, _, _ => none
  | fuel + 1, a6, a7, a8 =>
    (bif (decide (a7 ≤ b1)) then
    (slices_insertionSortCmpFunc_int a8 a6 a7 g2).bind fun v12 =>
    slices_stableCmpFunc_int_L1 b1 g2 fuel a7 (W (a7 + 20)) v12
    else
    some (a6, a8))
def slices_stableCmpFunc_int_L3 (b1 : Int) (g2 : Int → Int → Option Int) (a20 : Int) : Nat → Int → Int → (List Int) → Option (Int × (List Int))
  | 0, _, _, _ => none
  | fuel + 1, a30, a31, a32 =>
    (bif (decide (a31 ≤ b1)) then
    (slices_symMergeCmpFunc_int a32 a30 (W (a30 + a20)) a31 g2).bind fun v36 =>
    slices_stableCmpFunc_int_L3 b1 g2 a20 fuel a31 (W (a31 + (W (2 * a20)))) v36
    else
    some (a30, a32))
def slices_stableCmpFunc_int_L2 (b1 : Int) (g2 : Int → Int → Option Int) : Nat → Int → (List Int) → Option (List Int)
  | 0, _, _ => none
  | fuel + 1, a20, a21 =>
    (bif (decide (a20 < b1)) then
    Option.bind
    (slices_stableCmpFunc_int_L3 b1 g2 a20 F0 0 (W (2 * a20)) a21) fun p37 =>
    (bif (decide ((W (p37.1 + a20)) < b1)) then
    (slices_symMergeCmpFunc_int p37.2 p37.1 (W (p37.1 + a20)) b1 g2).bind fun v39 =>
    slices_stableCmpFunc_int_L2 b1 g2 fuel (W (a20 * 2)) v39
    else
    slices_stableCmpFunc_int_L2 b1 g2 fuel (W (a20 * 2)) p37.2)
    else
    some a21)
def slices_stableCmpFunc_int (b0 : List Int) (b1 : Int) (g2 : Int → Int → Option Int) : Option (List Int) :=
  Option.bind
  (slices_stableCmpFunc_int_L1 b1 g2 F0 0 20 b0) fun p13 =>
  (slices_insertionSortCmpFunc_int p13.2 p13.1 b1 g2).bind fun v14 =>
  Option.bind
  (slices_stableCmpFunc_int_L2 b1 g2 F0 20 v14) fun p40 =>
  some p40
def slices_SortStableFunc_int (b0 : List Int) (g1 : Int → Int → Option Int) : Option (List Int) :=
  (slices_stableCmpFunc_int b0 (b0.length : Int) g1).bind fun v1 =>
  some v1
def i_MachineChain (b0 : TProject) (b1 : TDomain) (b2 : Int) : Option (List Int) :=
  (i_onMachine b0 b1 b2).bind fun v1 =>
  (bif (!v1) then
  some ([] : List Int)
  else
  (i_IntRange (b0.Activities.length : Int)).bind fun v3 =>
  (i_kept v3 (fun x0 => i_MachineChain_c1 x0 b0 b1 b2)).bind fun v4 =>
  (slices_SortStableFunc_int v4 (fun x0 x1 => i_MachineChain_c2 x0 x1 b1)).bind fun v5 =>
  some v5)
def i_MachineBound_L2 (b0 : TProject) (b2 : Int) (x15 : Int) : List Int → Int → Int → Bool → Option Int
  | [], z25, a26, a27 =>
    some a26
  | x28 :: xs29, z25, a26, a27 =>
    (i_SetupTime b0 b2 x28 x15).bind fun v31 =>
    Option.bind
    ((bif (x28 != x15) then
    (bif (!a27) then
    some true
    else
    some (decide (v31 < a26)))
    else
    some false)) fun e32 =>
    (bif e32 then
    i_MachineBound_L2 b0 b2 x15 xs29 (z25 + 1) v31 true
    else
    i_MachineBound_L2 b0 b2 x15 xs29 (z25 + 1) a26 a27)
def i_MachineBound_L1 (b0 : TProject) (b1 : TDomain) (b2 : Int) (v1 : List Int) : List Int → Int → Int → Int → Option (Int × Int)
  | [], z12, a13, a14 =>
    some (a13, a14)
  | x15 :: xs16, z12, a13, a14 =>
    Option.bind
    (i_MachineBound_L2 b0 b2 x15 v1 0 0 false) fun p36 =>
    (i_Project_duration b0 b1 x15).bind fun v37 =>
    i_MachineBound_L1 b0 b1 b2 v1 xs16 (z12 + 1) (W (a13 + (W (v37 + p36)))) (max a14 p36)
def i_MachineBound (b0 : TProject) (b1 : TDomain) (b2 : Int) : Option Int :=
  (i_MachineChain b0 b1 b2).bind fun v1 =>
  (bif ((v1.length : Int) == 0) then
  some 0
  else
  (idxL v1 0).bind fun v3 =>
  (idxL b1.MinStart v3).bind fun v4 =>
  Option.bind
  (i_MachineBound_L1 b0 b1 b2 v1 v1 0 v4 0) fun p38 =>
  some (W (p38.1 - p38.2)))
def w_FnExactMachineBound (b0 : TProject) (b1 : TDomain) (b2 : Int) : Option Bool :=
  (w_szProject b0 1048576).bind fun v1 =>
  (bif (decide (v1 < 0)) then
  some true
  else
  (w_szDomain b1 v1).bind fun v3 =>
  (bif (decide (v3 < 0)) then
  some true
  else
  (w_toProject b0).bind fun v5 =>
  (w_toDomain b1).bind fun v6 =>
  (s_MachineBound v5 v6 b2).bind fun v7 =>
  (w_toProject b0).bind fun v8 =>
  (w_toDomain b1).bind fun v9 =>
  (i_MachineBound v8 v9 b2).bind fun v10 =>
  (bif (v10 != v7) then
  some false
  else
  (w_toProject b0).bind fun v12 =>
  (w_eqProject v8 v12).bind fun v13 =>
  (bif (!v13) then
  some false
  else
  (w_toDomain b1).bind fun v15 =>
  (w_eqDomain v9 v15).bind fun v16 =>
  (bif (!v16) then
  some false
  else
  some true)))))
def s_l12Of_L1 (b0 : TProject) : List TActivity → Int → (List Int) → (List Int) → (List (List Int)) → Option ((List Int) × (List Int) × (List (List Int)))
  | [], z8, a9, a10, a11 =>
    some (a9, a10, a11)
  | x12 :: xs13, z8, a9, a10, a11 =>
    (appL a9 ([0] : List Int)).bind fun v15 =>
    (appL a10 ([(W (b0.Deadline - 1))] : List Int)).bind fun v16 =>
    (s_ModeIndexes x12).bind fun v17 =>
    (appL a11 ([v17] : List (List Int))).bind fun v18 =>
    s_l12Of_L1 b0 xs13 (z8 + 1) v15 v16 v18
def s_l12Of (b0 : TProject) : Option TDomain :=
  Option.bind
  (s_l12Of_L1 b0 b0.Activities 0 ([] : List Int) ([] : List Int) ([] : List (List Int))) fun p19 =>
  some (TDomain.mk p19.1 p19.2.1 p19.2.2)
def s_MachineLowerBound_L1 (b0 : TProject) : List TResource → Int → Int → Option Int
  | [], z10, a11 =>
    some a11
  | x12 :: xs13, z10, a11 =>
    (s_l12Of b0).bind fun v15 =>
    (s_MachineBound b0 v15 z10).bind fun v16 =>
    (s_l02Max a11 v16).bind fun v17 =>
    s_MachineLowerBound_L1 b0 xs13 (z10 + 1) v17
def s_MachineLowerBound (b0 : TProject) : Option Int :=
  (s_ProjectOk b0).bind fun v1 =>
  (bif (!v1) then
  some 0
  else
  Option.bind
  (s_MachineLowerBound_L1 b0 b0.Resources 0 0) fun p18 =>
  some p18)
def i_InitialDomain_L1 (b0 : TProject) : List TActivity → Int → (List Int) → (List Int) → (List (List Int)) → Option ((List Int) × (List Int) × (List (List Int)))
  | [], z10, a11, a12, a13 =>
    some (a11, a12, a13)
  | x14 :: xs15, z10, a11, a12, a13 =>
    (appL a11 ([0] : List Int)).bind fun v17 =>
    (appL a12 ([(W (b0.Deadline - 1))] : List Int)).bind fun v18 =>
    (i_ModeIndexes x14).bind fun v19 =>
    (appL a13 ([v19] : List (List Int))).bind fun v20 =>
    i_InitialDomain_L1 b0 xs15 (z10 + 1) v17 v18 v20
def i_InitialDomain (b0 : TProject) : Option TDomain :=
  (i_ProjectOk b0).bind fun v1 =>
  (bif (!v1) then
  some (TDomain.mk ([] : List Int) ([] : List Int) ([] : List (List Int)))
  else
  Option.bind
  (i_InitialDomain_L1 b0 b0.Activities 0 ([] : List Int) ([] : List Int) ([] : List (List Int))) fun p21 =>
  some (TDomain.mk p21.1 p21.2.1 p21.2.2))
def i_MachineLowerBound_L1 (b0 : TProject) : List TResource → Int → Int → Option Int
  | [], z10, a11 =>
    some a11
  | x12 :: xs13, z10, a11 =>
    (i_InitialDomain b0).bind fun v15 =>
    (i_MachineBound b0 v15 z10).bind fun v16 =>
    i_MachineLowerBound_L1 b0 xs13 (z10 + 1) (max a11 v16)
def i_MachineLowerBound (b0 : TProject) : Option Int :=
  (i_ProjectOk b0).bind fun v1 =>
  (bif (!v1) then
  some 0
  else
  Option.bind
  (i_MachineLowerBound_L1 b0 b0.Resources 0 0) fun p17 =>
  some p17)
def w_FnExactMachineLowerBound (b0 : TProject) : Option Bool :=
  (w_szProject b0 1048576).bind fun v1 =>
  (bif (decide (v1 < 0)) then
  some true
  else
  (w_toProject b0).bind fun v3 =>
  (s_MachineLowerBound v3).bind fun v4 =>
  (w_toProject b0).bind fun v5 =>
  (i_MachineLowerBound v5).bind fun v6 =>
  (bif (v6 != v4) then
  some false
  else
  (w_toProject b0).bind fun v8 =>
  (w_eqProject v5 v8).bind fun v9 =>
  (bif (!v9) then
  some false
  else
  some true)))
def w_markDomain_k (b0 : TDomain) (b1 : Int) : Option Int :=
  (w_markIntS_k b0.MinStart b1).bind fun v1 =>
  (w_markIntS_k b0.MaxStart v1).bind fun v2 =>
  (w_markIntSS_k b0.Modes v2).bind fun v3 =>
  some v3
def w_FnExactMachineChain (b0 : TProject) (b1 : TDomain) (b2 : Int) : Option Bool :=
  (w_szProject b0 1048576).bind fun v1 =>
  (bif (decide (v1 < 0)) then
  some true
  else
  (w_szDomain b1 v1).bind fun v3 =>
  (bif (decide (v3 < 0)) then
  some true
  else
  (w_toProject b0).bind fun v5 =>
  (w_toDomain b1).bind fun v6 =>
  (s_MachineChain v5 v6 b2).bind fun v7 =>
  (w_toProject b0).bind fun v8 =>
  (w_toDomain b1).bind fun v9 =>
  (i_MachineChain v8 v9 b2).bind fun v10 =>
  (w_eqIntS v10 v7).bind fun v11 =>
  (bif (!v11) then
  some false
  else
  (w_toProject b0).bind fun v13 =>
  (w_eqProject v8 v13).bind fun v14 =>
  (bif (!v14) then
  some false
  else
  (w_toDomain b1).bind fun v16 =>
  (w_eqDomain v9 v16).bind fun v17 =>
  (bif (!v17) then
  some false
  else
  (w_markProject_k v8 1).bind fun v19 =>
  (w_markDomain_k v9 v19).bind fun v20 =>
  Option.bind
  ((bif (decide (v20 < 0)) then
  some true
  else
  (w_eqIntS v10 v7).bind fun v23 =>
  some (!v23))) fun e21 =>
  (bif e21 then
  some false
  else
  (w_markIntS v10 1).bind fun v25 =>
  (w_heldIntS v25.2 1).bind fun v26 =>
  (bif (decide (v26 < 0)) then
  some false
  else
  (bif (v26 != v25.1) then
  some false
  else
  (w_toProject b0).bind fun v29 =>
  (w_toDomain b1).bind fun v30 =>
  (i_MachineChain v29 v30 b2).bind fun v31 =>
  (w_eqIntS v31 v7).bind fun v32 =>
  (bif (!v32) then
  some false
  else
  (w_heldIntS v25.2 1).bind fun v34 =>
  (bif (decide (v34 < 0)) then
  some false
  else
  (bif (v34 != v25.1) then
  some false
  else
  some true)))))))))))
def b_l_int (M : Nat) (l : List Int) : Prop := l.length ≤ M
theorem w_szIntS_ok (x : List Int) (h : b_l_int 9223372036854775807 x) : SzOk w_szIntS (b_l_int 1048576) x := szFlat x (fun _ => rfl) h
def b_str (M : Nat) (x : ByteArray) : Prop := x.size ≤ M
def bTMode (M : Nat) (x : TMode) : Prop := b_l_int M x.Usage ∧ b_l_int M x.Consumption ∧  True
theorem w_szMode_ok (x : TMode) (h : bTMode 9223372036854775807 x) : SzOk w_szMode (bTMode 1048576) x := fun n m0 hn => by
  unfold w_szMode bTMode
  unfold bTMode at h
  exact szThen (w_szIntS_ok _ h.1) m0 (by omega) (fun n1 m1 _ _ => szThen (w_szIntS_ok _ h.2.1) m1 (by omega) (fun n2 m2 _ _ => szEnd m2))
def b_l_eTMode (M : Nat) (l : List TMode) : Prop := l.length ≤ M ∧ ∀ x ∈ l, bTMode M x
theorem w_szModeS_ok (x : List TMode) (h : b_l_eTMode 9223372036854775807 x) : SzOk w_szModeS (b_l_eTMode 1048576) x := szList (F := w_szModeS_L1) (sz := w_szMode) (Q := bTMode 1048576) x (fun _ _ => rfl) (fun _ _ _ _ => rfl) (fun _ => rfl) h.1 (fun y hy => w_szMode_ok y (h.2 y hy))
def bTActivity (M : Nat) (x : TActivity) : Prop := b_str M x.Name ∧ b_l_eTMode M x.Modes ∧  True
theorem w_szActivity_ok (x : TActivity) (h : bTActivity 9223372036854775807 x) : SzOk w_szActivity (bTActivity 1048576) x := fun n m0 hn => by
  unfold w_szActivity bTActivity
  unfold bTActivity at h
  exact szStr h.1 m0 (by omega) (fun n1 m1 _ _ => szThen (w_szModeS_ok _ h.2.1) m1 (by omega) (fun n2 m2 _ _ => szEnd m2))
def b_l_eTActivity (M : Nat) (l : List TActivity) : Prop := l.length ≤ M ∧ ∀ x ∈ l, bTActivity M x
theorem w_szActivityS_ok (x : List TActivity) (h : b_l_eTActivity 9223372036854775807 x) : SzOk w_szActivityS (b_l_eTActivity 1048576) x := szList (F := w_szActivityS_L1) (sz := w_szActivity) (Q := bTActivity 1048576) x (fun _ _ => rfl) (fun _ _ _ _ => rfl) (fun _ => rfl) h.1 (fun y hy => w_szActivity_ok y (h.2 y hy))
def b_l_eTLink (M : Nat) (l : List TLink) : Prop := l.length ≤ M
theorem w_szLinkS_ok (x : List TLink) (h : b_l_eTLink 9223372036854775807 x) : SzOk w_szLinkS (b_l_eTLink 1048576) x := szFlat x (fun _ => rfl) h
def b_l_eTStep (M : Nat) (l : List TStep) : Prop := l.length ≤ M
theorem w_szStepS_ok (x : List TStep) (h : b_l_eTStep 9223372036854775807 x) : SzOk w_szStepS (b_l_eTStep 1048576) x := szFlat x (fun _ => rfl) h
def b_l_l_int (M : Nat) (l : List (List Int)) : Prop := l.length ≤ M ∧ ∀ x ∈ l, b_l_int M x
theorem w_szIntSS_ok (x : List (List Int)) (h : b_l_l_int 9223372036854775807 x) : SzOk w_szIntSS (b_l_l_int 1048576) x := szList (F := w_szIntSS_L1) (sz := w_szIntS) (Q := b_l_int 1048576) x (fun _ _ => rfl) (fun _ _ _ _ => rfl) (fun _ => rfl) h.1 (fun y hy => w_szIntS_ok y (h.2 y hy))
def bTResource (M : Nat) (x : TResource) : Prop := b_l_eTStep M x.Steps ∧ b_l_l_int M x.Setup ∧  True
theorem w_szResource_ok (x : TResource) (h : bTResource 9223372036854775807 x) : SzOk w_szResource (bTResource 1048576) x := fun n m0 hn => by
  unfold w_szResource bTResource
  unfold bTResource at h
  exact szThen (w_szStepS_ok _ h.1) m0 (by omega) (fun n1 m1 _ _ => szThen (w_szIntSS_ok _ h.2.1) m1 (by omega) (fun n2 m2 _ _ => szEnd m2))
def b_l_eTResource (M : Nat) (l : List TResource) : Prop := l.length ≤ M ∧ ∀ x ∈ l, bTResource M x
theorem w_szResourceS_ok (x : List TResource) (h : b_l_eTResource 9223372036854775807 x) : SzOk w_szResourceS (b_l_eTResource 1048576) x := szList (F := w_szResourceS_L1) (sz := w_szResource) (Q := bTResource 1048576) x (fun _ _ => rfl) (fun _ _ _ _ => rfl) (fun _ => rfl) h.1 (fun y hy => w_szResource_ok y (h.2 y hy))
def bTProject (M : Nat) (x : TProject) : Prop := b_l_eTActivity M x.Activities ∧ b_l_eTLink M x.Links ∧ b_l_eTResource M x.Resources ∧ b_l_int M x.Stocks ∧  True
theorem w_szProject_ok (x : TProject) (h : bTProject 9223372036854775807 x) : SzOk w_szProject (bTProject 1048576) x := fun n m0 hn => by
  unfold w_szProject bTProject
  unfold bTProject at h
  exact szThen (w_szActivityS_ok _ h.1) m0 (by omega) (fun n1 m1 _ _ => szThen (w_szLinkS_ok _ h.2.1) m1 (by omega) (fun n2 m2 _ _ => szThen (w_szResourceS_ok _ h.2.2.1) m2 (by omega) (fun n3 m3 _ _ => szThen (w_szIntS_ok _ h.2.2.2.1) m3 (by omega) (fun n4 m4 _ _ => szEnd m4))))
theorem w_toIntS_eq (x : List Int) (h : b_l_int 1048576 x) : w_toIntS x = some x := fillList (F := w_toIntS_L1) (Q := fun _ => True) (fun _ _ => rfl) (fun x xs z a y hq hy => by simp only [w_toIntS_L1, hy, Option.bind_some]) h (fun _ _ => trivial) rfl
theorem w_toMode_eq (x : TMode) (h : bTMode 1048576 x) : w_toMode x = some x := by
  unfold bTMode at h
  unfold w_toMode
  try simp only [w_toIntS_eq _ (h.1), w_toIntS_eq _ (h.2.1), Option.bind_some]
theorem w_toModeS_eq (x : List TMode) (h : b_l_eTMode 1048576 x) : w_toModeS x = some x := fillList (F := w_toModeS_L1) (Q := bTMode 1048576) (fun _ _ => rfl) (fun x xs z a y hq hy => by simp only [w_toModeS_L1, w_toMode_eq x hq, hy, Option.bind_some]) h.1 h.2 rfl
theorem w_toActivity_eq (x : TActivity) (h : bTActivity 1048576 x) : w_toActivity x = some x := by
  unfold bTActivity at h
  unfold w_toActivity
  try simp only [w_toModeS_eq _ (h.2.1), Option.bind_some]
theorem w_toActivityS_eq (x : List TActivity) (h : b_l_eTActivity 1048576 x) : w_toActivityS x = some x := fillList (F := w_toActivityS_L1) (Q := bTActivity 1048576) (fun _ _ => rfl) (fun x xs z a y hq hy => by simp only [w_toActivityS_L1, w_toActivity_eq x hq, hy, Option.bind_some]) h.1 h.2 rfl
theorem w_toLink_eq (x : TLink) : w_toLink x = some x := by
  unfold w_toLink
  try simp only [Option.bind_some]
theorem w_toLinkS_eq (x : List TLink) (h : b_l_eTLink 1048576 x) : w_toLinkS x = some x := fillList (F := w_toLinkS_L1) (Q := fun _ => True) (fun _ _ => rfl) (fun x xs z a y hq hy => by simp only [w_toLinkS_L1, w_toLink_eq, hy, Option.bind_some]) h (fun _ _ => trivial) rfl
theorem w_toStep_eq (x : TStep) : w_toStep x = some x := by
  unfold w_toStep
  try simp only [Option.bind_some]
theorem w_toStepS_eq (x : List TStep) (h : b_l_eTStep 1048576 x) : w_toStepS x = some x := fillList (F := w_toStepS_L1) (Q := fun _ => True) (fun _ _ => rfl) (fun x xs z a y hq hy => by simp only [w_toStepS_L1, w_toStep_eq, hy, Option.bind_some]) h (fun _ _ => trivial) rfl
theorem w_toIntSS_eq (x : List (List Int)) (h : b_l_l_int 1048576 x) : w_toIntSS x = some x := fillList (F := w_toIntSS_L1) (Q := b_l_int 1048576) (fun _ _ => rfl) (fun x xs z a y hq hy => by simp only [w_toIntSS_L1, w_toIntS_eq x hq, hy, Option.bind_some]) h.1 h.2 rfl
theorem w_toResource_eq (x : TResource) (h : bTResource 1048576 x) : w_toResource x = some x := by
  unfold bTResource at h
  unfold w_toResource
  try simp only [w_toStepS_eq _ (h.1), w_toIntSS_eq _ (h.2.1), Option.bind_some]
theorem w_toResourceS_eq (x : List TResource) (h : b_l_eTResource 1048576 x) : w_toResourceS x = some x := fillList (F := w_toResourceS_L1) (Q := bTResource 1048576) (fun _ _ => rfl) (fun x xs z a y hq hy => by simp only [w_toResourceS_L1, w_toResource_eq x hq, hy, Option.bind_some]) h.1 h.2 rfl
theorem w_toProject_eq (x : TProject) (h : bTProject 1048576 x) : w_toProject x = some x := by
  unfold bTProject at h
  unfold w_toProject
  try simp only [w_toActivityS_eq _ (h.1), w_toLinkS_eq _ (h.2.1), w_toResourceS_eq _ (h.2.2.1), w_toIntS_eq _ (h.2.2.2.1), Option.bind_some]
theorem w_eqIntS_eq (a b : List Int) : w_eqIntS a b = some (decide (a = b)) := eqList (F := w_eqIntS_L1 b) (fun _ => rfl) (fun x xs z y h => by simp only [w_eqIntS_L1, h, Option.bind_some, int_bne]; by_cases hxy : x = y <;> simp [hxy]) rfl
theorem w_eqMode_eq (a b : TMode) : w_eqMode a b = some (decide (a = b)) := by
  obtain ⟨a0, a1, a2⟩ := a
  obtain ⟨b0, b1, b2⟩ := b
  simp only [w_eqMode, w_eqIntS_eq, w_eqIntS_eq, TMode.mk.injEq, Option.bind_some, int_bne, bool_bne, ba_bne]
  by_cases h0 : a0 = b0 <;> by_cases h1 : a1 = b1 <;> by_cases h2 : a2 = b2 <;> simp [h0, h1, h2]
theorem w_eqModeS_eq (a b : List TMode) : w_eqModeS a b = some (decide (a = b)) := eqList (F := w_eqModeS_L1 b) (fun _ => rfl) (fun x xs z y h => by simp only [w_eqModeS_L1, h, Option.bind_some, int_bne, w_eqMode_eq]; by_cases hxy : x = y <;> simp [hxy]) rfl
theorem w_eqActivity_eq (a b : TActivity) : w_eqActivity a b = some (decide (a = b)) := by
  obtain ⟨a0, a1, a2⟩ := a
  obtain ⟨b0, b1, b2⟩ := b
  simp only [w_eqActivity, w_eqModeS_eq, TActivity.mk.injEq, Option.bind_some, int_bne, bool_bne, ba_bne]
  by_cases h0 : a0 = b0 <;> by_cases h1 : a1 = b1 <;> by_cases h2 : a2 = b2 <;> simp [h0, h1, h2]
theorem w_eqActivityS_eq (a b : List TActivity) : w_eqActivityS a b = some (decide (a = b)) := eqList (F := w_eqActivityS_L1 b) (fun _ => rfl) (fun x xs z y h => by simp only [w_eqActivityS_L1, h, Option.bind_some, int_bne, w_eqActivity_eq]; by_cases hxy : x = y <;> simp [hxy]) rfl
theorem w_eqLink_eq (a b : TLink) : w_eqLink a b = some (decide (a = b)) := by
  obtain ⟨a0, a1, a2, a3⟩ := a
  obtain ⟨b0, b1, b2, b3⟩ := b
  simp only [w_eqLink, TLink.mk.injEq, Option.bind_some, int_bne, bool_bne, ba_bne]
  by_cases h0 : a0 = b0 <;> by_cases h1 : a1 = b1 <;> by_cases h2 : a2 = b2 <;> by_cases h3 : a3 = b3 <;> simp [h0, h1, h2, h3]
theorem w_eqLinkS_eq (a b : List TLink) : w_eqLinkS a b = some (decide (a = b)) := eqList (F := w_eqLinkS_L1 b) (fun _ => rfl) (fun x xs z y h => by simp only [w_eqLinkS_L1, h, Option.bind_some, int_bne, w_eqLink_eq]; by_cases hxy : x = y <;> simp [hxy]) rfl
theorem w_eqStep_eq (a b : TStep) : w_eqStep a b = some (decide (a = b)) := by
  obtain ⟨a0, a1⟩ := a
  obtain ⟨b0, b1⟩ := b
  simp only [w_eqStep, TStep.mk.injEq, Option.bind_some, int_bne, bool_bne, ba_bne]
  by_cases h0 : a0 = b0 <;> by_cases h1 : a1 = b1 <;> simp [h0, h1]
theorem w_eqStepS_eq (a b : List TStep) : w_eqStepS a b = some (decide (a = b)) := eqList (F := w_eqStepS_L1 b) (fun _ => rfl) (fun x xs z y h => by simp only [w_eqStepS_L1, h, Option.bind_some, int_bne, w_eqStep_eq]; by_cases hxy : x = y <;> simp [hxy]) rfl
theorem w_eqIntSS_eq (a b : List (List Int)) : w_eqIntSS a b = some (decide (a = b)) := eqList (F := w_eqIntSS_L1 b) (fun _ => rfl) (fun x xs z y h => by simp only [w_eqIntSS_L1, h, Option.bind_some, int_bne, w_eqIntS_eq]; by_cases hxy : x = y <;> simp [hxy]) rfl
theorem w_eqResource_eq (a b : TResource) : w_eqResource a b = some (decide (a = b)) := by
  obtain ⟨a0, a1⟩ := a
  obtain ⟨b0, b1⟩ := b
  simp only [w_eqResource, w_eqStepS_eq, w_eqIntSS_eq, TResource.mk.injEq, Option.bind_some, int_bne, bool_bne, ba_bne]
  by_cases h0 : a0 = b0 <;> by_cases h1 : a1 = b1 <;> simp [h0, h1]
theorem w_eqResourceS_eq (a b : List TResource) : w_eqResourceS a b = some (decide (a = b)) := eqList (F := w_eqResourceS_L1 b) (fun _ => rfl) (fun x xs z y h => by simp only [w_eqResourceS_L1, h, Option.bind_some, int_bne, w_eqResource_eq]; by_cases hxy : x = y <;> simp [hxy]) rfl
theorem w_eqProject_eq (a b : TProject) : w_eqProject a b = some (decide (a = b)) := by
  obtain ⟨a0, a1, a2, a3, a4⟩ := a
  obtain ⟨b0, b1, b2, b3, b4⟩ := b
  simp only [w_eqProject, w_eqActivityS_eq, w_eqLinkS_eq, w_eqResourceS_eq, w_eqIntS_eq, TProject.mk.injEq, Option.bind_some, int_bne, bool_bne, ba_bne]
  by_cases h0 : a0 = b0 <;> by_cases h1 : a1 = b1 <;> by_cases h2 : a2 = b2 <;> by_cases h3 : a3 = b3 <;> by_cases h4 : a4 = b4 <;> simp [h0, h1, h2, h3, h4]
theorem w_markIntS_k_ok (x : List Int) (h : b_l_int 1048576 x) : MkOk w_markIntS_k 1048576 x :=
  MkOk.list (L1 := w_markIntS_k_L1) (e := 1) (Q := fun _ => True) (fun _ _ => rfl) (fun x xs z k hx h0 hb => by
    skip
    refine ⟨(k + 1), by omega, by omega, ?_⟩
    simp only [w_markIntS_k_L1]
    rw [W_of (n := (k + 1)) ⟨by omega, by omega⟩])
    (fun l k => by unfold w_markIntS_k; cases w_markIntS_k_L1 l 0 k <;> rfl) h (fun _ _ => trivial) (by decide)
theorem w_markModeS_k_ok (x : List TMode) (h : b_l_eTMode 1048576 x) : MkOk w_markModeS_k 2199024304128 x :=
  MkOk.list (L1 := w_markModeS_k_L1) (e := 2097153) (Q := bTMode 1048576) (fun _ _ => rfl) (fun x xs z k hx h0 hb => by
    unfold bTMode at hx
    obtain ⟨k0, e0, l0, u0⟩ := w_markIntS_k_ok x.Usage (hx.1) (k + 1) (by omega) (by omega)
    obtain ⟨k1, e1, l1, u1⟩ := w_markIntS_k_ok x.Consumption (hx.2.1) k0 (by omega) (by omega)
    refine ⟨k1, by omega, by omega, ?_⟩
    simp only [w_markModeS_k_L1]
    rw [W_of (n := (k + 1)) ⟨by omega, by omega⟩, e0, Option.bind_some, e1, Option.bind_some])
    (fun l k => by unfold w_markModeS_k; cases w_markModeS_k_L1 l 0 k <;> rfl) h.1 h.2 (by decide)
theorem w_markText_ok (k : Int) (h0 : 0 ≤ k) (h1 : k ≤ 9223372036854775807) : ∃ s, w_markText k = some s := by
  by_cases hk : k ≤ 0
  · exact ⟨_, by unfold w_markText; rw [decide_eq_true hk, cond_true]⟩
  obtain ⟨s, e1, e2⟩ := markText (L1 := w_markText_L1) (fun fuel k s hk hk3 hs => by
    have hd : decide (0 < k) = true := decide_eq_true hk
    have hz : ∀ n : Int, (strB [n]).size = 1 := fun n => rfl
    refine ⟨strB [IntKind.u8.wrap (W (48 + k.tmod 10))] ++ s, by rw [ByteArray.size_append, hz]; omega, ?_⟩
    simp only [w_markText_L1, hd, cond_true]
    have hc : catS (strB [IntKind.u8.wrap (W (48 + k.tmod 10))]) s = some (strB [IntKind.u8.wrap (W (48 + k.tmod 10))] ++ s) := by
      unfold catS; rw [if_pos (by rw [hz]; omega)]
    have hw : W (k.tdiv 10) = k.tdiv 10 := W_of ⟨by rw [Int.tdiv_eq_ediv_of_nonneg (by omega)]; omega, by rw [Int.tdiv_eq_ediv_of_nonneg (by omega)]; omega⟩
    rw [hc, Option.bind_some, hw]) (fun fuel k s hk => by
    have hd : decide (0 < k) = false := decide_eq_false (by omega)
    simp only [w_markText_L1, hd, cond_false]) 19 F0 k ByteArray.empty (by have := F0_gt; omega) (by omega) h1 (by decide)
  refine ⟨_, by unfold w_markText; rw [decide_eq_false hk, cond_false, e1, Option.bind_some]; unfold catS; rw [if_pos (by have : ByteArray.empty.size = 0 := rfl; have : (⟨#[109]⟩ : ByteArray).size = 1 := rfl; omega), Option.bind_some]⟩
theorem w_markActivityS_k_ok (x : List TActivity) (h : b_l_eTActivity 1048576 x) : MkOk w_markActivityS_k 2305844108727418880 x :=
  MkOk.list (L1 := w_markActivityS_k_L1) (e := 2199024304130) (Q := bTActivity 1048576) (fun _ _ => rfl) (fun x xs z k hx h0 hb => by
    unfold bTActivity at hx
    obtain ⟨s0, es0⟩ := w_markText_ok k (by omega) (by omega)
    obtain ⟨k1, e1, l1, u1⟩ := w_markModeS_k_ok x.Modes (hx.2.1) ((k + 1) + 1) (by omega) (by omega)
    refine ⟨k1, by omega, by omega, ?_⟩
    simp only [w_markActivityS_k_L1]
    rw [es0, Option.bind_some, W_of (n := (k + 1)) ⟨by omega, by omega⟩, W_of (n := ((k + 1) + 1)) ⟨by omega, by omega⟩, e1, Option.bind_some])
    (fun l k => by unfold w_markActivityS_k; cases w_markActivityS_k_L1 l 0 k <;> rfl) h.1 h.2 (by decide)
theorem w_markLinkS_k_ok (x : List TLink) (h : b_l_eTLink 1048576 x) : MkOk w_markLinkS_k 4194304 x :=
  MkOk.list (L1 := w_markLinkS_k_L1) (e := 4) (Q := fun _ => True) (fun _ _ => rfl) (fun x xs z k hx h0 hb => by
    skip
    refine ⟨((((k + 1) + 1) + 1) + 1), by omega, by omega, ?_⟩
    simp only [w_markLinkS_k_L1]
    rw [W_of (n := (k + 1)) ⟨by omega, by omega⟩, W_of (n := ((k + 1) + 1)) ⟨by omega, by omega⟩, W_of (n := (((k + 1) + 1) + 1)) ⟨by omega, by omega⟩, W_of (n := ((((k + 1) + 1) + 1) + 1)) ⟨by omega, by omega⟩])
    (fun l k => by unfold w_markLinkS_k; cases w_markLinkS_k_L1 l 0 k <;> rfl) h (fun _ _ => trivial) (by decide)
theorem w_markStepS_k_ok (x : List TStep) (h : b_l_eTStep 1048576 x) : MkOk w_markStepS_k 2097152 x :=
  MkOk.list (L1 := w_markStepS_k_L1) (e := 2) (Q := fun _ => True) (fun _ _ => rfl) (fun x xs z k hx h0 hb => by
    skip
    refine ⟨((k + 1) + 1), by omega, by omega, ?_⟩
    simp only [w_markStepS_k_L1]
    rw [W_of (n := (k + 1)) ⟨by omega, by omega⟩, W_of (n := ((k + 1) + 1)) ⟨by omega, by omega⟩])
    (fun l k => by unfold w_markStepS_k; cases w_markStepS_k_L1 l 0 k <;> rfl) h (fun _ _ => trivial) (by decide)
theorem w_markIntSS_k_ok (x : List (List Int)) (h : b_l_l_int 1048576 x) : MkOk w_markIntSS_k 1099511627776 x :=
  MkOk.list (L1 := w_markIntSS_k_L1) (e := 1048576) (Q := b_l_int 1048576) (fun _ _ => rfl) (fun x xs z k hx h0 hb => by
    obtain ⟨k0, e0, l0, u0⟩ := w_markIntS_k_ok x hx k (by omega) (by omega)
    refine ⟨k0, by omega, by omega, ?_⟩
    simp only [w_markIntSS_k_L1]
    rw [e0, Option.bind_some])
    (fun l k => by unfold w_markIntSS_k; cases w_markIntSS_k_L1 l 0 k <;> rfl) h.1 h.2 (by decide)
theorem w_markResourceS_k_ok (x : List TResource) (h : b_l_eTResource 1048576 x) : MkOk w_markResourceS_k 1152923703630102528 x :=
  MkOk.list (L1 := w_markResourceS_k_L1) (e := 1099513724928) (Q := bTResource 1048576) (fun _ _ => rfl) (fun x xs z k hx h0 hb => by
    unfold bTResource at hx
    obtain ⟨k0, e0, l0, u0⟩ := w_markStepS_k_ok x.Steps (hx.1) k (by omega) (by omega)
    obtain ⟨k1, e1, l1, u1⟩ := w_markIntSS_k_ok x.Setup (hx.2.1) k0 (by omega) (by omega)
    refine ⟨k1, by omega, by omega, ?_⟩
    simp only [w_markResourceS_k_L1]
    rw [e0, Option.bind_some, e1, Option.bind_some])
    (fun l k => by unfold w_markResourceS_k; cases w_markResourceS_k_L1 l 0 k <;> rfl) h.1 h.2 (by decide)
theorem w_markProject_k_ok (x : TProject) (h : bTProject 1048576 x) : MkOk w_markProject_k 3458767812362764288 x := fun k h0 hb => by
  unfold bTProject at h
  obtain ⟨k0, e0, l0, u0⟩ := w_markActivityS_k_ok x.Activities (h.1) k (by omega) (by omega)
  obtain ⟨k1, e1, l1, u1⟩ := w_markLinkS_k_ok x.Links (h.2.1) k0 (by omega) (by omega)
  obtain ⟨k2, e2, l2, u2⟩ := w_markResourceS_k_ok x.Resources (h.2.2.1) k1 (by omega) (by omega)
  obtain ⟨k3, e3, l3, u3⟩ := w_markIntS_k_ok x.Stocks (h.2.2.2.1) k2 (by omega) (by omega)
  refine ⟨k3, ?_, by omega, by omega⟩
  unfold w_markProject_k
  rw [e0, Option.bind_some, e1, Option.bind_some, e2, Option.bind_some, e3, Option.bind_some]
theorem w_markIntS_res (x : List Int) (h : b_l_int 1048576 x) (k0 : Int) (hk0 : 0 ≤ k0) (hk1 : k0 + 1048576 ≤ 1099511627776) : ∃ k ys, w_markIntS x k0 = some (k, ys) ∧ w_heldIntS ys k0 = some k ∧ k0 ≤ k ∧ k ≤ k0 + 1048576 := by
  replace h : x.length ≤ 1048576 := h
  have e1 := markFlat (G := w_markIntS_L1) (c := 1) (up := (fun k _ => k)) (by decide) (fun fuel k i l x hi hil hl h0 hb hx => by
    have hd : decide (i < (l.length : Int)) = true := decide_eq_true hil
    have hlt : i.toNat < l.length := by omega
    have hx2 : ∀ y, idxL (l.set i.toNat y) i = some y := fun y => by simp [idxL, hi, hlt]
    replace hx : idxL l i = some x := by simp [idxL, hi, hx]
    simp only [w_markIntS_L1, hd, cond_true, hx, Option.bind_some, W_of (n := k + 1) ⟨by omega, by omega⟩, W_of (n := i + 1) ⟨by omega, by omega⟩, setL]; rfl)
    (fun fuel k i l hi => by
    have hd : decide (i < (l.length : Int)) = false := decide_eq_false (by omega)
    simp only [w_markIntS_L1, hd, cond_false]) h hk0 (by omega)
  have hb : (1 : Int) * (x.length : Int) ≤ 1048576 := by omega
  have e2 := heldFlat (H := w_heldIntS_L1) (c := 1) (up := (fun k _ => k)) (by decide) (fun x xs z k h0 hb => by
    simp only [w_heldIntS_L1, int_bne, decide_true, Bool.not_true, cond_false, W_of (n := k + 1) ⟨by omega, by omega⟩]; rfl) (fun _ _ => rfl) x 0 k0 hk0 (by omega)
  refine ⟨_, _, by unfold w_markIntS; rw [e1]; rfl, by unfold w_heldIntS; rw [e2]; rfl, by omega, by omega⟩
def bTDomain (M : Nat) (x : TDomain) : Prop := b_l_int M x.MinStart ∧ b_l_int M x.MaxStart ∧ b_l_l_int M x.Modes ∧  True
theorem w_szDomain_ok (x : TDomain) (h : bTDomain 9223372036854775807 x) : SzOk w_szDomain (bTDomain 1048576) x := fun n m0 hn => by
  unfold w_szDomain bTDomain
  unfold bTDomain at h
  exact szThen (w_szIntS_ok _ h.1) m0 (by omega) (fun n1 m1 _ _ => szThen (w_szIntS_ok _ h.2.1) m1 (by omega) (fun n2 m2 _ _ => szThen (w_szIntSS_ok _ h.2.2.1) m2 (by omega) (fun n3 m3 _ _ => szEnd m3)))
theorem w_toDomain_eq (x : TDomain) (h : bTDomain 1048576 x) : w_toDomain x = some x := by
  unfold bTDomain at h
  unfold w_toDomain
  try simp only [w_toIntS_eq _ (h.1), w_toIntS_eq _ (h.2.1), w_toIntSS_eq _ (h.2.2.1), Option.bind_some]
theorem w_eqDomain_eq (a b : TDomain) : w_eqDomain a b = some (decide (a = b)) := by
  obtain ⟨a0, a1, a2⟩ := a
  obtain ⟨b0, b1, b2⟩ := b
  simp only [w_eqDomain, w_eqIntS_eq, w_eqIntS_eq, w_eqIntSS_eq, TDomain.mk.injEq, Option.bind_some, int_bne, bool_bne, ba_bne]
  by_cases h0 : a0 = b0 <;> by_cases h1 : a1 = b1 <;> by_cases h2 : a2 = b2 <;> simp [h0, h1, h2]
theorem w_markDomain_k_ok (x : TDomain) (h : bTDomain 1048576 x) : MkOk w_markDomain_k 1099513724928 x := fun k h0 hb => by
  unfold bTDomain at h
  obtain ⟨k0, e0, l0, u0⟩ := w_markIntS_k_ok x.MinStart (h.1) k (by omega) (by omega)
  obtain ⟨k1, e1, l1, u1⟩ := w_markIntS_k_ok x.MaxStart (h.2.1) k0 (by omega) (by omega)
  obtain ⟨k2, e2, l2, u2⟩ := w_markIntSS_k_ok x.Modes (h.2.2.1) k1 (by omega) (by omega)
  refine ⟨k2, ?_, by omega, by omega⟩
  unfold w_markDomain_k
  rw [e0, Option.bind_some, e1, Option.bind_some, e2, Option.bind_some]
theorem decb_int : ∀ p, Val .int p → ∃ x : Int, p = int x ∧ True := fun p h => by obtain ⟨n, e⟩ := dec_int h; exact ⟨n, e, trivial⟩
theorem decb_str : ∀ p, Val .str p → ∃ x : ByteArray, p = str x ∧ b_str 9223372036854775807 x := fun p h => dec_str h
theorem decb_l_int : ∀ p, Val (.slice .int) p → ∃ x : List Int, p = .slice (x.map int) ∧ b_l_int 9223372036854775807 x := fun p h => by
  obtain ⟨l, e, h1, h2⟩ := dec_slice decb_int h
  exact ⟨l, e, h1⟩
theorem decb_TMode : ∀ p, Val (.agg [.int, .slice .int, .slice .int]) p → ∃ x : TMode, p = eTMode x ∧ bTMode 9223372036854775807 x := fun p h => by
  obtain ⟨zs0, rfl, hv0⟩ := h
  obtain ⟨x0, zs1, rfl, h0, hv1⟩ := vals_cons hv0
  obtain ⟨y0, rfl, b0⟩ := decb_int _ h0
  obtain ⟨x1, zs2, rfl, h1, hv2⟩ := vals_cons hv1
  obtain ⟨y1, rfl, b1⟩ := decb_l_int _ h1
  obtain ⟨x2, zs3, rfl, h2, hv3⟩ := vals_cons hv2
  obtain ⟨y2, rfl, b2⟩ := decb_l_int _ h2
  obtain rfl := vals_nil hv3
  exact ⟨⟨y0, y1, y2⟩, rfl, ⟨b1, b2, trivial⟩⟩
theorem decb_l_eTMode : ∀ p, Val (.slice (.agg [.int, .slice .int, .slice .int])) p → ∃ x : List TMode, p = .slice (x.map eTMode) ∧ b_l_eTMode 9223372036854775807 x := fun p h => by
  obtain ⟨l, e, h1, h2⟩ := dec_slice decb_TMode h
  exact ⟨l, e, h1, h2⟩
theorem decb_TActivity : ∀ p, Val (.agg [.str, .int, .slice (.agg [.int, .slice .int, .slice .int])]) p → ∃ x : TActivity, p = eTActivity x ∧ bTActivity 9223372036854775807 x := fun p h => by
  obtain ⟨zs0, rfl, hv0⟩ := h
  obtain ⟨x0, zs1, rfl, h0, hv1⟩ := vals_cons hv0
  obtain ⟨y0, rfl, b0⟩ := decb_str _ h0
  obtain ⟨x1, zs2, rfl, h1, hv2⟩ := vals_cons hv1
  obtain ⟨y1, rfl, b1⟩ := decb_int _ h1
  obtain ⟨x2, zs3, rfl, h2, hv3⟩ := vals_cons hv2
  obtain ⟨y2, rfl, b2⟩ := decb_l_eTMode _ h2
  obtain rfl := vals_nil hv3
  exact ⟨⟨y0, y1, y2⟩, rfl, ⟨b0, b2, trivial⟩⟩
theorem decb_l_eTActivity : ∀ p, Val (.slice (.agg [.str, .int, .slice (.agg [.int, .slice .int, .slice .int])])) p → ∃ x : List TActivity, p = .slice (x.map eTActivity) ∧ b_l_eTActivity 9223372036854775807 x := fun p h => by
  obtain ⟨l, e, h1, h2⟩ := dec_slice decb_TActivity h
  exact ⟨l, e, h1, h2⟩
theorem decb_bool : ∀ p, Val .bool p → ∃ x : Bool, p = bool x ∧ True := fun p h => by obtain ⟨n, e⟩ := dec_bool h; exact ⟨n, e, trivial⟩
theorem decb_TLink : ∀ p, Val (.agg [.int, .int, .bool, .int]) p → ∃ x : TLink, p = eTLink x ∧ True := fun p h => by
  obtain ⟨zs0, rfl, hv0⟩ := h
  obtain ⟨x0, zs1, rfl, h0, hv1⟩ := vals_cons hv0
  obtain ⟨y0, rfl, b0⟩ := decb_int _ h0
  obtain ⟨x1, zs2, rfl, h1, hv2⟩ := vals_cons hv1
  obtain ⟨y1, rfl, b1⟩ := decb_int _ h1
  obtain ⟨x2, zs3, rfl, h2, hv3⟩ := vals_cons hv2
  obtain ⟨y2, rfl, b2⟩ := decb_bool _ h2
  obtain ⟨x3, zs4, rfl, h3, hv4⟩ := vals_cons hv3
  obtain ⟨y3, rfl, b3⟩ := decb_int _ h3
  obtain rfl := vals_nil hv4
  exact ⟨⟨y0, y1, y2, y3⟩, rfl, trivial⟩
theorem decb_l_eTLink : ∀ p, Val (.slice (.agg [.int, .int, .bool, .int])) p → ∃ x : List TLink, p = .slice (x.map eTLink) ∧ b_l_eTLink 9223372036854775807 x := fun p h => by
  obtain ⟨l, e, h1, h2⟩ := dec_slice decb_TLink h
  exact ⟨l, e, h1⟩
theorem decb_TStep : ∀ p, Val (.agg [.int, .int]) p → ∃ x : TStep, p = eTStep x ∧ True := fun p h => by
  obtain ⟨zs0, rfl, hv0⟩ := h
  obtain ⟨x0, zs1, rfl, h0, hv1⟩ := vals_cons hv0
  obtain ⟨y0, rfl, b0⟩ := decb_int _ h0
  obtain ⟨x1, zs2, rfl, h1, hv2⟩ := vals_cons hv1
  obtain ⟨y1, rfl, b1⟩ := decb_int _ h1
  obtain rfl := vals_nil hv2
  exact ⟨⟨y0, y1⟩, rfl, trivial⟩
theorem decb_l_eTStep : ∀ p, Val (.slice (.agg [.int, .int])) p → ∃ x : List TStep, p = .slice (x.map eTStep) ∧ b_l_eTStep 9223372036854775807 x := fun p h => by
  obtain ⟨l, e, h1, h2⟩ := dec_slice decb_TStep h
  exact ⟨l, e, h1⟩
theorem decb_l_l_int : ∀ p, Val (.slice (.slice .int)) p → ∃ x : List (List Int), p = .slice (x.map l_int) ∧ b_l_l_int 9223372036854775807 x := fun p h => by
  obtain ⟨l, e, h1, h2⟩ := dec_slice decb_l_int h
  exact ⟨l, e, h1, h2⟩
theorem decb_TResource : ∀ p, Val (.agg [.slice (.agg [.int, .int]), .slice (.slice .int)]) p → ∃ x : TResource, p = eTResource x ∧ bTResource 9223372036854775807 x := fun p h => by
  obtain ⟨zs0, rfl, hv0⟩ := h
  obtain ⟨x0, zs1, rfl, h0, hv1⟩ := vals_cons hv0
  obtain ⟨y0, rfl, b0⟩ := decb_l_eTStep _ h0
  obtain ⟨x1, zs2, rfl, h1, hv2⟩ := vals_cons hv1
  obtain ⟨y1, rfl, b1⟩ := decb_l_l_int _ h1
  obtain rfl := vals_nil hv2
  exact ⟨⟨y0, y1⟩, rfl, ⟨b0, b1, trivial⟩⟩
theorem decb_l_eTResource : ∀ p, Val (.slice (.agg [.slice (.agg [.int, .int]), .slice (.slice .int)])) p → ∃ x : List TResource, p = .slice (x.map eTResource) ∧ b_l_eTResource 9223372036854775807 x := fun p h => by
  obtain ⟨l, e, h1, h2⟩ := dec_slice decb_TResource h
  exact ⟨l, e, h1, h2⟩
theorem decb_TProject : ∀ p, Val (.agg [.int, .slice (.agg [.str, .int, .slice (.agg [.int, .slice .int, .slice .int])]), .slice (.agg [.int, .int, .bool, .int]), .slice (.agg [.slice (.agg [.int, .int]), .slice (.slice .int)]), .slice .int]) p → ∃ x : TProject, p = eTProject x ∧ bTProject 9223372036854775807 x := fun p h => by
  obtain ⟨zs0, rfl, hv0⟩ := h
  obtain ⟨x0, zs1, rfl, h0, hv1⟩ := vals_cons hv0
  obtain ⟨y0, rfl, b0⟩ := decb_int _ h0
  obtain ⟨x1, zs2, rfl, h1, hv2⟩ := vals_cons hv1
  obtain ⟨y1, rfl, b1⟩ := decb_l_eTActivity _ h1
  obtain ⟨x2, zs3, rfl, h2, hv3⟩ := vals_cons hv2
  obtain ⟨y2, rfl, b2⟩ := decb_l_eTLink _ h2
  obtain ⟨x3, zs4, rfl, h3, hv4⟩ := vals_cons hv3
  obtain ⟨y3, rfl, b3⟩ := decb_l_eTResource _ h3
  obtain ⟨x4, zs5, rfl, h4, hv5⟩ := vals_cons hv4
  obtain ⟨y4, rfl, b4⟩ := decb_l_int _ h4
  obtain rfl := vals_nil hv5
  exact ⟨⟨y0, y1, y2, y3, y4⟩, rfl, ⟨b1, b2, b3, b4, trivial⟩⟩
theorem decb_TDomain : ∀ p, Val (.agg [.slice .int, .slice .int, .slice (.slice .int)]) p → ∃ x : TDomain, p = eTDomain x ∧ bTDomain 9223372036854775807 x := fun p h => by
  obtain ⟨zs0, rfl, hv0⟩ := h
  obtain ⟨x0, zs1, rfl, h0, hv1⟩ := vals_cons hv0
  obtain ⟨y0, rfl, b0⟩ := decb_l_int _ h0
  obtain ⟨x1, zs2, rfl, h1, hv2⟩ := vals_cons hv1
  obtain ⟨y1, rfl, b1⟩ := decb_l_int _ h1
  obtain ⟨x2, zs3, rfl, h2, hv3⟩ := vals_cons hv2
  obtain ⟨y2, rfl, b2⟩ := decb_l_l_int _ h2
  obtain rfl := vals_nil hv3
  exact ⟨⟨y0, y1, y2⟩, rfl, ⟨b0, b1, b2, trivial⟩⟩
def inR (n lo hi : Int) : Bool := decide (lo ≤ n) && decide (n ≤ hi)
theorem inR_iff {n lo hi : Int} : inR n lo hi = true ↔ lo ≤ n ∧ n ≤ hi := by simp [inR]
theorem s_l01In_eq (n lo hi : Int) : s_l01In n lo hi = some (inR n lo hi) := by
  unfold s_l01In inR; cases decide (lo ≤ n) <;> rfl
theorem i_within_eq (n lo hi : Int) : i_within n lo hi = some (inR n lo hi) := by
  unfold i_within inR; cases decide (lo ≤ n) <;> rfl
theorem i_isTime_eq (n : Int) : i_isTime n = some (inR n 0 60) := by simp only [i_isTime, i_within_eq, Option.bind_some]
theorem i_isAmount_eq (n : Int) : i_isAmount n = some (inR n 0 20) := by simp only [i_isAmount, i_within_eq, Option.bind_some]
theorem i_isStart_eq (n : Int) : i_isStart n = some (inR n (-2) 62) := by simp only [i_isStart, i_within_eq, Option.bind_some]
theorem hasActivity_eq (p : TProject) (n : Int) : i_Project_hasActivity p n = some (inR n 0 (W ((p.Activities.length : Int) - 1))) := by simp only [i_Project_hasActivity, i_within_eq, Option.bind_some]
theorem hasResource_eq (p : TProject) (n : Int) : i_Project_hasResource p n = some (inR n 0 (W ((p.Resources.length : Int) - 1))) := by simp only [i_Project_hasResource, i_within_eq, Option.bind_some]
theorem s_l02Max_eq (a b : Int) : s_l02Max a b = some (max a b) := by
  unfold s_l02Max
  by_cases h : b < a
  · rw [show decide (b < a) = true by simpa using h, cond_true, show max a b = a by omega]
  · rw [show decide (b < a) = false by simpa using h, cond_false, show max a b = b by omega]
theorem s_l02Min_eq (a b : Int) : s_l02Min a b = some (min a b) := by
  unfold s_l02Min
  by_cases h : a < b
  · rw [show decide (a < b) = true by simpa using h, cond_true, show min a b = a by omega]
  · rw [show decide (a < b) = false by simpa using h, cond_false, show min a b = b by omega]
theorem W_le {n : Int} (h : -9223372036854775808 ≤ n) : W n ≤ n := by
  show IntKind.i64.wrap n ≤ n
  rw [IntKind.wrap_i64]; omega
theorem idx_of_inR {α : Type} {l : List α} {i : Int} (h : inR i 0 (W ((l.length : Int) - 1)) = true) : ∃ x, idxL l i = some x ∧ x ∈ l := by
  have h := inR_iff.1 h
  have := W_le (n := (l.length : Int) - 1) (by omega)
  exact idxL_some h.1 (by omega)
theorem areAmounts_L1 : ∀ (xs : List Int) (z : Int), i_areAmounts_L1 xs z = s_l04Nums_L1 xs z
  | [], z => rfl
  | x :: xs, z => by simp only [i_areAmounts_L1, s_l04Nums_L1, i_isAmount_eq, s_l01In_eq, areAmounts_L1 xs]
theorem areAmounts_eq (l : List Int) (n : Int) : i_areAmounts l n = s_l04Nums l n := by simp only [i_areAmounts, s_l04Nums, areAmounts_L1]
theorem ModeOk_eq (m : TMode) (a b : Int) : i_ModeOk m a b = s_ModeOk m a b := by simp only [i_ModeOk, s_ModeOk, areAmounts_eq, i_within_eq, s_l01In_eq]
theorem IsName_L1 (s : ByteArray) : ∀ (n : Nat) (a : Int), i_IsName_L1 s n a = s_IsName_L1 s n a
  | 0, a => rfl
  | n + 1, a => by simp only [i_IsName_L1, s_IsName_L1, IsName_L1 s n]
theorem IsName_eq (s : ByteArray) : i_IsName s = s_IsName s := by simp only [i_IsName, s_IsName, IsName_L1, i_within_eq, s_l01In_eq]
theorem ActivityOk_L1 (a b : Int) : ∀ (xs : List TMode) (z : Int), i_ActivityOk_L1 a b xs z = s_ActivityOk_L1 a b xs z
  | [], z => rfl
  | x :: xs, z => by simp only [i_ActivityOk_L1, s_ActivityOk_L1, ModeOk_eq, ActivityOk_L1 a b xs]
theorem ActivityOk_eq (x : TActivity) (a b : Int) : i_ActivityOk x a b = s_ActivityOk x a b := by simp only [i_ActivityOk, s_ActivityOk, ActivityOk_L1, IsName_eq, i_within_eq, s_l01In_eq]
theorem ActivityIndex_L1 (nm : ByteArray) : ∀ (xs : List TActivity) (z : Int), slices_IndexFunc_Activity_L1 (fun x => i_ActivityIndex_c1 x nm) xs z = s_ActivityIndex_L1 nm xs z
  | [], z => rfl
  | x :: xs, z => by rw [slices_IndexFunc_Activity_L1, s_ActivityIndex_L1, ActivityIndex_L1 nm xs]; rfl
theorem ActivityIndex_eq (p : TProject) (nm : ByteArray) : i_ActivityIndex p nm = s_ActivityIndex p nm := by
  simp only [i_ActivityIndex, slices_IndexFunc_Activity, s_ActivityIndex, ActivityIndex_L1, Option.bind_some]
  cases h : s_ActivityIndex_L1 nm p.Activities 0 with
  | none => rfl
  | some o => cases o <;> rfl
theorem ResourceOk_L2 : ∀ (xs : List Int) (z : Int), i_ResourceOk_L2 xs z = s_ResourceOk_L2 xs z
  | [], z => rfl
  | x :: xs, z => by simp only [i_ResourceOk_L2, s_ResourceOk_L2, i_within_eq, s_l01In_eq, ResourceOk_L2 xs]
theorem ResourceOk_L1 : ∀ (xs : List (List Int)) (z : Int), i_ResourceOk_L1 xs z = s_ResourceOk_L1 xs z
  | [], z => rfl
  | x :: xs, z => by simp only [i_ResourceOk_L1, s_ResourceOk_L1, ResourceOk_L2, ResourceOk_L1 xs]
theorem chkLoop {α : Type} {F : List α → Int → Option (Unit ⊕ Bool)} {b : List α} {Q : α → Prop} {c : α → Int → Option Bool} (h0 : ∀ z, F [] z = some (.inl ()))
    (h1 : ∀ x xs z, F (x :: xs) z = (c x z).bind fun e => bif e then some (.inr false) else F xs (z + 1)) (hc : ∀ x z, 0 ≤ z → idxL b z = some x → ∃ e, c x z = some e ∧ (e = false → Q x)) :
    ∀ (xs : List α) (z : Int), 0 ≤ z → b.drop z.toNat = xs → F xs z = some (.inr false) ∨ (F xs z = some (.inl ()) ∧ ∀ x ∈ xs, Q x)
  | [], z, hz, hd => .inr ⟨h0 z, by simp⟩
  | x :: xs, z, hz, hd => by
    obtain ⟨h2, h3⟩ := idxL_drop hz hd
    obtain ⟨e, he, hq⟩ := hc x z hz h2
    rw [h1, he, Option.bind_some]
    cases e with
    | true => exact .inl rfl
    | false =>
      rw [cond_false]
      rcases chkLoop h0 h1 hc xs (z + 1) (by omega) h3 with h | ⟨h, hQ⟩
      · exact .inl h
      · exact .inr ⟨h, fun y hy => by
          rcases List.mem_cons.1 hy with rfl | hy
          · exact hq rfl
          · exact hQ y hy⟩
theorem chkList {α : Type} {F : List α → Int → Option (Unit ⊕ Bool)} {Q : α → Prop} {c : α → Int → Option Bool} (b : List α) (h0 : ∀ z, F [] z = some (.inl ()))
    (h1 : ∀ x xs z, F (x :: xs) z = (c x z).bind fun e => bif e then some (.inr false) else F xs (z + 1)) (hc : ∀ x z, 0 ≤ z → idxL b z = some x → ∃ e, c x z = some e ∧ (e = false → Q x)) :
    F b 0 = some (.inr false) ∨ (F b 0 = some (.inl ()) ∧ ∀ x ∈ b, Q x) := chkLoop h0 h1 hc b 0 (Int.le_refl _) rfl
theorem idxL_lt_len {α : Type} {l : List α} {z : Int} {x : α} (h : idxL l z = some x) : z < l.length ∧ x ∈ l := by
  have h1 := idxL_spec h
  have h2 := idxL_lt h
  exact ⟨by omega, List.mem_of_getElem? h1.2⟩
theorem idxL_prev {α : Type} {l : List α} {z : Int} {x : α} (h : idxL l z = some x) (h0 : 0 < z) : ∃ y, idxL l (z - 1) = some y := by
  obtain ⟨y, hy, _⟩ := idxL_some (l := l) (z := z - 1) (by omega) (by have := (idxL_lt_len h).1; omega)
  exact ⟨y, hy⟩
def sC (b : List TStep) (x : TStep) (z : Int) : Option Bool :=
  (s_l01In x.At 0 60).bind fun v12 => (bif (!v12) then some true else (s_l01In x.Capacity 0 20).bind fun v15 => (bif (!v15) then some true else (bif (decide (0 < z)) then (idxL b (z - 1)).bind fun v18 => some (decide (x.At ≤ v18.At)) else some false)))
theorem s_StepsOk_chk (b : List TStep) : s_StepsOk_L1 b b 0 = some (.inr false) ∨ (s_StepsOk_L1 b b 0 = some (.inl ()) ∧ ∀ x ∈ b, (0 ≤ x.At ∧ x.At ≤ 60) ∧ 0 ≤ x.Capacity ∧ x.Capacity ≤ 20) := by
  refine chkList (F := s_StepsOk_L1 b) (c := sC b) b (fun _ => rfl) (fun x xs z => ?_) (fun x z hz hx => ?_)
  · simp only [s_StepsOk_L1, sC, s_l01In_eq, Option.bind_some]
  · simp only [sC, s_l01In_eq, Option.bind_some]
    by_cases h1 : inR x.At 0 60 = true
    · by_cases h2 : inR x.Capacity 0 20 = true
      · rw [h1, h2]
        simp only [Bool.not_true, cond_false, Option.bind_some]
        have hq := (⟨inR_iff.1 h1, inR_iff.1 h2⟩ : (0 ≤ x.At ∧ x.At ≤ 60) ∧ 0 ≤ x.Capacity ∧ x.Capacity ≤ 20)
        by_cases h0 : 0 < z
        · obtain ⟨y, hy⟩ := idxL_prev hx h0
          rw [show decide (0 < z) = true by simpa using h0, cond_true, hy]
          exact ⟨_, rfl, fun _ => hq⟩
        · rw [show decide (0 < z) = false by simpa using h0, cond_false]
          exact ⟨_, rfl, fun _ => hq⟩
      · rw [h1, show inR x.Capacity 0 20 = false by simpa using h2]
        exact ⟨true, rfl, fun h => by cases h⟩
    · rw [show inR x.At 0 60 = false by simpa using h1]
      exact ⟨true, rfl, fun h => by cases h⟩
theorem s_StepsOk_ok (b : List TStep) : ∃ v, s_StepsOk b = some v ∧ (v = true → b ≠ [] ∧ ∀ x ∈ b, (0 ≤ x.At ∧ x.At ≤ 60) ∧ 0 ≤ x.Capacity ∧ x.Capacity ≤ 20) := by
  rcases s_StepsOk_chk b with h | ⟨h, hQ⟩
  · exact ⟨false, by simp only [s_StepsOk, h, sumBind, Option.bind_some, Sum.elim_inr], fun h => by cases h⟩
  · simp only [s_StepsOk, h, sumBind, Option.bind_some, Sum.elim_inl, s_l01In_eq]
    cases hl : inR (b.length : Int) 1 8 with
    | false => exact ⟨false, rfl, fun h => by cases h⟩
    | true =>
      have := inR_iff.1 hl
      obtain ⟨x, hx, _⟩ := idxL_some (l := b) (z := 0) (Int.le_refl _) (by omega)
      rw [cond_true, hx]
      exact ⟨_, rfl, fun _ => ⟨fun e => by subst e; simp at this, hQ⟩⟩
theorem StepsOk_L1 (b : List TStep) : ∀ (xs : List TStep) (z : Int), 0 < z → i_StepsOk_L1 b xs z = s_StepsOk_L1 b xs z
  | [], z, _ => rfl
  | x :: xs, z, hz => by
    have h0 : (z == 0) = false := by simp; omega
    simp only [i_StepsOk_L1, s_StepsOk_L1, i_isTime_eq, i_isAmount_eq, s_l01In_eq, h0, cond_false, StepsOk_L1 b xs (z + 1) (by omega)]
theorem StepsOk_eq (b : List TStep) : i_StepsOk b = s_StepsOk b := by
  have hs := s_StepsOk_chk b
  match b with
  | [] => rfl
  | x :: xs =>
    have hi0 : idxL (x :: xs) 0 = some x := rfl
    by_cases hA : x.At = 0
    · have e : i_StepsOk_L1 (x :: xs) (x :: xs) 0 = s_StepsOk_L1 (x :: xs) (x :: xs) 0 := by
        have h1 : (x.At != 0) = false := by simp [hA]
        simp only [i_StepsOk_L1, s_StepsOk_L1, i_isTime_eq, i_isAmount_eq, s_l01In_eq, h1, StepsOk_L1 (x :: xs) xs (0 + 1) (by omega)]
        rfl
      simp only [i_StepsOk, s_StepsOk, e, i_within_eq, s_l01In_eq, hi0, Option.bind_some, hA]
      congr 1
      funext _
      cases inR ((x :: xs).length : Int) 1 8 <;> rfl
    · have h1 : (x.At != 0) = true := by simp [hA]
      have h2 : (x.At == 0) = false := by simp [hA]
      have e : i_StepsOk_L1 (x :: xs) (x :: xs) 0 = some (.inr false) := by
        simp only [i_StepsOk_L1, i_isTime_eq, i_isAmount_eq, Option.bind_some, h1]
        cases inR x.At 0 60 <;> cases inR x.Capacity 0 20 <;> rfl
      have hi : i_StepsOk (x :: xs) = some false := by simp only [i_StepsOk, e, sumBind, Option.bind_some, Sum.elim_inr]
      rw [hi]
      rcases hs with h | ⟨h, _⟩
      · simp only [s_StepsOk, h, sumBind, Option.bind_some, Sum.elim_inr]
      · simp only [s_StepsOk, h, sumBind, Option.bind_some, Sum.elim_inl, s_l01In_eq, hi0, h2]
        cases inR ((x :: xs).length : Int) 1 8 <;> rfl
theorem ResourceOk_eq (r : TResource) : i_ResourceOk r = s_ResourceOk r := by simp only [i_ResourceOk, s_ResourceOk, ResourceOk_L1, StepsOk_eq]
def ResF (r : TResource) : Prop := (∀ x ∈ r.Steps, (0 ≤ x.At ∧ x.At ≤ 60) ∧ 0 ≤ x.Capacity ∧ x.Capacity ≤ 20) ∧ s_StepsOk r.Steps = some true ∧ (r.Setup.length = 0 ∨ r.Setup.length = 4) ∧ ∀ row ∈ r.Setup, row.length = 4 ∧ ∀ n ∈ row, 0 ≤ n ∧ n ≤ 12
theorem s_ResourceOk_L2_ok (b : List Int) : s_ResourceOk_L2 b 0 = some (.inr false) ∨ (s_ResourceOk_L2 b 0 = some (.inl ()) ∧ ∀ n ∈ b, 0 ≤ n ∧ n ≤ 12) :=
  chkList (F := s_ResourceOk_L2) (c := fun x _ => some (!inR x 0 12)) b (fun _ => rfl) (fun x xs z => by simp only [s_ResourceOk_L2, s_l01In_eq, Option.bind_some]) (fun x z _ _ => ⟨_, rfl, fun h => inR_iff.1 (by simpa using h)⟩)
theorem s_ResourceOk_L1_ok (b : List (List Int)) : s_ResourceOk_L1 b 0 = some (.inr false) ∨ (s_ResourceOk_L1 b 0 = some (.inl ()) ∧ ∀ row ∈ b, row.length = 4 ∧ ∀ n ∈ row, 0 ≤ n ∧ n ≤ 12) := by
  have key : ∀ row : List Int, ∃ e, (∀ xs z, s_ResourceOk_L1 (row :: xs) z = bif e then some (.inr false) else s_ResourceOk_L1 xs (z + 1)) ∧ (e = false → row.length = 4 ∧ ∀ n ∈ row, 0 ≤ n ∧ n ≤ 12) := by
    intro row
    by_cases hl : row.length = 4
    · have e : ((row.length : Int) != 4) = false := by simp [hl]
      rcases s_ResourceOk_L2_ok row with h | ⟨h, hQ⟩
      · exact ⟨true, fun xs z => by simp only [s_ResourceOk_L1, e, cond_false, h, sumBind, Option.bind_some, Sum.elim_inr, cond_true], fun h => by cases h⟩
      · exact ⟨false, fun xs z => by simp only [s_ResourceOk_L1, e, cond_false, h, sumBind, Option.bind_some, Sum.elim_inl], fun _ => ⟨hl, hQ⟩⟩
    · have e : ((row.length : Int) != 4) = true := by simp; omega
      exact ⟨true, fun xs z => by simp only [s_ResourceOk_L1, e, cond_true], fun h => by cases h⟩
  exact chkList (F := s_ResourceOk_L1) (c := fun row _ => some (Classical.choose (key row))) b (fun _ => rfl) (fun x xs z => (Classical.choose_spec (key x)).1 xs z) (fun x z _ _ => ⟨_, rfl, (Classical.choose_spec (key x)).2⟩)
theorem s_ResourceOk_ok (r : TResource) : ∃ v, s_ResourceOk r = some v ∧ (v = true → ResF r) := by
  rcases s_ResourceOk_L1_ok r.Setup with h | ⟨h, hQ⟩
  · exact ⟨false, by simp only [s_ResourceOk, h, sumBind, Option.bind_some, Sum.elim_inr], fun h => by cases h⟩
  · obtain ⟨v, hv, hf⟩ := s_StepsOk_ok r.Steps
    simp only [s_ResourceOk, h, sumBind, Option.bind_some, Sum.elim_inl, hv]
    cases v with
    | false => exact ⟨false, rfl, fun h => by cases h⟩
    | true =>
      refine ⟨_, by simp only [cond_true, cond_some, Option.bind_some]; rfl, fun he => ⟨(hf rfl).2, hv, ?_, hQ⟩⟩
      by_cases h0 : r.Setup.length = 0
      · exact .inl h0
      · right
        rw [show ((r.Setup.length : Int) == 0) = false by rw [int_beq]; exact decide_eq_false (by omega), cond_false, int_beq] at he
        have := of_decide_eq_true he
        omega
def ModeF (m : TMode) (a b : Int) : Prop := (1 ≤ m.Duration ∧ m.Duration ≤ 12) ∧ ((m.Usage.length : Int) = a ∧ ∀ n ∈ m.Usage, 0 ≤ n ∧ n ≤ 20) ∧ ((m.Consumption.length : Int) = b ∧ ∀ n ∈ m.Consumption, 0 ≤ n ∧ n ≤ 20)
theorem s_l04Nums_ok (l : List Int) (n : Int) : ∃ v, s_l04Nums l n = some v ∧ (v = true → (l.length : Int) = n ∧ ∀ k ∈ l, 0 ≤ k ∧ k ≤ 20) := by
  rcases chkList (F := s_l04Nums_L1) (c := fun x _ => some (!inR x 0 20)) (Q := fun k => 0 ≤ k ∧ k ≤ 20) l (fun _ => rfl) (fun x xs z => by simp only [s_l04Nums_L1, s_l01In_eq, Option.bind_some]) (fun x z _ _ => ⟨_, rfl, fun h => inR_iff.1 (by simpa using h)⟩) with h | ⟨h, hQ⟩
  · exact ⟨false, by simp only [s_l04Nums, h, sumBind, Option.bind_some, Sum.elim_inr], fun h => by cases h⟩
  · exact ⟨_, by simp only [s_l04Nums, h, sumBind, Option.bind_some, Sum.elim_inl]; rfl, fun he => ⟨by simpa using he, hQ⟩⟩
theorem s_ModeOk_ok (m : TMode) (a b : Int) : ∃ v, s_ModeOk m a b = some v ∧ (v = true → ModeF m a b) := by
  obtain ⟨u, hu, fu⟩ := s_l04Nums_ok m.Usage a
  obtain ⟨k, hk, fk⟩ := s_l04Nums_ok m.Consumption b
  simp only [s_ModeOk, s_l01In_eq, Option.bind_some, hu, hk]
  cases hd : inR m.Duration 1 12 with
  | false => exact ⟨false, rfl, fun h => by cases h⟩
  | true => cases u with
    | false => exact ⟨false, rfl, fun h => by cases h⟩
    | true => cases k with
      | false => exact ⟨false, rfl, fun h => by cases h⟩
      | true => exact ⟨true, rfl, fun _ => ⟨inR_iff.1 hd, fu rfl, fk rfl⟩⟩
theorem cond_two {α : Type} {c : Bool} {x y : α} {P : α → Prop} (hx : P x) (hy : P y) : P (bif c then x else y) := by cases c <;> assumption
theorem idxS_some {s : ByteArray} {z : Int} (h0 : 0 ≤ z) (h : z < s.size) : ∃ v, idxS s z = some v := by
  have hlt : z.toNat < s.size := by omega
  exact ⟨_, by unfold idxS; rw [if_pos h0, getElem?_pos s z.toNat hlt]; rfl⟩
theorem s_IsName_L1_ok (s : ByteArray) (hs : s.size ≤ 9223372036854775807) : ∀ (n : Nat) (a : Int), 0 ≤ a → a ≤ s.size → (s.size : Int) < a + n → s_IsName_L1 s n a = some (.inr false) ∨ s_IsName_L1 s n a = some (.inl ())
  | 0, a, h0, h1, h2 => by omega
  | n + 1, a, h0, h1, h2 => by
    by_cases hlt : a < s.size
    · obtain ⟨v, hv⟩ := idxS_some h0 hlt
      have ih := s_IsName_L1_ok s hs n (a + 1) (by omega) (by omega) (by omega)
      rw [← W_of (n := a + 1) (by omega)] at ih
      simp only [s_IsName_L1, show decide (a < (s.size : Int)) = true by simpa using hlt, cond_true, hv, Option.bind_some, cond_some]
      exact cond_two (P := fun (o : Option (Unit ⊕ Bool)) => o = some (.inr false) ∨ o = some (.inl ())) (.inl rfl) ih
    · right
      simp only [s_IsName_L1, show decide (a < (s.size : Int)) = false by simpa using hlt, cond_false]
theorem s_IsName_ok (s : ByteArray) (hs : s.size ≤ 9223372036854775807) : ∃ v, s_IsName s = some v := by
  rcases s_IsName_L1_ok s hs F0 0 (Int.le_refl _) (by omega) (by have := F0_gt; omega) with h | h
  · exact ⟨false, by simp only [s_IsName, h, sumBind, Option.bind_some, Sum.elim_inr]⟩
  · exact ⟨_, by simp only [s_IsName, h, sumBind, Option.bind_some, Sum.elim_inl, s_l01In_eq]; rfl⟩
def ActF (x : TActivity) (a b : Int) : Prop := (0 ≤ x.Family ∧ x.Family ≤ 3) ∧ (1 ≤ x.Modes.length ∧ x.Modes.length ≤ 3) ∧ ∀ m ∈ x.Modes, ModeF m a b
theorem s_ActivityOk_ok (x : TActivity) (a b : Int) (hs : x.Name.size ≤ 9223372036854775807) : ∃ v, s_ActivityOk x a b = some v ∧ (v = true → ActF x a b) := by
  rcases chkList (F := s_ActivityOk_L1 a b) (c := fun m _ => (s_ModeOk m a b).bind fun v => some (!v)) (Q := fun m => ModeF m a b) x.Modes (fun _ => rfl) (fun m xs z => by
      simp only [s_ActivityOk_L1]
      cases s_ModeOk m a b <;> rfl) (fun m z _ _ => by
      obtain ⟨v, hv, hf⟩ := s_ModeOk_ok m a b
      rw [hv]
      exact ⟨_, rfl, fun h => hf (by simpa using h)⟩) with h | ⟨h, hQ⟩
  · exact ⟨false, by simp only [s_ActivityOk, h, sumBind, Option.bind_some, Sum.elim_inr], fun h => by cases h⟩
  · obtain ⟨v, hv⟩ := s_IsName_ok x.Name hs
    simp only [s_ActivityOk, h, sumBind, Option.bind_some, Sum.elim_inl, hv, s_l01In_eq]
    cases v with
    | false => exact ⟨false, rfl, fun h => by cases h⟩
    | true =>
      cases hf : inR x.Family 0 3 with
      | false => exact ⟨false, rfl, fun h => by cases h⟩
      | true => exact ⟨_, rfl, fun he => ⟨inR_iff.1 hf, by have := inR_iff.1 he; omega, hQ⟩⟩
theorem s_ActivityIndex_ok (p : TProject) (nm : ByteArray) : ∃ v, s_ActivityIndex p nm = some v := by
  have : ∀ (xs : List TActivity) (z : Int), ∃ o, s_ActivityIndex_L1 nm xs z = some o := by
    intro xs
    induction xs with
    | nil => exact fun z => ⟨_, rfl⟩
    | cons x xs ih =>
      intro z
      obtain ⟨o, ho⟩ := ih (z + 1)
      exact ⟨_, by rw [s_ActivityIndex_L1, ho, cond_some]⟩
  obtain ⟨o, ho⟩ := this p.Activities 0
  cases o with
  | inl u => exact ⟨_, by simp only [s_ActivityIndex, ho, sumBind, Option.bind_some, Sum.elim_inl]; rfl⟩
  | inr u => exact ⟨_, by simp only [s_ActivityIndex, ho, sumBind, Option.bind_some, Sum.elim_inr]; rfl⟩
theorem linkOk_c (p : TProject) (k : TLink) : i_ProjectOk_c1 k p = some (!(inR k.From 0 (W ((p.Activities.length : Int) - 1)) && (inR k.To 0 (W ((p.Activities.length : Int) - 1)) && (k.From != k.To && inR k.Lag (-60) 60)))) := by
  simp only [i_ProjectOk_c1, i_Project_linkOk, hasActivity_eq, i_within_eq, Option.bind_some, cond_some, cond_and]
theorem linkOk_s (p : TProject) (k : TLink) : ((s_l01In k.From 0 (W ((p.Activities.length : Int) - 1))).bind fun v68 => (bif (!v68) then some true else (s_l01In k.To 0 (W ((p.Activities.length : Int) - 1))).bind fun v71 => (bif (!v71) then some true else (bif (k.From == k.To) then some true else (s_l01In k.Lag (-60) 60).bind fun v74 => some (!v74))))) = i_ProjectOk_c1 k p := by
  rw [linkOk_c]
  simp only [s_l01In_eq, Option.bind_some, cond_some, int_beq, int_bne]
  cases inR k.From 0 (W ((p.Activities.length : Int) - 1)) <;> cases inR k.To 0 (W ((p.Activities.length : Int) - 1)) <;> cases inR k.Lag (-60) 60 <;> cases decide (k.From = k.To) <;> rfl
theorem links_eq (p : TProject) : ∀ (xs : List TLink) (z : Int), 0 ≤ z → ∃ o, slices_IndexFunc_Link_L1 (fun x => i_ProjectOk_c1 x p) xs z = some o ∧ ((o = .inl () ∧ s_ProjectOk_L4 p xs z = some (.inl ())) ∨ ∃ k, o = .inr k ∧ 0 ≤ k ∧ s_ProjectOk_L4 p xs z = some (.inr false))
  | [], z, hz => ⟨.inl (), rfl, .inl ⟨rfl, rfl⟩⟩
  | x :: xs, z, hz => by
    obtain ⟨o, ho, hc⟩ := links_eq p xs (z + 1) (by omega)
    have e1 : s_ProjectOk_L4 p (x :: xs) z = (i_ProjectOk_c1 x p).bind fun e => bif e then some (.inr false) else s_ProjectOk_L4 p xs (z + 1) := by
      rw [← linkOk_s]
      simp only [s_ProjectOk_L4, s_l01In_eq, Option.bind_some]
    have e2 : slices_IndexFunc_Link_L1 (fun x => i_ProjectOk_c1 x p) (x :: xs) z = (i_ProjectOk_c1 x p).bind fun e => bif e then some (.inr z) else slices_IndexFunc_Link_L1 (fun x => i_ProjectOk_c1 x p) xs (z + 1) := rfl
    rw [e1, e2, linkOk_c, Option.bind_some, Option.bind_some]
    cases hb : (!(inR x.From 0 (W ((p.Activities.length : Int) - 1)) && (inR x.To 0 (W ((p.Activities.length : Int) - 1)) && (x.From != x.To && inR x.Lag (-60) 60)))) with
    | true => exact ⟨_, rfl, .inr ⟨z, rfl, hz, rfl⟩⟩
    | false => exact ⟨o, ho, hc⟩
theorem ProjectOk_L1 (p : TProject) : ∀ (xs : List TActivity) (z : Int), i_ProjectOk_L1 p xs z = s_ProjectOk_L1 p xs z
  | [], z => rfl
  | x :: xs, z => by simp only [i_ProjectOk_L1, s_ProjectOk_L1, ActivityOk_eq, ActivityIndex_eq, ProjectOk_L1 p xs]
theorem ProjectOk_L2 : ∀ (xs : List TResource) (z : Int), i_ProjectOk_L2 xs z = s_ProjectOk_L2 xs z
  | [], z => rfl
  | x :: xs, z => by simp only [i_ProjectOk_L2, s_ProjectOk_L2, ResourceOk_eq, ProjectOk_L2 xs]
theorem ProjectOk_L3 : ∀ (xs : List Int) (z : Int), i_ProjectOk_L3 xs z = s_ProjectOk_L3 xs z
  | [], z => rfl
  | x :: xs, z => by simp only [i_ProjectOk_L3, s_ProjectOk_L3, i_within_eq, s_l01In_eq, ProjectOk_L3 xs]
theorem ProjectOk_eq (p : TProject) : i_ProjectOk p = s_ProjectOk p := by
  obtain ⟨o, ho, hc⟩ := links_eq p p.Links 0 (Int.le_refl _)
  have e : (slices_ContainsFunc_Link p.Links (fun x => i_ProjectOk_c1 x p)).bind (fun v => some (!v)) = sumBind (s_ProjectOk_L4 p p.Links 0) (fun q => some q) fun _ => some true := by
    rcases hc with ⟨rfl, h2⟩ | ⟨k, rfl, hk, h2⟩
    · simp only [slices_ContainsFunc_Link, slices_IndexFunc_Link, ho, h2, sumBind, Option.bind_some, Sum.elim_inl]; rfl
    · simp only [slices_ContainsFunc_Link, slices_IndexFunc_Link, ho, h2, sumBind, Option.bind_some, Sum.elim_inr]
      simp [hk]
  simp only [i_ProjectOk, s_ProjectOk, ProjectOk_L1, ProjectOk_L2, ProjectOk_L3, i_within_eq, s_l01In_eq, e]
structure ProjF (p : TProject) : Prop where
  deadline : 1 ≤ p.Deadline ∧ p.Deadline ≤ 60
  nact : 1 ≤ p.Activities.length ∧ p.Activities.length ≤ 6
  nres : p.Resources.length ≤ 3
  nstk : p.Stocks.length ≤ 2
  nlnk : p.Links.length ≤ 12
  acts : ∀ x ∈ p.Activities, ActF x p.Resources.length p.Stocks.length
  ress : ∀ r ∈ p.Resources, ResF r
  stks : ∀ n ∈ p.Stocks, 0 ≤ n ∧ n ≤ 100
  lnks : ∀ k ∈ p.Links, (0 ≤ k.From ∧ k.From < p.Activities.length) ∧ (0 ≤ k.To ∧ k.To < p.Activities.length) ∧ k.From ≠ k.To ∧ -60 ≤ k.Lag ∧ k.Lag ≤ 60
theorem s_ProjectOk_ok (p : TProject) (hs : ∀ x ∈ p.Activities, x.Name.size ≤ 9223372036854775807) : ∃ v, s_ProjectOk p = some v ∧ (v = true → ProjF p) := by
  simp only [s_ProjectOk, s_l01In_eq, Option.bind_some, cond_some]
  cases hd : inR p.Deadline 1 60 with
  | false => exact ⟨false, rfl, fun h => by cases h⟩
  | true =>
  cases ha : inR (p.Activities.length : Int) 1 6 with
  | false => exact ⟨false, rfl, fun h => by cases h⟩
  | true =>
  cases hr : decide (3 < (p.Resources.length : Int)) with
  | true => exact ⟨false, rfl, fun h => by cases h⟩
  | false =>
  cases hk : decide (2 < (p.Stocks.length : Int)) with
  | true => exact ⟨false, rfl, fun h => by cases h⟩
  | false =>
  cases hl : decide (12 < (p.Links.length : Int)) with
  | true => exact ⟨false, rfl, fun h => by cases h⟩
  | false =>
  simp only [Bool.not_true, cond_false]
  have hd := inR_iff.1 hd
  have ha := inR_iff.1 ha
  have hr := of_decide_eq_false hr
  have hk := of_decide_eq_false hk
  have hl := of_decide_eq_false hl
  have k1 : ∀ x, x ∈ p.Activities → ∃ v, s_ActivityOk x p.Resources.length p.Stocks.length = some v ∧ (v = true → ActF x p.Resources.length p.Stocks.length) := fun x hx => s_ActivityOk_ok x _ _ (hs x hx)
  have l1 := chkList (F := s_ProjectOk_L1 p) (Q := fun x => ActF x p.Resources.length p.Stocks.length) (c := fun x z => (s_ActivityOk x p.Resources.length p.Stocks.length).bind fun v20 => (bif (!v20) then some true else (s_ActivityIndex p x.Name).bind fun v23 => some (v23 != z))) p.Activities (fun _ => rfl) (fun x xs z => by
      simp only [s_ProjectOk_L1]
      cases s_ActivityOk x p.Resources.length p.Stocks.length <;> rfl) (fun x z _ hx => by
      obtain ⟨v, hv, hf⟩ := k1 x (idxL_lt_len hx).2
      obtain ⟨u, hu⟩ := s_ActivityIndex_ok p x.Name
      rw [hv, hu]
      cases v with
      | false => exact ⟨true, rfl, fun h => by cases h⟩
      | true => exact ⟨_, rfl, fun _ => hf rfl⟩)
  have l2 := chkList (F := s_ProjectOk_L2) (Q := ResF) (c := fun x _ => (s_ResourceOk x).bind fun v => some (!v)) p.Resources (fun _ => rfl) (fun x xs z => by
      simp only [s_ProjectOk_L2]
      cases s_ResourceOk x <;> rfl) (fun x z _ hx => by
      obtain ⟨v, hv, hf⟩ := s_ResourceOk_ok x
      rw [hv]
      exact ⟨_, rfl, fun h => hf (by simpa using h)⟩)
  have l3 := chkList (F := s_ProjectOk_L3) (Q := fun n => 0 ≤ n ∧ n ≤ 100) (c := fun x _ => some (!inR x 0 100)) p.Stocks (fun _ => rfl) (fun x xs z => by simp only [s_ProjectOk_L3, s_l01In_eq, Option.bind_some]) (fun x z _ _ => ⟨_, rfl, fun h => inR_iff.1 (by simpa using h)⟩)
  have l4 := chkList (F := s_ProjectOk_L4 p) (Q := fun k => (0 ≤ k.From ∧ k.From < p.Activities.length) ∧ (0 ≤ k.To ∧ k.To < p.Activities.length) ∧ k.From ≠ k.To ∧ -60 ≤ k.Lag ∧ k.Lag ≤ 60) (c := fun x _ => i_ProjectOk_c1 x p) p.Links (fun _ => rfl) (fun x xs z => by
      rw [← linkOk_s]
      simp only [s_ProjectOk_L4, s_l01In_eq, Option.bind_some]) (fun x z _ _ => ⟨_, linkOk_c p x, fun h => by
      have h : (inR x.From 0 (W ((p.Activities.length : Int) - 1)) && (inR x.To 0 (W ((p.Activities.length : Int) - 1)) && (x.From != x.To && inR x.Lag (-60) 60))) = true := by simpa using h
      simp only [Bool.and_eq_true] at h
      have h1 := inR_iff.1 h.1
      have h2 := inR_iff.1 h.2.1
      have h4 := inR_iff.1 h.2.2.2
      have h3 : x.From ≠ x.To := by simpa using h.2.2.1
      rw [W_of (by omega)] at h1 h2
      exact ⟨by omega, by omega, h3, h4⟩⟩)
  rcases l1 with h | ⟨h, q1⟩
  · exact ⟨false, by simp only [h, sumBind, Option.bind_some, Sum.elim_inr], fun h => by cases h⟩
  simp only [h, sumBind, Option.bind_some, Sum.elim_inl]
  rcases l2 with h | ⟨h, q2⟩
  · exact ⟨false, by simp only [h, Option.bind_some, Sum.elim_inr], fun h => by cases h⟩
  simp only [h, Option.bind_some, Sum.elim_inl]
  rcases l3 with h | ⟨h, q3⟩
  · exact ⟨false, by simp only [h, Option.bind_some, Sum.elim_inr], fun h => by cases h⟩
  simp only [h, Option.bind_some, Sum.elim_inl]
  rcases l4 with h | ⟨h, q4⟩
  · exact ⟨false, by simp only [h, Option.bind_some, Sum.elim_inr], fun h => by cases h⟩
  simp only [h, Option.bind_some, Sum.elim_inl]
  exact ⟨true, rfl, fun _ => ⟨hd, by omega, by omega, by omega, by omega, q1, q2, q3, q4⟩⟩
theorem names_of {p : TProject} {M : Nat} (h : bTProject M p) (hM : M ≤ 9223372036854775807) : ∀ x ∈ p.Activities, x.Name.size ≤ 9223372036854775807 := by
  unfold bTProject b_l_eTActivity at h
  intro x hx
  have := h.1.2 x hx
  unfold bTActivity b_str at this
  omega
theorem slices_Index_L1 (n : Int) : ∀ (xs : List Int) (z : Int), 0 ≤ z → (n ∈ xs → ∃ k, slices_Index_int_L1 n xs z = some (.inr k) ∧ 0 ≤ k) ∧ (n ∉ xs → slices_Index_int_L1 n xs z = some (.inl ()))
  | [], z, hz => ⟨fun h => (by cases h), fun _ => rfl⟩
  | x :: xs, z, hz => by
    by_cases hx : n = x
    · have e : (n == x) = true := by simp [hx]
      exact ⟨fun _ => ⟨z, by simp only [slices_Index_int_L1, e, cond_true], hz⟩, fun h => absurd (by simp [hx]) h⟩
    · have e : (n == x) = false := by simp [hx]
      have ih := slices_Index_L1 n xs (z + 1) (by omega)
      simp only [slices_Index_int_L1, e, cond_false, List.mem_cons, hx, false_or]
      exact ih
theorem i_SetHas_eq (l : List Int) (n : Int) : i_SetHas l n = some (decide (n ∈ l)) := by
  have h := slices_Index_L1 n l 0 (Int.le_refl _)
  by_cases hn : n ∈ l
  · obtain ⟨k, hk, h0⟩ := h.1 hn
    simp [i_SetHas, slices_Contains_int, slices_Index_int, hk, sumBind, h0, hn]
  · simp [i_SetHas, slices_Contains_int, slices_Index_int, h.2 hn, sumBind, hn]
theorem s_SetHas_L1_eq (n : Int) : ∀ (xs : List Int) (z : Int), s_SetHas_L1 n xs z = some (if n ∈ xs then .inr true else .inl ())
  | [], z => rfl
  | x :: xs, z => by
    rw [s_SetHas_L1, s_SetHas_L1_eq n xs, int_beq]
    by_cases hx : x = n
    · simp [hx]
    · have : n ≠ x := fun e => hx e.symm
      simp [hx, this]
theorem s_SetHas_eq (l : List Int) (n : Int) : s_SetHas l n = some (decide (n ∈ l)) := by
  simp only [s_SetHas, s_SetHas_L1_eq, sumBind, Option.bind_some]
  by_cases hn : n ∈ l <;> simp [hn]
theorem SetSubset_L1 (b : List Int) : ∀ (xs : List Int) (z : Int), i_SetSubset_L1 b xs z = s_SetSubset_L1 b xs z
  | [], z => rfl
  | x :: xs, z => by simp only [i_SetSubset_L1, s_SetSubset_L1, i_SetHas_eq, s_SetHas_eq, SetSubset_L1 b xs]
theorem SetSubset_eq (a b : List Int) : i_SetSubset a b = s_SetSubset a b := by simp only [i_SetSubset, s_SetSubset, SetSubset_L1]
theorem s_SetSubset_ok (a b : List Int) : ∃ v, s_SetSubset a b = some v ∧ (v = true → ∀ n ∈ a, n ∈ b) := by
  rcases chkList (F := s_SetSubset_L1 b) (c := fun x _ => some (!decide (x ∈ b))) (Q := fun n => n ∈ b) a (fun _ => rfl) (fun x xs z => by simp only [s_SetSubset_L1, s_SetHas_eq, Option.bind_some]) (fun x z _ _ => ⟨_, rfl, fun h => by simpa using h⟩) with h | ⟨h, hQ⟩
  · exact ⟨false, by simp only [s_SetSubset, h, sumBind, Option.bind_some, Sum.elim_inr], fun h => by cases h⟩
  · exact ⟨true, by simp only [s_SetSubset, h, sumBind, Option.bind_some, Sum.elim_inl], fun _ => hQ⟩
theorem s_SetOk_ok (b : List Int) : ∃ v, s_SetOk b = some v := by
  rcases chkList (F := s_SetOk_L1 b) (Q := fun _ => True) (c := fun x z => (bif (decide (0 < z)) then (idxL b (z - 1)).bind fun v14 => some (decide (x ≤ v14)) else some false)) b (fun _ => rfl) (fun x xs z => rfl) (fun x z hz hx => by
      by_cases h0 : 0 < z
      · obtain ⟨y, hy⟩ := idxL_prev hx h0
        rw [show decide (0 < z) = true by simpa using h0, hy]
        exact ⟨_, rfl, fun _ => trivial⟩
      · rw [show decide (0 < z) = false by simpa using h0]
        exact ⟨_, rfl, fun _ => trivial⟩) with h | ⟨h, hQ⟩
  · exact ⟨false, by simp only [s_SetOk, h, sumBind, Option.bind_some, Sum.elim_inr]⟩
  · exact ⟨true, by simp only [s_SetOk, h, sumBind, Option.bind_some, Sum.elim_inl]⟩
theorem SetOk_L1 (b : List Int) (hb : b.length ≤ 1048576) : ∀ (xs : List Int) (z : Int) (n : Nat), 0 < z → b.drop z.toNat = xs → xs.length < n → i_SetOk_L1 b n z = s_SetOk_L1 b xs z
  | [], z, n, hz, hd, hn => by
    obtain _ | n := n
    · simp at hn
    have : (b.length : Int) ≤ z := by
      have := congrArg List.length hd
      simp at this; omega
    rw [i_SetOk_L1, show decide (z < (b.length : Int)) = false by simpa using this]; rfl
  | x :: xs, z, n, hz, hd, hn => by
    obtain _ | n := n
    · simp at hn
    obtain ⟨h1, h2⟩ := idxL_drop (by omega) hd
    have h3 := (idxL_lt_len h1).1
    obtain ⟨y, hy⟩ := idxL_prev h1 hz
    have ih := SetOk_L1 b hb xs (z + 1) n (by omega) h2 (by simp at hn; omega)
    rw [i_SetOk_L1, s_SetOk_L1, show decide (z < (b.length : Int)) = true by simpa using h3, cond_true, h1, Option.bind_some, W_of (n := z - 1) (by omega), hy, Option.bind_some, W_of (n := z + 1) (by omega), ih, show decide (0 < z) = true by simpa using hz, cond_true]
    rfl
theorem SetOk_eq (b : List Int) (hb : b.length ≤ 1048576) : i_SetOk b = s_SetOk b := by
  match b with
  | [] => rfl
  | x :: xs =>
    have := SetOk_L1 (x :: xs) hb xs 1 F0 (by omega) rfl (by have := F0_gt; simp at hb; omega)
    have e : s_SetOk_L1 (x :: xs) (x :: xs) 0 = s_SetOk_L1 (x :: xs) xs 1 := rfl
    simp only [i_SetOk, s_SetOk, e, this]
theorem IntRange_L1 (b : Int) : ∀ (n : Nat) (a : Int) (l : List Int), i_IntRange_L1 b n a l = s_IntRange_L1 b n a l
  | 0, a, l => rfl
  | n + 1, a, l => by simp only [i_IntRange_L1, s_IntRange_L1, IntRange_L1 b n]
theorem IntRange_eq (b : Int) : i_IntRange b = s_IntRange b := by simp only [i_IntRange, s_IntRange, i_within_eq, s_l01In_eq, IntRange_L1]
def rangeI (n : Nat) : List Int := (List.range n).map fun (i : Nat) => (i : Int)
theorem s_IntRange_L1_ok (m : Nat) (hm : m ≤ 200) : ∀ (n : Nat) (k : Nat), k ≤ m → m - k < n → s_IntRange_L1 m n k (rangeI k) = some (rangeI m)
  | 0, k, h0, h1 => by omega
  | n + 1, k, h0, h1 => by
    rw [s_IntRange_L1]
    by_cases hlt : k < m
    · have e : rangeI k ++ [(k : Int)] = rangeI (k + 1) := by simp [rangeI, List.range_succ]
      have ha : appL (rangeI k) [(k : Int)] = some (rangeI (k + 1)) := by
        unfold appL
        rw [if_pos (by simp [rangeI]; omega), e]
      rw [show decide ((k : Int) < (m : Int)) = true by simpa using hlt, cond_true, ha, Option.bind_some, W_of (n := (k : Int) + 1) (by omega)]
      exact s_IntRange_L1_ok m hm n (k + 1) (by omega) (by omega)
    · rw [show decide ((k : Int) < (m : Int)) = false by simpa using hlt, show k = m by omega]; rfl
theorem s_IntRange_eq (n : Nat) (hn : n ≤ 200) : s_IntRange n = some (rangeI n) := by
  have := s_IntRange_L1_ok n hn F0 0 (by omega) (by have := F0_gt; omega)
  have e : (rangeI 0 : List Int) = [] := rfl
  rw [e] at this
  simp only [s_IntRange, s_l01In_eq, show inR (n : Int) 0 200 = true from inR_iff.2 (by omega), Option.bind_some, Bool.not_true, cond_false]
  rw [show (0 : Int) = ((0 : Nat) : Int) from rfl, this]; rfl
theorem chkLoopI {α ρ : Type} {F : List α → Int → Option (Unit ⊕ ρ)} {b : List α} {Q : Int → α → Prop} {c : α → Int → Option Bool} {r : ρ} (h0 : ∀ z, F [] z = some (.inl ()))
    (h1 : ∀ x xs z, F (x :: xs) z = (c x z).bind fun e => bif e then some (.inr r) else F xs (z + 1)) (hc : ∀ x z, 0 ≤ z → idxL b z = some x → ∃ e, c x z = some e ∧ (e = false → Q z x)) :
    ∀ (xs : List α) (z : Int), 0 ≤ z → b.drop z.toNat = xs → F xs z = some (.inr r) ∨ (F xs z = some (.inl ()) ∧ ∀ y x, z ≤ y → idxL b y = some x → Q y x)
  | [], z, hz, hd => .inr ⟨h0 z, fun y x hy hx => by
      have := (idxL_lt_len hx).1
      have := congrArg List.length hd
      simp at this; omega⟩
  | x :: xs, z, hz, hd => by
    obtain ⟨h2, h3⟩ := idxL_drop hz hd
    obtain ⟨e, he, hq⟩ := hc x z hz h2
    rw [h1, he, Option.bind_some]
    cases e with
    | true => exact .inl rfl
    | false =>
      rw [cond_false]
      rcases chkLoopI h0 h1 hc xs (z + 1) (by omega) h3 with h | ⟨h, hQ⟩
      · exact .inl h
      · exact .inr ⟨h, fun y x' hy hx => by
          by_cases e : y = z
          · subst e
            rw [h2] at hx; cases hx
            exact hq rfl
          · exact hQ y x' (by omega) hx⟩
theorem chkListI {α ρ : Type} {F : List α → Int → Option (Unit ⊕ ρ)} {Q : Int → α → Prop} {c : α → Int → Option Bool} {r : ρ} (b : List α) (h0 : ∀ z, F [] z = some (.inl ()))
    (h1 : ∀ x xs z, F (x :: xs) z = (c x z).bind fun e => bif e then some (.inr r) else F xs (z + 1)) (hc : ∀ x z, 0 ≤ z → idxL b z = some x → ∃ e, c x z = some e ∧ (e = false → Q z x)) :
    F b 0 = some (.inr r) ∨ (F b 0 = some (.inl ()) ∧ ∀ y x, idxL b y = some x → Q y x) :=
  (chkLoopI h0 h1 hc b 0 (Int.le_refl _) rfl).imp id fun ⟨h, hQ⟩ => ⟨h, fun y x hx => hQ y x (idxL_spec hx).1 hx⟩
theorem mem_rangeI {n : Int} {k : Nat} (h : n ∈ rangeI k) : 0 ≤ n ∧ n < k := by
  simp only [rangeI, List.mem_map, List.mem_range] at h
  obtain ⟨i, hi, rfl⟩ := h
  omega
theorem idxL_same {α β : Type} {l : List α} {k : List β} {z : Int} {x : α} (h : idxL l z = some x) (hl : l.length = k.length) : ∃ y, idxL k z = some y := by
  obtain ⟨y, hy, _⟩ := idxL_some (l := k) (idxL_spec h).1 (by have := (idxL_lt_len h).1; omega)
  exact ⟨y, hy⟩
theorem s_ModeIndexes_eq (x : TActivity) (h : x.Modes.length ≤ 200) : s_ModeIndexes x = some (rangeI x.Modes.length) := by simp only [s_ModeIndexes, s_IntRange_eq _ h, Option.bind_some]
theorem ModeIndexes_eq (x : TActivity) : i_ModeIndexes x = s_ModeIndexes x := by simp only [i_ModeIndexes, s_ModeIndexes, IntRange_eq]
structure DomF (p : TProject) (b : TDomain) : Prop where
  proj : ProjF p
  l1 : b.MinStart.length = p.Activities.length
  l2 : b.MaxStart.length = p.Activities.length
  l3 : b.Modes.length = p.Activities.length
  at_ : ∀ a x, idxL p.Activities a = some x → ∃ m1 m2 ms, idxL b.MinStart a = some m1 ∧ idxL b.MaxStart a = some m2 ∧ idxL b.Modes a = some ms ∧ (-2 ≤ m1 ∧ m1 ≤ 62) ∧ (-2 ≤ m2 ∧ m2 ≤ 62) ∧ s_SetOk ms = some true ∧ ∀ n ∈ ms, 0 ≤ n ∧ n < x.Modes.length
def dfC (b : TDomain) (x : TActivity) (z : Int) : Option Bool :=
  (idxL b.MinStart z).bind fun v18 => (bif (!inR v18 (-2) 62) then some true else (idxL b.MaxStart z).bind fun v22 => (bif (!inR v22 (-2) 62) then some true else (idxL b.Modes z).bind fun v25 => (s_SetOk v25).bind fun v26 => (bif (!v26) then some true else (s_ModeIndexes x).bind fun v28 => (s_SetSubset v25 v28).bind fun v29 => some (!v29))))
theorem dfC_s (b : TDomain) (x : TActivity) (xs : List TActivity) (z : Int) : s_DomainForm_L1 b (x :: xs) z = (dfC b x z).bind fun e => bif e then some (.inr false) else s_DomainForm_L1 b xs (z + 1) := by
  simp only [s_DomainForm_L1, s_l01In_eq, Option.bind_some, dfC]
  cases idxL b.MinStart z <;> rfl
theorem DomainForm_L1 (p : TProject) (b : TDomain) (hb : ∀ ms ∈ b.Modes, ms.length ≤ 1048576) : ∀ (xs : List TActivity) (ys : List (List Int)) (z : Int), 0 ≤ z → p.Activities.drop z.toNat = xs → b.Modes.drop z.toNat = ys → xs.length = ys.length → i_DomainForm_L1 p b ys z = s_DomainForm_L1 b xs z
  | [], [], z, _, _, _, _ => rfl
  | [], _ :: _, z, _, _, _, h => by simp at h
  | _ :: _, [], z, _, _, _, h => by simp at h
  | x :: xs, y :: ys, z, hz, h1, h2, h3 => by
    obtain ⟨a1, a2⟩ := idxL_drop hz h1
    obtain ⟨b1, b2⟩ := idxL_drop hz h2
    have ih := DomainForm_L1 p b hb xs ys (z + 1) (by omega) a2 b2 (by simpa using h3)
    simp only [i_DomainForm_L1, s_DomainForm_L1, i_isStart_eq, s_l01In_eq, Option.bind_some, a1, b1, ih, ModeIndexes_eq, SetSubset_eq, SetOk_eq y (hb y (idxL_lt_len b1).2)]
theorem DomainForm_eq (p : TProject) (b : TDomain) (hb : ∀ ms ∈ b.Modes, ms.length ≤ 1048576) : i_DomainForm p b = s_DomainForm p b := by
  simp only [i_DomainForm, s_DomainForm, ProjectOk_eq, int_bne]
  by_cases h : (b.Modes.length : Int) = p.Activities.length
  · rw [DomainForm_L1 p b hb p.Activities b.Modes 0 (Int.le_refl _) rfl rfl (by omega)]
  · simp only [h, decide_false, Bool.not_false]
    cases s_ProjectOk p with
    | none => rfl
    | some v =>
      cases v
      · rfl
      · simp only [Option.bind_some, Bool.not_true, cond_false]
        cases decide ((b.MinStart.length : Int) = p.Activities.length) <;> cases decide ((b.MaxStart.length : Int) = p.Activities.length) <;> rfl
theorem dfC_ok (p : TProject) (b : TDomain) (hp : ProjF p) (l1 : b.MinStart.length = p.Activities.length) (l2 : b.MaxStart.length = p.Activities.length) (l3 : b.Modes.length = p.Activities.length) (x : TActivity) (z : Int) (hx : idxL p.Activities z = some x) :
    ∃ e, dfC b x z = some e ∧ (e = false → ∃ m1 m2 ms, idxL b.MinStart z = some m1 ∧ idxL b.MaxStart z = some m2 ∧ idxL b.Modes z = some ms ∧ (-2 ≤ m1 ∧ m1 ≤ 62) ∧ (-2 ≤ m2 ∧ m2 ≤ 62) ∧ s_SetOk ms = some true ∧ ∀ n ∈ ms, 0 ≤ n ∧ n < x.Modes.length) := by
  obtain ⟨m1, h1⟩ := idxL_same hx l1.symm
  obtain ⟨m2, h2⟩ := idxL_same hx l2.symm
  obtain ⟨ms, h3⟩ := idxL_same hx l3.symm
  have hm := (hp.acts x (idxL_lt_len hx).2).2.1
  obtain ⟨v, hv⟩ := s_SetOk_ok ms
  obtain ⟨u, hu, fu⟩ := s_SetSubset_ok ms (rangeI x.Modes.length)
  simp only [dfC, h1, h2, h3, Option.bind_some, hv, s_ModeIndexes_eq x (by omega), hu]
  cases e1 : inR m1 (-2) 62 with
  | false => exact ⟨true, rfl, fun h => by cases h⟩
  | true => cases e2 : inR m2 (-2) 62 with
    | false => exact ⟨true, rfl, fun h => by cases h⟩
    | true => cases v with
      | false => exact ⟨true, rfl, fun h => by cases h⟩
      | true => exact ⟨_, rfl, fun h => ⟨m1, m2, ms, rfl, rfl, rfl, inR_iff.1 e1, inR_iff.1 e2, hv, fun n hn => mem_rangeI (fu (by simpa using h) n hn)⟩⟩
theorem s_DomainForm_ok (p : TProject) (hs : ∀ x ∈ p.Activities, x.Name.size ≤ 9223372036854775807) (b : TDomain) : ∃ v, s_DomainForm p b = some v ∧ (v = true → DomF p b) := by
  obtain ⟨v, hv, hf⟩ := s_ProjectOk_ok p hs
  simp only [s_DomainForm, hv, Option.bind_some, cond_some, int_bne]
  cases v with
  | false => exact ⟨false, rfl, fun h => by cases h⟩
  | true =>
    by_cases h1 : (b.MinStart.length : Int) = p.Activities.length
    · by_cases h2 : (b.MaxStart.length : Int) = p.Activities.length
      · by_cases h3 : (b.Modes.length : Int) = p.Activities.length
        · rcases chkListI (F := s_DomainForm_L1 b) (c := dfC b) p.Activities (fun _ => rfl) (dfC_s b) (fun x z hz hx => dfC_ok p b (hf rfl) (by omega) (by omega) (by omega) x z hx) with h | ⟨h, hQ⟩
          · exact ⟨false, by simp [h1, h2, h3, h, sumBind], fun h => by cases h⟩
          · exact ⟨true, by simp [h1, h2, h3, h, sumBind], fun _ => ⟨hf rfl, by omega, by omega, by omega, hQ⟩⟩
        · exact ⟨false, by simp [h1, h2, h3], fun h => by cases h⟩
      · exact ⟨false, by simp [h1, h2], fun h => by cases h⟩
    · exact ⟨false, by simp [h1], fun h => by cases h⟩
theorem DomainEmpty_L1 (b : TDomain) : ∀ (xs : List Int) (z : Int), i_DomainEmpty_L1 b xs z = s_DomainEmpty_L1 b xs z
  | [], z => rfl
  | x :: xs, z => by simp only [i_DomainEmpty_L1, s_DomainEmpty_L1, DomainEmpty_L1 b xs]
theorem DomainEmpty_L2 : ∀ (xs : List (List Int)) (z : Int), 0 ≤ z → (slices_IndexFunc__int_L1 (fun x => i_DomainEmpty_c1 x) xs z = some (.inl ()) ∧ s_DomainEmpty_L2 xs z = some (.inl ()) ∧ ∀ m ∈ xs, m ≠ []) ∨ ∃ k, slices_IndexFunc__int_L1 (fun x => i_DomainEmpty_c1 x) xs z = some (.inr k) ∧ 0 ≤ k ∧ s_DomainEmpty_L2 xs z = some (.inr true)
  | [], z, hz => .inl ⟨rfl, rfl, by simp⟩
  | x :: xs, z, hz => by
    have e1 : slices_IndexFunc__int_L1 (fun x => i_DomainEmpty_c1 x) (x :: xs) z = bif ((x.length : Int) == 0) then some (.inr z) else slices_IndexFunc__int_L1 (fun x => i_DomainEmpty_c1 x) xs (z + 1) := rfl
    rw [e1, s_DomainEmpty_L2, int_beq]
    by_cases hx : (x.length : Int) = 0
    · right; exact ⟨z, by simp [hx], hz, by simp [hx]⟩
    · rw [show decide ((x.length : Int) = 0) = false by simpa using hx, cond_false, cond_false]
      rcases DomainEmpty_L2 xs (z + 1) (by omega) with ⟨h1, h2, h3⟩ | h
      · left; exact ⟨h1, h2, fun m hm => by
          rcases List.mem_cons.1 hm with rfl | hm
          · intro e; subst e; simp at hx
          · exact h3 m hm⟩
      · exact .inr h
theorem DomainEmpty_eq (b : TDomain) : i_DomainEmpty b = s_DomainEmpty b := by
  simp only [i_DomainEmpty, s_DomainEmpty, DomainEmpty_L1]
  congr 1
  funext _
  rcases DomainEmpty_L2 b.Modes 0 (Int.le_refl _) with ⟨h1, h2, _⟩ | ⟨k, h1, h0, h2⟩
  · simp [slices_ContainsFunc__int, slices_IndexFunc__int, h1, h2, sumBind]
  · simp [slices_ContainsFunc__int, slices_IndexFunc__int, h1, h2, sumBind, h0]
theorem s_DomainEmpty_ok (b : TDomain) : ∃ v, s_DomainEmpty b = some v ∧ (v = false → (∀ a m1 m2, idxL b.MinStart a = some m1 → idxL b.MaxStart a = some m2 → m1 ≤ m2) ∧ ∀ m ∈ b.Modes, m ≠ []) := by
  rcases chkListI (F := s_DomainEmpty_L1 b) (Q := fun a m1 => ∀ m2, idxL b.MaxStart a = some m2 → m1 ≤ m2) (c := fun x z => (bif (decide (z < (b.MaxStart.length : Int))) then (idxL b.MaxStart z).bind fun v14 => some (decide (v14 < x)) else some false)) b.MinStart (fun _ => rfl) (fun x xs z => rfl) (fun x z hz hx => by
      by_cases h : z < b.MaxStart.length
      · obtain ⟨y, hy, _⟩ := idxL_some hz h
        rw [show decide (z < (b.MaxStart.length : Int)) = true by simpa using h, cond_true, hy]
        exact ⟨_, rfl, fun h m2 hm => by cases hm; simpa using h⟩
      · rw [show decide (z < (b.MaxStart.length : Int)) = false by simpa using h]
        exact ⟨_, rfl, fun _ m2 hm => absurd (idxL_lt_len hm).1 h⟩) with h | ⟨h, hQ⟩
  · exact ⟨true, by simp only [s_DomainEmpty, h, sumBind, Option.bind_some, Sum.elim_inr], fun h => by cases h⟩
  · rcases DomainEmpty_L2 b.Modes 0 (Int.le_refl _) with ⟨h1, h2, h3⟩ | ⟨k, h1, h0, h2⟩
    · exact ⟨false, by simp only [s_DomainEmpty, h, h2, sumBind, Option.bind_some, Sum.elim_inl], fun _ => ⟨fun a m1 m2 a1 a2 => hQ a m1 a1 m2 a2, h3⟩⟩
    · exact ⟨true, by simp only [s_DomainEmpty, h, h2, sumBind, Option.bind_some, Sum.elim_inl, Sum.elim_inr], fun h => by cases h⟩
structure UseF (p : TProject) (b : TDomain) : Prop where
  dom : DomF p b
  le : ∀ a m1 m2, idxL b.MinStart a = some m1 → idxL b.MaxStart a = some m2 → m1 ≤ m2
  ne : ∀ m ∈ b.Modes, m ≠ []
theorem l14Ok_eq (p : TProject) (b : TDomain) (hb : ∀ ms ∈ b.Modes, ms.length ≤ 1048576) : i_isUsable p b = s_l14Ok p b := by simp only [i_isUsable, s_l14Ok, DomainForm_eq p b hb, DomainEmpty_eq]
theorem s_l14Ok_ok (p : TProject) (hs : ∀ x ∈ p.Activities, x.Name.size ≤ 9223372036854775807) (b : TDomain) : ∃ v, s_l14Ok p b = some v ∧ (v = true → UseF p b) := by
  obtain ⟨v, hv, hf⟩ := s_DomainForm_ok p hs b
  obtain ⟨u, hu, fu⟩ := s_DomainEmpty_ok b
  simp only [s_l14Ok, hv, hu, Option.bind_some]
  cases v with
  | false => exact ⟨false, rfl, fun h => by cases h⟩
  | true =>
    cases u with
    | true => exact ⟨false, rfl, fun h => by cases h⟩
    | false => exact ⟨true, rfl, fun _ => ⟨hf rfl, (fu rfl).1, (fu rfl).2⟩⟩
theorem modes_of {b : TDomain} (h : bTDomain 1048576 b) : ∀ ms ∈ b.Modes, ms.length ≤ 1048576 := by
  unfold bTDomain b_l_l_int at h
  exact fun ms hm => h.2.2.1.2 ms hm
def chosenF (ms : List Int) : List TMode → Int → List TMode
  | [], _ => []
  | x :: xs, z => if z ∈ ms then x :: chosenF ms xs (z + 1) else chosenF ms xs (z + 1)
theorem chosenF_mem (ms : List Int) : ∀ (xs : List TMode) (z : Int) (m : TMode), m ∈ chosenF ms xs z → m ∈ xs
  | [], z, m, h => by cases h
  | x :: xs, z, m, h => by
    unfold chosenF at h
    split at h
    · rcases List.mem_cons.1 h with rfl | h
      · exact List.mem_cons_self ..
      · exact List.mem_cons_of_mem _ (chosenF_mem ms xs (z + 1) m h)
    · exact List.mem_cons_of_mem _ (chosenF_mem ms xs (z + 1) m h)
theorem i_chosen_L1_eq (ms : List Int) : ∀ (xs : List TMode) (z : Int) (acc : List TMode), acc.length + xs.length ≤ 1048576 → i_chosen_L1 ms xs z acc = some (acc ++ chosenF ms xs z)
  | [], z, acc, _ => by simp [i_chosen_L1, chosenF]
  | x :: xs, z, acc, h => by
    simp at h
    rw [i_chosen_L1, i_SetHas_eq, Option.bind_some]
    by_cases hz : z ∈ ms
    · have ha : appL acc [x] = some (acc ++ [x]) := by unfold appL; rw [if_pos (by simp; omega)]
      rw [show decide (z ∈ ms) = true by simpa using hz, cond_true, ha, Option.bind_some, i_chosen_L1_eq ms xs (z + 1) _ (by simp; omega)]
      simp [chosenF, hz]
    · rw [show decide (z ∈ ms) = false by simpa using hz, cond_false, i_chosen_L1_eq ms xs (z + 1) _ (by omega)]
      simp [chosenF, hz]
theorem i_chosen_eq (x : TActivity) (ms : List Int) (h : x.Modes.length ≤ 1048576) : i_chosen x ms = some (chosenF ms x.Modes 0) := by
  simp only [i_chosen, i_chosen_L1_eq ms x.Modes 0 [] (by simpa using h), Option.bind_some, List.nil_append]
def leastF (f : TMode → Int) : List TMode → Int → Bool → Int
  | [], a, _ => a
  | x :: xs, a, has => bif (!has || decide (f x < a)) then leastF f xs (f x) true else leastF f xs a has
theorem s_MinDuration_L1_eq (ms : List Int) : ∀ (xs : List TMode) (z a : Int) (has : Bool), s_MinDuration_L1 ms xs z a has = some (leastF TMode.Duration (chosenF ms xs z) a has)
  | [], z, a, has => rfl
  | x :: xs, z, a, has => by
    rw [s_MinDuration_L1, s_SetHas_eq, Option.bind_some, s_MinDuration_L1_eq ms xs, s_MinDuration_L1_eq ms xs]
    by_cases hz : z ∈ ms
    · simp only [hz, decide_true, cond_true, cond_some, cond_or, Option.bind_some, chosenF, if_true, leastF]
    · simp only [hz, decide_false, cond_false, cond_some, Option.bind_some, chosenF, if_false]
theorem s_MinDuration_eq (x : TActivity) (ms : List Int) : s_MinDuration x ms = some (leastF TMode.Duration (chosenF ms x.Modes 0) 0 false) := by
  simp only [s_MinDuration, s_MinDuration_L1_eq, Option.bind_some]
theorem i_MinDuration_L1_eq : ∀ (xs : List TMode) (z a : Int), 0 < z → i_MinDuration_L1 xs z a = some (leastF TMode.Duration xs a true)
  | [], z, a, _ => rfl
  | x :: xs, z, a, hz => by
    rw [i_MinDuration_L1, i_MinDuration_L1_eq xs (z + 1) _ (by omega), i_MinDuration_L1_eq xs (z + 1) _ (by omega), show (z == 0) = false by rw [int_beq]; exact decide_eq_false (by omega)]
    simp only [cond_false, Option.bind_some, cond_some, leastF, Bool.not_true, Bool.false_or]
theorem i_MinDuration_eq (x : TActivity) (ms : List Int) (h : x.Modes.length ≤ 1048576) : i_MinDuration x ms = s_MinDuration x ms := by
  rw [s_MinDuration_eq]
  simp only [i_MinDuration, i_chosen_eq x ms h, Option.bind_some]
  match chosenF ms x.Modes 0 with
  | [] => rfl
  | y :: ys =>
    simp only [i_MinDuration_L1, i_MinDuration_L1_eq ys (0 + 1) _ (by omega)]
    simp [leastF]
theorem l14Short_eq (p : TProject) (b : TDomain) (a : Int) (hm : ∀ x ∈ p.Activities, x.Modes.length ≤ 1048576) : i_Project_duration p b a = s_l14Short p b a := by
  unfold i_Project_duration s_l14Short
  cases h : idxL p.Activities a with
  | none => rfl
  | some x => simp only [Option.bind_some, i_MinDuration_eq x _ (hm x (idxL_lt_len h).2)]
theorem s_l14Short_ok {p : TProject} {b : TDomain} (h : DomF p b) {a : Int} {x : TActivity} (hx : idxL p.Activities a = some x) : ∃ v, s_l14Short p b a = some v := by
  obtain ⟨m1, m2, ms, h1, h2, h3, _⟩ := h.at_ a x hx
  exact ⟨_, by simp only [s_l14Short, hx, h3, Option.bind_some, s_MinDuration_eq]; rfl⟩
theorem mlen_of {p : TProject} (h : bTProject 1048576 p) : ∀ x ∈ p.Activities, x.Modes.length ≤ 1048576 := by
  unfold bTProject b_l_eTActivity at h
  intro x hx
  have := h.1.2 x hx
  unfold bTActivity b_l_eTMode at this
  exact this.2.1.1
def eltO (l : List Int) (k : Int) : Option Int := bif inR k 0 (W ((l.length : Int) - 1)) then idxL l k else none
theorem i_element_eq (l : List Int) (k : Int) : i_element l k = some (match eltO l k with | some v => (v, true) | none => (0, false)) := by
  simp only [i_element, i_within_eq, Option.bind_some, eltO]
  cases h : inR k 0 (W ((l.length : Int) - 1)) with
  | false => rfl
  | true =>
    obtain ⟨x, hx, _⟩ := idx_of_inR h
    simp [hx]
def leastO (f : TMode → Option Int) : List TMode → Int → Bool → Int ⊕ Int
  | [], a, _ => .inl a
  | x :: xs, a, has => match f x with
    | none => .inr 0
    | some v => bif (!has || decide (v < a)) then leastO f xs v true else leastO f xs a true
def amtO (k : Int) (cons work : Bool) (x : TMode) : Option Int := (eltO (bif cons then x.Consumption else x.Usage) k).map fun v => bif work then W (v * x.Duration) else v
theorem s_l04Least_L1_eq (ms : List Int) (k : Int) (b3 b4 : Bool) : ∀ (xs : List TMode) (z a : Int) (has : Bool), s_l04Least_L1 ms k b3 b4 xs z a has = some (leastO (amtO k b3 b4) (chosenF ms xs z) a has)
  | [], z, a, has => rfl
  | x :: xs, z, a, has => by
    rw [s_l04Least_L1, s_SetHas_eq, Option.bind_some]
    by_cases hz : z ∈ ms
    · simp only [hz, decide_true, Bool.not_true, cond_false, cond_some, Option.bind_some, s_l01In_eq, chosenF, if_true, leastO, amtO, eltO, s_l04Least_L1_eq ms k b3 b4 xs]
      cases h : inR k 0 (W (((bif b3 then x.Consumption else x.Usage).length : Int) - 1)) with
      | false => rfl
      | true =>
        obtain ⟨v, hv, _⟩ := idx_of_inR h
        simp only [hv, Bool.not_true, cond_false, cond_true, Option.bind_some, Option.map_some]
        cases has <;> simp only [Bool.not_false, Bool.not_true, cond_true, cond_false, Bool.true_or, Bool.false_or, Option.bind_some] <;> first | rfl | exact cond_some _ _ _
    · simp only [hz, decide_false, Bool.not_false, cond_true, chosenF, if_false, s_l04Least_L1_eq ms k b3 b4 xs]
theorem s_l04Least_eq (x : TActivity) (ms : List Int) (k : Int) (b3 b4 : Bool) : s_l04Least x ms k b3 b4 = some (Sum.elim id id (leastO (amtO k b3 b4) (chosenF ms x.Modes 0) 0 false)) := by
  simp only [s_l04Least, s_l04Least_L1_eq, sumBind, Option.bind_some]
  cases leastO (amtO k b3 b4) (chosenF ms x.Modes 0) 0 false <;> rfl
theorem i_leastOf_L1_eq {g : TMode → Option (Int × Bool)} {f : TMode → Option Int} (hg : ∀ x, ∃ w, g x = some (match f x with | some v => (v, true) | none => (w, false))) : ∀ (xs : List TMode) (z a : Int), 0 ≤ z → i_leastOf_L1 g xs z a = some (leastO f xs a (decide (0 < z)))
  | [], z, a, _ => rfl
  | x :: xs, z, a, hz => by
    obtain ⟨w, hw⟩ := hg x
    rw [i_leastOf_L1, hw, Option.bind_some, i_leastOf_L1_eq hg xs (z + 1) _ (by omega), i_leastOf_L1_eq hg xs (z + 1) _ (by omega), leastO]
    cases hf : f x with
    | none => rfl
    | some v =>
      simp only [Bool.not_true, cond_false, cond_some, Option.bind_some, int_beq, show decide (0 < z + 1) = true from decide_eq_true (by omega)]
      by_cases h0 : z = 0
      · subst h0; rfl
      · rw [show decide (z = 0) = false by simpa using h0, show decide (0 < z) = true from decide_eq_true (by omega)]
        simp only [cond_false, Bool.not_true, Bool.false_or, Option.bind_some]
theorem i_leastOf_eq {g : TMode → Option (Int × Bool)} {f : TMode → Option Int} (hg : ∀ x, ∃ w, g x = some (match f x with | some v => (v, true) | none => (w, false))) (xs : List TMode) : i_leastOf xs g = some (Sum.elim id id (leastO f xs 0 false)) := by
  simp only [i_leastOf, i_leastOf_L1_eq hg xs 0 0 (Int.le_refl _), sumBind, Option.bind_some]
  rw [show decide ((0 : Int) < 0) = false from rfl]
  cases leastO f xs 0 false <;> rfl
theorem MinUsage_eq (x : TActivity) (ms : List Int) (k : Int) (h : x.Modes.length ≤ 1048576) : i_MinUsage x ms k = s_MinUsage x ms k := by
  simp only [i_MinUsage, s_MinUsage, s_l04Least_eq, i_chosen_eq x ms h, Option.bind_some]
  rw [i_leastOf_eq (f := amtO k false false)]
  · rfl
  · intro m
    refine ⟨0, ?_⟩
    simp only [i_MinUsage_c1, i_element_eq, amtO, Option.bind_some, cond_false]
    cases eltO m.Usage k <;> rfl
theorem need_eq (p : TProject) (b : TDomain) (res a : Int) (hm : ∀ x ∈ p.Activities, x.Modes.length ≤ 1048576) :
    ((idxL p.Activities a).bind fun v8 => (idxL b.Modes a).bind fun v9 => (i_MinUsage v8 v9 res).bind fun v10 => some v10) = s_l14Need p b res a := by
  unfold s_l14Need
  cases h : idxL p.Activities a with
  | none => rfl
  | some x => simp only [Option.bind_some, MinUsage_eq x _ res (hm x (idxL_lt_len h).2)]
theorem RequiredUsage_eq (p : TProject) (b : TDomain) (res a : Int) (hp : bTProject 1048576 p) (hb : bTDomain 1048576 b) : i_RequiredUsage p b res a = s_RequiredUsage p b res a := by
  have e := need_eq p b res a (mlen_of hp)
  simp only [i_RequiredUsage, s_RequiredUsage, e, l14Ok_eq p b (modes_of hb), hasActivity_eq, hasResource_eq, s_l01In_eq]
  cases s_l14Need p b res a <;> rfl
theorem usable_proj {p : TProject} {b : TDomain} (hs : ∀ x ∈ p.Activities, x.Name.size ≤ 9223372036854775807) (h : s_l14Ok p b = some true) : s_ProjectOk p = some true := by
  obtain ⟨v, hv, _⟩ := s_ProjectOk_ok p hs
  cases v with
  | true => exact hv
  | false => simp [s_l14Ok, s_DomainForm, hv] at h
theorem IsMachine_eq (p : TProject) (r : Int) : i_IsMachine p r = s_IsMachine p r := by simp only [i_IsMachine, s_IsMachine, hasResource_eq, s_l01In_eq]
theorem s_IsMachine_ok (p : TProject) (r : Int) : ∃ v, s_IsMachine p r = some v ∧ (v = true → ∃ rs, idxL p.Resources r = some rs ∧ 0 < rs.Setup.length) := by
  simp only [s_IsMachine, s_l01In_eq, Option.bind_some]
  cases hq : inR r 0 (W ((p.Resources.length : Int) - 1)) with
  | false => exact ⟨false, rfl, fun h => by cases h⟩
  | true =>
    obtain ⟨rs, hr, _⟩ := idx_of_inR hq
    simp only [hr, Option.bind_some, cond_true]
    exact ⟨_, rfl, fun h => ⟨rs, rfl, by simpa using h⟩⟩
theorem req_need {p : TProject} {b : TDomain} {r x : Int} (hp : bTProject 1048576 p) (hb : bTDomain 1048576 b) (h : s_l14Ok p b = some true) (hm : s_IsMachine p r = some true) (hx : inR x 0 (W ((p.Activities.length : Int) - 1)) = true) : i_RequiredUsage p b r x = s_l14Need p b r x := by
  have hr : inR r 0 (W ((p.Resources.length : Int) - 1)) = true := by
    cases hr : inR r 0 (W ((p.Resources.length : Int) - 1)) with
    | true => rfl
    | false => simp [s_IsMachine, s_l01In_eq, hr] at hm
  rw [RequiredUsage_eq p b r x hp hb]
  simp only [s_RequiredUsage, h, s_l01In_eq, hx, hr, Option.bind_some, Bool.not_true, cond_false]
  cases s_l14Need p b r x <;> rfl
def insB (K : Int → Int) (z : Int) : List Int → List Int → List Int
  | [], T => z :: T
  | y :: R, T => if K z < K y then insB K z R (y :: T) else R.reverse ++ y :: z :: T
def posB (K : Int → Int) (z : Int) : List Int → Nat
  | [] => 0
  | y :: R => if K z < K y then posB K z R else R.length + 1
theorem insB_app (K : Int → Int) (z : Int) : ∀ (R T U : List Int), insB K z R (T ++ U) = insB K z R T ++ U
  | [], T, U => rfl
  | y :: R, T, U => by
    unfold insB
    split
    · exact insB_app K z R (y :: T) U
    · simp
theorem insB_nil (K : Int → Int) (z : Int) (R T : List Int) : insB K z R T = insB K z R [] ++ T := by
  have := insB_app K z R [] T
  simpa using this
theorem insB_perm (K : Int → Int) (z : Int) : ∀ (R T : List Int), (insB K z R T).Perm (z :: (R ++ T))
  | [], T => List.Perm.refl _
  | y :: R, T => by
    unfold insB
    split
    · refine (insB_perm K z R (y :: T)).trans (List.Perm.cons z ?_)
      exact List.perm_middle
    · refine (List.perm_middle (a := y)).trans ?_
      refine (List.Perm.cons y (List.perm_middle (a := z))).trans ?_
      refine (List.Perm.swap z y _).trans (List.Perm.cons z ?_)
      exact List.Perm.cons y (List.Perm.append_right T (List.reverse_perm R))
theorem posB_le (K : Int → Int) (z : Int) : ∀ R : List Int, posB K z R ≤ R.length
  | [] => Nat.le_refl _
  | y :: R => by
    unfold posB
    split
    · have := posB_le K z R; simp; omega
    · simp
theorem insB_pos (K : Int → Int) (z : Int) : ∀ (R T : List Int), (R.reverse ++ T).take (posB K z R) ++ z :: (R.reverse ++ T).drop (posB K z R) = insB K z R T
  | [], T => rfl
  | y :: R, T => by
    unfold posB insB
    have e : (y :: R).reverse ++ T = R.reverse ++ y :: T := by simp
    rw [e]
    split
    · exact insB_pos K z R (y :: T)
    · have e2 : R.reverse ++ y :: T = (R.reverse ++ [y]) ++ T := by simp
      rw [e2, List.take_left' (by simp), List.drop_left' (by simp)]
      simp
def insAll (K : Int → Int) (P S : List Int) : List Int := S.foldl (fun a z => insB K z a.reverse []) P
theorem insAll_perm (K : Int → Int) : ∀ (S P : List Int), (insAll K P S).Perm (P ++ S)
  | [], P => by simp [insAll]
  | z :: S, P => by
    have h1 := insAll_perm K S (insB K z P.reverse [])
    refine h1.trans ?_
    have h2 := insB_perm K z P.reverse []
    rw [List.append_nil] at h2
    refine (List.Perm.append_right S (h2.trans (List.Perm.cons z (List.reverse_perm P)))).trans ?_
    exact List.perm_middle.symm
theorem idxL_at {α : Type} (A : List α) (x : α) (B : List α) {i : Int} (hi : i = A.length) : idxL (A ++ x :: B) i = some x := by
  subst hi
  unfold idxL
  rw [if_pos (by omega)]
  simp
theorem setL_at {α : Type} (A : List α) (x y : α) (B : List α) {i : Int} (hi : i = A.length) : setL (A ++ x :: B) i y = A ++ y :: B := by
  subst hi
  unfold setL
  simp
theorem ins_L2 {g : Int → Int → Option Int} {K : Int → Int} {V : Int → Prop} (hg : ∀ x y, V x → V y → ∃ c, g x y = some c ∧ (c < 0 ↔ K x < K y)) (z : Int) (hz : V z) :
    ∀ (R T : List Int) (fuel : Nat), (∀ x ∈ R, V x) → R.length < 1000 → R.length < fuel → slices_insertionSortCmpFunc_int_L2 0 g fuel (R.length : Int) (R.reverse ++ z :: T) = some (insB K z R T)
  | [], T, 0, _, _, h => by simp at h
  | [], T, fuel + 1, _, _, _ => by
    simp only [slices_insertionSortCmpFunc_int_L2, List.length_nil]
    rw [show decide ((0 : Int) < ((0 : Nat) : Int)) = false from rfl]
    rfl
  | y :: R, T, 0, _, _, h => by simp at h
  | y :: R, T, fuel + 1, hV, hn, hf => by
    simp only [List.length_cons] at hn hf
    have ew : W ((((y :: R).length : Nat) : Int) - 1) = (R.length : Int) := by rw [W_of ⟨by simp only [List.length_cons]; omega, by simp only [List.length_cons]; omega⟩]; simp
    have el : (y :: R).reverse ++ z :: T = (R.reverse ++ [y]) ++ z :: T := by simp
    have el2 : (y :: R).reverse ++ z :: T = R.reverse ++ y :: (z :: T) := by simp
    have i1 : idxL ((y :: R).reverse ++ z :: T) (((y :: R).length : Nat) : Int) = some z := by rw [el]; exact idxL_at _ _ _ (by simp)
    have i2 : idxL ((y :: R).reverse ++ z :: T) (R.length : Int) = some y := by rw [el2]; exact idxL_at _ _ _ (by simp)
    have s1 : setL ((y :: R).reverse ++ z :: T) (((y :: R).length : Nat) : Int) y = R.reverse ++ y :: (y :: T) := by rw [el, setL_at _ _ _ _ (by simp)]; simp
    have i3 : idxL (R.reverse ++ y :: (y :: T)) (R.length : Int) = some y := idxL_at _ _ _ (by simp)
    have s2 : setL (R.reverse ++ y :: (y :: T)) (R.length : Int) z = R.reverse ++ z :: (y :: T) := setL_at _ _ _ _ (by simp)
    obtain ⟨c, hc, hk⟩ := hg z y hz (hV y (List.mem_cons_self ..))
    simp only [slices_insertionSortCmpFunc_int_L2, ew, i1, i2, hc, Option.bind_some]
    rw [show decide ((0 : Int) < (((y :: R).length : Nat) : Int)) = true from decide_eq_true (by simp only [List.length_cons]; omega)]
    simp only [cond_true, Option.bind_some, s1, i3, s2]
    unfold insB
    by_cases h : K z < K y
    · rw [if_pos h, decide_eq_true (hk.2 h), cond_true]
      exact ins_L2 hg z hz R (y :: T) fuel (fun x hx => hV x (List.mem_cons_of_mem _ hx)) (by omega) (by omega)
    · rw [if_neg h, decide_eq_false (fun e => h (hk.1 e)), cond_false, el2]
theorem ins_L1 {g : Int → Int → Option Int} {K : Int → Int} {V : Int → Prop} (hg : ∀ x y, V x → V y → ∃ c, g x y = some c ∧ (c < 0 ↔ K x < K y)) (n : Nat) (hn : n < 1000) :
    ∀ (S P : List Int) (fuel : Nat), (∀ x ∈ P ++ S, V x) → P.length + S.length = n → S.length < fuel → slices_insertionSortCmpFunc_int_L1 0 n g fuel (P.length : Int) (P ++ S) = some (insAll K P S)
  | [], P, 0, _, _, h => by simp at h
  | [], P, fuel + 1, _, hl, _ => by
    simp only [slices_insertionSortCmpFunc_int_L1]
    rw [show decide ((P.length : Int) < (n : Int)) = false from decide_eq_false (by simp at hl; omega)]
    simp [insAll]
  | z :: S, P, 0, _, _, h => by simp at h
  | z :: S, P, fuel + 1, hV, hl, hf => by
    simp only [List.length_cons] at hl hf
    simp only [slices_insertionSortCmpFunc_int_L1]
    rw [show decide ((P.length : Int) < (n : Int)) = true from decide_eq_true (by omega), cond_true]
    have h1 := ins_L2 hg z (hV z (by simp)) P.reverse S F0 (fun x hx => hV x (by simp at hx; simp [hx])) (by simp; omega) (by have := F0_gt; simp; omega)
    rw [List.length_reverse, List.reverse_reverse] at h1
    rw [h1, Option.bind_some, insB_nil]
    have hp := insB_perm K z P.reverse []
    have hlen : (insB K z P.reverse []).length = P.length + 1 := by rw [hp.length_eq]; simp
    have ew : W ((P.length : Int) + 1) = ((insB K z P.reverse []).length : Int) := by rw [W_of ⟨by omega, by omega⟩, hlen]; simp
    rw [ew]
    exact ins_L1 hg n hn S _ fuel (fun x hx => by
      rcases List.mem_append.1 hx with h | h
      · have := hp.mem_iff.1 h
        simp at this
        exact hV x (by simp; rcases this with e | e <;> simp [e])
      · exact hV x (by simp [h])) (by omega) (by omega)
theorem sort_small {g : Int → Int → Option Int} {K : Int → Int} {V : Int → Prop} (hg : ∀ x y, V x → V y → ∃ c, g x y = some c ∧ (c < 0 ↔ K x < K y)) (l : List Int) (hV : ∀ x ∈ l, V x) (hl : l.length < 20) : slices_SortStableFunc_int l g = some (insAll K [] l) := by
  have hF := F0_gt
  obtain ⟨f, hf⟩ : ∃ f, F0 = f + 1 := ⟨F0 - 1, by omega⟩
  have e1 : slices_stableCmpFunc_int_L1 (l.length : Int) g F0 0 20 l = some (0, l) := by
    rw [hf, slices_stableCmpFunc_int_L1, show decide ((20 : Int) ≤ (l.length : Int)) = false from decide_eq_false (by omega)]; rfl
  have e2 : slices_insertionSortCmpFunc_int l 0 (l.length : Int) g = some (insAll K [] l) := by
    unfold slices_insertionSortCmpFunc_int
    rw [show W (0 + 1) = 1 from by rw [W_of ⟨by omega, by omega⟩]; rfl]
    cases l with
    | nil =>
      rw [hf, slices_insertionSortCmpFunc_int_L1]
      rfl
    | cons x S =>
      have := ins_L1 hg (x :: S).length (by simp at hl ⊢; omega) S [x] F0 (by simpa using hV) (by simp; omega) (by simp at hl; omega)
      have e : ((List.length [x] : Nat) : Int) = 1 := rfl
      rw [e] at this
      rw [show (x :: S).length = ([x] ++ S).length from rfl] at this
      show (slices_insertionSortCmpFunc_int_L1 0 ((([x] ++ S).length : Nat) : Int) g F0 1 ([x] ++ S)).bind _ = _
      rw [this]
      rfl
  have e3 : slices_stableCmpFunc_int_L2 (l.length : Int) g F0 20 (insAll K [] l) = some (insAll K [] l) := by
    rw [hf, slices_stableCmpFunc_int_L2, show decide ((20 : Int) < (l.length : Int)) = false from decide_eq_false (by omega)]; rfl
  simp only [slices_SortStableFunc_int, slices_stableCmpFunc_int, e1, e2, e3, Option.bind_some]
theorem appL_ok {α : Type} {a b : List α} (h : a.length + b.length ≤ 1099511627776) : appL a b = some (a ++ b) := by
  unfold appL; rw [if_pos h]
theorem subL_ok {α : Type} (l : List α) (lo hi : Nat) (h1 : lo ≤ hi) (h2 : hi ≤ l.length) : subL l (lo : Int) (hi : Int) = some ((l.take hi).drop lo) := by
  unfold subL; rw [if_pos ⟨by omega, by omega, by omega⟩]; simp
def idxs {α : Type} : List α → Int → List Int
  | [], _ => []
  | _ :: xs, z => z :: idxs xs (z + 1)
theorem idxs_range {α : Type} : ∀ (l : List α) (k : Nat), idxs l (k : Int) = (List.range' k l.length).map fun (i : Nat) => (i : Int)
  | [], k => rfl
  | x :: xs, k => by
    have := idxs_range xs (k + 1)
    simp only [idxs, List.length_cons, List.range'_succ, List.map_cons]
    rw [show (k : Int) + 1 = ((k + 1 : Nat) : Int) by omega, this]
theorem rangeI_idxs {α : Type} (l : List α) : rangeI l.length = idxs l 0 := by
  have := idxs_range l 0
  rw [show ((0 : Nat) : Int) = 0 from rfl] at this
  rw [this]
  unfold rangeI
  rw [List.range_eq_range']
theorem idxs_mem {α : Type} : ∀ (l : List α) (z : Int), 0 ≤ z → ∀ a ∈ idxs l z, z ≤ a ∧ a < z + l.length
  | [], z, _, a, h => by cases h
  | x :: xs, z, hz, a, h => by
    simp only [idxs, List.mem_cons] at h
    rcases h with rfl | h
    · simp; omega
    · have := idxs_mem xs (z + 1) (by omega) a h
      simp; omega
theorem idxs_len {α : Type} : ∀ (l : List α) (z : Int), (idxs l z).length = l.length
  | [], z => rfl
  | x :: xs, z => by simp [idxs, idxs_len xs]
theorem kept_L1 {g : Int → Option Bool} {q : Int → Bool} : ∀ (l : List Int) (z : Int) (a : List Int), (∀ x ∈ l, g x = some (q x)) → a.length + l.length ≤ 1000 → i_kept_L1 g l z a = some (a ++ l.filter q)
  | [], z, a, _, _ => by simp [i_kept_L1]
  | x :: xs, z, a, h, hl => by
    simp only [List.length_cons] at hl
    simp only [i_kept_L1, h x (List.mem_cons_self ..), Option.bind_some]
    cases hq : q x with
    | true =>
      rw [cond_true, appL_ok (by simp; omega), Option.bind_some, kept_L1 xs (z + 1) _ (fun y hy => h y (List.mem_cons_of_mem _ hy)) (by simp; omega)]
      simp [List.filter_cons, hq]
    | false =>
      rw [cond_false, kept_L1 xs (z + 1) _ (fun y hy => h y (List.mem_cons_of_mem _ hy)) (by omega)]
      simp [List.filter_cons, hq]
theorem chain_L2 {b : TDomain} {K : Int → Int} {z : Int} (hz : idxL b.MinStart z = some (K z)) : ∀ (R T : List Int) (fuel : Nat), (∀ x ∈ R, idxL b.MinStart x = some (K x)) → R.length < 1000 → R.length < fuel → s_MachineChain_L2 b (R.reverse ++ T) z fuel (R.length : Int) = some (posB K z R : Int)
  | [], T, 0, _, _, h => by simp at h
  | [], T, fuel + 1, _, _, _ => by
    simp only [s_MachineChain_L2, List.length_nil]
    rw [show decide ((0 : Int) < ((0 : Nat) : Int)) = false from rfl]
    rfl
  | y :: R, T, 0, _, _, h => by simp at h
  | y :: R, T, fuel + 1, hV, hn, hf => by
    simp only [List.length_cons] at hn hf
    have ew : W ((((y :: R).length : Nat) : Int) - 1) = (R.length : Int) := by rw [W_of ⟨by simp only [List.length_cons]; omega, by simp only [List.length_cons]; omega⟩]; simp
    have el2 : (y :: R).reverse ++ T = R.reverse ++ y :: T := by simp
    have i2 : idxL (R.reverse ++ y :: T) (R.length : Int) = some y := idxL_at _ _ _ (by simp)
    rw [el2]
    simp only [s_MachineChain_L2, ew, i2, hV y (List.mem_cons_self ..), hz, Option.bind_some]
    rw [show decide ((0 : Int) < (((y :: R).length : Nat) : Int)) = true from decide_eq_true (by simp only [List.length_cons]; omega)]
    simp only [cond_true, Option.bind_some]
    unfold posB
    by_cases h : K z < K y
    · rw [if_pos h, decide_eq_true h, cond_true]
      exact chain_L2 hz R (y :: T) fuel (fun x hx => hV x (List.mem_cons_of_mem _ hx)) (by omega) (by omega)
    · rw [if_neg h, decide_eq_false h, cond_false]
      simp
theorem chain_L1 {p : TProject} {b : TDomain} {r : Int} {K : Int → Int} {q : Int → Bool} : ∀ (xs : List TActivity) (z : Int) (a : List Int), (∀ x ∈ idxs xs z, idxL b.MinStart x = some (K x) ∧ ∃ v, s_l14Need p b r x = some v ∧ (v == 0) = !q x) → (∀ x ∈ a, idxL b.MinStart x = some (K x)) → a.length + xs.length ≤ 900 →
    s_MachineChain_L1 p b r xs z a = some (insAll K a ((idxs xs z).filter q))
  | [], z, a, _, _, _ => rfl
  | x :: xs, z, a, h, ha, hl => by
    simp only [List.length_cons] at hl
    obtain ⟨hk, v, hv, hq⟩ := h z (by simp [idxs])
    have h' := fun y hy => h y (by simp only [idxs, List.mem_cons]; exact .inr hy)
    simp only [s_MachineChain_L1, hv, hq, Option.bind_some]
    cases hqz : q z with
    | false =>
      simp only [Bool.not_false, cond_true]
      rw [chain_L1 xs (z + 1) a h' ha (by omega)]
      simp [idxs, List.filter_cons, hqz]
    | true =>
      simp only [Bool.not_true, cond_false]
      have h1 := chain_L2 hk a.reverse [] F0 (fun x hx => ha x (by simpa using hx)) (by simp; omega) (by have := F0_gt; simp; omega)
      rw [List.length_reverse, List.reverse_reverse, List.append_nil] at h1
      have hp : posB K z a.reverse ≤ a.length := by have := posB_le K z a.reverse; simpa using this
      have s1 := subL_ok a 0 (posB K z a.reverse) (Nat.zero_le _) hp
      have s2 := subL_ok a (posB K z a.reverse) a.length hp (Nat.le_refl _)
      rw [show ((0 : Nat) : Int) = 0 from rfl] at s1
      rw [h1, Option.bind_some, s1, Option.bind_some, appL_ok (by simp; omega), Option.bind_some, appL_ok (by simp; omega), Option.bind_some, s2, Option.bind_some, appL_ok (by simp; omega), Option.bind_some]
      have e := insB_pos K z a.reverse []
      rw [List.reverse_reverse, List.append_nil] at e
      have e2 : [] ++ List.drop 0 (List.take (posB K z a.reverse) a) ++ [z] ++ List.drop (posB K z a.reverse) (List.take a.length a) = insB K z a.reverse [] := by
        rw [← e]; simp
      rw [e2]
      have hm := insB_perm K z a.reverse []
      have hlen : (insB K z a.reverse []).length = a.length + 1 := by rw [hm.length_eq]; simp
      rw [chain_L1 xs (z + 1) _ h' (fun x hx => by
        have := hm.mem_iff.1 hx
        simp at this
        rcases this with rfl | e
        · exact hk
        · exact ha x e) (by omega)]
      simp [idxs, List.filter_cons, hqz, insAll]
theorem leastO_nn {f : TMode → Option Int} : ∀ (xs : List TMode) (a : Int) (has : Bool), (∀ x ∈ xs, ∀ v, f x = some v → 0 ≤ v) → 0 ≤ a → 0 ≤ Sum.elim id id (leastO f xs a has)
  | [], a, has, _, h => h
  | x :: xs, a, has, hx, h => by
    unfold leastO
    have h' := fun y hy => hx y (List.mem_cons_of_mem _ hy)
    cases hf : f x with
    | none => exact Int.le_refl _
    | some v =>
      have hv := hx x (List.mem_cons_self ..) v hf
      show 0 ≤ Sum.elim id id (bif (!has || decide (v < a)) then leastO f xs v true else leastO f xs a true)
      cases (!has || decide (v < a)) with
      | true => exact leastO_nn xs v true h' hv
      | false => exact leastO_nn xs a true h' h
theorem need_nn {p : TProject} {b : TDomain} (h : DomF p b) {a : Int} {x : TActivity} (hx : idxL p.Activities a = some x) (res : Int) : ∃ v, s_l14Need p b res a = some v ∧ 0 ≤ v := by
  obtain ⟨m1, m2, ms, h1, h2, h3, _⟩ := h.at_ a x hx
  have hact := h.proj.acts x (idxL_lt_len hx).2
  refine ⟨_, by simp only [s_l14Need, hx, h3, Option.bind_some, s_MinUsage, s_l04Least_eq]; rfl, leastO_nn _ 0 false (fun y hy v hv => ?_) (Int.le_refl _)⟩
  have hm := hact.2.2 y (chosenF_mem _ _ _ _ hy)
  simp only [amtO, cond_false, Option.map_eq_some_iff] at hv
  obtain ⟨w, hw, rfl⟩ := hv
  unfold eltO at hw
  cases hr : inR res 0 (W ((y.Usage.length : Int) - 1)) with
  | false => rw [hr] at hw; cases hw
  | true =>
    rw [hr, cond_true] at hw
    exact (hm.2.1.2 w (idxL_lt_len hw).2).1
theorem idxs_nodup {α : Type} : ∀ (l : List α) (z : Int), 0 ≤ z → (idxs l z).Nodup
  | [], z, _ => List.nodup_nil
  | x :: xs, z, hz => by
    unfold idxs
    refine List.nodup_cons.2 ⟨fun h => ?_, idxs_nodup xs (z + 1) (by omega)⟩
    have := idxs_mem xs (z + 1) (by omega) z h
    omega
theorem cmp_lt (x y : Int) : ∃ c, cmp_Compare_int x y = some c ∧ (c < 0 ↔ x < y) := by
  have e : ∀ x : Int, (x != x) = false := fun x => by simp
  simp only [cmp_Compare_int, cmp_isNaN_int, Option.bind_some, e, cond_false]
  by_cases h : x < y
  · exact ⟨-1, by rw [decide_eq_true h]; rfl, by omega⟩
  · by_cases h2 : y < x
    · exact ⟨1, by rw [decide_eq_false h, decide_eq_true h2]; rfl, by omega⟩
    · exact ⟨0, by rw [decide_eq_false h, decide_eq_false h2]; rfl, by omega⟩
structure ChainF (p : TProject) (b : TDomain) (r : Int) (v : List Int) : Prop where
  use : UseF p b
  ok : s_l14Ok p b = some true
  mach : s_IsMachine p r = some true
  nd : v.Nodup
  len : v.length ≤ 6
  ins : ∀ x ∈ v, inR x 0 (W ((p.Activities.length : Int) - 1)) = true
theorem chain_ok (p : TProject) (b : TDomain) (r : Int) (hp : bTProject 1048576 p) (hb : bTDomain 1048576 b) : ∃ v, s_MachineChain p b r = some v ∧ i_MachineChain p b r = some v ∧ (v = [] ∨ ChainF p b r v) := by
  obtain ⟨v, hv, hf⟩ := s_l14Ok_ok p (names_of hp (by omega)) b
  obtain ⟨m, hm, hg⟩ := s_IsMachine_ok p r
  simp only [s_MachineChain, i_MachineChain, i_onMachine, l14Ok_eq p b (modes_of hb), IsMachine_eq, hv, hm, Option.bind_some]
  cases v with
  | false => exact ⟨[], rfl, rfl, .inl rfl⟩
  | true =>
    cases m with
    | false => exact ⟨[], rfl, rfl, .inl rfl⟩
    | true =>
      have U := hf rfl
      have hn := U.dom.proj.nact
      have hat : ∀ a ∈ idxs p.Activities 0, idxL b.MinStart a = some ((idxL b.MinStart a).getD 0) ∧ inR a 0 (W ((p.Activities.length : Int) - 1)) = true ∧ ∃ v, s_l14Need p b r a = some v ∧ 0 ≤ v := by
        intro a ha
        have h1 := idxs_mem p.Activities 0 (Int.le_refl _) a ha
        obtain ⟨x, hx, _⟩ := idxL_some (l := p.Activities) (z := a) h1.1 (by omega)
        obtain ⟨m1, m2, ms, k1, k2, k3, _⟩ := U.dom.at_ a x hx
        refine ⟨by rw [k1]; rfl, ?_, need_nn U.dom hx r⟩
        rw [W_of ⟨by omega, by omega⟩]
        exact inR_iff.2 ⟨h1.1, by omega⟩
      have hq : ∀ a ∈ idxs p.Activities 0, i_MachineChain_c1 a p b r = some (!((s_l14Need p b r a).getD 0 == 0)) := by
        intro a ha
        obtain ⟨_, h2, v, h3, h4⟩ := hat a ha
        simp only [i_MachineChain_c1, req_need hp hb hv hm h2, h3, Option.bind_some, Option.getD_some]
        congr 1
        by_cases h0 : v = 0
        · subst h0; rfl
        · rw [decide_eq_true (by omega)]; simp [h0]
      have hr : i_IntRange (p.Activities.length : Int) = some (idxs p.Activities 0) := by rw [IntRange_eq, s_IntRange_eq _ (by omega), rangeI_idxs]
      have hk : i_kept (idxs p.Activities 0) (fun x0 => i_MachineChain_c1 x0 p b r) = some ((idxs p.Activities 0).filter fun a => !((s_l14Need p b r a).getD 0 == 0)) := by
        have := kept_L1 (g := fun x0 => i_MachineChain_c1 x0 p b r) (idxs p.Activities 0) 0 [] hq (by rw [idxs_len]; simp; omega)
        simp only [i_kept, this, Option.bind_some, List.nil_append]
      have hlen : ((idxs p.Activities 0).filter fun a => !((s_l14Need p b r a).getD 0 == 0)).length ≤ 6 := by
        have := List.length_filter_le (fun a => !((s_l14Need p b r a).getD 0 == 0)) (idxs p.Activities 0)
        rw [idxs_len] at this
        omega
      have hs := sort_small (g := fun x0 x1 => i_MachineChain_c2 x0 x1 b) (K := fun a => (idxL b.MinStart a).getD 0) (V := fun a => idxL b.MinStart a = some ((idxL b.MinStart a).getD 0)) (fun x y hx hy => by
        obtain ⟨c, hc, hi⟩ := cmp_lt ((idxL b.MinStart x).getD 0) ((idxL b.MinStart y).getD 0)
        refine ⟨c, ?_, hi⟩
        simp only [i_MachineChain_c2]
        rw [hx, hy]
        simp only [Option.bind_some, Option.getD_some, hc]) _ (fun x hx => (hat x ((List.mem_filter.1 hx).1)).1) (Nat.lt_of_le_of_lt hlen (by omega))
      have hc := chain_L1 (p := p) (b := b) (r := r) (K := fun a => (idxL b.MinStart a).getD 0) (q := fun a => !((s_l14Need p b r a).getD 0 == 0)) p.Activities 0 [] (fun x hx => by
        obtain ⟨h1, h2, v, h3, h4⟩ := hat x hx
        exact ⟨h1, v, h3, by simp [h3]⟩) (fun x hx => by cases hx) (by simp; omega)
      have hperm := insAll_perm (fun a => (idxL b.MinStart a).getD 0) ((idxs p.Activities 0).filter fun a => !((s_l14Need p b r a).getD 0 == 0)) []
      rw [List.nil_append] at hperm
      refine ⟨_, by simp only [Bool.not_true, cond_false, hc, Option.bind_some]; rfl, by simp only [Bool.not_true, cond_true, cond_false, hr, hk, hs, Option.bind_some], .inr ⟨U, hv, hm, ?_, ?_, ?_⟩⟩
      · exact hperm.nodup_iff.2 (List.Nodup.sublist List.filter_sublist (idxs_nodup _ 0 (Int.le_refl _)))
      · rw [hperm.length_eq]; exact hlen
      · intro x hx
        exact (hat x ((List.mem_filter.1 (hperm.mem_iff.1 hx)).1)).2.1
theorem core_MachineChain (p : TProject) (b : TDomain) (r : Int) (hp : bTProject 1048576 p) (hb : bTDomain 1048576 b) : ∃ v, s_MachineChain p b r = some v ∧ i_MachineChain p b r = some v ∧ v.length ≤ 1048576 := by
  obtain ⟨v, h1, h2, h3⟩ := chain_ok p b r hp hb
  refine ⟨v, h1, h2, ?_⟩
  rcases h3 with rfl | h
  · simp
  · have := h.len; omega
theorem setup_in {p : TProject} {b : TDomain} {r : Int} (U : UseF p b) (ho : s_l14Ok p b = some true) (hmc : s_IsMachine p r = some true) (hs : ∀ x ∈ p.Activities, x.Name.size ≤ 9223372036854775807) {x y : Int} (hx0 : inR x 0 (W ((p.Activities.length : Int) - 1)) = true) (hy0 : inR y 0 (W ((p.Activities.length : Int) - 1)) = true) :
    ∃ rs ax ay row v, idxL p.Resources r = some rs ∧ idxL p.Activities x = some ax ∧ idxL p.Activities y = some ay ∧ idxL rs.Setup ax.Family = some row ∧ idxL row ay.Family = some v ∧ i_SetupTime p r x y = some v ∧ 0 ≤ v ∧ v ≤ 12 := by
  obtain ⟨m, hm, hg⟩ := s_IsMachine_ok p r
  have e := hmc
  rw [hm] at e; cases e
  obtain ⟨rs, hr, hl⟩ := hg rfl
  obtain ⟨ax, hx, mx⟩ := idx_of_inR hx0
  obtain ⟨ay, hy, my⟩ := idx_of_inR hy0
  have fr := U.dom.proj.ress rs (idxL_lt_len hr).2
  have l4 : rs.Setup.length = 4 := by have := fr.2.2.1; omega
  have fx := (U.dom.proj.acts ax mx).1
  have fy := (U.dom.proj.acts ay my).1
  obtain ⟨row, k1, k2⟩ := idxL_some (l := rs.Setup) fx.1 (by omega)
  obtain ⟨v, k3, k4⟩ := idxL_some (l := row) fy.1 (by have := (fr.2.2.2 row k2).1; omega)
  have hb := (fr.2.2.2 row k2).2 v k4
  refine ⟨rs, ax, ay, row, v, hr, hx, hy, k1, k3, ?_, hb.1, hb.2⟩
  simp only [i_SetupTime, IsMachine_eq, hmc, ProjectOk_eq, usable_proj hs ho, hasActivity_eq, hx0, hy0, hr, hx, hy, k1, k3, Option.bind_some, Bool.not_true, cond_false]
section
variable {p : TProject} {b : TDomain} {r : Int} (U : UseF p b) (ho : s_l14Ok p b = some true) (hmc : s_IsMachine p r = some true) (hs : ∀ x ∈ p.Activities, x.Name.size ≤ 9223372036854775807) {y : Int} (hy0 : inR y 0 (W ((p.Activities.length : Int) - 1)) = true)
include U ho hmc hs hy0
theorem mb_t : ∀ (xs : List Int) (z z' a : Int), (∀ x ∈ xs, inR x 0 (W ((p.Activities.length : Int) - 1)) = true) → 0 ≤ a → ∃ w, s_MachineBound_L2 p r y xs z a = some w ∧ i_MachineBound_L2 p r y xs z' a true = some w ∧ 0 ≤ w
  | [], z, z', a, _, ha => ⟨a, rfl, rfl, ha⟩
  | x :: xs, z, z', a, h, ha => by
    obtain ⟨rs, ax, ay, row, v, h1, h2, h3, h4, h5, h6, h7, h8⟩ := setup_in U ho hmc hs (h x (List.mem_cons_self ..)) hy0
    have h' := fun k hk => h k (List.mem_cons_of_mem _ hk)
    simp only [s_MachineBound_L2, i_MachineBound_L2, h1, h2, h3, h4, h5, h6, Option.bind_some, s_l02Min_eq, Bool.not_true, cond_false]
    cases hxy : (x != y) with
    | false => simp only [cond_false, Option.bind_some]; exact mb_t xs (z + 1) (z' + 1) a h' ha
    | true =>
      simp only [cond_true, Option.bind_some]
      by_cases hva : v < a
      · rw [decide_eq_true hva, cond_true, show min a v = v by omega]; exact mb_t xs (z + 1) (z' + 1) v h' h7
      · rw [decide_eq_false hva, cond_false, show min a v = a by omega]; exact mb_t xs (z + 1) (z' + 1) a h' ha
theorem mb_f : ∀ (xs : List Int) (z z' : Int), (∀ x ∈ xs, inR x 0 (W ((p.Activities.length : Int) - 1)) = true) →
    (∃ w, s_MachineBound_L2 p r y xs z 12 = some w ∧ i_MachineBound_L2 p r y xs z' 0 false = some w ∧ 0 ≤ w) ∨ ((∀ x ∈ xs, x = y) ∧ s_MachineBound_L2 p r y xs z 12 = some 12 ∧ i_MachineBound_L2 p r y xs z' 0 false = some 0)
  | [], z, z', _ => .inr ⟨fun _ h => (List.not_mem_nil h).elim, rfl, rfl⟩
  | x :: xs, z, z', h => by
    obtain ⟨rs, ax, ay, row, v, h1, h2, h3, h4, h5, h6, h7, h8⟩ := setup_in U ho hmc hs (h x (List.mem_cons_self ..)) hy0
    have h' := fun k hk => h k (List.mem_cons_of_mem _ hk)
    simp only [s_MachineBound_L2, i_MachineBound_L2, h1, h2, h3, h4, h5, h6, Option.bind_some, s_l02Min_eq, Bool.not_false, cond_true]
    cases hxy : (x != y) with
    | false =>
      simp only [cond_false, Option.bind_some]
      have hxe : x = y := by simpa using hxy
      rcases mb_f xs (z + 1) (z' + 1) h' with h | ⟨h, e1, e2⟩
      · exact .inl h
      · exact .inr ⟨fun k hk => (List.mem_cons.1 hk).elim (fun e => e.trans hxe) (h k), e1, e2⟩
    | true =>
      simp only [cond_true, Option.bind_some]
      rw [show min 12 v = v by omega]
      exact .inl (mb_t U ho hmc hs hy0 xs (z + 1) (z' + 1) v h' h7)
end
theorem W_add3 (a b c : Int) : W (W (a + b) + c) = W (a + W (b + c)) := by
  show IntKind.i64.wrap (IntKind.i64.wrap (a + b) + c) = IntKind.i64.wrap (a + IntKind.i64.wrap (b + c))
  simp only [IntKind.wrap_i64]
  omega
theorem W_idem (a : Int) (b : Int) : W (a + W (b + 0)) = W (a + b) := by
  show IntKind.i64.wrap (a + IntKind.i64.wrap (b + 0)) = IntKind.i64.wrap (a + b)
  simp only [IntKind.wrap_i64]
  omega
theorem mb_L1 {p : TProject} {b : TDomain} {r : Int} {v : List Int} (C : ChainF p b r v) (hp : bTProject 1048576 p) : ∀ (xs : List Int) (z z' a c : Int), (∀ x ∈ xs, x ∈ v) → 0 ≤ c → ∃ w, s_MachineBound_L1 p b r v xs z a c = some w ∧ i_MachineBound_L1 p b r v xs z' a c = some w
  | [], z, z', a, c, _, _ => ⟨_, rfl, rfl⟩
  | x :: xs, z, z', a, c, h, hc => by
    have hxv := h x (List.mem_cons_self ..)
    have h' := fun k hk => h k (List.mem_cons_of_mem _ hk)
    have hx0 := C.ins x hxv
    obtain ⟨ax, hx, _⟩ := idx_of_inR hx0
    obtain ⟨u, hu⟩ := s_l14Short_ok C.use.dom hx
    simp only [s_MachineBound_L1, i_MachineBound_L1, l14Short_eq p b x (mlen_of hp), hu, s_l02Max_eq, Option.bind_some]
    have hnd := C.nd
    by_cases h1 : 1 < v.length
    · rcases mb_f C.use C.ok C.mach (names_of hp (by omega)) hx0 v 0 0 C.ins with ⟨w, e1, e2, e3⟩ | ⟨e, _, _⟩
      · rw [e1, e2, Option.bind_some, Option.bind_some, decide_eq_true (show (1 : Int) < (v.length : Int) by omega), cond_true, W_add3]
        exact mb_L1 C hp xs (z + 1) (z' + 1) _ _ h' (by omega)
      · exfalso
        match v, h1, e, hnd with
        | k1 :: k2 :: ks, _, e, hnd =>
          have a1 := e k1 (by simp)
          have a2 := e k2 (by simp)
          subst a1
          simp [a2] at hnd
    · have hv1 : v = [x] := by
        match v, h1, hxv with
        | [k], _, hxv => simp at hxv; rw [hxv]
        | k1 :: k2 :: ks, h1, _ => simp at h1
      rcases mb_f C.use C.ok C.mach (names_of hp (by omega)) hx0 v 0 0 C.ins with ⟨w, e1, e2, e3⟩ | ⟨e, e1, e2⟩
      · exfalso
        obtain ⟨rs, ax', ay, row, q, g1, g2, g3, g4, g5, g6, _, _⟩ := setup_in C.use C.ok C.mach (names_of hp (by omega)) hx0 hx0
        rw [hv1] at e1 e2
        simp [s_MachineBound_L2] at e1
        simp [i_MachineBound_L2, g6] at e2
        omega
      · rw [e1, e2, Option.bind_some, Option.bind_some, decide_eq_false (show ¬ (1 : Int) < (v.length : Int) by omega), cond_false, W_idem, show max c 0 = c by omega]
        exact mb_L1 C hp xs (z + 1) (z' + 1) _ _ h' hc
theorem core_MachineBound (p : TProject) (b : TDomain) (r : Int) (hp : bTProject 1048576 p) (hb : bTDomain 1048576 b) : ∃ v, s_MachineBound p b r = some v ∧ i_MachineBound p b r = some v := by
  obtain ⟨v, h1, h2, h3⟩ := chain_ok p b r hp hb
  simp only [s_MachineBound, i_MachineBound, h1, h2, Option.bind_some]
  rcases h3 with rfl | C
  · exact ⟨0, rfl, rfl⟩
  · by_cases h0 : v.length = 0
    · rw [show ((v.length : Int) == 0) = true by simp [h0]]; exact ⟨0, rfl, rfl⟩
    · rw [show ((v.length : Int) == 0) = false by simpa using h0, cond_false, cond_false]
      obtain ⟨x, hx, hxm⟩ := idxL_some (l := v) (z := 0) (by omega) (by omega)
      obtain ⟨ax, hax, _⟩ := idx_of_inR (C.ins x hxm)
      obtain ⟨m1, m2, ms, k1, k2, k3, _⟩ := C.use.dom.at_ x ax hax
      obtain ⟨w, e1, e2⟩ := mb_L1 C hp v 0 0 m1 0 (fun x hx => hx) (by omega)
      simp only [hx, k1, e1, e2, Option.bind_some]
      exact ⟨_, rfl, rfl⟩
theorem init_eq (p : TProject) : ∀ (xs : List TActivity) (z : Int) (a c : List Int) (d : List (List Int)), i_InitialDomain_L1 p xs z a c d = s_l12Of_L1 p xs z a c d
  | [], z, a, c, d => rfl
  | x :: xs, z, a, c, d => by simp only [i_InitialDomain_L1, s_l12Of_L1, ModeIndexes_eq, init_eq p xs]
theorem init_ok (p : TProject) : ∀ (xs : List TActivity) (z : Int) (a c : List Int) (d : List (List Int)), (∀ x ∈ xs, x.Modes.length ≤ 3) → a.length + xs.length ≤ 900 → c.length + xs.length ≤ 900 → d.length + xs.length ≤ 900 → (∀ m ∈ d, m.length ≤ 3) →
    ∃ v, s_l12Of_L1 p xs z a c d = some v ∧ v.1.length ≤ 900 ∧ v.2.1.length ≤ 900 ∧ v.2.2.length ≤ 900 ∧ ∀ m ∈ v.2.2, m.length ≤ 3
  | [], z, a, c, d, _, h1, h2, h3, h4 => ⟨_, rfl, by simpa using h1, by simpa using h2, by simpa using h3, h4⟩
  | x :: xs, z, a, c, d, hx, h1, h2, h3, h4 => by
    simp only [List.length_cons] at h1 h2 h3
    have hm := hx x (List.mem_cons_self ..)
    simp only [s_l12Of_L1, s_ModeIndexes_eq x (by omega)]
    rw [appL_ok (by simp; omega), Option.bind_some, appL_ok (by simp; omega), Option.bind_some, Option.bind_some, appL_ok (by simp; omega), Option.bind_some]
    refine init_ok p xs (z + 1) _ _ _ (fun y hy => hx y (List.mem_cons_of_mem _ hy)) (by simp; omega) (by simp; omega) (by simp; omega) (fun m hmm => ?_)
    rcases List.mem_append.1 hmm with e | e
    · exact h4 m e
    · simp at e; subst e; simpa [rangeI] using hm
theorem lower_L1 (p : TProject) (hp : bTProject 1048576 p) (D : TDomain) (hD : bTDomain 1048576 D) (e1 : s_l12Of p = some D) (e2 : i_InitialDomain p = some D) : ∀ (xs : List TResource) (z a : Int), ∃ v, s_MachineLowerBound_L1 p xs z a = some v ∧ i_MachineLowerBound_L1 p xs z a = some v
  | [], z, a => ⟨a, rfl, rfl⟩
  | x :: xs, z, a => by
    obtain ⟨v, h1, h2⟩ := core_MachineBound p D z hp hD
    simp only [s_MachineLowerBound_L1, i_MachineLowerBound_L1, e1, e2, h1, h2, s_l02Max_eq, Option.bind_some]
    exact lower_L1 p hp D hD e1 e2 xs (z + 1) _
theorem core_MachineLowerBound (p : TProject) (hp : bTProject 1048576 p) : ∃ v, s_MachineLowerBound p = some v ∧ i_MachineLowerBound p = some v := by
  obtain ⟨v, hv, hf⟩ := s_ProjectOk_ok p (names_of hp (by omega))
  simp only [s_MachineLowerBound, i_MachineLowerBound, ProjectOk_eq, hv, Option.bind_some]
  cases v with
  | false => exact ⟨0, rfl, rfl⟩
  | true =>
    have F := hf rfl
    have hn := F.nact
    obtain ⟨w, h1, h2, h3, h4, h5⟩ := init_ok p p.Activities 0 [] [] [] (fun x hx => (F.acts x hx).2.1.2) (by simp; omega) (by simp; omega) (by simp; omega) (fun m hm => by cases hm)
    have e1 : s_l12Of p = some (TDomain.mk w.1 w.2.1 w.2.2) := by simp only [s_l12Of, h1, Option.bind_some]
    have e2 : i_InitialDomain p = some (TDomain.mk w.1 w.2.1 w.2.2) := by simp only [i_InitialDomain, ProjectOk_eq, hv, Option.bind_some, Bool.not_true, cond_false, init_eq, h1]
    have hD : bTDomain 1048576 (TDomain.mk w.1 w.2.1 w.2.2) := by
      refine ⟨?_, ?_, ⟨?_, fun m hm => ?_⟩, trivial⟩
      · show w.1.length ≤ 1048576; omega
      · show w.2.1.length ≤ 1048576; omega
      · show w.2.2.length ≤ 1048576; omega
      · show m.length ≤ 1048576; have := h5 m hm; omega
    obtain ⟨v, k1, k2⟩ := lower_L1 p hp _ hD e1 e2 p.Resources 0 0
    simp only [k1, k2, Option.bind_some, Bool.not_true, cond_false]
    exact ⟨v, rfl, rfl⟩
end Go.Px.YtjncefleglnnjaaGreat
