/-
  PROVED: definitions that say what functions of the program compute. No condition.
-/
import Derived.Test.YtimegoembedagaaGreatQ4
namespace Go.Px.YtimegoembedagaaGreat
set_option linter.unusedSimpArgs false
set_option linter.unusedVariables false
open Go.Px
structure TMode where
 Duration : Int
 Usage : List Int
 Consumption : List Int
 deriving DecidableEq
structure TActivity where
 Name : ByteArray
 Family : Int
 Modes : List TMode
 deriving DecidableEq
structure TLink where
 From : Int
 To : Int
 FromEnd : Bool
 Lag : Int
 deriving DecidableEq
structure TStep where
 At : Int
 Capacity : Int
 deriving DecidableEq
structure TResource where
 Steps : List TStep
 Setup : List (List Int)
 deriving DecidableEq
structure TProject where
 Deadline : Int
 Activities : List TActivity
 Links : List TLink
 Resources : List TResource
 Stocks : List Int
 deriving DecidableEq
abbrev eTMode (x : TMode) : PV := .agg [int x.Duration, .slice (x.Usage.map int), .slice (x.Consumption.map int)]
abbrev eTActivity (x : TActivity) : PV := .agg [str x.Name, int x.Family, .slice (x.Modes.map eTMode)]
abbrev eTLink (x : TLink) : PV := .agg [int x.From, int x.To, bool x.FromEnd, int x.Lag]
abbrev eTStep (x : TStep) : PV := .agg [int x.At, int x.Capacity]
abbrev l_int (x : List Int) : PV := .slice (x.map int)
abbrev eTResource (x : TResource) : PV := .agg [.slice (x.Steps.map eTStep), .slice (x.Setup.map l_int)]
abbrev eTProject (x : TProject) : PV := .agg [int x.Deadline, .slice (x.Activities.map eTActivity), .slice (x.Links.map eTLink), .slice (x.Resources.map eTResource), .slice (x.Stocks.map int)]
abbrev t_int (x : List Int) : PV := .obj true 3 1 (x.map int)
def w_szIntS (b0 : List Int) (b1 : Int) : Option Int :=
 (bif (decide ((W (b1 - (b0.length : Int))) < 0)) then
 some (-1)
 else
 some (W (b1 - (b0.length : Int))))
def w_szMode (b0 : TMode) (b1 : Int) : Option Int :=
 (w_szIntS b0.Usage b1).bind fun v1 =>
 (bif (decide (v1 < 0)) then
 some (-1)
 else
 (w_szIntS b0.Consumption v1).bind fun v3 =>
 (bif (decide (v3 < 0)) then
 some (-1)
 else
 some v3))
def w_szModeS_L1  : List TMode → Int → Int → Option (Int ⊕ Int)
 | [], z9, a10 =>
  some (Sum.inl a10)
 | x11 :: xs12, z9, a10 =>
  (w_szMode x11 a10).bind fun v14 =>
  (bif (decide (v14 < 0)) then
  some (Sum.inr (-1))
  else
  w_szModeS_L1 xs12 (z9 + 1) v14)
def w_szModeS (b0 : List TMode) (b1 : Int) : Option Int :=
 (bif (decide ((W (b1 - (b0.length : Int))) < 0)) then
 some (-1)
 else
 sumBind
 (w_szModeS_L1 b0 0 (W (b1 - (b0.length : Int))))
 (fun q17 => some q17) fun p16 =>
 some p16)
def w_szActivity (b0 : TActivity) (b1 : Int) : Option Int :=
 (bif (decide ((W (b1 - (b0.Name.size : Int))) < 0)) then
 some (-1)
 else
 (w_szModeS b0.Modes (W (b1 - (b0.Name.size : Int)))).bind fun v2 =>
 (bif (decide (v2 < 0)) then
 some (-1)
 else
 some v2))
def w_szActivityS_L1  : List TActivity → Int → Int → Option (Int ⊕ Int)
 | [], z9, a10 =>
  some (Sum.inl a10)
 | x11 :: xs12, z9, a10 =>
  (w_szActivity x11 a10).bind fun v14 =>
  (bif (decide (v14 < 0)) then
  some (Sum.inr (-1))
  else
  w_szActivityS_L1 xs12 (z9 + 1) v14)
def w_szActivityS (b0 : List TActivity) (b1 : Int) : Option Int :=
 (bif (decide ((W (b1 - (b0.length : Int))) < 0)) then
 some (-1)
 else
 sumBind
 (w_szActivityS_L1 b0 0 (W (b1 - (b0.length : Int))))
 (fun q17 => some q17) fun p16 =>
 some p16)
def w_szLinkS (b0 : List TLink) (b1 : Int) : Option Int :=
 (bif (decide ((W (b1 - (b0.length : Int))) < 0)) then
 some (-1)
 else
 some (W (b1 - (b0.length : Int))))
def w_szStepS (b0 : List TStep) (b1 : Int) : Option Int :=
 (bif (decide ((W (b1 - (b0.length : Int))) < 0)) then
 some (-1)
 else
 some (W (b1 - (b0.length : Int))))
def w_szIntSS_L1  : List (List Int) → Int → Int → Option (Int ⊕ Int)
 | [], z9, a10 =>
  some (Sum.inl a10)
 | x11 :: xs12, z9, a10 =>
  (w_szIntS x11 a10).bind fun v14 =>
  (bif (decide (v14 < 0)) then
  some (Sum.inr (-1))
  else
  w_szIntSS_L1 xs12 (z9 + 1) v14)
def w_szIntSS (b0 : List (List Int)) (b1 : Int) : Option Int :=
 (bif (decide ((W (b1 - (b0.length : Int))) < 0)) then
 some (-1)
 else
 sumBind
 (w_szIntSS_L1 b0 0 (W (b1 - (b0.length : Int))))
 (fun q17 => some q17) fun p16 =>
 some p16)
def w_szResource (b0 : TResource) (b1 : Int) : Option Int :=
 (w_szStepS b0.Steps b1).bind fun v1 =>
 (bif (decide (v1 < 0)) then
 some (-1)
 else
 (w_szIntSS b0.Setup v1).bind fun v3 =>
 (bif (decide (v3 < 0)) then
 some (-1)
 else
 some v3))
def w_szResourceS_L1  : List TResource → Int → Int → Option (Int ⊕ Int)
 | [], z9, a10 =>
  some (Sum.inl a10)
 | x11 :: xs12, z9, a10 =>
  (w_szResource x11 a10).bind fun v14 =>
  (bif (decide (v14 < 0)) then
  some (Sum.inr (-1))
  else
  w_szResourceS_L1 xs12 (z9 + 1) v14)
def w_szResourceS (b0 : List TResource) (b1 : Int) : Option Int :=
 (bif (decide ((W (b1 - (b0.length : Int))) < 0)) then
 some (-1)
 else
 sumBind
 (w_szResourceS_L1 b0 0 (W (b1 - (b0.length : Int))))
 (fun q17 => some q17) fun p16 =>
 some p16)
def w_szProject (b0 : TProject) (b1 : Int) : Option Int :=
 (w_szActivityS b0.Activities b1).bind fun v1 =>
 (bif (decide (v1 < 0)) then
 some (-1)
 else
 (w_szLinkS b0.Links v1).bind fun v3 =>
 (bif (decide (v3 < 0)) then
 some (-1)
 else
 (w_szResourceS b0.Resources v3).bind fun v5 =>
 (bif (decide (v5 < 0)) then
 some (-1)
 else
 (w_szIntS b0.Stocks v5).bind fun v7 =>
 (bif (decide (v7 < 0)) then
 some (-1)
 else
 some v7))))
def w_toIntS_L1  : List Int → Int → (List Int) → Option (List Int)
 | [], z9, a10 =>
  some a10
 | x11 :: xs12, z9, a10 =>
  (idxL a10 z9).bind fun v14 =>
  w_toIntS_L1 xs12 (z9 + 1) (setL a10 z9 x11)
def w_toIntS (b0 : List Int) : Option (List Int) :=
 (makeL 0 (b0.length : Int)).bind fun v1 =>
 Option.bind
 (w_toIntS_L1 b0 0 v1) fun p15 =>
 some p15
def w_toMode (b0 : TMode) : Option TMode :=
 (w_toIntS b0.Usage).bind fun v1 =>
 (w_toIntS b0.Consumption).bind fun v2 =>
 some (TMode.mk b0.Duration v1 v2)
def w_toModeS_L1  : List TMode → Int → (List TMode) → Option (List TMode)
 | [], z9, a10 =>
  some a10
 | x11 :: xs12, z9, a10 =>
  (w_toMode x11).bind fun v14 =>
  (idxL a10 z9).bind fun v15 =>
  w_toModeS_L1 xs12 (z9 + 1) (setL a10 z9 v14)
def w_toModeS (b0 : List TMode) : Option (List TMode) :=
 (makeL (TMode.mk 0 [] []) (b0.length : Int)).bind fun v1 =>
 Option.bind
 (w_toModeS_L1 b0 0 v1) fun p16 =>
 some p16
def w_toActivity (b0 : TActivity) : Option TActivity :=
 (w_toModeS b0.Modes).bind fun v1 =>
 some (TActivity.mk b0.Name b0.Family v1)
def w_toActivityS_L1  : List TActivity → Int → (List TActivity) → Option (List TActivity)
 | [], z9, a10 =>
  some a10
 | x11 :: xs12, z9, a10 =>
  (w_toActivity x11).bind fun v14 =>
  (idxL a10 z9).bind fun v15 =>
  w_toActivityS_L1 xs12 (z9 + 1) (setL a10 z9 v14)
def w_toActivityS (b0 : List TActivity) : Option (List TActivity) :=
 (makeL (TActivity.mk ByteArray.empty 0 []) (b0.length : Int)).bind fun v1 =>
 Option.bind
 (w_toActivityS_L1 b0 0 v1) fun p16 =>
 some p16
def w_toLink (b0 : TLink) : Option TLink :=
 some b0
def w_toLinkS_L1  : List TLink → Int → (List TLink) → Option (List TLink)
 | [], z9, a10 =>
  some a10
 | x11 :: xs12, z9, a10 =>
  (w_toLink x11).bind fun v14 =>
  (idxL a10 z9).bind fun v15 =>
  w_toLinkS_L1 xs12 (z9 + 1) (setL a10 z9 v14)
def w_toLinkS (b0 : List TLink) : Option (List TLink) :=
 (makeL (TLink.mk 0 0 false 0) (b0.length : Int)).bind fun v1 =>
 Option.bind
 (w_toLinkS_L1 b0 0 v1) fun p16 =>
 some p16
def w_toStep (b0 : TStep) : Option TStep :=
 some b0
def w_toStepS_L1  : List TStep → Int → (List TStep) → Option (List TStep)
 | [], z9, a10 =>
  some a10
 | x11 :: xs12, z9, a10 =>
  (w_toStep x11).bind fun v14 =>
  (idxL a10 z9).bind fun v15 =>
  w_toStepS_L1 xs12 (z9 + 1) (setL a10 z9 v14)
def w_toStepS (b0 : List TStep) : Option (List TStep) :=
 (makeL (TStep.mk 0 0) (b0.length : Int)).bind fun v1 =>
 Option.bind
 (w_toStepS_L1 b0 0 v1) fun p16 =>
 some p16
def w_toIntSS_L1  : List (List Int) → Int → (List (List Int)) → Option (List (List Int))
 | [], z9, a10 =>
  some a10
 | x11 :: xs12, z9, a10 =>
  (w_toIntS x11).bind fun v14 =>
  (idxL a10 z9).bind fun v15 =>
  w_toIntSS_L1 xs12 (z9 + 1) (setL a10 z9 v14)
def w_toIntSS (b0 : List (List Int)) : Option (List (List Int)) :=
 (makeL ([] : List Int) (b0.length : Int)).bind fun v1 =>
 Option.bind
 (w_toIntSS_L1 b0 0 v1) fun p16 =>
 some p16
def w_toResource (b0 : TResource) : Option TResource :=
 (w_toStepS b0.Steps).bind fun v1 =>
 (w_toIntSS b0.Setup).bind fun v2 =>
 some (TResource.mk v1 v2)
def w_toResourceS_L1  : List TResource → Int → (List TResource) → Option (List TResource)
 | [], z9, a10 =>
  some a10
 | x11 :: xs12, z9, a10 =>
  (w_toResource x11).bind fun v14 =>
  (idxL a10 z9).bind fun v15 =>
  w_toResourceS_L1 xs12 (z9 + 1) (setL a10 z9 v14)
def w_toResourceS (b0 : List TResource) : Option (List TResource) :=
 (makeL (TResource.mk [] []) (b0.length : Int)).bind fun v1 =>
 Option.bind
 (w_toResourceS_L1 b0 0 v1) fun p16 =>
 some p16
def w_toProject (b0 : TProject) : Option TProject :=
 (w_toActivityS b0.Activities).bind fun v1 =>
 (w_toLinkS b0.Links).bind fun v2 =>
 (w_toResourceS b0.Resources).bind fun v3 =>
 (w_toIntS b0.Stocks).bind fun v4 =>
 some (TProject.mk b0.Deadline v1 v2 v3 v4)
def s_l01In (b0 : Int) (b1 : Int) (b2 : Int) : Option Bool :=
 Option.bind
 ((bif (decide (b1 ≤ b0)) then
 some (decide (b0 ≤ b2))
 else
 some false)) fun e1 =>
 some e1
def s_l04Nums_L1  : List Int → Int → Option (Unit ⊕ Bool)
 | [], z8 =>
  some (Sum.inl ())
 | x9 :: xs10, z8 =>
  (s_l01In x9 0 20).bind fun v12 =>
  (bif (!v12) then
  some (Sum.inr false)
  else
  s_l04Nums_L1 xs10 (z8 + 1))
def s_l04Nums (b0 : List Int) (b1 : Int) : Option Bool :=
 sumBind
 (s_l04Nums_L1 b0 0)
 (fun q15 => some q15) fun p14 =>
 some ((b0.length : Int) == b1)
def s_ModeOk (b0 : TMode) (b1 : Int) (b2 : Int) : Option Bool :=
 (s_l01In b0.Duration 1 12).bind fun v1 =>
 Option.bind
 ((bif v1 then
 (s_l04Nums b0.Usage b1).bind fun v4 =>
 (bif v4 then
 (s_l04Nums b0.Consumption b2).bind fun v6 =>
 some v6
 else
 some false)
 else
 some false)) fun e2 =>
 some e2
def s_IsName_L1 (b0 : ByteArray) : Nat → Int → Option (Unit ⊕ Bool)
 | 0, _ => none
 | fuel + 1, a7 =>
  (bif (decide (a7 < (b0.size : Int))) then
  (idxS b0 a7).bind fun v11 =>
  Option.bind
  ((bif (decide (97 ≤ v11)) then
  some (decide (v11 ≤ 122))
  else
  some false)) fun e12 =>
  Option.bind
  ((bif (!e12) then
  (bif (a7 == 0) then
  some true
  else
  (bif (decide (v11 < 48)) then
  some true
  else
  some (decide (57 < v11))))
  else
  some false)) fun e14 =>
  (bif e14 then
  some (Sum.inr false)
  else
  s_IsName_L1 b0 fuel (W (a7 + 1)))
  else
  some (Sum.inl ()))
def s_IsName (b0 : ByteArray) : Option Bool :=
 sumBind
 (s_IsName_L1 b0 F0 0)
 (fun q20 => some q20) fun p19 =>
 (s_l01In (b0.size : Int) 1 8).bind fun v21 =>
 some v21
def s_ActivityOk_L1 (b1 : Int) (b2 : Int) : List TMode → Int → Option (Unit ⊕ Bool)
 | [], z8 =>
  some (Sum.inl ())
 | x9 :: xs10, z8 =>
  (s_ModeOk x9 b1 b2).bind fun v12 =>
  (bif (!v12) then
  some (Sum.inr false)
  else
  s_ActivityOk_L1 b1 b2 xs10 (z8 + 1))
def s_ActivityOk (b0 : TActivity) (b1 : Int) (b2 : Int) : Option Bool :=
 sumBind
 (s_ActivityOk_L1 b1 b2 b0.Modes 0)
 (fun q15 => some q15) fun p14 =>
 (s_IsName b0.Name).bind fun v16 =>
 Option.bind
 ((bif v16 then
 (s_l01In b0.Family 0 3).bind fun v19 =>
 (bif v19 then
 (s_l01In (b0.Modes.length : Int) 1 3).bind fun v21 =>
 some v21
 else
 some false)
 else
 some false)) fun e17 =>
 some e17
def s_ActivityIndex_L1 (b1 : ByteArray) : List TActivity → Int → Option (Unit ⊕ Int)
 | [], z8 =>
  some (Sum.inl ())
 | x9 :: xs10, z8 =>
  (bif (x9.Name == b1) then
  some (Sum.inr z8)
  else
  s_ActivityIndex_L1 b1 xs10 (z8 + 1))
def s_ActivityIndex (b0 : TProject) (b1 : ByteArray) : Option Int :=
 sumBind
 (s_ActivityIndex_L1 b1 b0.Activities 0)
 (fun q14 => some q14) fun p13 =>
 some (-1)
def s_StepsOk_L1 (b0 : List TStep) : List TStep → Int → Option (Unit ⊕ Bool)
 | [], z8 =>
  some (Sum.inl ())
 | x9 :: xs10, z8 =>
  (s_l01In x9.At 0 60).bind fun v12 =>
  Option.bind
  ((bif (!v12) then
  some true
  else
  (s_l01In x9.Capacity 0 20).bind fun v15 =>
  (bif (!v15) then
  some true
  else
  (bif (decide (0 < z8)) then
  (idxL b0 (z8 - 1)).bind fun v18 =>
  some (decide (x9.At ≤ v18.At))
  else
  some false)))) fun e13 =>
  (bif e13 then
  some (Sum.inr false)
  else
  s_StepsOk_L1 b0 xs10 (z8 + 1))
def s_StepsOk (b0 : List TStep) : Option Bool :=
 sumBind
 (s_StepsOk_L1 b0 b0 0)
 (fun q21 => some q21) fun p20 =>
 (s_l01In (b0.length : Int) 1 8).bind fun v22 =>
 Option.bind
 ((bif v22 then
 (idxL b0 0).bind fun v25 =>
 some (v25.At == 0)
 else
 some false)) fun e23 =>
 some e23
def s_ResourceOk_L2  : List Int → Int → Option (Unit ⊕ Bool)
 | [], z20 =>
  some (Sum.inl ())
 | x21 :: xs22, z20 =>
  (s_l01In x21 0 12).bind fun v24 =>
  (bif (!v24) then
  some (Sum.inr false)
  else
  s_ResourceOk_L2 xs22 (z20 + 1))
def s_ResourceOk_L1  : List (List Int) → Int → Option (Unit ⊕ Bool)
 | [], z8 =>
  some (Sum.inl ())
 | x9 :: xs10, z8 =>
  (bif ((x9.length : Int) != 4) then
  some (Sum.inr false)
  else
  sumBind
  (s_ResourceOk_L2 x9 0)
  (fun q27 => some (Sum.inr q27)) fun p26 =>
  s_ResourceOk_L1 xs10 (z8 + 1))
def s_ResourceOk (b0 : TResource) : Option Bool :=
 sumBind
 (s_ResourceOk_L1 b0.Setup 0)
 (fun q29 => some q29) fun p28 =>
 (s_StepsOk b0.Steps).bind fun v30 =>
 Option.bind
 ((bif v30 then
 (bif ((b0.Setup.length : Int) == 0) then
 some true
 else
 some ((b0.Setup.length : Int) == 4))
 else
 some false)) fun e31 =>
 some e31
def s_ProjectOk_L1 (b0 : TProject) : List TActivity → Int → Option (Unit ⊕ Bool)
 | [], z16 =>
  some (Sum.inl ())
 | x17 :: xs18, z16 =>
  (s_ActivityOk x17 (b0.Resources.length : Int) (b0.Stocks.length : Int)).bind fun v20 =>
  Option.bind
  ((bif (!v20) then
  some true
  else
  (s_ActivityIndex b0 x17.Name).bind fun v23 =>
  some (v23 != z16))) fun e21 =>
  (bif e21 then
  some (Sum.inr false)
  else
  s_ProjectOk_L1 b0 xs18 (z16 + 1))
def s_ProjectOk_L2  : List TResource → Int → Option (Unit ⊕ Bool)
 | [], z34 =>
  some (Sum.inl ())
 | x35 :: xs36, z34 =>
  (s_ResourceOk x35).bind fun v38 =>
  (bif (!v38) then
  some (Sum.inr false)
  else
  s_ProjectOk_L2 xs36 (z34 + 1))
def s_ProjectOk_L3  : List Int → Int → Option (Unit ⊕ Bool)
 | [], z49 =>
  some (Sum.inl ())
 | x50 :: xs51, z49 =>
  (s_l01In x50 0 100).bind fun v53 =>
  (bif (!v53) then
  some (Sum.inr false)
  else
  s_ProjectOk_L3 xs51 (z49 + 1))
def s_ProjectOk_L4 (b0 : TProject) : List TLink → Int → Option (Unit ⊕ Bool)
 | [], z64 =>
  some (Sum.inl ())
 | x65 :: xs66, z64 =>
  (s_l01In x65.From 0 (W ((b0.Activities.length : Int) - 1))).bind fun v68 =>
  Option.bind
  ((bif (!v68) then
  some true
  else
  (s_l01In x65.To 0 (W ((b0.Activities.length : Int) - 1))).bind fun v71 =>
  (bif (!v71) then
  some true
  else
  (bif (x65.From == x65.To) then
  some true
  else
  (s_l01In x65.Lag (-60) 60).bind fun v74 =>
  some (!v74))))) fun e69 =>
  (bif e69 then
  some (Sum.inr false)
  else
  s_ProjectOk_L4 b0 xs66 (z64 + 1))
def s_ProjectOk (b0 : TProject) : Option Bool :=
 (s_l01In b0.Deadline 1 60).bind fun v1 =>
 Option.bind
 ((bif (!v1) then
 some true
 else
 (s_l01In (b0.Activities.length : Int) 1 6).bind fun v4 =>
 (bif (!v4) then
 some true
 else
 (bif (decide (3 < (b0.Resources.length : Int))) then
 some true
 else
 (bif (decide (2 < (b0.Stocks.length : Int))) then
 some true
 else
 some (decide (12 < (b0.Links.length : Int)))))))) fun e2 =>
 (bif e2 then
 some false
 else
 sumBind
 (s_ProjectOk_L1 b0 b0.Activities 0)
 (fun q26 => some q26) fun p25 =>
 sumBind
 (s_ProjectOk_L2 b0.Resources 0)
 (fun q41 => some q41) fun p40 =>
 sumBind
 (s_ProjectOk_L3 b0.Stocks 0)
 (fun q56 => some q56) fun p55 =>
 sumBind
 (s_ProjectOk_L4 b0 b0.Links 0)
 (fun q77 => some q77) fun p76 =>
 some true)
def s_IntRange_L1 (b0 : Int) : Nat → Int → (List Int) → Option (List Int)
 | 0, _, _ => none
 | fuel + 1, a9, a10 =>
  (bif (decide (a9 < b0)) then
  (appL a10 ([a9] : List Int)).bind fun v14 =>
  s_IntRange_L1 b0 fuel (W (a9 + 1)) v14
  else
  some a10)
def s_IntRange (b0 : Int) : Option (List Int) :=
 (s_l01In b0 0 200).bind fun v1 =>
 (bif (!v1) then
 some ([] : List Int)
 else
 Option.bind
 (s_IntRange_L1 b0 F0 0 ([] : List Int)) fun p15 =>
 some p15)
def s_ModeIndexes (b0 : TActivity) : Option (List Int) :=
 (s_IntRange (b0.Modes.length : Int)).bind fun v1 =>
 some v1
def s_SetHas_L1 (b1 : Int) : List Int → Int → Option (Unit ⊕ Bool)
 | [], z8 =>
  some (Sum.inl ())
 | x9 :: xs10, z8 =>
  (bif (x9 == b1) then
  some (Sum.inr true)
  else
  s_SetHas_L1 b1 xs10 (z8 + 1))
def s_SetHas (b0 : List Int) (b1 : Int) : Option Bool :=
 sumBind
 (s_SetHas_L1 b1 b0 0)
 (fun q14 => some q14) fun p13 =>
 some false
def s_MinDuration_L1 (b1 : List Int) : List TMode → Int → Int → Bool → Option Int
 | [], z8, a9, a10 =>
  some a9
 | x11 :: xs12, z8, a9, a10 =>
  (s_SetHas b1 z8).bind fun v14 =>
  Option.bind
  ((bif v14 then
  (bif (!a10) then
  some true
  else
  some (decide (x11.Duration < a9)))
  else
  some false)) fun e15 =>
  (bif e15 then
  s_MinDuration_L1 b1 xs12 (z8 + 1) x11.Duration true
  else
  s_MinDuration_L1 b1 xs12 (z8 + 1) a9 a10)
def s_MinDuration (b0 : TActivity) (b1 : List Int) : Option Int :=
 Option.bind
 (s_MinDuration_L1 b1 b0.Modes 0 0 false) fun p19 =>
 some p19
def s_l07Gap (b0 : TProject) (b1 : Int) (b2 : List Int) : Option Int :=
 (idxL b0.Links b1).bind fun v1 =>
 (bif v1.FromEnd then
 (idxL b0.Activities v1.From).bind fun v3 =>
 (s_MinDuration v3 b2).bind fun v4 =>
 some (W (v1.Lag + v4))
 else
 some v1.Lag)
def s_l07All (b0 : TProject) (b1 : Int) : Option Int :=
 (idxL b0.Links b1).bind fun v1 =>
 (idxL b0.Activities v1.From).bind fun v2 =>
 (s_ModeIndexes v2).bind fun v3 =>
 (s_l07Gap b0 b1 v3).bind fun v4 =>
 some v4
def s_l07Ring_L1 (b0 : TProject) : List Int → Int → Int → Option Int
 | [], z13, a14 =>
  some a14
 | x15 :: xs16, z13, a14 =>
  (s_l07All b0 x15).bind fun v18 =>
  s_l07Ring_L1 b0 xs16 (z13 + 1) (W (a14 + v18))
def s_l07Ring_L2 (b0 : TProject) (v4 : TLink) : List Int → Int → Option (Unit ⊕ (List Int))
 | [], z32 =>
  some (Sum.inl ())
 | x33 :: xs34, z32 =>
  (idxL b0.Links x33).bind fun v36 =>
  (bif (v36.To == v4.To) then
  some (Sum.inr ([] : List Int))
  else
  s_l07Ring_L2 b0 v4 xs34 (z32 + 1))
def s_l07Ring_L3 (b0 : TProject) (b1 : List Int) (b2 : Int) (rec : TProject → (List Int) → Int → Option (List Int)) (v1 : Int) (v4 : TLink) : List TLink → Int → Option (Unit ⊕ (List Int))
 | [], z47 =>
  some (Sum.inl ())
 | x48 :: xs49, z47 =>
  Option.bind
  ((bif (x48.From != v4.To) then
  some true
  else
  some (decide (z47 ≤ v1)))) fun e51 =>
  (bif e51 then
  s_l07Ring_L3 b0 b1 b2 rec v1 v4 xs49 (z47 + 1)
  else
  (appL ([] : List Int) b1).bind fun v54 =>
  (appL v54 ([z47] : List Int)).bind fun v55 =>
  (rec b0 v55 b2).bind fun v56 =>
  (bif (decide (0 < (v56.length : Int))) then
  some (Sum.inr v56)
  else
  s_l07Ring_L3 b0 b1 b2 rec v1 v4 xs49 (z47 + 1)))
def s_l07Ring_S (rec : TProject → (List Int) → Int → Option (List Int)) (b0 : TProject) (b1 : List Int) (b2 : Int) : Option (List Int) :=
 (idxL b1 0).bind fun v1 =>
 (idxL b0.Links v1).bind fun v2 =>
 (idxL b1 (W ((b1.length : Int) - 1))).bind fun v3 =>
 (idxL b0.Links v3).bind fun v4 =>
 (bif (v4.To == v2.From) then
 Option.bind
 (s_l07Ring_L1 b0 b1 0 0) fun p19 =>
 Option.bind
 ((bif (decide (0 < p19)) then
 some ((b1.length : Int) == b2)
 else
 some false)) fun e20 =>
 (bif e20 then
 some b1
 else
 some ([] : List Int))
 else
 (bif ((b1.length : Int) == b2) then
 some ([] : List Int)
 else
 (subL b1 0 (W ((b1.length : Int) - 1))).bind fun v24 =>
 sumBind
 (s_l07Ring_L2 b0 v4 v24 0)
 (fun q39 => some q39) fun p38 =>
 sumBind
 (s_l07Ring_L3 b0 b1 b2 rec v1 v4 b0.Links 0)
 (fun q59 => some q59) fun p58 =>
 some ([] : List Int)))
def s_l07Ring_R : Nat → TProject → (List Int) → Int → Option (List Int)
 | 0 => fun _ _ _ => none
 | fuel + 1 => s_l07Ring_S (s_l07Ring_R fuel)
def s_l07Ring (b0 : TProject) (b1 : List Int) (b2 : Int) : Option (List Int) := s_l07Ring_R F0 b0 b1 b2
def s_PositiveCycle_L2 (b0 : TProject) (a8 : Int) : List TLink → Int → Option (Unit ⊕ (List Int))
 | [], z19 =>
  some (Sum.inl ())
 | x20 :: xs21, z19 =>
  (s_l07Ring b0 ([z19] : List Int) a8).bind fun v23 =>
  (bif (decide (0 < (v23.length : Int))) then
  some (Sum.inr v23)
  else
  s_PositiveCycle_L2 b0 a8 xs21 (z19 + 1))
def s_PositiveCycle_L1 (b0 : TProject) : Nat → Int → Option (Unit ⊕ (List Int))
 | 0, _ => none
 | fuel + 1, a8 =>
  (bif (decide (a8 ≤ (b0.Activities.length : Int))) then
  sumBind
  (s_PositiveCycle_L2 b0 a8 b0.Links 0)
  (fun q26 => some (Sum.inr q26)) fun p25 =>
  s_PositiveCycle_L1 b0 fuel (W (a8 + 1))
  else
  some (Sum.inl ()))
def s_PositiveCycle (b0 : TProject) : Option (List Int) :=
 (s_ProjectOk b0).bind fun v1 =>
 (bif (!v1) then
 some ([] : List Int)
 else
 sumBind
 (s_PositiveCycle_L1 b0 F0 2)
 (fun q28 => some q28) fun p27 =>
 some ([] : List Int))
def s_l02Max (b0 : Int) (b1 : Int) : Option Int :=
 (bif (decide (b1 < b0)) then
 some b0
 else
 some b1)
def s_l08Dist_L2 (z8 : Int) : List TActivity → Int → (List Int) → Option (List Int)
 | [], z20, a21 =>
  some a21
 | x22 :: xs23, z20, a21 =>
  Option.bind
  ((bif (z8 == z20) then
  some 0
  else
  some (-1000))) fun p30 =>
  (appL a21 ([p30] : List Int)).bind fun v31 =>
  s_l08Dist_L2 z8 xs23 (z20 + 1) v31
def s_l08Dist_L1 (b0 : TProject) : List TActivity → Int → (List (List Int)) → Option (List (List Int))
 | [], z8, a9 =>
  some a9
 | x10 :: xs11, z8, a9 =>
  Option.bind
  (s_l08Dist_L2 z8 b0.Activities 0 ([] : List Int)) fun p32 =>
  (appL a9 ([p32] : List (List Int))).bind fun v33 =>
  s_l08Dist_L1 b0 xs11 (z8 + 1) v33
def s_l08Dist_L3 (b0 : TProject) : List TLink → Int → (List (List Int)) → Option (List (List Int))
 | [], z42, a43 =>
  some a43
 | x44 :: xs45, z42, a43 =>
  (idxL a43 x44.From).bind fun v47 =>
  (idxL v47 x44.To).bind fun v48 =>
  (s_l07All b0 z42).bind fun v49 =>
  (s_l02Max v48 v49).bind fun v50 =>
  s_l08Dist_L3 b0 xs45 (z42 + 1) (setL a43 x44.From (setL v47 x44.To v50))
def s_l08Dist_L6 (z59 : Int) (z71 : Int) : List TActivity → Int → (List (List Int)) → Option (List (List Int))
 | [], z83, a84 =>
  some a84
 | x85 :: xs86, z83, a84 =>
  (idxL a84 z71).bind fun v88 =>
  (idxL v88 z59).bind fun v89 =>
  Option.bind
  ((bif (v89 != (-1000)) then
  (idxL a84 z59).bind fun v92 =>
  (idxL v92 z83).bind fun v93 =>
  some (v93 != (-1000))
  else
  some false)) fun e90 =>
  (bif e90 then
  (idxL v88 z83).bind fun v95 =>
  (idxL a84 z59).bind fun v96 =>
  (idxL v96 z83).bind fun v97 =>
  (s_l02Max v95 (W (v89 + v97))).bind fun v98 =>
  s_l08Dist_L6 z59 z71 xs86 (z83 + 1) (setL a84 z71 (setL v88 z83 v98))
  else
  s_l08Dist_L6 z59 z71 xs86 (z83 + 1) a84)
def s_l08Dist_L5 (b0 : TProject) (z59 : Int) : List TActivity → Int → (List (List Int)) → Option (List (List Int))
 | [], z71, a72 =>
  some a72
 | x73 :: xs74, z71, a72 =>
  Option.bind
  (s_l08Dist_L6 z59 z71 b0.Activities 0 a72) fun p99 =>
  s_l08Dist_L5 b0 z59 xs74 (z71 + 1) p99
def s_l08Dist_L4 (b0 : TProject) : List TActivity → Int → (List (List Int)) → Option (List (List Int))
 | [], z59, a60 =>
  some a60
 | x61 :: xs62, z59, a60 =>
  Option.bind
  (s_l08Dist_L5 b0 z59 b0.Activities 0 a60) fun p100 =>
  s_l08Dist_L4 b0 xs62 (z59 + 1) p100
def s_l08Dist (b0 : TProject) : Option (List (List Int)) :=
 Option.bind
 (s_l08Dist_L1 b0 b0.Activities 0 ([] : List (List Int))) fun p34 =>
 Option.bind
 (s_l08Dist_L3 b0 b0.Links 0 p34) fun p51 =>
 Option.bind
 (s_l08Dist_L4 b0 b0.Activities 0 p51) fun p101 =>
 some p101
def s_Distances (b0 : TProject) : Option (List (List Int)) :=
 (s_ProjectOk b0).bind fun v1 =>
 Option.bind
 ((bif (!v1) then
 some true
 else
 (s_PositiveCycle b0).bind fun v4 =>
 some (decide (0 < (v4.length : Int))))) fun e2 =>
 (bif e2 then
 some ([] : List (List Int))
 else
 (s_l08Dist b0).bind fun v6 =>
 some v6)
def s_EarliestStarts_L2 (v1 : List (List Int)) (a8 : Int) : Nat → Int → Int → Option Int
 | 0, _, _ => none
 | fuel + 1, a19, a20 =>
  (bif (decide (a20 < (v1.length : Int))) then
  (idxL v1 a20).bind fun v24 =>
  (idxL v24 a8).bind fun v25 =>
  (s_l02Max a19 v25).bind fun v26 =>
  s_EarliestStarts_L2 v1 a8 fuel v26 (W (a20 + 1))
  else
  some a19)
def s_EarliestStarts_L1 (v1 : List (List Int)) : Nat → Int → (List Int) → Option (List Int)
 | 0, _, _ => none
 | fuel + 1, a8, a9 =>
  (bif (decide (a8 < (v1.length : Int))) then
  Option.bind
  (s_EarliestStarts_L2 v1 a8 F0 0 0) fun p27 =>
  (appL a9 ([p27] : List Int)).bind fun v28 =>
  s_EarliestStarts_L1 v1 fuel (W (a8 + 1)) v28
  else
  some a9)
def s_EarliestStarts (b0 : TProject) : Option (List Int) :=
 (s_Distances b0).bind fun v1 =>
 Option.bind
 (s_EarliestStarts_L1 v1 F0 0 ([] : List Int)) fun p29 =>
 some p29
def s_l08Short (b0 : TProject) (b1 : Int) : Option Int :=
 (idxL b0.Activities b1).bind fun v1 =>
 (s_ModeIndexes v1).bind fun v2 =>
 (s_MinDuration v1 v2).bind fun v3 =>
 some v3
def s_PathBound_L1 (b0 : TProject) : List Int → Int → Int → Option Int
 | [], z9, a10 =>
  some a10
 | x11 :: xs12, z9, a10 =>
  (s_l08Short b0 z9).bind fun v14 =>
  (s_l02Max a10 (W (x11 + v14))).bind fun v15 =>
  s_PathBound_L1 b0 xs12 (z9 + 1) v15
def s_PathBound (b0 : TProject) : Option Int :=
 (s_EarliestStarts b0).bind fun v1 =>
 Option.bind
 (s_PathBound_L1 b0 v1 0 0) fun p16 =>
 some p16
def s_l04Least_L1 (b1 : List Int) (b2 : Int) (b3 : Bool) (b4 : Bool) : List TMode → Int → Int → Bool → Option (Int ⊕ Int)
 | [], z8, a9, a10 =>
  some (Sum.inl a9)
 | x11 :: xs12, z8, a9, a10 =>
  (s_SetHas b1 z8).bind fun v14 =>
  (bif (!v14) then
  s_l04Least_L1 b1 b2 b3 b4 xs12 (z8 + 1) a9 a10
  else
  Option.bind
  ((bif b3 then
  some x11.Consumption
  else
  some x11.Usage)) fun p21 =>
  (s_l01In b2 0 (W ((p21.length : Int) - 1))).bind fun v22 =>
  (bif (!v22) then
  some (Sum.inr 0)
  else
  (idxL p21 b2).bind fun v24 =>
  Option.bind
  ((bif b4 then
  some (W (v24 * x11.Duration))
  else
  some v24)) fun p30 =>
  Option.bind
  ((bif (!a10) then
  some true
  else
  some (decide (p30 < a9)))) fun e31 =>
  (bif e31 then
  s_l04Least_L1 b1 b2 b3 b4 xs12 (z8 + 1) p30 true
  else
  s_l04Least_L1 b1 b2 b3 b4 xs12 (z8 + 1) a9 true)))
def s_l04Least (b0 : TActivity) (b1 : List Int) (b2 : Int) (b3 : Bool) (b4 : Bool) : Option Int :=
 sumBind
 (s_l04Least_L1 b1 b2 b3 b4 b0.Modes 0 0 false)
 (fun q35 => some q35) fun p34 =>
 some p34
def s_MinWork (b0 : TActivity) (b1 : List Int) (b2 : Int) : Option Int :=
 (s_l04Least b0 b1 b2 false true).bind fun v1 =>
 some v1
def s_l03Span (b0 : List TStep) (b1 : Int) (b2 : Int) : Option Bool :=
 (s_StepsOk b0).bind fun v1 =>
 Option.bind
 ((bif v1 then
 (s_l01In b1 0 60).bind fun v4 =>
 (bif v4 then
 (s_l01In b2 0 60).bind fun v6 =>
 some v6
 else
 some false)
 else
 some false)) fun e2 =>
 some e2
def s_l03At_L1 (b1 : Int) : List TStep → Int → Int → Option Int
 | [], z8, a9 =>
  some a9
 | x10 :: xs11, z8, a9 =>
  (bif (decide (x10.At ≤ b1)) then
  s_l03At_L1 b1 xs11 (z8 + 1) x10.Capacity
  else
  s_l03At_L1 b1 xs11 (z8 + 1) a9)
def s_l03At (b0 : List TStep) (b1 : Int) : Option Int :=
 Option.bind
 (s_l03At_L1 b1 b0 0 0) fun p14 =>
 some p14
def s_TotalCapacity_L1 (b0 : List TStep) (b2 : Int) : Nat → Int → Int → Option Int
 | 0, _, _ => none
 | fuel + 1, a8, a9 =>
  (bif (decide (a9 < b2)) then
  (s_l03At b0 a9).bind fun v13 =>
  s_TotalCapacity_L1 b0 b2 fuel (W (a8 + v13)) (W (a9 + 1))
  else
  some a8)
def s_TotalCapacity (b0 : List TStep) (b1 : Int) (b2 : Int) : Option Int :=
 (s_l03Span b0 b1 b2).bind fun v1 =>
 (bif (!v1) then
 some 0
 else
 Option.bind
 (s_TotalCapacity_L1 b0 b2 F0 0 b1) fun p14 =>
 some p14)
def s_CapacityIn (b0 : TProject) (b1 : Int) (b2 : Int) (b3 : Int) : Option Int :=
 (s_ProjectOk b0).bind fun v1 =>
 Option.bind
 ((bif (!v1) then
 some true
 else
 (s_l01In b1 0 (W ((b0.Resources.length : Int) - 1))).bind fun v4 =>
 some (!v4))) fun e2 =>
 (bif e2 then
 some 0
 else
 (idxL b0.Resources b1).bind fun v6 =>
 (s_TotalCapacity v6.Steps b2 b3).bind fun v7 =>
 some v7)
def s_WorkBound_L3 (z21 : Int) : List TActivity → Int → Int → Option Int
 | [], z33, a34 =>
  some a34
 | x35 :: xs36, z33, a34 =>
  (s_ModeIndexes x35).bind fun v38 =>
  (s_MinWork x35 v38 z21).bind fun v39 =>
  s_WorkBound_L3 z21 xs36 (z33 + 1) (W (a34 + v39))
def s_WorkBound_L2 (b0 : TProject) (a10 : Int) : List TResource → Int → Bool → Option Bool
 | [], z21, a22 =>
  some a22
 | x23 :: xs24, z21, a22 =>
  Option.bind
  (s_WorkBound_L3 z21 b0.Activities 0 0) fun p40 =>
  Option.bind
  ((bif a22 then
  (s_CapacityIn b0 z21 0 a10).bind fun v43 =>
  some (decide (p40 ≤ v43))
  else
  some false)) fun e41 =>
  s_WorkBound_L2 b0 a10 xs24 (z21 + 1) e41
def s_WorkBound_L1 (b0 : TProject) : Nat → Int → Option (Unit ⊕ Int)
 | 0, _ => none
 | fuel + 1, a10 =>
  (bif (decide (a10 ≤ 60)) then
  Option.bind
  (s_WorkBound_L2 b0 a10 b0.Resources 0 true) fun p44 =>
  (bif p44 then
  some (Sum.inr a10)
  else
  s_WorkBound_L1 b0 fuel (W (a10 + 1)))
  else
  some (Sum.inl ()))
def s_WorkBound (b0 : TProject) : Option Int :=
 (s_ProjectOk b0).bind fun v1 =>
 (bif (!v1) then
 some 0
 else
 (s_PathBound b0).bind fun v3 =>
 (s_l02Max 1 v3).bind fun v4 =>
 sumBind
 (s_WorkBound_L1 b0 F0 v4)
 (fun q47 => some q47) fun p46 =>
 some 61)
def i_within (b0 : Int) (b1 : Int) (b2 : Int) : Option Bool :=
 Option.bind
 ((bif (decide (b1 ≤ b0)) then
 some (decide (b0 ≤ b2))
 else
 some false)) fun e1 =>
 some e1
def i_isAmount (b0 : Int) : Option Bool :=
 (i_within b0 0 20).bind fun v1 =>
 some v1
def i_areAmounts_L1  : List Int → Int → Option (Unit ⊕ Bool)
 | [], z8 =>
  some (Sum.inl ())
 | x9 :: xs10, z8 =>
  (i_isAmount x9).bind fun v12 =>
  (bif (!v12) then
  some (Sum.inr false)
  else
  i_areAmounts_L1 xs10 (z8 + 1))
def i_areAmounts (b0 : List Int) (b1 : Int) : Option Bool :=
 sumBind
 (i_areAmounts_L1 b0 0)
 (fun q15 => some q15) fun p14 =>
 some ((b0.length : Int) == b1)
def i_ModeOk (b0 : TMode) (b1 : Int) (b2 : Int) : Option Bool :=
 (i_within b0.Duration 1 12).bind fun v1 =>
 Option.bind
 ((bif v1 then
 (i_areAmounts b0.Usage b1).bind fun v4 =>
 (bif v4 then
 (i_areAmounts b0.Consumption b2).bind fun v6 =>
 some v6
 else
 some false)
 else
 some false)) fun e2 =>
 some e2
def i_IsName_L1 (b0 : ByteArray) : Nat → Int → Option (Unit ⊕ Bool)
 | 0, _ => none
 | fuel + 1, a7 =>
  (bif (decide (a7 < (b0.size : Int))) then
  (idxS b0 a7).bind fun v11 =>
  Option.bind
  ((bif (decide (97 ≤ v11)) then
  some (decide (v11 ≤ 122))
  else
  some false)) fun e12 =>
  Option.bind
  ((bif (!e12) then
  (bif (a7 == 0) then
  some true
  else
  (bif (decide (v11 < 48)) then
  some true
  else
  some (decide (57 < v11))))
  else
  some false)) fun e14 =>
  (bif e14 then
  some (Sum.inr false)
  else
  i_IsName_L1 b0 fuel (W (a7 + 1)))
  else
  some (Sum.inl ()))
def i_IsName (b0 : ByteArray) : Option Bool :=
 sumBind
 (i_IsName_L1 b0 F0 0)
 (fun q20 => some q20) fun p19 =>
 (i_within (b0.size : Int) 1 8).bind fun v21 =>
 some v21
def i_ActivityOk_L1 (b1 : Int) (b2 : Int) : List TMode → Int → Option (Unit ⊕ Bool)
 | [], z8 =>
  some (Sum.inl ())
 | x9 :: xs10, z8 =>
  (i_ModeOk x9 b1 b2).bind fun v12 =>
  (bif (!v12) then
  some (Sum.inr false)
  else
  i_ActivityOk_L1 b1 b2 xs10 (z8 + 1))
def i_ActivityOk (b0 : TActivity) (b1 : Int) (b2 : Int) : Option Bool :=
 sumBind
 (i_ActivityOk_L1 b1 b2 b0.Modes 0)
 (fun q15 => some q15) fun p14 =>
 (i_IsName b0.Name).bind fun v16 =>
 Option.bind
 ((bif v16 then
 (i_within b0.Family 0 3).bind fun v19 =>
 (bif v19 then
 (i_within (b0.Modes.length : Int) 1 3).bind fun v21 =>
 some v21
 else
 some false)
 else
 some false)) fun e17 =>
 some e17
def i_ActivityIndex_c1 (b0 : TActivity) (c1 : ByteArray) : Option Bool :=
 some (b0.Name == c1)
def slices_IndexFunc_Activity_L1 (g1 : TActivity → Option Bool) : List TActivity → Int → Option (Unit ⊕ Int)
 | [], z8 =>
  some (Sum.inl ())
 | x9 :: xs10, z8 =>
  (g1 x9).bind fun v12 =>
  (bif v12 then
  some (Sum.inr z8)
  else
  slices_IndexFunc_Activity_L1 g1 xs10 (z8 + 1))
def slices_IndexFunc_Activity (b0 : List TActivity) (g1 : TActivity → Option Bool) : Option Int :=
 sumBind
 (slices_IndexFunc_Activity_L1 g1 b0 0)
 (fun q15 => some q15) fun p14 =>
 some (-1)
def i_ActivityIndex (b0 : TProject) (b1 : ByteArray) : Option Int :=
 (slices_IndexFunc_Activity b0.Activities (fun x0 => i_ActivityIndex_c1 x0 b1)).bind fun v1 =>
 some v1
def i_isTime (b0 : Int) : Option Bool :=
 (i_within b0 0 60).bind fun v1 =>
 some v1
def i_StepsOk_L1 (b0 : List TStep) : List TStep → Int → Option (Unit ⊕ Bool)
 | [], z8 =>
  some (Sum.inl ())
 | x9 :: xs10, z8 =>
  (i_isTime x9.At).bind fun v12 =>
  Option.bind
  ((bif (!v12) then
  some true
  else
  (i_isAmount x9.Capacity).bind fun v15 =>
  (bif (!v15) then
  some true
  else
  (bif (z8 == 0) then
  (bif (x9.At != 0) then
  some true
  else
  (bif (decide (0 < z8)) then
  (idxL b0 (z8 - 1)).bind fun v20 =>
  some (decide (x9.At ≤ v20.At))
  else
  some false))
  else
  (bif (decide (0 < z8)) then
  (idxL b0 (z8 - 1)).bind fun v22 =>
  some (decide (x9.At ≤ v22.At))
  else
  some false))))) fun e13 =>
  (bif e13 then
  some (Sum.inr false)
  else
  i_StepsOk_L1 b0 xs10 (z8 + 1))
def i_StepsOk (b0 : List TStep) : Option Bool :=
 sumBind
 (i_StepsOk_L1 b0 b0 0)
 (fun q25 => some q25) fun p24 =>
 (i_within (b0.length : Int) 1 8).bind fun v26 =>
 some v26
def i_ResourceOk_L2  : List Int → Int → Option (Unit ⊕ Bool)
 | [], z20 =>
  some (Sum.inl ())
 | x21 :: xs22, z20 =>
  (i_within x21 0 12).bind fun v24 =>
  (bif (!v24) then
  some (Sum.inr false)
  else
  i_ResourceOk_L2 xs22 (z20 + 1))
def i_ResourceOk_L1  : List (List Int) → Int → Option (Unit ⊕ Bool)
 | [], z8 =>
  some (Sum.inl ())
 | x9 :: xs10, z8 =>
  (bif ((x9.length : Int) != 4) then
  some (Sum.inr false)
  else
  sumBind
  (i_ResourceOk_L2 x9 0)
  (fun q27 => some (Sum.inr q27)) fun p26 =>
  i_ResourceOk_L1 xs10 (z8 + 1))
def i_ResourceOk (b0 : TResource) : Option Bool :=
 sumBind
 (i_ResourceOk_L1 b0.Setup 0)
 (fun q29 => some q29) fun p28 =>
 (i_StepsOk b0.Steps).bind fun v30 =>
 Option.bind
 ((bif v30 then
 (bif ((b0.Setup.length : Int) == 0) then
 some true
 else
 some ((b0.Setup.length : Int) == 4))
 else
 some false)) fun e31 =>
 some e31
def i_Project_hasActivity (b0 : TProject) (b1 : Int) : Option Bool :=
 (i_within b1 0 (W ((b0.Activities.length : Int) - 1))).bind fun v1 =>
 some v1
def i_Project_linkOk (b0 : TProject) (b1 : TLink) : Option Bool :=
 (i_Project_hasActivity b0 b1.From).bind fun v1 =>
 Option.bind
 ((bif v1 then
 (i_Project_hasActivity b0 b1.To).bind fun v4 =>
 (bif v4 then
 (bif (b1.From != b1.To) then
 (i_within b1.Lag (-60) 60).bind fun v7 =>
 some v7
 else
 some false)
 else
 some false)
 else
 some false)) fun e2 =>
 some e2
def i_ProjectOk_c1 (b0 : TLink) (c1 : TProject) : Option Bool :=
 (i_Project_linkOk c1 b0).bind fun v1 =>
 some (!v1)
def slices_IndexFunc_Link_L1 (g1 : TLink → Option Bool) : List TLink → Int → Option (Unit ⊕ Int)
 | [], z8 =>
  some (Sum.inl ())
 | x9 :: xs10, z8 =>
  (g1 x9).bind fun v12 =>
  (bif v12 then
  some (Sum.inr z8)
  else
  slices_IndexFunc_Link_L1 g1 xs10 (z8 + 1))
def slices_IndexFunc_Link (b0 : List TLink) (g1 : TLink → Option Bool) : Option Int :=
 sumBind
 (slices_IndexFunc_Link_L1 g1 b0 0)
 (fun q15 => some q15) fun p14 =>
 some (-1)
def slices_ContainsFunc_Link (b0 : List TLink) (g1 : TLink → Option Bool) : Option Bool :=
 (slices_IndexFunc_Link b0 g1).bind fun v1 =>
 some (decide (0 ≤ v1))
def i_ProjectOk_L1 (b0 : TProject) : List TActivity → Int → Option (Unit ⊕ Bool)
 | [], z16 =>
  some (Sum.inl ())
 | x17 :: xs18, z16 =>
  (i_ActivityOk x17 (b0.Resources.length : Int) (b0.Stocks.length : Int)).bind fun v20 =>
  Option.bind
  ((bif (!v20) then
  some true
  else
  (i_ActivityIndex b0 x17.Name).bind fun v23 =>
  some (v23 != z16))) fun e21 =>
  (bif e21 then
  some (Sum.inr false)
  else
  i_ProjectOk_L1 b0 xs18 (z16 + 1))
def i_ProjectOk_L2  : List TResource → Int → Option (Unit ⊕ Bool)
 | [], z34 =>
  some (Sum.inl ())
 | x35 :: xs36, z34 =>
  (i_ResourceOk x35).bind fun v38 =>
  (bif (!v38) then
  some (Sum.inr false)
  else
  i_ProjectOk_L2 xs36 (z34 + 1))
def i_ProjectOk_L3  : List Int → Int → Option (Unit ⊕ Bool)
 | [], z49 =>
  some (Sum.inl ())
 | x50 :: xs51, z49 =>
  (i_within x50 0 100).bind fun v53 =>
  (bif (!v53) then
  some (Sum.inr false)
  else
  i_ProjectOk_L3 xs51 (z49 + 1))
def i_ProjectOk (b0 : TProject) : Option Bool :=
 (i_within b0.Deadline 1 60).bind fun v1 =>
 Option.bind
 ((bif (!v1) then
 some true
 else
 (i_within (b0.Activities.length : Int) 1 6).bind fun v4 =>
 (bif (!v4) then
 some true
 else
 (bif (decide (3 < (b0.Resources.length : Int))) then
 some true
 else
 (bif (decide (2 < (b0.Stocks.length : Int))) then
 some true
 else
 some (decide (12 < (b0.Links.length : Int)))))))) fun e2 =>
 (bif e2 then
 some false
 else
 sumBind
 (i_ProjectOk_L1 b0 b0.Activities 0)
 (fun q26 => some q26) fun p25 =>
 sumBind
 (i_ProjectOk_L2 b0.Resources 0)
 (fun q41 => some q41) fun p40 =>
 sumBind
 (i_ProjectOk_L3 b0.Stocks 0)
 (fun q56 => some q56) fun p55 =>
 (slices_ContainsFunc_Link b0.Links (fun x0 => i_ProjectOk_c1 x0 b0)).bind fun v57 =>
 some (!v57))
def i_IntRange_L1 (b0 : Int) : Nat → Int → (List Int) → Option (List Int)
 | 0, _, _ => none
 | fuel + 1, a9, a10 =>
  (bif (decide (a9 < b0)) then
  (appL a10 ([a9] : List Int)).bind fun v14 =>
  i_IntRange_L1 b0 fuel (W (a9 + 1)) v14
  else
  some a10)
def i_IntRange (b0 : Int) : Option (List Int) :=
 (i_within b0 0 200).bind fun v1 =>
 (bif (!v1) then
 some ([] : List Int)
 else
 Option.bind
 (i_IntRange_L1 b0 F0 0 ([] : List Int)) fun p15 =>
 some p15)
def i_ModeIndexes (b0 : TActivity) : Option (List Int) :=
 (i_IntRange (b0.Modes.length : Int)).bind fun v1 =>
 some v1
def slices_Index_int_L1 (b1 : Int) : List Int → Int → Option (Unit ⊕ Int)
 | [], z8 =>
  some (Sum.inl ())
 | x9 :: xs10, z8 =>
  (bif (b1 == x9) then
  some (Sum.inr z8)
  else
  slices_Index_int_L1 b1 xs10 (z8 + 1))
def slices_Index_int (b0 : List Int) (b1 : Int) : Option Int :=
 sumBind
 (slices_Index_int_L1 b1 b0 0)
 (fun q14 => some q14) fun p13 =>
 some (-1)
def slices_Contains_int (b0 : List Int) (b1 : Int) : Option Bool :=
 (slices_Index_int b0 b1).bind fun v1 =>
 some (decide (0 ≤ v1))
def i_SetHas (b0 : List Int) (b1 : Int) : Option Bool :=
 (slices_Contains_int b0 b1).bind fun v1 =>
 some v1
def i_chosen_L1 (b1 : List Int) : List TMode → Int → (List TMode) → Option (List TMode)
 | [], z8, a9 =>
  some a9
 | x10 :: xs11, z8, a9 =>
  (i_SetHas b1 z8).bind fun v13 =>
  (bif v13 then
  (appL a9 ([x10] : List TMode)).bind fun v15 =>
  i_chosen_L1 b1 xs11 (z8 + 1) v15
  else
  i_chosen_L1 b1 xs11 (z8 + 1) a9)
def i_chosen (b0 : TActivity) (b1 : List Int) : Option (List TMode) :=
 Option.bind
 (i_chosen_L1 b1 b0.Modes 0 ([] : List TMode)) fun p16 =>
 some p16
def i_MinDuration_L1  : List TMode → Int → Int → Option Int
 | [], z9, a10 =>
  some a10
 | x11 :: xs12, z9, a10 =>
  Option.bind
  ((bif (z9 == 0) then
  some true
  else
  some (decide (x11.Duration < a10)))) fun e14 =>
  (bif e14 then
  i_MinDuration_L1 xs12 (z9 + 1) x11.Duration
  else
  i_MinDuration_L1 xs12 (z9 + 1) a10)
def i_MinDuration (b0 : TActivity) (b1 : List Int) : Option Int :=
 (i_chosen b0 b1).bind fun v1 =>
 Option.bind
 (i_MinDuration_L1 v1 0 0) fun p17 =>
 some p17
def i_Project_gap (b0 : TProject) (b1 : TLink) (b2 : List Int) : Option Int :=
 (bif b1.FromEnd then
 (idxL b0.Activities b1.From).bind fun v2 =>
 (i_MinDuration v2 b2).bind fun v3 =>
 some (W (b1.Lag + v3))
 else
 some b1.Lag)
def i_Project_fullGap (b0 : TProject) (b1 : TLink) : Option Int :=
 (idxL b0.Activities b1.From).bind fun v1 =>
 (i_ModeIndexes v1).bind fun v2 =>
 (i_Project_gap b0 b1 v2).bind fun v3 =>
 some v3
def slices_Clone_int (b0 : List Int) : Option (List Int) :=
 (appL ([] : List Int) b0).bind fun v1 =>
 some v1
def i_Project_cycle_L1 (b0 : TProject) (b1 : List Int) (b2 : List Int) (b3 : Int) (b4 : Int) (rec : TProject → (List Int) → (List Int) → Int → Int → Option (List Int)) (v1 : Int) (v4 : TLink) : List TLink → Int → Option (Unit ⊕ (List Int))
 | [], z20 =>
  some (Sum.inl ())
 | x21 :: xs22, z20 =>
  Option.bind
  ((bif (decide (v1 < z20)) then
  some (x21.From == v4.To)
  else
  some false)) fun e24 =>
  (bif e24 then
  (slices_Clone_int b1).bind fun v27 =>
  (appL v27 ([z20] : List Int)).bind fun v28 =>
  (slices_Clone_int b2).bind fun v29 =>
  (appL v29 ([v4.To] : List Int)).bind fun v30 =>
  (i_Project_fullGap b0 x21).bind fun v31 =>
  (rec b0 v28 v30 (W (b3 + v31)) b4).bind fun v32 =>
  (bif (!(v32.isEmpty)) then
  some (Sum.inr v32)
  else
  i_Project_cycle_L1 b0 b1 b2 b3 b4 rec v1 v4 xs22 (z20 + 1))
  else
  i_Project_cycle_L1 b0 b1 b2 b3 b4 rec v1 v4 xs22 (z20 + 1))
def i_Project_cycle_S (rec : TProject → (List Int) → (List Int) → Int → Int → Option (List Int)) (b0 : TProject) (b1 : List Int) (b2 : List Int) (b3 : Int) (b4 : Int) : Option (List Int) :=
 (idxL b1 0).bind fun v1 =>
 (idxL b0.Links v1).bind fun v2 =>
 (idxL b1 (W ((b1.length : Int) - 1))).bind fun v3 =>
 (idxL b0.Links v3).bind fun v4 =>
 (bif ((b1.length : Int) == b4) then
 Option.bind
 ((bif (v4.To == v2.From) then
 some (decide (0 < b3))
 else
 some false)) fun e6 =>
 (bif e6 then
 (slices_Clone_int b1).bind fun v9 =>
 (neL v9).bind fun v10 =>
 some v10
 else
 some ([] : List Int))
 else
 (slices_Contains_int b2 v4.To).bind fun v11 =>
 (bif v11 then
 some ([] : List Int)
 else
 sumBind
 (i_Project_cycle_L1 b0 b1 b2 b3 b4 rec v1 v4 b0.Links 0)
 (fun q35 => some q35) fun p34 =>
 some ([] : List Int)))
def i_Project_cycle_R : Nat → TProject → (List Int) → (List Int) → Int → Int → Option (List Int)
 | 0 => fun _ _ _ _ _ => none
 | fuel + 1 => i_Project_cycle_S (i_Project_cycle_R fuel)
def i_Project_cycle (b0 : TProject) (b1 : List Int) (b2 : List Int) (b3 : Int) (b4 : Int) : Option (List Int) := i_Project_cycle_R F0 b0 b1 b2 b3 b4
def i_PositiveCycle_L2 (b0 : TProject) (a8 : Int) : List TLink → Int → Option (Unit ⊕ (List Int))
 | [], z19 =>
  some (Sum.inl ())
 | x20 :: xs21, z19 =>
  (i_Project_fullGap b0 x20).bind fun v23 =>
  (i_Project_cycle b0 ([z19] : List Int) ([x20.From] : List Int) v23 a8).bind fun v24 =>
  (bif (!(v24.isEmpty)) then
  some (Sum.inr v24)
  else
  i_PositiveCycle_L2 b0 a8 xs21 (z19 + 1))
def i_PositiveCycle_L1 (b0 : TProject) : Nat → Int → Option (Unit ⊕ (List Int))
 | 0, _ => none
 | fuel + 1, a8 =>
  (bif (decide (a8 ≤ (b0.Activities.length : Int))) then
  sumBind
  (i_PositiveCycle_L2 b0 a8 b0.Links 0)
  (fun q27 => some (Sum.inr q27)) fun p26 =>
  i_PositiveCycle_L1 b0 fuel (W (a8 + 1))
  else
  some (Sum.inl ()))
def i_PositiveCycle (b0 : TProject) : Option (List Int) :=
 (i_ProjectOk b0).bind fun v1 =>
 (bif (!v1) then
 some ([] : List Int)
 else
 sumBind
 (i_PositiveCycle_L1 b0 F0 2)
 (fun q29 => some q29) fun p28 =>
 some ([] : List Int))
def i_Distances_c1 (b0 : Int) (b1 : Int) (b2 : Int) (c3 : List (List Bool)) (c4 : List (List Int)) : Option ((List (List Bool)) × (List (List Int))) :=
 (idxL c3 b0).bind fun v1 =>
 (neL v1).bind fun v2 =>
 (idxL v1 b1).bind fun v3 =>
 Option.bind
 ((bif (!v3) then
 some true
 else
 (idxL c4 b0).bind fun v6 =>
 (neL v6).bind fun v7 =>
 (idxL v6 b1).bind fun v8 =>
 some (decide (v8 < b2)))) fun e4 =>
 (bif e4 then
 (idxL c4 b0).bind fun v10 =>
 (neL v10).bind fun v11 =>
 (idxL v10 b1).bind fun v12 =>
 some ((setL c3 b0 (setL v1 b1 true)), (setL c4 b0 (setL v10 b1 b2)))
 else
 some (c3, c4))
def i_Distances_L1 (b0 : TProject) : List TActivity → Int → (List (List Int)) → (List (List Bool)) → Option ((List (List Int)) × (List (List Bool)))
 | [], z15, a16, a17 =>
  some (a16, a17)
 | x18 :: xs19, z15, a16, a17 =>
  (makeL 0 (b0.Activities.length : Int)).bind fun v21 =>
  (makeL false (b0.Activities.length : Int)).bind fun v22 =>
  (idxL a16 z15).bind fun v23 =>
  (nilL v23).bind fun v24 =>
  (neL v21).bind fun v25 =>
  (idxL a17 z15).bind fun v26 =>
  (nilL v26).bind fun v27 =>
  (neL v22).bind fun v28 =>
  (idxL (setL a17 z15 v22) z15).bind fun v29 =>
  (neL v29).bind fun v30 =>
  (idxL v29 z15).bind fun v31 =>
  i_Distances_L1 b0 xs19 (z15 + 1) (setL a16 z15 v21) (setL (setL a17 z15 v22) z15 (setL v29 z15 true))
def i_Distances_L2 (b0 : TProject) : List TLink → Int → (List (List Int)) → (List (List Bool)) → Option ((List (List Int)) × (List (List Bool)))
 | [], z40, a41, a42 =>
  some (a41, a42)
 | x43 :: xs44, z40, a41, a42 =>
  (i_Project_fullGap b0 x43).bind fun v46 =>
  (i_Distances_c1 x43.From x43.To v46 a42 a41).bind fun v47 =>
  (sameN a42 v47.1).bind fun v48 =>
  (sameN a41 v47.2).bind fun v49 =>
  i_Distances_L2 b0 xs44 (z40 + 1) v47.2 v47.1
def i_Distances_L5 (b0 : TProject) (a57 : Int) (a69 : Int) : Nat → Int → (List (List Int)) → (List (List Bool)) → Option ((List (List Int)) × (List (List Bool)))
 | 0, _, _, _ => none
 | fuel + 1, a81, a82, a83 =>
  (bif (decide (a81 < (b0.Activities.length : Int))) then
  (idxL a83 a69).bind fun v87 =>
  (neL v87).bind fun v88 =>
  (idxL v87 a57).bind fun v89 =>
  Option.bind
  ((bif v89 then
  (idxL a83 a57).bind fun v92 =>
  (neL v92).bind fun v93 =>
  (idxL v92 a81).bind fun v94 =>
  some v94
  else
  some false)) fun e90 =>
  (bif e90 then
  (idxL a82 a69).bind fun v96 =>
  (neL v96).bind fun v97 =>
  (idxL v96 a57).bind fun v98 =>
  (idxL a82 a57).bind fun v99 =>
  (neL v99).bind fun v100 =>
  (idxL v99 a81).bind fun v101 =>
  (i_Distances_c1 a69 a81 (W (v98 + v101)) a83 a82).bind fun v102 =>
  (sameN a83 v102.1).bind fun v103 =>
  (sameN a82 v102.2).bind fun v104 =>
  i_Distances_L5 b0 a57 a69 fuel (W (a81 + 1)) v102.2 v102.1
  else
  i_Distances_L5 b0 a57 a69 fuel (W (a81 + 1)) a82 a83)
  else
  some (a82, a83))
def i_Distances_L4 (b0 : TProject) (a57 : Int) : Nat → Int → (List (List Int)) → (List (List Bool)) → Option ((List (List Int)) × (List (List Bool)))
 | 0, _, _, _ => none
 | fuel + 1, a69, a70, a71 =>
  (bif (decide (a69 < (b0.Activities.length : Int))) then
  Option.bind
  (i_Distances_L5 b0 a57 a69 F0 0 a70 a71) fun p105 =>
  i_Distances_L4 b0 a57 fuel (W (a69 + 1)) p105.1 p105.2
  else
  some (a70, a71))
def i_Distances_L3 (b0 : TProject) : Nat → Int → (List (List Int)) → (List (List Bool)) → Option ((List (List Int)) × (List (List Bool)))
 | 0, _, _, _ => none
 | fuel + 1, a57, a58, a59 =>
  (bif (decide (a57 < (b0.Activities.length : Int))) then
  Option.bind
  (i_Distances_L4 b0 a57 F0 0 a58 a59) fun p106 =>
  i_Distances_L3 b0 fuel (W (a57 + 1)) p106.1 p106.2
  else
  some (a58, a59))
def i_Distances_L7 (b0 : TProject) (p107 : (List (List Int)) × (List (List Bool))) (a114 : Int) : Nat → Int → (List (List Int)) → Option (List (List Int))
 | 0, _, _ => none
 | fuel + 1, a125, a126 =>
  (bif (decide (a125 < (b0.Activities.length : Int))) then
  (idxL p107.2 a114).bind fun v130 =>
  (neL v130).bind fun v131 =>
  (idxL v130 a125).bind fun v132 =>
  (bif (!v132) then
  (idxL a126 a114).bind fun v134 =>
  (neL v134).bind fun v135 =>
  (idxL v134 a125).bind fun v136 =>
  i_Distances_L7 b0 p107 a114 fuel (W (a125 + 1)) (setL a126 a114 (setL v134 a125 (-1000)))
  else
  i_Distances_L7 b0 p107 a114 fuel (W (a125 + 1)) a126)
  else
  some a126)
def i_Distances_L6 (b0 : TProject) (p107 : (List (List Int)) × (List (List Bool))) : Nat → Int → (List (List Int)) → Option (List (List Int))
 | 0, _, _ => none
 | fuel + 1, a114, a115 =>
  (bif (decide (a114 < (b0.Activities.length : Int))) then
  Option.bind
  (i_Distances_L7 b0 p107 a114 F0 0 a115) fun p137 =>
  i_Distances_L6 b0 p107 fuel (W (a114 + 1)) p137
  else
  some a115)
def i_Distances (b0 : TProject) : Option (List (List Int)) :=
 (i_ProjectOk b0).bind fun v1 =>
 Option.bind
 ((bif (!v1) then
 some true
 else
 (i_PositiveCycle b0).bind fun v4 =>
 some (decide (0 < (v4.length : Int))))) fun e2 =>
 (bif e2 then
 some ([] : List (List Int))
 else
 (makeL ([] : List Int) (b0.Activities.length : Int)).bind fun v6 =>
 (makeL ([] : List Bool) (b0.Activities.length : Int)).bind fun v7 =>
 Option.bind
 (i_Distances_L1 b0 b0.Activities 0 v6 v7) fun p32 =>
 Option.bind
 (i_Distances_L2 b0 b0.Links 0 p32.1 p32.2) fun p50 =>
 Option.bind
 (i_Distances_L3 b0 F0 0 p50.1 p50.2) fun p107 =>
 Option.bind
 (i_Distances_L6 b0 p107 F0 0 p107.1) fun p138 =>
 (allNe p138).bind fun v139 =>
 some v139)
def i_EarliestStarts_L2 (v14 : List Int) : Nat → Int → (List Int) → Option (List Int)
 | 0, _, _ => none
 | fuel + 1, a21, a22 =>
  (bif (decide (a21 < (v14.length : Int))) then
  (idxL v14 a21).bind fun v26 =>
  (idxL a22 a21).bind fun v27 =>
  i_EarliestStarts_L2 v14 fuel (W (a21 + 1)) (setL a22 a21 (max v27 v26))
  else
  some a22)
def i_EarliestStarts_L1 (v1 : List (List Int)) : Nat → Int → (List Int) → Option (List Int)
 | 0, _, _ => none
 | fuel + 1, a9, a10 =>
  (bif (decide (a9 < (v1.length : Int))) then
  (idxL v1 a9).bind fun v14 =>
  Option.bind
  (i_EarliestStarts_L2 v14 F0 0 a10) fun p28 =>
  i_EarliestStarts_L1 v1 fuel (W (a9 + 1)) p28
  else
  some a10)
def i_EarliestStarts (b0 : TProject) : Option (List Int) :=
 (i_Distances b0).bind fun v1 =>
 (makeL 0 (v1.length : Int)).bind fun v2 =>
 Option.bind
 (i_EarliestStarts_L1 v1 F0 0 v2) fun p29 =>
 some p29
def i_Project_shortest (b0 : TProject) (b1 : Int) : Option Int :=
 (idxL b0.Activities b1).bind fun v1 =>
 (i_ModeIndexes v1).bind fun v2 =>
 (i_MinDuration v1 v2).bind fun v3 =>
 some v3
def i_PathBound_L1 (b0 : TProject) : List Int → Int → Int → Option Int
 | [], z9, a10 =>
  some a10
 | x11 :: xs12, z9, a10 =>
  (i_Project_shortest b0 z9).bind fun v14 =>
  i_PathBound_L1 b0 xs12 (z9 + 1) (max a10 (W (x11 + v14)))
def i_PathBound (b0 : TProject) : Option Int :=
 (i_EarliestStarts b0).bind fun v1 =>
 Option.bind
 (i_PathBound_L1 b0 v1 0 0) fun p15 =>
 some p15
def i_element (b0 : List Int) (b1 : Int) : Option (Int × Bool) :=
 (i_within b1 0 (W ((b0.length : Int) - 1))).bind fun v1 =>
 (bif (!v1) then
 some (0, false)
 else
 (idxL b0 b1).bind fun v3 =>
 some (v3, true))
def i_MinWork_c1 (b0 : TMode) (c1 : Int) : Option (Int × Bool) :=
 (i_element b0.Usage c1).bind fun v1 =>
 some ((W (b0.Duration * v1.1)), v1.2)
def i_leastOf_L1 (g1 : TMode → Option (Int × Bool)) : List TMode → Int → Int → Option (Int ⊕ Int)
 | [], z8, a9 =>
  some (Sum.inl a9)
 | x10 :: xs11, z8, a9 =>
  (g1 x10).bind fun v13 =>
  (bif (!v13.2) then
  some (Sum.inr 0)
  else
  Option.bind
  ((bif (z8 == 0) then
  some true
  else
  some (decide (v13.1 < a9)))) fun e15 =>
  (bif e15 then
  i_leastOf_L1 g1 xs11 (z8 + 1) v13.1
  else
  i_leastOf_L1 g1 xs11 (z8 + 1) a9))
def i_leastOf (b0 : List TMode) (g1 : TMode → Option (Int × Bool)) : Option Int :=
 sumBind
 (i_leastOf_L1 g1 b0 0 0)
 (fun q19 => some q19) fun p18 =>
 some p18
def i_MinWork (b0 : TActivity) (b1 : List Int) (b2 : Int) : Option Int :=
 (i_chosen b0 b1).bind fun v1 =>
 (i_leastOf v1 (fun x0 => i_MinWork_c1 x0 b2)).bind fun v2 =>
 some v2
def i_capacityAt_L1 (b1 : Int) : List TStep → Int → Int → Option Int
 | [], z8, a9 =>
  some a9
 | x10 :: xs11, z8, a9 =>
  (bif (decide (x10.At ≤ b1)) then
  i_capacityAt_L1 b1 xs11 (z8 + 1) x10.Capacity
  else
  i_capacityAt_L1 b1 xs11 (z8 + 1) a9)
def i_capacityAt (b0 : List TStep) (b1 : Int) : Option Int :=
 Option.bind
 (i_capacityAt_L1 b1 b0 0 0) fun p14 =>
 some p14
def i_TotalCapacity_L1 (b0 : List TStep) (b2 : Int) : Nat → Int → Int → Option Int
 | 0, _, _ => none
 | fuel + 1, a13, a14 =>
  (bif (decide (a14 < b2)) then
  (i_capacityAt b0 a14).bind fun v18 =>
  i_TotalCapacity_L1 b0 b2 fuel (W (a13 + v18)) (W (a14 + 1))
  else
  some a13)
def i_TotalCapacity (b0 : List TStep) (b1 : Int) (b2 : Int) : Option Int :=
 (i_StepsOk b0).bind fun v1 =>
 Option.bind
 ((bif (!v1) then
 some true
 else
 (i_isTime b1).bind fun v4 =>
 (bif (!v4) then
 some true
 else
 (i_isTime b2).bind fun v6 =>
 some (!v6)))) fun e2 =>
 (bif e2 then
 some 0
 else
 Option.bind
 (i_TotalCapacity_L1 b0 b2 F0 0 b1) fun p19 =>
 some p19)
def i_WorkBound_L3 (z20 : Int) : List TActivity → Int → Int → Option Int
 | [], z32, a33 =>
  some a33
 | x34 :: xs35, z32, a33 =>
  (i_ModeIndexes x34).bind fun v37 =>
  (i_MinWork x34 v37 z20).bind fun v38 =>
  i_WorkBound_L3 z20 xs35 (z32 + 1) (W (a33 + v38))
def i_WorkBound_L2 (b0 : TProject) (a9 : Int) : List TResource → Int → Bool → Option Bool
 | [], z20, a21 =>
  some a21
 | x22 :: xs23, z20, a21 =>
  Option.bind
  (i_WorkBound_L3 z20 b0.Activities 0 0) fun p39 =>
  Option.bind
  ((bif a21 then
  (i_TotalCapacity x22.Steps 0 a9).bind fun v42 =>
  some (decide (p39 ≤ v42))
  else
  some false)) fun e40 =>
  i_WorkBound_L2 b0 a9 xs23 (z20 + 1) e40
def i_WorkBound_L1 (b0 : TProject) : Nat → Int → Option (Unit ⊕ Int)
 | 0, _ => none
 | fuel + 1, a9 =>
  (bif (decide (a9 ≤ 60)) then
  Option.bind
  (i_WorkBound_L2 b0 a9 b0.Resources 0 true) fun p43 =>
  (bif p43 then
  some (Sum.inr a9)
  else
  i_WorkBound_L1 b0 fuel (W (a9 + 1)))
  else
  some (Sum.inl ()))
def i_WorkBound (b0 : TProject) : Option Int :=
 (i_ProjectOk b0).bind fun v1 =>
 (bif (!v1) then
 some 0
 else
 (i_PathBound b0).bind fun v3 =>
 sumBind
 (i_WorkBound_L1 b0 F0 (max v3 1))
 (fun q46 => some q46) fun p45 =>
 some 61)
def w_eqIntS_L1 (b1 : List Int) : List Int → Int → Option (Unit ⊕ Bool)
 | [], z9 =>
  some (Sum.inl ())
 | x10 :: xs11, z9 =>
  (idxL b1 z9).bind fun v13 =>
  (bif (x10 != v13) then
  some (Sum.inr false)
  else
  w_eqIntS_L1 b1 xs11 (z9 + 1))
def w_eqIntS (b0 : List Int) (b1 : List Int) : Option Bool :=
 (bif ((b0.length : Int) != (b1.length : Int)) then
 some false
 else
 sumBind
 (w_eqIntS_L1 b1 b0 0)
 (fun q16 => some q16) fun p15 =>
 some true)
def w_eqMode (b0 : TMode) (b1 : TMode) : Option Bool :=
 (bif (b0.Duration != b1.Duration) then
 some false
 else
 (w_eqIntS b0.Usage b1.Usage).bind fun v2 =>
 (bif (!v2) then
 some false
 else
 (w_eqIntS b0.Consumption b1.Consumption).bind fun v4 =>
 (bif (!v4) then
 some false
 else
 some true)))
def w_eqModeS_L1 (b1 : List TMode) : List TMode → Int → Option (Unit ⊕ Bool)
 | [], z9 =>
  some (Sum.inl ())
 | x10 :: xs11, z9 =>
  (idxL b1 z9).bind fun v13 =>
  (w_eqMode x10 v13).bind fun v14 =>
  (bif (!v14) then
  some (Sum.inr false)
  else
  w_eqModeS_L1 b1 xs11 (z9 + 1))
def w_eqModeS (b0 : List TMode) (b1 : List TMode) : Option Bool :=
 (bif ((b0.length : Int) != (b1.length : Int)) then
 some false
 else
 sumBind
 (w_eqModeS_L1 b1 b0 0)
 (fun q17 => some q17) fun p16 =>
 some true)
def w_eqActivity (b0 : TActivity) (b1 : TActivity) : Option Bool :=
 (bif (b0.Name != b1.Name) then
 some false
 else
 (bif (b0.Family != b1.Family) then
 some false
 else
 (w_eqModeS b0.Modes b1.Modes).bind fun v3 =>
 (bif (!v3) then
 some false
 else
 some true)))
def w_eqActivityS_L1 (b1 : List TActivity) : List TActivity → Int → Option (Unit ⊕ Bool)
 | [], z9 =>
  some (Sum.inl ())
 | x10 :: xs11, z9 =>
  (idxL b1 z9).bind fun v13 =>
  (w_eqActivity x10 v13).bind fun v14 =>
  (bif (!v14) then
  some (Sum.inr false)
  else
  w_eqActivityS_L1 b1 xs11 (z9 + 1))
def w_eqActivityS (b0 : List TActivity) (b1 : List TActivity) : Option Bool :=
 (bif ((b0.length : Int) != (b1.length : Int)) then
 some false
 else
 sumBind
 (w_eqActivityS_L1 b1 b0 0)
 (fun q17 => some q17) fun p16 =>
 some true)
def w_eqLink (b0 : TLink) (b1 : TLink) : Option Bool :=
 (bif (b0.From != b1.From) then
 some false
 else
 (bif (b0.To != b1.To) then
 some false
 else
 (bif (b0.FromEnd != b1.FromEnd) then
 some false
 else
 (bif (b0.Lag != b1.Lag) then
 some false
 else
 some true))))
def w_eqLinkS_L1 (b1 : List TLink) : List TLink → Int → Option (Unit ⊕ Bool)
 | [], z9 =>
  some (Sum.inl ())
 | x10 :: xs11, z9 =>
  (idxL b1 z9).bind fun v13 =>
  (w_eqLink x10 v13).bind fun v14 =>
  (bif (!v14) then
  some (Sum.inr false)
  else
  w_eqLinkS_L1 b1 xs11 (z9 + 1))
def w_eqLinkS (b0 : List TLink) (b1 : List TLink) : Option Bool :=
 (bif ((b0.length : Int) != (b1.length : Int)) then
 some false
 else
 sumBind
 (w_eqLinkS_L1 b1 b0 0)
 (fun q17 => some q17) fun p16 =>
 some true)
def w_eqStep (b0 : TStep) (b1 : TStep) : Option Bool :=
 (bif (b0.At != b1.At) then
 some false
 else
 (bif (b0.Capacity != b1.Capacity) then
 some false
 else
 some true))
def w_eqStepS_L1 (b1 : List TStep) : List TStep → Int → Option (Unit ⊕ Bool)
 | [], z9 =>
  some (Sum.inl ())
 | x10 :: xs11, z9 =>
  (idxL b1 z9).bind fun v13 =>
  (w_eqStep x10 v13).bind fun v14 =>
  (bif (!v14) then
  some (Sum.inr false)
  else
  w_eqStepS_L1 b1 xs11 (z9 + 1))
def w_eqStepS (b0 : List TStep) (b1 : List TStep) : Option Bool :=
 (bif ((b0.length : Int) != (b1.length : Int)) then
 some false
 else
 sumBind
 (w_eqStepS_L1 b1 b0 0)
 (fun q17 => some q17) fun p16 =>
 some true)
def w_eqIntSS_L1 (b1 : List (List Int)) : List (List Int) → Int → Option (Unit ⊕ Bool)
 | [], z9 =>
  some (Sum.inl ())
 | x10 :: xs11, z9 =>
  (idxL b1 z9).bind fun v13 =>
  (w_eqIntS x10 v13).bind fun v14 =>
  (bif (!v14) then
  some (Sum.inr false)
  else
  w_eqIntSS_L1 b1 xs11 (z9 + 1))
def w_eqIntSS (b0 : List (List Int)) (b1 : List (List Int)) : Option Bool :=
 (bif ((b0.length : Int) != (b1.length : Int)) then
 some false
 else
 sumBind
 (w_eqIntSS_L1 b1 b0 0)
 (fun q17 => some q17) fun p16 =>
 some true)
def w_eqResource (b0 : TResource) (b1 : TResource) : Option Bool :=
 (w_eqStepS b0.Steps b1.Steps).bind fun v1 =>
 (bif (!v1) then
 some false
 else
 (w_eqIntSS b0.Setup b1.Setup).bind fun v3 =>
 (bif (!v3) then
 some false
 else
 some true))
def w_eqResourceS_L1 (b1 : List TResource) : List TResource → Int → Option (Unit ⊕ Bool)
 | [], z9 =>
  some (Sum.inl ())
 | x10 :: xs11, z9 =>
  (idxL b1 z9).bind fun v13 =>
  (w_eqResource x10 v13).bind fun v14 =>
  (bif (!v14) then
  some (Sum.inr false)
  else
  w_eqResourceS_L1 b1 xs11 (z9 + 1))
def w_eqResourceS (b0 : List TResource) (b1 : List TResource) : Option Bool :=
 (bif ((b0.length : Int) != (b1.length : Int)) then
 some false
 else
 sumBind
 (w_eqResourceS_L1 b1 b0 0)
 (fun q17 => some q17) fun p16 =>
 some true)
def w_eqProject (b0 : TProject) (b1 : TProject) : Option Bool :=
 (bif (b0.Deadline != b1.Deadline) then
 some false
 else
 (w_eqActivityS b0.Activities b1.Activities).bind fun v2 =>
 (bif (!v2) then
 some false
 else
 (w_eqLinkS b0.Links b1.Links).bind fun v4 =>
 (bif (!v4) then
 some false
 else
 (w_eqResourceS b0.Resources b1.Resources).bind fun v6 =>
 (bif (!v6) then
 some false
 else
 (w_eqIntS b0.Stocks b1.Stocks).bind fun v8 =>
 (bif (!v8) then
 some false
 else
 some true)))))
def w_FnExactWorkBound (b0 : TProject) : Option Bool :=
 (w_szProject b0 1048576).bind fun v1 =>
 (bif (decide (v1 < 0)) then
 some true
 else
 (w_toProject b0).bind fun v3 =>
 (s_WorkBound v3).bind fun v4 =>
 (w_toProject b0).bind fun v5 =>
 (i_WorkBound v5).bind fun v6 =>
 (bif (v6 != v4) then
 some false
 else
 (w_toProject b0).bind fun v8 =>
 (w_eqProject v5 v8).bind fun v9 =>
 (bif (!v9) then
 some false
 else
 some true)))
def b_l_int (M : Nat) (l : List Int) : Prop := l.length ≤ M
theorem w_szIntS_ok (x : List Int) (h : b_l_int 9223372036854775807 x) : SzOk w_szIntS (b_l_int 1048576) x := szFlat x (fun _ => rfl) h
def b_str (M : Nat) (x : ByteArray) : Prop := x.size ≤ M
def bTMode (M : Nat) (x : TMode) : Prop := b_l_int M x.Usage ∧ b_l_int M x.Consumption ∧  True
theorem w_szMode_ok (x : TMode) (h : bTMode 9223372036854775807 x) : SzOk w_szMode (bTMode 1048576) x := fun n m0 hn => by
 unfold w_szMode bTMode
 unfold bTMode at h
 exact szThen (w_szIntS_ok _ h.1) m0 (by omega) (fun n1 m1 _ _ => szThen (w_szIntS_ok _ h.2.1) m1 (by omega) (fun n2 m2 _ _ => szEnd m2))
def b_l_eTMode (M : Nat) (l : List TMode) : Prop := l.length ≤ M ∧ ∀ x ∈ l, bTMode M x
theorem w_szModeS_ok (x : List TMode) (h : b_l_eTMode 9223372036854775807 x) : SzOk w_szModeS (b_l_eTMode 1048576) x := szList (F := w_szModeS_L1) (sz := w_szMode) (Q := bTMode 1048576) x (fun _ _ => rfl) (fun _ _ _ _ => rfl) (fun _ => rfl) h.1 (fun y hy => w_szMode_ok y (h.2 y hy))
def bTActivity (M : Nat) (x : TActivity) : Prop := b_str M x.Name ∧ b_l_eTMode M x.Modes ∧  True
theorem w_szActivity_ok (x : TActivity) (h : bTActivity 9223372036854775807 x) : SzOk w_szActivity (bTActivity 1048576) x := fun n m0 hn => by
 unfold w_szActivity bTActivity
 unfold bTActivity at h
 exact szStr h.1 m0 (by omega) (fun n1 m1 _ _ => szThen (w_szModeS_ok _ h.2.1) m1 (by omega) (fun n2 m2 _ _ => szEnd m2))
def b_l_eTActivity (M : Nat) (l : List TActivity) : Prop := l.length ≤ M ∧ ∀ x ∈ l, bTActivity M x
theorem w_szActivityS_ok (x : List TActivity) (h : b_l_eTActivity 9223372036854775807 x) : SzOk w_szActivityS (b_l_eTActivity 1048576) x := szList (F := w_szActivityS_L1) (sz := w_szActivity) (Q := bTActivity 1048576) x (fun _ _ => rfl) (fun _ _ _ _ => rfl) (fun _ => rfl) h.1 (fun y hy => w_szActivity_ok y (h.2 y hy))
def b_l_eTLink (M : Nat) (l : List TLink) : Prop := l.length ≤ M
theorem w_szLinkS_ok (x : List TLink) (h : b_l_eTLink 9223372036854775807 x) : SzOk w_szLinkS (b_l_eTLink 1048576) x := szFlat x (fun _ => rfl) h
def b_l_eTStep (M : Nat) (l : List TStep) : Prop := l.length ≤ M
theorem w_szStepS_ok (x : List TStep) (h : b_l_eTStep 9223372036854775807 x) : SzOk w_szStepS (b_l_eTStep 1048576) x := szFlat x (fun _ => rfl) h
def b_l_l_int (M : Nat) (l : List (List Int)) : Prop := l.length ≤ M ∧ ∀ x ∈ l, b_l_int M x
theorem w_szIntSS_ok (x : List (List Int)) (h : b_l_l_int 9223372036854775807 x) : SzOk w_szIntSS (b_l_l_int 1048576) x := szList (F := w_szIntSS_L1) (sz := w_szIntS) (Q := b_l_int 1048576) x (fun _ _ => rfl) (fun _ _ _ _ => rfl) (fun _ => rfl) h.1 (fun y hy => w_szIntS_ok y (h.2 y hy))
def bTResource (M : Nat) (x : TResource) : Prop := b_l_eTStep M x.Steps ∧ b_l_l_int M x.Setup ∧  True
theorem w_szResource_ok (x : TResource) (h : bTResource 9223372036854775807 x) : SzOk w_szResource (bTResource 1048576) x := fun n m0 hn => by
 unfold w_szResource bTResource
 unfold bTResource at h
 exact szThen (w_szStepS_ok _ h.1) m0 (by omega) (fun n1 m1 _ _ => szThen (w_szIntSS_ok _ h.2.1) m1 (by omega) (fun n2 m2 _ _ => szEnd m2))
def b_l_eTResource (M : Nat) (l : List TResource) : Prop := l.length ≤ M ∧ ∀ x ∈ l, bTResource M x
theorem w_szResourceS_ok (x : List TResource) (h : b_l_eTResource 9223372036854775807 x) : SzOk w_szResourceS (b_l_eTResource 1048576) x := szList (F := w_szResourceS_L1) (sz := w_szResource) (Q := bTResource 1048576) x (fun _ _ => rfl) (fun _ _ _ _ => rfl) (fun _ => rfl) h.1 (fun y hy => w_szResource_ok y (h.2 y hy))
def bTProject (M : Nat) (x : TProject) : Prop := b_l_eTActivity M x.Activities ∧ b_l_eTLink M x.Links ∧ b_l_eTResource M x.Resources ∧ b_l_int M x.Stocks ∧  True
theorem w_szProject_ok (x : TProject) (h : bTProject 9223372036854775807 x) : SzOk w_szProject (bTProject 1048576) x := fun n m0 hn => by
 unfold w_szProject bTProject
 unfold bTProject at h
 exact szThen (w_szActivityS_ok _ h.1) m0 (by omega) (fun n1 m1 _ _ => szThen (w_szLinkS_ok _ h.2.1) m1 (by omega) (fun n2 m2 _ _ => szThen (w_szResourceS_ok _ h.2.2.1) m2 (by omega) (fun n3 m3 _ _ => szThen (w_szIntS_ok _ h.2.2.2.1) m3 (by omega) (fun n4 m4 _ _ => szEnd m4))))
theorem w_toIntS_eq (x : List Int) (h : b_l_int 1048576 x) : w_toIntS x = some x := fillList (F := w_toIntS_L1) (Q := fun _ => True) (fun _ _ => rfl) (fun x xs z a y hq hy => by simp only [w_toIntS_L1, hy, Option.bind_some]) h (fun _ _ => trivial) rfl
theorem w_toMode_eq (x : TMode) (h : bTMode 1048576 x) : w_toMode x = some x := by
 unfold bTMode at h
 unfold w_toMode
 try simp only [w_toIntS_eq _ (h.1), w_toIntS_eq _ (h.2.1), Option.bind_some]
theorem w_toModeS_eq (x : List TMode) (h : b_l_eTMode 1048576 x) : w_toModeS x = some x := fillList (F := w_toModeS_L1) (Q := bTMode 1048576) (fun _ _ => rfl) (fun x xs z a y hq hy => by simp only [w_toModeS_L1, w_toMode_eq x hq, hy, Option.bind_some]) h.1 h.2 rfl
theorem w_toActivity_eq (x : TActivity) (h : bTActivity 1048576 x) : w_toActivity x = some x := by
 unfold bTActivity at h
 unfold w_toActivity
 try simp only [w_toModeS_eq _ (h.2.1), Option.bind_some]
theorem w_toActivityS_eq (x : List TActivity) (h : b_l_eTActivity 1048576 x) : w_toActivityS x = some x := fillList (F := w_toActivityS_L1) (Q := bTActivity 1048576) (fun _ _ => rfl) (fun x xs z a y hq hy => by simp only [w_toActivityS_L1, w_toActivity_eq x hq, hy, Option.bind_some]) h.1 h.2 rfl
theorem w_toLink_eq (x : TLink) : w_toLink x = some x := by
 unfold w_toLink
 try simp only [Option.bind_some]
theorem w_toLinkS_eq (x : List TLink) (h : b_l_eTLink 1048576 x) : w_toLinkS x = some x := fillList (F := w_toLinkS_L1) (Q := fun _ => True) (fun _ _ => rfl) (fun x xs z a y hq hy => by simp only [w_toLinkS_L1, w_toLink_eq, hy, Option.bind_some]) h (fun _ _ => trivial) rfl
theorem w_toStep_eq (x : TStep) : w_toStep x = some x := by
 unfold w_toStep
 try simp only [Option.bind_some]
theorem w_toStepS_eq (x : List TStep) (h : b_l_eTStep 1048576 x) : w_toStepS x = some x := fillList (F := w_toStepS_L1) (Q := fun _ => True) (fun _ _ => rfl) (fun x xs z a y hq hy => by simp only [w_toStepS_L1, w_toStep_eq, hy, Option.bind_some]) h (fun _ _ => trivial) rfl
theorem w_toIntSS_eq (x : List (List Int)) (h : b_l_l_int 1048576 x) : w_toIntSS x = some x := fillList (F := w_toIntSS_L1) (Q := b_l_int 1048576) (fun _ _ => rfl) (fun x xs z a y hq hy => by simp only [w_toIntSS_L1, w_toIntS_eq x hq, hy, Option.bind_some]) h.1 h.2 rfl
theorem w_toResource_eq (x : TResource) (h : bTResource 1048576 x) : w_toResource x = some x := by
 unfold bTResource at h
 unfold w_toResource
 try simp only [w_toStepS_eq _ (h.1), w_toIntSS_eq _ (h.2.1), Option.bind_some]
theorem w_toResourceS_eq (x : List TResource) (h : b_l_eTResource 1048576 x) : w_toResourceS x = some x := fillList (F := w_toResourceS_L1) (Q := bTResource 1048576) (fun _ _ => rfl) (fun x xs z a y hq hy => by simp only [w_toResourceS_L1, w_toResource_eq x hq, hy, Option.bind_some]) h.1 h.2 rfl
theorem w_toProject_eq (x : TProject) (h : bTProject 1048576 x) : w_toProject x = some x := by
 unfold bTProject at h
 unfold w_toProject
 try simp only [w_toActivityS_eq _ (h.1), w_toLinkS_eq _ (h.2.1), w_toResourceS_eq _ (h.2.2.1), w_toIntS_eq _ (h.2.2.2.1), Option.bind_some]
theorem w_eqIntS_eq (a b : List Int) : w_eqIntS a b = some (decide (a = b)) := eqList (F := w_eqIntS_L1 b) (fun _ => rfl) (fun x xs z y h => by simp only [w_eqIntS_L1, h, Option.bind_some, int_bne]; by_cases hxy : x = y <;> simp [hxy]) rfl
theorem w_eqMode_eq (a b : TMode) : w_eqMode a b = some (decide (a = b)) := by
 obtain ⟨a0, a1, a2⟩ := a
 obtain ⟨b0, b1, b2⟩ := b
 simp only [w_eqMode, w_eqIntS_eq, w_eqIntS_eq, TMode.mk.injEq, Option.bind_some, int_bne, bool_bne, ba_bne]
 by_cases h0 : a0 = b0 <;> by_cases h1 : a1 = b1 <;> by_cases h2 : a2 = b2 <;> simp [h0, h1, h2]
theorem w_eqModeS_eq (a b : List TMode) : w_eqModeS a b = some (decide (a = b)) := eqList (F := w_eqModeS_L1 b) (fun _ => rfl) (fun x xs z y h => by simp only [w_eqModeS_L1, h, Option.bind_some, int_bne, w_eqMode_eq]; by_cases hxy : x = y <;> simp [hxy]) rfl
theorem w_eqActivity_eq (a b : TActivity) : w_eqActivity a b = some (decide (a = b)) := by
 obtain ⟨a0, a1, a2⟩ := a
 obtain ⟨b0, b1, b2⟩ := b
 simp only [w_eqActivity, w_eqModeS_eq, TActivity.mk.injEq, Option.bind_some, int_bne, bool_bne, ba_bne]
 by_cases h0 : a0 = b0 <;> by_cases h1 : a1 = b1 <;> by_cases h2 : a2 = b2 <;> simp [h0, h1, h2]
theorem w_eqActivityS_eq (a b : List TActivity) : w_eqActivityS a b = some (decide (a = b)) := eqList (F := w_eqActivityS_L1 b) (fun _ => rfl) (fun x xs z y h => by simp only [w_eqActivityS_L1, h, Option.bind_some, int_bne, w_eqActivity_eq]; by_cases hxy : x = y <;> simp [hxy]) rfl
theorem w_eqLink_eq (a b : TLink) : w_eqLink a b = some (decide (a = b)) := by
 obtain ⟨a0, a1, a2, a3⟩ := a
 obtain ⟨b0, b1, b2, b3⟩ := b
 simp only [w_eqLink, TLink.mk.injEq, Option.bind_some, int_bne, bool_bne, ba_bne]
 by_cases h0 : a0 = b0 <;> by_cases h1 : a1 = b1 <;> by_cases h2 : a2 = b2 <;> by_cases h3 : a3 = b3 <;> simp [h0, h1, h2, h3]
theorem w_eqLinkS_eq (a b : List TLink) : w_eqLinkS a b = some (decide (a = b)) := eqList (F := w_eqLinkS_L1 b) (fun _ => rfl) (fun x xs z y h => by simp only [w_eqLinkS_L1, h, Option.bind_some, int_bne, w_eqLink_eq]; by_cases hxy : x = y <;> simp [hxy]) rfl
theorem w_eqStep_eq (a b : TStep) : w_eqStep a b = some (decide (a = b)) := by
 obtain ⟨a0, a1⟩ := a
 obtain ⟨b0, b1⟩ := b
 simp only [w_eqStep, TStep.mk.injEq, Option.bind_some, int_bne, bool_bne, ba_bne]
 by_cases h0 : a0 = b0 <;> by_cases h1 : a1 = b1 <;> simp [h0, h1]
theorem w_eqStepS_eq (a b : List TStep) : w_eqStepS a b = some (decide (a = b)) := eqList (F := w_eqStepS_L1 b) (fun _ => rfl) (fun x xs z y h => by simp only [w_eqStepS_L1, h, Option.bind_some, int_bne, w_eqStep_eq]; by_cases hxy : x = y <;> simp [hxy]) rfl
theorem w_eqIntSS_eq (a b : List (List Int)) : w_eqIntSS a b = some (decide (a = b)) := eqList (F := w_eqIntSS_L1 b) (fun _ => rfl) (fun x xs z y h => by simp only [w_eqIntSS_L1, h, Option.bind_some, int_bne, w_eqIntS_eq]; by_cases hxy : x = y <;> simp [hxy]) rfl
theorem w_eqResource_eq (a b : TResource) : w_eqResource a b = some (decide (a = b)) := by
 obtain ⟨a0, a1⟩ := a
 obtain ⟨b0, b1⟩ := b
 simp only [w_eqResource, w_eqStepS_eq, w_eqIntSS_eq, TResource.mk.injEq, Option.bind_some, int_bne, bool_bne, ba_bne]
 by_cases h0 : a0 = b0 <;> by_cases h1 : a1 = b1 <;> simp [h0, h1]
theorem w_eqResourceS_eq (a b : List TResource) : w_eqResourceS a b = some (decide (a = b)) := eqList (F := w_eqResourceS_L1 b) (fun _ => rfl) (fun x xs z y h => by simp only [w_eqResourceS_L1, h, Option.bind_some, int_bne, w_eqResource_eq]; by_cases hxy : x = y <;> simp [hxy]) rfl
theorem w_eqProject_eq (a b : TProject) : w_eqProject a b = some (decide (a = b)) := by
 obtain ⟨a0, a1, a2, a3, a4⟩ := a
 obtain ⟨b0, b1, b2, b3, b4⟩ := b
 simp only [w_eqProject, w_eqActivityS_eq, w_eqLinkS_eq, w_eqResourceS_eq, w_eqIntS_eq, TProject.mk.injEq, Option.bind_some, int_bne, bool_bne, ba_bne]
 by_cases h0 : a0 = b0 <;> by_cases h1 : a1 = b1 <;> by_cases h2 : a2 = b2 <;> by_cases h3 : a3 = b3 <;> by_cases h4 : a4 = b4 <;> simp [h0, h1, h2, h3, h4]
theorem decb_int : ∀ p, Val .int p → ∃ x : Int, p = int x ∧ True := fun p h => by obtain ⟨n, e⟩ := dec_int h; exact ⟨n, e, trivial⟩
theorem decb_str : ∀ p, Val .str p → ∃ x : ByteArray, p = str x ∧ b_str 9223372036854775807 x := fun p h => dec_str h
theorem decb_l_int : ∀ p, Val (.slice .int) p → ∃ x : List Int, p = .slice (x.map int) ∧ b_l_int 9223372036854775807 x := fun p h => by
 obtain ⟨l, e, h1, h2⟩ := dec_slice decb_int h
 exact ⟨l, e, h1⟩
theorem decb_TMode : ∀ p, Val (.agg [.int, .slice .int, .slice .int]) p → ∃ x : TMode, p = eTMode x ∧ bTMode 9223372036854775807 x := fun p h => by
 obtain ⟨zs0, rfl, hv0⟩ := h
 obtain ⟨x0, zs1, rfl, h0, hv1⟩ := vals_cons hv0
 obtain ⟨y0, rfl, b0⟩ := decb_int _ h0
 obtain ⟨x1, zs2, rfl, h1, hv2⟩ := vals_cons hv1
 obtain ⟨y1, rfl, b1⟩ := decb_l_int _ h1
 obtain ⟨x2, zs3, rfl, h2, hv3⟩ := vals_cons hv2
 obtain ⟨y2, rfl, b2⟩ := decb_l_int _ h2
 obtain rfl := vals_nil hv3
 exact ⟨⟨y0, y1, y2⟩, rfl, ⟨b1, b2, trivial⟩⟩
theorem decb_l_eTMode : ∀ p, Val (.slice (.agg [.int, .slice .int, .slice .int])) p → ∃ x : List TMode, p = .slice (x.map eTMode) ∧ b_l_eTMode 9223372036854775807 x := fun p h => by
 obtain ⟨l, e, h1, h2⟩ := dec_slice decb_TMode h
 exact ⟨l, e, h1, h2⟩
theorem decb_TActivity : ∀ p, Val (.agg [.str, .int, .slice (.agg [.int, .slice .int, .slice .int])]) p → ∃ x : TActivity, p = eTActivity x ∧ bTActivity 9223372036854775807 x := fun p h => by
 obtain ⟨zs0, rfl, hv0⟩ := h
 obtain ⟨x0, zs1, rfl, h0, hv1⟩ := vals_cons hv0
 obtain ⟨y0, rfl, b0⟩ := decb_str _ h0
 obtain ⟨x1, zs2, rfl, h1, hv2⟩ := vals_cons hv1
 obtain ⟨y1, rfl, b1⟩ := decb_int _ h1
 obtain ⟨x2, zs3, rfl, h2, hv3⟩ := vals_cons hv2
 obtain ⟨y2, rfl, b2⟩ := decb_l_eTMode _ h2
 obtain rfl := vals_nil hv3
 exact ⟨⟨y0, y1, y2⟩, rfl, ⟨b0, b2, trivial⟩⟩
theorem decb_l_eTActivity : ∀ p, Val (.slice (.agg [.str, .int, .slice (.agg [.int, .slice .int, .slice .int])])) p → ∃ x : List TActivity, p = .slice (x.map eTActivity) ∧ b_l_eTActivity 9223372036854775807 x := fun p h => by
 obtain ⟨l, e, h1, h2⟩ := dec_slice decb_TActivity h
 exact ⟨l, e, h1, h2⟩
theorem decb_bool : ∀ p, Val .bool p → ∃ x : Bool, p = bool x ∧ True := fun p h => by obtain ⟨n, e⟩ := dec_bool h; exact ⟨n, e, trivial⟩
theorem decb_TLink : ∀ p, Val (.agg [.int, .int, .bool, .int]) p → ∃ x : TLink, p = eTLink x ∧ True := fun p h => by
 obtain ⟨zs0, rfl, hv0⟩ := h
 obtain ⟨x0, zs1, rfl, h0, hv1⟩ := vals_cons hv0
 obtain ⟨y0, rfl, b0⟩ := decb_int _ h0
 obtain ⟨x1, zs2, rfl, h1, hv2⟩ := vals_cons hv1
 obtain ⟨y1, rfl, b1⟩ := decb_int _ h1
 obtain ⟨x2, zs3, rfl, h2, hv3⟩ := vals_cons hv2
 obtain ⟨y2, rfl, b2⟩ := decb_bool _ h2
 obtain ⟨x3, zs4, rfl, h3, hv4⟩ := vals_cons hv3
 obtain ⟨y3, rfl, b3⟩ := decb_int _ h3
 obtain rfl := vals_nil hv4
 exact ⟨⟨y0, y1, y2, y3⟩, rfl, trivial⟩
theorem decb_l_eTLink : ∀ p, Val (.slice (.agg [.int, .int, .bool, .int])) p → ∃ x : List TLink, p = .slice (x.map eTLink) ∧ b_l_eTLink 9223372036854775807 x := fun p h => by
 obtain ⟨l, e, h1, h2⟩ := dec_slice decb_TLink h
 exact ⟨l, e, h1⟩
theorem decb_TStep : ∀ p, Val (.agg [.int, .int]) p → ∃ x : TStep, p = eTStep x ∧ True := fun p h => by
 obtain ⟨zs0, rfl, hv0⟩ := h
 obtain ⟨x0, zs1, rfl, h0, hv1⟩ := vals_cons hv0
 obtain ⟨y0, rfl, b0⟩ := decb_int _ h0
 obtain ⟨x1, zs2, rfl, h1, hv2⟩ := vals_cons hv1
 obtain ⟨y1, rfl, b1⟩ := decb_int _ h1
 obtain rfl := vals_nil hv2
 exact ⟨⟨y0, y1⟩, rfl, trivial⟩
theorem decb_l_eTStep : ∀ p, Val (.slice (.agg [.int, .int])) p → ∃ x : List TStep, p = .slice (x.map eTStep) ∧ b_l_eTStep 9223372036854775807 x := fun p h => by
 obtain ⟨l, e, h1, h2⟩ := dec_slice decb_TStep h
 exact ⟨l, e, h1⟩
theorem decb_l_l_int : ∀ p, Val (.slice (.slice .int)) p → ∃ x : List (List Int), p = .slice (x.map l_int) ∧ b_l_l_int 9223372036854775807 x := fun p h => by
 obtain ⟨l, e, h1, h2⟩ := dec_slice decb_l_int h
 exact ⟨l, e, h1, h2⟩
theorem decb_TResource : ∀ p, Val (.agg [.slice (.agg [.int, .int]), .slice (.slice .int)]) p → ∃ x : TResource, p = eTResource x ∧ bTResource 9223372036854775807 x := fun p h => by
 obtain ⟨zs0, rfl, hv0⟩ := h
 obtain ⟨x0, zs1, rfl, h0, hv1⟩ := vals_cons hv0
 obtain ⟨y0, rfl, b0⟩ := decb_l_eTStep _ h0
 obtain ⟨x1, zs2, rfl, h1, hv2⟩ := vals_cons hv1
 obtain ⟨y1, rfl, b1⟩ := decb_l_l_int _ h1
 obtain rfl := vals_nil hv2
 exact ⟨⟨y0, y1⟩, rfl, ⟨b0, b1, trivial⟩⟩
theorem decb_l_eTResource : ∀ p, Val (.slice (.agg [.slice (.agg [.int, .int]), .slice (.slice .int)])) p → ∃ x : List TResource, p = .slice (x.map eTResource) ∧ b_l_eTResource 9223372036854775807 x := fun p h => by
 obtain ⟨l, e, h1, h2⟩ := dec_slice decb_TResource h
 exact ⟨l, e, h1, h2⟩
theorem decb_TProject : ∀ p, Val (.agg [.int, .slice (.agg [.str, .int, .slice (.agg [.int, .slice .int, .slice .int])]), .slice (.agg [.int, .int, .bool, .int]), .slice (.agg [.slice (.agg [.int, .int]), .slice (.slice .int)]), .slice .int]) p → ∃ x : TProject, p = eTProject x ∧ bTProject 9223372036854775807 x := fun p h => by
 obtain ⟨zs0, rfl, hv0⟩ := h
 obtain ⟨x0, zs1, rfl, h0, hv1⟩ := vals_cons hv0
 obtain ⟨y0, rfl, b0⟩ := decb_int _ h0
 obtain ⟨x1, zs2, rfl, h1, hv2⟩ := vals_cons hv1
 obtain ⟨y1, rfl, b1⟩ := decb_l_eTActivity _ h1
 obtain ⟨x2, zs3, rfl, h2, hv3⟩ := vals_cons hv2
 obtain ⟨y2, rfl, b2⟩ := decb_l_eTLink _ h2
 obtain ⟨x3, zs4, rfl, h3, hv4⟩ := vals_cons hv3
 obtain ⟨y3, rfl, b3⟩ := decb_l_eTResource _ h3
 obtain ⟨x4, zs5, rfl, h4, hv5⟩ := vals_cons hv4
 obtain ⟨y4, rfl, b4⟩ := decb_l_int _ h4
 obtain rfl := vals_nil hv5
 exact ⟨⟨y0, y1, y2, y3, y4⟩, rfl, ⟨b1, b2, b3, b4, trivial⟩⟩
def inR (n lo hi : Int) : Bool := decide (lo ≤ n) && decide (n ≤ hi)
theorem inR_iff {n lo hi : Int} : inR n lo hi = true ↔ lo ≤ n ∧ n ≤ hi := by simp [inR]
theorem s_l01In_eq (n lo hi : Int) : s_l01In n lo hi = some (inR n lo hi) := by
 unfold s_l01In inR; cases decide (lo ≤ n) <;> rfl
theorem i_within_eq (n lo hi : Int) : i_within n lo hi = some (inR n lo hi) := by
 unfold i_within inR; cases decide (lo ≤ n) <;> rfl
theorem i_isTime_eq (n : Int) : i_isTime n = some (inR n 0 60) := by simp only [i_isTime, i_within_eq, Option.bind_some]
theorem i_isAmount_eq (n : Int) : i_isAmount n = some (inR n 0 20) := by simp only [i_isAmount, i_within_eq, Option.bind_some]
theorem hasActivity_eq (p : TProject) (n : Int) : i_Project_hasActivity p n = some (inR n 0 (W ((p.Activities.length : Int) - 1))) := by simp only [i_Project_hasActivity, i_within_eq, Option.bind_some]
theorem s_l02Max_eq (a b : Int) : s_l02Max a b = some (max a b) := by
 unfold s_l02Max
 by_cases h : b < a
 ·rw [show decide (b < a) = true by simpa using h, cond_true, show max a b = a by omega]
 ·rw [show decide (b < a) = false by simpa using h, cond_false, show max a b = b by omega]
theorem W_le {n : Int} (h : -9223372036854775808 ≤ n) : W n ≤ n := by
 show IntKind.i64.wrap n ≤ n
 rw [IntKind.wrap_i64]; omega
theorem idx_of_inR {α : Type} {l : List α} {i : Int} (h : inR i 0 (W ((l.length : Int) - 1)) = true) : ∃ x, idxL l i = some x ∧ x ∈ l := by
 have h := inR_iff.1 h
 have := W_le (n := (l.length : Int) - 1) (by omega)
 exact idxL_some h.1 (by omega)
theorem areAmounts_L1 : ∀ (xs : List Int) (z : Int), i_areAmounts_L1 xs z = s_l04Nums_L1 xs z
 | [], z => rfl
 | x :: xs, z => by simp only [i_areAmounts_L1, s_l04Nums_L1, i_isAmount_eq, s_l01In_eq, areAmounts_L1 xs]
theorem areAmounts_eq (l : List Int) (n : Int) : i_areAmounts l n = s_l04Nums l n := by simp only [i_areAmounts, s_l04Nums, areAmounts_L1]
theorem ModeOk_eq (m : TMode) (a b : Int) : i_ModeOk m a b = s_ModeOk m a b := by simp only [i_ModeOk, s_ModeOk, areAmounts_eq, i_within_eq, s_l01In_eq]
theorem IsName_L1 (s : ByteArray) : ∀ (n : Nat) (a : Int), i_IsName_L1 s n a = s_IsName_L1 s n a
 | 0, a => rfl
 | n + 1, a => by simp only [i_IsName_L1, s_IsName_L1, IsName_L1 s n]
theorem IsName_eq (s : ByteArray) : i_IsName s = s_IsName s := by simp only [i_IsName, s_IsName, IsName_L1, i_within_eq, s_l01In_eq]
theorem ActivityOk_L1 (a b : Int) : ∀ (xs : List TMode) (z : Int), i_ActivityOk_L1 a b xs z = s_ActivityOk_L1 a b xs z
 | [], z => rfl
 | x :: xs, z => by simp only [i_ActivityOk_L1, s_ActivityOk_L1, ModeOk_eq, ActivityOk_L1 a b xs]
theorem ActivityOk_eq (x : TActivity) (a b : Int) : i_ActivityOk x a b = s_ActivityOk x a b := by simp only [i_ActivityOk, s_ActivityOk, ActivityOk_L1, IsName_eq, i_within_eq, s_l01In_eq]
theorem ActivityIndex_L1 (nm : ByteArray) : ∀ (xs : List TActivity) (z : Int), slices_IndexFunc_Activity_L1 (fun x => i_ActivityIndex_c1 x nm) xs z = s_ActivityIndex_L1 nm xs z
 | [], z => rfl
 | x :: xs, z => by rw [slices_IndexFunc_Activity_L1, s_ActivityIndex_L1, ActivityIndex_L1 nm xs]; rfl
theorem ActivityIndex_eq (p : TProject) (nm : ByteArray) : i_ActivityIndex p nm = s_ActivityIndex p nm := by
 simp only [i_ActivityIndex, slices_IndexFunc_Activity, s_ActivityIndex, ActivityIndex_L1, Option.bind_some]
 cases h : s_ActivityIndex_L1 nm p.Activities 0 with
 | none => rfl
 | some o => cases o <;> rfl
theorem ResourceOk_L2 : ∀ (xs : List Int) (z : Int), i_ResourceOk_L2 xs z = s_ResourceOk_L2 xs z
 | [], z => rfl
 | x :: xs, z => by simp only [i_ResourceOk_L2, s_ResourceOk_L2, i_within_eq, s_l01In_eq, ResourceOk_L2 xs]
theorem ResourceOk_L1 : ∀ (xs : List (List Int)) (z : Int), i_ResourceOk_L1 xs z = s_ResourceOk_L1 xs z
 | [], z => rfl
 | x :: xs, z => by simp only [i_ResourceOk_L1, s_ResourceOk_L1, ResourceOk_L2, ResourceOk_L1 xs]
theorem chkLoop {α : Type} {F : List α → Int → Option (Unit ⊕ Bool)} {b : List α} {Q : α → Prop} {c : α → Int → Option Bool} (h0 : ∀ z, F [] z = some (.inl ()))
  (h1 : ∀ x xs z, F (x :: xs) z = (c x z).bind fun e => bif e then some (.inr false) else F xs (z + 1)) (hc : ∀ x z, 0 ≤ z → idxL b z = some x → ∃ e, c x z = some e ∧ (e = false → Q x)) :
  ∀ (xs : List α) (z : Int), 0 ≤ z → b.drop z.toNat = xs → F xs z = some (.inr false) ∨ (F xs z = some (.inl ()) ∧ ∀ x ∈ xs, Q x)
 | [], z, hz, hd => .inr ⟨h0 z, by simp⟩
 | x :: xs, z, hz, hd => by
  obtain ⟨h2, h3⟩ := idxL_drop hz hd
  obtain ⟨e, he, hq⟩ := hc x z hz h2
  rw [h1, he, Option.bind_some]
  cases e with
  | true => exact .inl rfl
  | false =>
   rw [cond_false]
   rcases chkLoop h0 h1 hc xs (z + 1) (by omega) h3 with h | ⟨h, hQ⟩
   ·exact .inl h
   ·exact .inr ⟨h, fun y hy => by
     rcases List.mem_cons.1 hy with rfl | hy
     ·exact hq rfl
     ·exact hQ y hy⟩
theorem chkList {α : Type} {F : List α → Int → Option (Unit ⊕ Bool)} {Q : α → Prop} {c : α → Int → Option Bool} (b : List α) (h0 : ∀ z, F [] z = some (.inl ()))
  (h1 : ∀ x xs z, F (x :: xs) z = (c x z).bind fun e => bif e then some (.inr false) else F xs (z + 1)) (hc : ∀ x z, 0 ≤ z → idxL b z = some x → ∃ e, c x z = some e ∧ (e = false → Q x)) :
  F b 0 = some (.inr false) ∨ (F b 0 = some (.inl ()) ∧ ∀ x ∈ b, Q x) := chkLoop h0 h1 hc b 0 (Int.le_refl _) rfl
theorem idxL_lt_len {α : Type} {l : List α} {z : Int} {x : α} (h : idxL l z = some x) : z < l.length ∧ x ∈ l := by
 have h1 := idxL_spec h
 have h2 := idxL_lt h
 exact ⟨by omega, List.mem_of_getElem? h1.2⟩
theorem idxL_prev {α : Type} {l : List α} {z : Int} {x : α} (h : idxL l z = some x) (h0 : 0 < z) : ∃ y, idxL l (z - 1) = some y := by
 obtain ⟨y, hy, _⟩ := idxL_some (l := l) (z := z - 1) (by omega) (by have := (idxL_lt_len h).1; omega)
 exact ⟨y, hy⟩
def sC (b : List TStep) (x : TStep) (z : Int) : Option Bool :=
 (s_l01In x.At 0 60).bind fun v12 => (bif (!v12) then some true else (s_l01In x.Capacity 0 20).bind fun v15 => (bif (!v15) then some true else (bif (decide (0 < z)) then (idxL b (z - 1)).bind fun v18 => some (decide (x.At ≤ v18.At)) else some false)))
theorem s_StepsOk_chk (b : List TStep) : s_StepsOk_L1 b b 0 = some (.inr false) ∨ (s_StepsOk_L1 b b 0 = some (.inl ()) ∧ ∀ x ∈ b, (0 ≤ x.At ∧ x.At ≤ 60) ∧ 0 ≤ x.Capacity ∧ x.Capacity ≤ 20) := by
 refine chkList (F := s_StepsOk_L1 b) (c := sC b) b (fun _ => rfl) (fun x xs z => ?_) (fun x z hz hx => ?_)
 ·simp only [s_StepsOk_L1, sC, s_l01In_eq, Option.bind_some]
 ·simp only [sC, s_l01In_eq, Option.bind_some]
  by_cases h1 : inR x.At 0 60 = true
  ·by_cases h2 : inR x.Capacity 0 20 = true
   ·rw [h1, h2]
    simp only [Bool.not_true, cond_false, Option.bind_some]
    have hq := (⟨inR_iff.1 h1, inR_iff.1 h2⟩ : (0 ≤ x.At ∧ x.At ≤ 60) ∧ 0 ≤ x.Capacity ∧ x.Capacity ≤ 20)
    by_cases h0 : 0 < z
    ·obtain ⟨y, hy⟩ := idxL_prev hx h0
     rw [show decide (0 < z) = true by simpa using h0, cond_true, hy]
     exact ⟨_, rfl, fun _ => hq⟩
    ·rw [show decide (0 < z) = false by simpa using h0, cond_false]
     exact ⟨_, rfl, fun _ => hq⟩
   ·rw [h1, show inR x.Capacity 0 20 = false by simpa using h2]
    exact ⟨true, rfl, fun h => by cases h⟩
  ·rw [show inR x.At 0 60 = false by simpa using h1]
   exact ⟨true, rfl, fun h => by cases h⟩
theorem s_StepsOk_ok (b : List TStep) : ∃ v, s_StepsOk b = some v ∧ (v = true → b ≠ [] ∧ ∀ x ∈ b, (0 ≤ x.At ∧ x.At ≤ 60) ∧ 0 ≤ x.Capacity ∧ x.Capacity ≤ 20) := by
 rcases s_StepsOk_chk b with h | ⟨h, hQ⟩
 ·exact ⟨false, by simp only [s_StepsOk, h, sumBind, Option.bind_some, Sum.elim_inr], fun h => by cases h⟩
 ·simp only [s_StepsOk, h, sumBind, Option.bind_some, Sum.elim_inl, s_l01In_eq]
  cases hl : inR (b.length : Int) 1 8 with
  | false => exact ⟨false, rfl, fun h => by cases h⟩
  | true =>
   have := inR_iff.1 hl
   obtain ⟨x, hx, _⟩ := idxL_some (l := b) (z := 0) (Int.le_refl _) (by omega)
   rw [cond_true, hx]
   exact ⟨_, rfl, fun _ => ⟨fun e => by subst e; simp at this, hQ⟩⟩
theorem StepsOk_L1 (b : List TStep) : ∀ (xs : List TStep) (z : Int), 0 < z → i_StepsOk_L1 b xs z = s_StepsOk_L1 b xs z
 | [], z, _ => rfl
 | x :: xs, z, hz => by
  have h0 : (z == 0) = false := by simp; omega
  simp only [i_StepsOk_L1, s_StepsOk_L1, i_isTime_eq, i_isAmount_eq, s_l01In_eq, h0, cond_false, StepsOk_L1 b xs (z + 1) (by omega)]
theorem StepsOk_eq (b : List TStep) : i_StepsOk b = s_StepsOk b := by
 have hs := s_StepsOk_chk b
 match b with
 | [] => rfl
 | x :: xs =>
  have hi0 : idxL (x :: xs) 0 = some x := rfl
  by_cases hA : x.At = 0
  ·have e : i_StepsOk_L1 (x :: xs) (x :: xs) 0 = s_StepsOk_L1 (x :: xs) (x :: xs) 0 := by
    have h1 : (x.At != 0) = false := by simp [hA]
    simp only [i_StepsOk_L1, s_StepsOk_L1, i_isTime_eq, i_isAmount_eq, s_l01In_eq, h1, StepsOk_L1 (x :: xs) xs (0 + 1) (by omega)]
    rfl
   simp only [i_StepsOk, s_StepsOk, e, i_within_eq, s_l01In_eq, hi0, Option.bind_some, hA]
   congr 1
   funext _
   cases inR ((x :: xs).length : Int) 1 8 <;> rfl
  ·have h1 : (x.At != 0) = true := by simp [hA]
   have h2 : (x.At == 0) = false := by simp [hA]
   have e : i_StepsOk_L1 (x :: xs) (x :: xs) 0 = some (.inr false) := by
    simp only [i_StepsOk_L1, i_isTime_eq, i_isAmount_eq, Option.bind_some, h1]
    cases inR x.At 0 60 <;> cases inR x.Capacity 0 20 <;> rfl
   have hi : i_StepsOk (x :: xs) = some false := by simp only [i_StepsOk, e, sumBind, Option.bind_some, Sum.elim_inr]
   rw [hi]
   rcases hs with h | ⟨h, _⟩
   ·simp only [s_StepsOk, h, sumBind, Option.bind_some, Sum.elim_inr]
   ·simp only [s_StepsOk, h, sumBind, Option.bind_some, Sum.elim_inl, s_l01In_eq, hi0, h2]
    cases inR ((x :: xs).length : Int) 1 8 <;> rfl
theorem ResourceOk_eq (r : TResource) : i_ResourceOk r = s_ResourceOk r := by simp only [i_ResourceOk, s_ResourceOk, ResourceOk_L1, StepsOk_eq]
def ResF (r : TResource) : Prop := (∀ x ∈ r.Steps, (0 ≤ x.At ∧ x.At ≤ 60) ∧ 0 ≤ x.Capacity ∧ x.Capacity ≤ 20) ∧ s_StepsOk r.Steps = some true ∧ (r.Setup.length = 0 ∨ r.Setup.length = 4) ∧ ∀ row ∈ r.Setup, row.length = 4 ∧ ∀ n ∈ row, 0 ≤ n ∧ n ≤ 12
theorem s_ResourceOk_L2_ok (b : List Int) : s_ResourceOk_L2 b 0 = some (.inr false) ∨ (s_ResourceOk_L2 b 0 = some (.inl ()) ∧ ∀ n ∈ b, 0 ≤ n ∧ n ≤ 12) :=
 chkList (F := s_ResourceOk_L2) (c := fun x _ => some (!inR x 0 12)) b (fun _ => rfl) (fun x xs z => by simp only [s_ResourceOk_L2, s_l01In_eq, Option.bind_some]) (fun x z _ _ => ⟨_, rfl, fun h => inR_iff.1 (by simpa using h)⟩)
theorem s_ResourceOk_L1_ok (b : List (List Int)) : s_ResourceOk_L1 b 0 = some (.inr false) ∨ (s_ResourceOk_L1 b 0 = some (.inl ()) ∧ ∀ row ∈ b, row.length = 4 ∧ ∀ n ∈ row, 0 ≤ n ∧ n ≤ 12) := by
 have key : ∀ row : List Int, ∃ e, (∀ xs z, s_ResourceOk_L1 (row :: xs) z = bif e then some (.inr false) else s_ResourceOk_L1 xs (z + 1)) ∧ (e = false → row.length = 4 ∧ ∀ n ∈ row, 0 ≤ n ∧ n ≤ 12) := by
  intro row
  by_cases hl : row.length = 4
  ·have e : ((row.length : Int) != 4) = false := by simp [hl]
   rcases s_ResourceOk_L2_ok row with h | ⟨h, hQ⟩
   ·exact ⟨true, fun xs z => by simp only [s_ResourceOk_L1, e, cond_false, h, sumBind, Option.bind_some, Sum.elim_inr, cond_true], fun h => by cases h⟩
   ·exact ⟨false, fun xs z => by simp only [s_ResourceOk_L1, e, cond_false, h, sumBind, Option.bind_some, Sum.elim_inl], fun _ => ⟨hl, hQ⟩⟩
  ·have e : ((row.length : Int) != 4) = true := by simp; omega
   exact ⟨true, fun xs z => by simp only [s_ResourceOk_L1, e, cond_true], fun h => by cases h⟩
 exact chkList (F := s_ResourceOk_L1) (c := fun row _ => some (Classical.choose (key row))) b (fun _ => rfl) (fun x xs z => (Classical.choose_spec (key x)).1 xs z) (fun x z _ _ => ⟨_, rfl, (Classical.choose_spec (key x)).2⟩)
theorem s_ResourceOk_ok (r : TResource) : ∃ v, s_ResourceOk r = some v ∧ (v = true → ResF r) := by
 rcases s_ResourceOk_L1_ok r.Setup with h | ⟨h, hQ⟩
 ·exact ⟨false, by simp only [s_ResourceOk, h, sumBind, Option.bind_some, Sum.elim_inr], fun h => by cases h⟩
 ·obtain ⟨v, hv, hf⟩ := s_StepsOk_ok r.Steps
  simp only [s_ResourceOk, h, sumBind, Option.bind_some, Sum.elim_inl, hv]
  cases v with
  | false => exact ⟨false, rfl, fun h => by cases h⟩
  | true =>
   refine ⟨_, by simp only [cond_true, cond_some, Option.bind_some]; rfl, fun he => ⟨(hf rfl).2, hv, ?_, hQ⟩⟩
   by_cases h0 : r.Setup.length = 0
   ·exact .inl h0
   ·right
    rw [show ((r.Setup.length : Int) == 0) = false by rw [int_beq]; exact decide_eq_false (by omega), cond_false, int_beq] at he
    have := of_decide_eq_true he
    omega
def ModeF (m : TMode) (a b : Int) : Prop := (1 ≤ m.Duration ∧ m.Duration ≤ 12) ∧ ((m.Usage.length : Int) = a ∧ ∀ n ∈ m.Usage, 0 ≤ n ∧ n ≤ 20) ∧ ((m.Consumption.length : Int) = b ∧ ∀ n ∈ m.Consumption, 0 ≤ n ∧ n ≤ 20)
theorem s_l04Nums_ok (l : List Int) (n : Int) : ∃ v, s_l04Nums l n = some v ∧ (v = true → (l.length : Int) = n ∧ ∀ k ∈ l, 0 ≤ k ∧ k ≤ 20) := by
 rcases chkList (F := s_l04Nums_L1) (c := fun x _ => some (!inR x 0 20)) (Q := fun k => 0 ≤ k ∧ k ≤ 20) l (fun _ => rfl) (fun x xs z => by simp only [s_l04Nums_L1, s_l01In_eq, Option.bind_some]) (fun x z _ _ => ⟨_, rfl, fun h => inR_iff.1 (by simpa using h)⟩) with h | ⟨h, hQ⟩
 ·exact ⟨false, by simp only [s_l04Nums, h, sumBind, Option.bind_some, Sum.elim_inr], fun h => by cases h⟩
 ·exact ⟨_, by simp only [s_l04Nums, h, sumBind, Option.bind_some, Sum.elim_inl]; rfl, fun he => ⟨by simpa using he, hQ⟩⟩
theorem s_ModeOk_ok (m : TMode) (a b : Int) : ∃ v, s_ModeOk m a b = some v ∧ (v = true → ModeF m a b) := by
 obtain ⟨u, hu, fu⟩ := s_l04Nums_ok m.Usage a
 obtain ⟨k, hk, fk⟩ := s_l04Nums_ok m.Consumption b
 simp only [s_ModeOk, s_l01In_eq, Option.bind_some, hu, hk]
 cases hd : inR m.Duration 1 12 with
 | false => exact ⟨false, rfl, fun h => by cases h⟩
 | true => cases u with
  | false => exact ⟨false, rfl, fun h => by cases h⟩
  | true => cases k with
   | false => exact ⟨false, rfl, fun h => by cases h⟩
   | true => exact ⟨true, rfl, fun _ => ⟨inR_iff.1 hd, fu rfl, fk rfl⟩⟩
theorem cond_two {α : Type} {c : Bool} {x y : α} {P : α → Prop} (hx : P x) (hy : P y) : P (bif c then x else y) := by cases c <;> assumption
theorem idxS_some {s : ByteArray} {z : Int} (h0 : 0 ≤ z) (h : z < s.size) : ∃ v, idxS s z = some v := by
 have hlt : z.toNat < s.size := by omega
 exact ⟨_, by unfold idxS; rw [if_pos h0, getElem?_pos s z.toNat hlt]; rfl⟩
theorem s_IsName_L1_ok (s : ByteArray) (hs : s.size ≤ 9223372036854775807) : ∀ (n : Nat) (a : Int), 0 ≤ a → a ≤ s.size → (s.size : Int) < a + n → s_IsName_L1 s n a = some (.inr false) ∨ s_IsName_L1 s n a = some (.inl ())
 | 0, a, h0, h1, h2 => by omega
 | n + 1, a, h0, h1, h2 => by
  by_cases hlt : a < s.size
  ·obtain ⟨v, hv⟩ := idxS_some h0 hlt
   have ih := s_IsName_L1_ok s hs n (a + 1) (by omega) (by omega) (by omega)
   rw [← W_of (n := a + 1) (by omega)] at ih
   simp only [s_IsName_L1, show decide (a < (s.size : Int)) = true by simpa using hlt, cond_true, hv, Option.bind_some, cond_some]
   exact cond_two (P := fun (o : Option (Unit ⊕ Bool)) => o = some (.inr false) ∨ o = some (.inl ())) (.inl rfl) ih
  ·right
   simp only [s_IsName_L1, show decide (a < (s.size : Int)) = false by simpa using hlt, cond_false]
theorem s_IsName_ok (s : ByteArray) (hs : s.size ≤ 9223372036854775807) : ∃ v, s_IsName s = some v := by
 rcases s_IsName_L1_ok s hs F0 0 (Int.le_refl _) (by omega) (by have := F0_gt; omega) with h | h
 ·exact ⟨false, by simp only [s_IsName, h, sumBind, Option.bind_some, Sum.elim_inr]⟩
 ·exact ⟨_, by simp only [s_IsName, h, sumBind, Option.bind_some, Sum.elim_inl, s_l01In_eq]; rfl⟩
def ActF (x : TActivity) (a b : Int) : Prop := (0 ≤ x.Family ∧ x.Family ≤ 3) ∧ (1 ≤ x.Modes.length ∧ x.Modes.length ≤ 3) ∧ ∀ m ∈ x.Modes, ModeF m a b
theorem s_ActivityOk_ok (x : TActivity) (a b : Int) (hs : x.Name.size ≤ 9223372036854775807) : ∃ v, s_ActivityOk x a b = some v ∧ (v = true → ActF x a b) := by
 rcases chkList (F := s_ActivityOk_L1 a b) (c := fun m _ => (s_ModeOk m a b).bind fun v => some (!v)) (Q := fun m => ModeF m a b) x.Modes (fun _ => rfl) (fun m xs z => by
   simp only [s_ActivityOk_L1]
   cases s_ModeOk m a b <;> rfl) (fun m z _ _ => by
   obtain ⟨v, hv, hf⟩ := s_ModeOk_ok m a b
   rw [hv]
   exact ⟨_, rfl, fun h => hf (by simpa using h)⟩) with h | ⟨h, hQ⟩
 ·exact ⟨false, by simp only [s_ActivityOk, h, sumBind, Option.bind_some, Sum.elim_inr], fun h => by cases h⟩
 ·obtain ⟨v, hv⟩ := s_IsName_ok x.Name hs
  simp only [s_ActivityOk, h, sumBind, Option.bind_some, Sum.elim_inl, hv, s_l01In_eq]
  cases v with
  | false => exact ⟨false, rfl, fun h => by cases h⟩
  | true =>
   cases hf : inR x.Family 0 3 with
   | false => exact ⟨false, rfl, fun h => by cases h⟩
   | true => exact ⟨_, rfl, fun he => ⟨inR_iff.1 hf, by have := inR_iff.1 he; omega, hQ⟩⟩
theorem s_ActivityIndex_ok (p : TProject) (nm : ByteArray) : ∃ v, s_ActivityIndex p nm = some v := by
 have : ∀ (xs : List TActivity) (z : Int), ∃ o, s_ActivityIndex_L1 nm xs z = some o := by
  intro xs
  induction xs with
  | nil => exact fun z => ⟨_, rfl⟩
  | cons x xs ih =>
   intro z
   obtain ⟨o, ho⟩ := ih (z + 1)
   exact ⟨_, by rw [s_ActivityIndex_L1, ho, cond_some]⟩
 obtain ⟨o, ho⟩ := this p.Activities 0
 cases o with
 | inl u => exact ⟨_, by simp only [s_ActivityIndex, ho, sumBind, Option.bind_some, Sum.elim_inl]; rfl⟩
 | inr u => exact ⟨_, by simp only [s_ActivityIndex, ho, sumBind, Option.bind_some, Sum.elim_inr]; rfl⟩
theorem linkOk_c (p : TProject) (k : TLink) : i_ProjectOk_c1 k p = some (!(inR k.From 0 (W ((p.Activities.length : Int) - 1)) && (inR k.To 0 (W ((p.Activities.length : Int) - 1)) && (k.From != k.To && inR k.Lag (-60) 60)))) := by
 simp only [i_ProjectOk_c1, i_Project_linkOk, hasActivity_eq, i_within_eq, Option.bind_some, cond_some, cond_and]
theorem linkOk_s (p : TProject) (k : TLink) : ((s_l01In k.From 0 (W ((p.Activities.length : Int) - 1))).bind fun v68 => (bif (!v68) then some true else (s_l01In k.To 0 (W ((p.Activities.length : Int) - 1))).bind fun v71 => (bif (!v71) then some true else (bif (k.From == k.To) then some true else (s_l01In k.Lag (-60) 60).bind fun v74 => some (!v74))))) = i_ProjectOk_c1 k p := by
 rw [linkOk_c]
 simp only [s_l01In_eq, Option.bind_some, cond_some, int_beq, int_bne]
 cases inR k.From 0 (W ((p.Activities.length : Int) - 1)) <;> cases inR k.To 0 (W ((p.Activities.length : Int) - 1)) <;> cases inR k.Lag (-60) 60 <;> cases decide (k.From = k.To) <;> rfl
theorem links_eq (p : TProject) : ∀ (xs : List TLink) (z : Int), 0 ≤ z → ∃ o, slices_IndexFunc_Link_L1 (fun x => i_ProjectOk_c1 x p) xs z = some o ∧ ((o = .inl () ∧ s_ProjectOk_L4 p xs z = some (.inl ())) ∨ ∃ k, o = .inr k ∧ 0 ≤ k ∧ s_ProjectOk_L4 p xs z = some (.inr false))
 | [], z, hz => ⟨.inl (), rfl, .inl ⟨rfl, rfl⟩⟩
 | x :: xs, z, hz => by
  obtain ⟨o, ho, hc⟩ := links_eq p xs (z + 1) (by omega)
  have e1 : s_ProjectOk_L4 p (x :: xs) z = (i_ProjectOk_c1 x p).bind fun e => bif e then some (.inr false) else s_ProjectOk_L4 p xs (z + 1) := by
   rw [← linkOk_s]
   simp only [s_ProjectOk_L4, s_l01In_eq, Option.bind_some]
  have e2 : slices_IndexFunc_Link_L1 (fun x => i_ProjectOk_c1 x p) (x :: xs) z = (i_ProjectOk_c1 x p).bind fun e => bif e then some (.inr z) else slices_IndexFunc_Link_L1 (fun x => i_ProjectOk_c1 x p) xs (z + 1) := rfl
  rw [e1, e2, linkOk_c, Option.bind_some, Option.bind_some]
  cases hb : (!(inR x.From 0 (W ((p.Activities.length : Int) - 1)) && (inR x.To 0 (W ((p.Activities.length : Int) - 1)) && (x.From != x.To && inR x.Lag (-60) 60)))) with
  | true => exact ⟨_, rfl, .inr ⟨z, rfl, hz, rfl⟩⟩
  | false => exact ⟨o, ho, hc⟩
theorem ProjectOk_L1 (p : TProject) : ∀ (xs : List TActivity) (z : Int), i_ProjectOk_L1 p xs z = s_ProjectOk_L1 p xs z
 | [], z => rfl
 | x :: xs, z => by simp only [i_ProjectOk_L1, s_ProjectOk_L1, ActivityOk_eq, ActivityIndex_eq, ProjectOk_L1 p xs]
theorem ProjectOk_L2 : ∀ (xs : List TResource) (z : Int), i_ProjectOk_L2 xs z = s_ProjectOk_L2 xs z
 | [], z => rfl
 | x :: xs, z => by simp only [i_ProjectOk_L2, s_ProjectOk_L2, ResourceOk_eq, ProjectOk_L2 xs]
theorem ProjectOk_L3 : ∀ (xs : List Int) (z : Int), i_ProjectOk_L3 xs z = s_ProjectOk_L3 xs z
 | [], z => rfl
 | x :: xs, z => by simp only [i_ProjectOk_L3, s_ProjectOk_L3, i_within_eq, s_l01In_eq, ProjectOk_L3 xs]
theorem ProjectOk_eq (p : TProject) : i_ProjectOk p = s_ProjectOk p := by
 obtain ⟨o, ho, hc⟩ := links_eq p p.Links 0 (Int.le_refl _)
 have e : (slices_ContainsFunc_Link p.Links (fun x => i_ProjectOk_c1 x p)).bind (fun v => some (!v)) = sumBind (s_ProjectOk_L4 p p.Links 0) (fun q => some q) fun _ => some true := by
  rcases hc with ⟨rfl, h2⟩ | ⟨k, rfl, hk, h2⟩
  ·simp only [slices_ContainsFunc_Link, slices_IndexFunc_Link, ho, h2, sumBind, Option.bind_some, Sum.elim_inl]; rfl
  ·simp only [slices_ContainsFunc_Link, slices_IndexFunc_Link, ho, h2, sumBind, Option.bind_some, Sum.elim_inr]
   simp [hk]
 simp only [i_ProjectOk, s_ProjectOk, ProjectOk_L1, ProjectOk_L2, ProjectOk_L3, i_within_eq, s_l01In_eq, e]
structure ProjF (p : TProject) : Prop where
 deadline : 1 ≤ p.Deadline ∧ p.Deadline ≤ 60
 nact : 1 ≤ p.Activities.length ∧ p.Activities.length ≤ 6
 nres : p.Resources.length ≤ 3
 nstk : p.Stocks.length ≤ 2
 nlnk : p.Links.length ≤ 12
 acts : ∀ x ∈ p.Activities, ActF x p.Resources.length p.Stocks.length
 ress : ∀ r ∈ p.Resources, ResF r
 stks : ∀ n ∈ p.Stocks, 0 ≤ n ∧ n ≤ 100
 lnks : ∀ k ∈ p.Links, (0 ≤ k.From ∧ k.From < p.Activities.length) ∧ (0 ≤ k.To ∧ k.To < p.Activities.length) ∧ k.From ≠ k.To ∧ -60 ≤ k.Lag ∧ k.Lag ≤ 60
theorem s_ProjectOk_ok (p : TProject) (hs : ∀ x ∈ p.Activities, x.Name.size ≤ 9223372036854775807) : ∃ v, s_ProjectOk p = some v ∧ (v = true → ProjF p) := by
 simp only [s_ProjectOk, s_l01In_eq, Option.bind_some, cond_some]
 cases hd : inR p.Deadline 1 60 with
 | false => exact ⟨false, rfl, fun h => by cases h⟩
 | true =>
 cases ha : inR (p.Activities.length : Int) 1 6 with
 | false => exact ⟨false, rfl, fun h => by cases h⟩
 | true =>
 cases hr : decide (3 < (p.Resources.length : Int)) with
 | true => exact ⟨false, rfl, fun h => by cases h⟩
 | false =>
 cases hk : decide (2 < (p.Stocks.length : Int)) with
 | true => exact ⟨false, rfl, fun h => by cases h⟩
 | false =>
 cases hl : decide (12 < (p.Links.length : Int)) with
 | true => exact ⟨false, rfl, fun h => by cases h⟩
 | false =>
 simp only [Bool.not_true, cond_false]
 have hd := inR_iff.1 hd
 have ha := inR_iff.1 ha
 have hr := of_decide_eq_false hr
 have hk := of_decide_eq_false hk
 have hl := of_decide_eq_false hl
 have k1 : ∀ x, x ∈ p.Activities → ∃ v, s_ActivityOk x p.Resources.length p.Stocks.length = some v ∧ (v = true → ActF x p.Resources.length p.Stocks.length) := fun x hx => s_ActivityOk_ok x _ _ (hs x hx)
 have l1 := chkList (F := s_ProjectOk_L1 p) (Q := fun x => ActF x p.Resources.length p.Stocks.length) (c := fun x z => (s_ActivityOk x p.Resources.length p.Stocks.length).bind fun v20 => (bif (!v20) then some true else (s_ActivityIndex p x.Name).bind fun v23 => some (v23 != z))) p.Activities (fun _ => rfl) (fun x xs z => by
   simp only [s_ProjectOk_L1]
   cases s_ActivityOk x p.Resources.length p.Stocks.length <;> rfl) (fun x z _ hx => by
   obtain ⟨v, hv, hf⟩ := k1 x (idxL_lt_len hx).2
   obtain ⟨u, hu⟩ := s_ActivityIndex_ok p x.Name
   rw [hv, hu]
   cases v with
   | false => exact ⟨true, rfl, fun h => by cases h⟩
   | true => exact ⟨_, rfl, fun _ => hf rfl⟩)
 have l2 := chkList (F := s_ProjectOk_L2) (Q := ResF) (c := fun x _ => (s_ResourceOk x).bind fun v => some (!v)) p.Resources (fun _ => rfl) (fun x xs z => by
   simp only [s_ProjectOk_L2]
   cases s_ResourceOk x <;> rfl) (fun x z _ hx => by
   obtain ⟨v, hv, hf⟩ := s_ResourceOk_ok x
   rw [hv]
   exact ⟨_, rfl, fun h => hf (by simpa using h)⟩)
 have l3 := chkList (F := s_ProjectOk_L3) (Q := fun n => 0 ≤ n ∧ n ≤ 100) (c := fun x _ => some (!inR x 0 100)) p.Stocks (fun _ => rfl) (fun x xs z => by simp only [s_ProjectOk_L3, s_l01In_eq, Option.bind_some]) (fun x z _ _ => ⟨_, rfl, fun h => inR_iff.1 (by simpa using h)⟩)
 have l4 := chkList (F := s_ProjectOk_L4 p) (Q := fun k => (0 ≤ k.From ∧ k.From < p.Activities.length) ∧ (0 ≤ k.To ∧ k.To < p.Activities.length) ∧ k.From ≠ k.To ∧ -60 ≤ k.Lag ∧ k.Lag ≤ 60) (c := fun x _ => i_ProjectOk_c1 x p) p.Links (fun _ => rfl) (fun x xs z => by
   rw [← linkOk_s]
   simp only [s_ProjectOk_L4, s_l01In_eq, Option.bind_some]) (fun x z _ _ => ⟨_, linkOk_c p x, fun h => by
   have h : (inR x.From 0 (W ((p.Activities.length : Int) - 1)) && (inR x.To 0 (W ((p.Activities.length : Int) - 1)) && (x.From != x.To && inR x.Lag (-60) 60))) = true := by simpa using h
   simp only [Bool.and_eq_true] at h
   have h1 := inR_iff.1 h.1
   have h2 := inR_iff.1 h.2.1
   have h4 := inR_iff.1 h.2.2.2
   have h3 : x.From ≠ x.To := by simpa using h.2.2.1
   rw [W_of (by omega)] at h1 h2
   exact ⟨by omega, by omega, h3, h4⟩⟩)
 rcases l1 with h | ⟨h, q1⟩
 ·exact ⟨false, by simp only [h, sumBind, Option.bind_some, Sum.elim_inr], fun h => by cases h⟩
 simp only [h, sumBind, Option.bind_some, Sum.elim_inl]
 rcases l2 with h | ⟨h, q2⟩
 ·exact ⟨false, by simp only [h, Option.bind_some, Sum.elim_inr], fun h => by cases h⟩
 simp only [h, Option.bind_some, Sum.elim_inl]
 rcases l3 with h | ⟨h, q3⟩
 ·exact ⟨false, by simp only [h, Option.bind_some, Sum.elim_inr], fun h => by cases h⟩
 simp only [h, Option.bind_some, Sum.elim_inl]
 rcases l4 with h | ⟨h, q4⟩
 ·exact ⟨false, by simp only [h, Option.bind_some, Sum.elim_inr], fun h => by cases h⟩
 simp only [h, Option.bind_some, Sum.elim_inl]
 exact ⟨true, rfl, fun _ => ⟨hd, by omega, by omega, by omega, by omega, q1, q2, q3, q4⟩⟩
theorem names_of {p : TProject} {M : Nat} (h : bTProject M p) (hM : M ≤ 9223372036854775807) : ∀ x ∈ p.Activities, x.Name.size ≤ 9223372036854775807 := by
 unfold bTProject b_l_eTActivity at h
 intro x hx
 have := h.1.2 x hx
 unfold bTActivity b_str at this
 omega
theorem capacityAt_L1 (t : Int) : ∀ (xs : List TStep) (z a : Int), i_capacityAt_L1 t xs z a = s_l03At_L1 t xs z a
 | [], z, a => rfl
 | x :: xs, z, a => by simp only [i_capacityAt_L1, s_l03At_L1, capacityAt_L1 t xs]
theorem capacityAt_eq (b : List TStep) (t : Int) : i_capacityAt b t = s_l03At b t := by simp only [i_capacityAt, s_l03At, capacityAt_L1]
theorem s_l03At_L1_ok (t : Int) : ∀ (xs : List TStep) (z a : Int), (∀ x ∈ xs, 0 ≤ x.Capacity ∧ x.Capacity ≤ 20) → 0 ≤ a ∧ a ≤ 20 → ∃ v, s_l03At_L1 t xs z a = some v ∧ 0 ≤ v ∧ v ≤ 20
 | [], z, a, _, ha => ⟨a, rfl, ha⟩
 | x :: xs, z, a, hx, ha => by
  rw [s_l03At_L1]
  have h1 := s_l03At_L1_ok t xs (z + 1) x.Capacity (fun y hy => hx y (List.mem_cons_of_mem _ hy)) (hx x (List.mem_cons_self ..))
  have h2 := s_l03At_L1_ok t xs (z + 1) a (fun y hy => hx y (List.mem_cons_of_mem _ hy)) ha
  exact cond_two (P := fun (o : Option Int) => ∃ v, o = some v ∧ 0 ≤ v ∧ v ≤ 20) h1 h2
theorem s_l03At_ok (b : List TStep) (t : Int) (hb : ∀ x ∈ b, 0 ≤ x.Capacity ∧ x.Capacity ≤ 20) : ∃ v, s_l03At b t = some v ∧ 0 ≤ v ∧ v ≤ 20 := by
 obtain ⟨v, hv, h⟩ := s_l03At_L1_ok t b 0 0 hb (by omega)
 exact ⟨v, by simp only [s_l03At, hv, Option.bind_some], h⟩
theorem TotalCapacity_L1 (b : List TStep) (y : Int) : ∀ (n : Nat) (a t : Int), i_TotalCapacity_L1 b y n a t = s_TotalCapacity_L1 b y n a t
 | 0, a, t => rfl
 | n + 1, a, t => by simp only [i_TotalCapacity_L1, s_TotalCapacity_L1, capacityAt_eq, TotalCapacity_L1 b y n]
theorem TotalCapacity_eq (b : List TStep) (x y : Int) : i_TotalCapacity b x y = s_TotalCapacity b x y := by
 obtain ⟨v, hv, _⟩ := s_StepsOk_ok b
 simp only [i_TotalCapacity, s_TotalCapacity, s_l03Span, StepsOk_eq, i_isTime_eq, s_l01In_eq, hv, Option.bind_some, TotalCapacity_L1]
 cases v <;> cases inR x 0 60 <;> cases inR y 0 60 <;> rfl
theorem s_TotalCapacity_L1_ok (b : List TStep) (hb : ∀ x ∈ b, 0 ≤ x.Capacity ∧ x.Capacity ≤ 20) (y : Int) (hy : y ≤ 60) : ∀ (n : Nat) (a t : Int), 0 ≤ t → y - t < n → 0 < n → ∃ v, s_TotalCapacity_L1 b y n a t = some v
 | 0, a, t, h0, h1, h2 => by omega
 | n + 1, a, t, h0, h1, h2 => by
  rw [s_TotalCapacity_L1]
  by_cases hlt : t < y
  ·obtain ⟨v, hv, _⟩ := s_l03At_ok b t hb
   rw [show decide (t < y) = true by simpa using hlt, cond_true, hv, Option.bind_some, W_of (n := t + 1) (by omega)]
   exact s_TotalCapacity_L1_ok b hb y hy n _ (t + 1) (by omega) (by omega) (by omega)
  ·rw [show decide (t < y) = false by simpa using hlt]
   exact ⟨a, rfl⟩
theorem s_TotalCapacity_ok (b : List TStep) (x y : Int) : ∃ v, s_TotalCapacity b x y = some v := by
 obtain ⟨v, hv, hf⟩ := s_StepsOk_ok b
 simp only [s_TotalCapacity, s_l03Span, s_l01In_eq, hv, Option.bind_some]
 cases v with
 | false => exact ⟨0, rfl⟩
 | true =>
  cases hx : inR x 0 60 with
  | false => exact ⟨0, rfl⟩
  | true =>
   cases hy : inR y 0 60 with
   | false => exact ⟨0, rfl⟩
   | true =>
    have hx := inR_iff.1 hx
    have hy := inR_iff.1 hy
    obtain ⟨u, hu⟩ := s_TotalCapacity_L1_ok b (fun z hz => ((hf rfl).2 z hz).2) y hy.2 F0 0 x hx.1 (by have := F0_gt; omega) (by have := F0_gt; omega)
    exact ⟨u, by simp only [cond_true, cond_false, Bool.not_true, Option.bind_some, hu]⟩
theorem slices_Index_L1 (n : Int) : ∀ (xs : List Int) (z : Int), 0 ≤ z → (n ∈ xs → ∃ k, slices_Index_int_L1 n xs z = some (.inr k) ∧ 0 ≤ k) ∧ (n ∉ xs → slices_Index_int_L1 n xs z = some (.inl ()))
 | [], z, hz => ⟨fun h => (by cases h), fun _ => rfl⟩
 | x :: xs, z, hz => by
  by_cases hx : n = x
  ·have e : (n == x) = true := by simp [hx]
   exact ⟨fun _ => ⟨z, by simp only [slices_Index_int_L1, e, cond_true], hz⟩, fun h => absurd (by simp [hx]) h⟩
  ·have e : (n == x) = false := by simp [hx]
   have ih := slices_Index_L1 n xs (z + 1) (by omega)
   simp only [slices_Index_int_L1, e, cond_false, List.mem_cons, hx, false_or]
   exact ih
theorem i_SetHas_eq (l : List Int) (n : Int) : i_SetHas l n = some (decide (n ∈ l)) := by
 have h := slices_Index_L1 n l 0 (Int.le_refl _)
 by_cases hn : n ∈ l
 ·obtain ⟨k, hk, h0⟩ := h.1 hn
  simp [i_SetHas, slices_Contains_int, slices_Index_int, hk, sumBind, h0, hn]
 ·simp [i_SetHas, slices_Contains_int, slices_Index_int, h.2 hn, sumBind, hn]
theorem s_SetHas_L1_eq (n : Int) : ∀ (xs : List Int) (z : Int), s_SetHas_L1 n xs z = some (if n ∈ xs then .inr true else .inl ())
 | [], z => rfl
 | x :: xs, z => by
  rw [s_SetHas_L1, s_SetHas_L1_eq n xs, int_beq]
  by_cases hx : x = n
  ·simp [hx]
  ·have : n ≠ x := fun e => hx e.symm
   simp [hx, this]
theorem s_SetHas_eq (l : List Int) (n : Int) : s_SetHas l n = some (decide (n ∈ l)) := by
 simp only [s_SetHas, s_SetHas_L1_eq, sumBind, Option.bind_some]
 by_cases hn : n ∈ l <;> simp [hn]
theorem IntRange_L1 (b : Int) : ∀ (n : Nat) (a : Int) (l : List Int), i_IntRange_L1 b n a l = s_IntRange_L1 b n a l
 | 0, a, l => rfl
 | n + 1, a, l => by simp only [i_IntRange_L1, s_IntRange_L1, IntRange_L1 b n]
theorem IntRange_eq (b : Int) : i_IntRange b = s_IntRange b := by simp only [i_IntRange, s_IntRange, i_within_eq, s_l01In_eq, IntRange_L1]
def rangeI (n : Nat) : List Int := (List.range n).map fun (i : Nat) => (i : Int)
theorem s_IntRange_L1_ok (m : Nat) (hm : m ≤ 200) : ∀ (n : Nat) (k : Nat), k ≤ m → m - k < n → s_IntRange_L1 m n k (rangeI k) = some (rangeI m)
 | 0, k, h0, h1 => by omega
 | n + 1, k, h0, h1 => by
  rw [s_IntRange_L1]
  by_cases hlt : k < m
  ·have e : rangeI k ++ [(k : Int)] = rangeI (k + 1) := by simp [rangeI, List.range_succ]
   have ha : appL (rangeI k) [(k : Int)] = some (rangeI (k + 1)) := by
    unfold appL
    rw [if_pos (by simp [rangeI]; omega), e]
   rw [show decide ((k : Int) < (m : Int)) = true by simpa using hlt, cond_true, ha, Option.bind_some, W_of (n := (k : Int) + 1) (by omega)]
   exact s_IntRange_L1_ok m hm n (k + 1) (by omega) (by omega)
  ·rw [show decide ((k : Int) < (m : Int)) = false by simpa using hlt, show k = m by omega]; rfl
theorem s_IntRange_eq (n : Nat) (hn : n ≤ 200) : s_IntRange n = some (rangeI n) := by
 have := s_IntRange_L1_ok n hn F0 0 (by omega) (by have := F0_gt; omega)
 have e : (rangeI 0 : List Int) = [] := rfl
 rw [e] at this
 simp only [s_IntRange, s_l01In_eq, show inR (n : Int) 0 200 = true from inR_iff.2 (by omega), Option.bind_some, Bool.not_true, cond_false]
 rw [show (0 : Int) = ((0 : Nat) : Int) from rfl, this]; rfl
theorem s_ModeIndexes_eq (x : TActivity) (h : x.Modes.length ≤ 200) : s_ModeIndexes x = some (rangeI x.Modes.length) := by simp only [s_ModeIndexes, s_IntRange_eq _ h, Option.bind_some]
theorem ModeIndexes_eq (x : TActivity) : i_ModeIndexes x = s_ModeIndexes x := by simp only [i_ModeIndexes, s_ModeIndexes, IntRange_eq]
def chosenF (ms : List Int) : List TMode → Int → List TMode
 | [], _ => []
 | x :: xs, z => if z ∈ ms then x :: chosenF ms xs (z + 1) else chosenF ms xs (z + 1)
theorem chosenF_mem (ms : List Int) : ∀ (xs : List TMode) (z : Int) (m : TMode), m ∈ chosenF ms xs z → m ∈ xs
 | [], z, m, h => by cases h
 | x :: xs, z, m, h => by
  unfold chosenF at h
  split at h
  ·rcases List.mem_cons.1 h with rfl | h
   ·exact List.mem_cons_self ..
   ·exact List.mem_cons_of_mem _ (chosenF_mem ms xs (z + 1) m h)
  ·exact List.mem_cons_of_mem _ (chosenF_mem ms xs (z + 1) m h)
theorem i_chosen_L1_eq (ms : List Int) : ∀ (xs : List TMode) (z : Int) (acc : List TMode), acc.length + xs.length ≤ 1048576 → i_chosen_L1 ms xs z acc = some (acc ++ chosenF ms xs z)
 | [], z, acc, _ => by simp [i_chosen_L1, chosenF]
 | x :: xs, z, acc, h => by
  simp at h
  rw [i_chosen_L1, i_SetHas_eq, Option.bind_some]
  by_cases hz : z ∈ ms
  ·have ha : appL acc [x] = some (acc ++ [x]) := by unfold appL; rw [if_pos (by simp; omega)]
   rw [show decide (z ∈ ms) = true by simpa using hz, cond_true, ha, Option.bind_some, i_chosen_L1_eq ms xs (z + 1) _ (by simp; omega)]
   simp [chosenF, hz]
  ·rw [show decide (z ∈ ms) = false by simpa using hz, cond_false, i_chosen_L1_eq ms xs (z + 1) _ (by omega)]
   simp [chosenF, hz]
theorem i_chosen_eq (x : TActivity) (ms : List Int) (h : x.Modes.length ≤ 1048576) : i_chosen x ms = some (chosenF ms x.Modes 0) := by
 simp only [i_chosen, i_chosen_L1_eq ms x.Modes 0 [] (by simpa using h), Option.bind_some, List.nil_append]
def leastF (f : TMode → Int) : List TMode → Int → Bool → Int
 | [], a, _ => a
 | x :: xs, a, has => bif (!has || decide (f x < a)) then leastF f xs (f x) true else leastF f xs a has
theorem s_MinDuration_L1_eq (ms : List Int) : ∀ (xs : List TMode) (z a : Int) (has : Bool), s_MinDuration_L1 ms xs z a has = some (leastF TMode.Duration (chosenF ms xs z) a has)
 | [], z, a, has => rfl
 | x :: xs, z, a, has => by
  rw [s_MinDuration_L1, s_SetHas_eq, Option.bind_some, s_MinDuration_L1_eq ms xs, s_MinDuration_L1_eq ms xs]
  by_cases hz : z ∈ ms
  ·simp only [hz, decide_true, cond_true, cond_some, cond_or, Option.bind_some, chosenF, if_true, leastF]
  ·simp only [hz, decide_false, cond_false, cond_some, Option.bind_some, chosenF, if_false]
theorem s_MinDuration_eq (x : TActivity) (ms : List Int) : s_MinDuration x ms = some (leastF TMode.Duration (chosenF ms x.Modes 0) 0 false) := by
 simp only [s_MinDuration, s_MinDuration_L1_eq, Option.bind_some]
theorem i_MinDuration_L1_eq : ∀ (xs : List TMode) (z a : Int), 0 < z → i_MinDuration_L1 xs z a = some (leastF TMode.Duration xs a true)
 | [], z, a, _ => rfl
 | x :: xs, z, a, hz => by
  rw [i_MinDuration_L1, i_MinDuration_L1_eq xs (z + 1) _ (by omega), i_MinDuration_L1_eq xs (z + 1) _ (by omega), show (z == 0) = false by rw [int_beq]; exact decide_eq_false (by omega)]
  simp only [cond_false, Option.bind_some, cond_some, leastF, Bool.not_true, Bool.false_or]
theorem i_MinDuration_eq (x : TActivity) (ms : List Int) (h : x.Modes.length ≤ 1048576) : i_MinDuration x ms = s_MinDuration x ms := by
 rw [s_MinDuration_eq]
 simp only [i_MinDuration, i_chosen_eq x ms h, Option.bind_some]
 match chosenF ms x.Modes 0 with
 | [] => rfl
 | y :: ys =>
  simp only [i_MinDuration_L1, i_MinDuration_L1_eq ys (0 + 1) _ (by omega)]
  simp [leastF]
def eltO (l : List Int) (k : Int) : Option Int := bif inR k 0 (W ((l.length : Int) - 1)) then idxL l k else none
theorem i_element_eq (l : List Int) (k : Int) : i_element l k = some (match eltO l k with | some v => (v, true) | none => (0, false)) := by
 simp only [i_element, i_within_eq, Option.bind_some, eltO]
 cases h : inR k 0 (W ((l.length : Int) - 1)) with
 | false => rfl
 | true =>
  obtain ⟨x, hx, _⟩ := idx_of_inR h
  simp [hx]
def leastO (f : TMode → Option Int) : List TMode → Int → Bool → Int ⊕ Int
 | [], a, _ => .inl a
 | x :: xs, a, has => match f x with
  | none => .inr 0
  | some v => bif (!has || decide (v < a)) then leastO f xs v true else leastO f xs a true
def amtO (k : Int) (cons work : Bool) (x : TMode) : Option Int := (eltO (bif cons then x.Consumption else x.Usage) k).map fun v => bif work then W (v * x.Duration) else v
theorem s_l04Least_L1_eq (ms : List Int) (k : Int) (b3 b4 : Bool) : ∀ (xs : List TMode) (z a : Int) (has : Bool), s_l04Least_L1 ms k b3 b4 xs z a has = some (leastO (amtO k b3 b4) (chosenF ms xs z) a has)
 | [], z, a, has => rfl
 | x :: xs, z, a, has => by
  rw [s_l04Least_L1, s_SetHas_eq, Option.bind_some]
  by_cases hz : z ∈ ms
  ·simp only [hz, decide_true, Bool.not_true, cond_false, cond_some, Option.bind_some, s_l01In_eq, chosenF, if_true, leastO, amtO, eltO, s_l04Least_L1_eq ms k b3 b4 xs]
   cases h : inR k 0 (W (((bif b3 then x.Consumption else x.Usage).length : Int) - 1)) with
   | false => rfl
   | true =>
    obtain ⟨v, hv, _⟩ := idx_of_inR h
    simp only [hv, Bool.not_true, cond_false, cond_true, Option.bind_some, Option.map_some]
    cases has <;> simp only [Bool.not_false, Bool.not_true, cond_true, cond_false, Bool.true_or, Bool.false_or, Option.bind_some] <;> first | rfl | exact cond_some _ _ _
  ·simp only [hz, decide_false, Bool.not_false, cond_true, chosenF, if_false, s_l04Least_L1_eq ms k b3 b4 xs]
theorem s_l04Least_eq (x : TActivity) (ms : List Int) (k : Int) (b3 b4 : Bool) : s_l04Least x ms k b3 b4 = some (Sum.elim id id (leastO (amtO k b3 b4) (chosenF ms x.Modes 0) 0 false)) := by
 simp only [s_l04Least, s_l04Least_L1_eq, sumBind, Option.bind_some]
 cases leastO (amtO k b3 b4) (chosenF ms x.Modes 0) 0 false <;> rfl
theorem i_leastOf_L1_eq {g : TMode → Option (Int × Bool)} {f : TMode → Option Int} (hg : ∀ x, ∃ w, g x = some (match f x with | some v => (v, true) | none => (w, false))) : ∀ (xs : List TMode) (z a : Int), 0 ≤ z → i_leastOf_L1 g xs z a = some (leastO f xs a (decide (0 < z)))
 | [], z, a, _ => rfl
 | x :: xs, z, a, hz => by
  obtain ⟨w, hw⟩ := hg x
  rw [i_leastOf_L1, hw, Option.bind_some, i_leastOf_L1_eq hg xs (z + 1) _ (by omega), i_leastOf_L1_eq hg xs (z + 1) _ (by omega), leastO]
  cases hf : f x with
  | none => rfl
  | some v =>
   simp only [Bool.not_true, cond_false, cond_some, Option.bind_some, int_beq, show decide (0 < z + 1) = true from decide_eq_true (by omega)]
   by_cases h0 : z = 0
   ·subst h0; rfl
   ·rw [show decide (z = 0) = false by simpa using h0, show decide (0 < z) = true from decide_eq_true (by omega)]
    simp only [cond_false, Bool.not_true, Bool.false_or, Option.bind_some]
theorem i_leastOf_eq {g : TMode → Option (Int × Bool)} {f : TMode → Option Int} (hg : ∀ x, ∃ w, g x = some (match f x with | some v => (v, true) | none => (w, false))) (xs : List TMode) : i_leastOf xs g = some (Sum.elim id id (leastO f xs 0 false)) := by
 simp only [i_leastOf, i_leastOf_L1_eq hg xs 0 0 (Int.le_refl _), sumBind, Option.bind_some]
 rw [show decide ((0 : Int) < 0) = false from rfl]
 cases leastO f xs 0 false <;> rfl
theorem MinWork_eq (x : TActivity) (ms : List Int) (k : Int) (h : x.Modes.length ≤ 1048576) : i_MinWork x ms k = s_MinWork x ms k := by
 simp only [i_MinWork, s_MinWork, s_l04Least_eq, i_chosen_eq x ms h, Option.bind_some]
 rw [i_leastOf_eq (f := amtO k false true)]
 ·rfl
 ·intro m
  refine ⟨W (m.Duration * 0), ?_⟩
  simp only [i_MinWork_c1, i_element_eq, amtO, Option.bind_some, cond_false, cond_true]
  cases eltO m.Usage k with
  | none => rfl
  | some v => simp only [Option.map_some, Int.mul_comm]
def Wk (E : Nat → Nat → Prop) : List Nat → Nat → Nat → Prop
 | [], i, k => E i k
 | x :: l, i, k => E i x ∧ Wk E l x k
theorem Wk.join {E : Nat → Nat → Prop} {m k : Nat} {b : List Nat} (hb : Wk E b m k) : ∀ {a : List Nat} {i : Nat}, Wk E a i m → Wk E (a ++ m :: b) i k
 | [], i, h => ⟨h, hb⟩
 | x :: a, i, h => ⟨h.1, Wk.join hb (a := a) h.2⟩
theorem Wk.left {E : Nat → Nat → Prop} {m k : Nat} {b : List Nat} : ∀ {a : List Nat} {i : Nat}, Wk E (a ++ m :: b) i k → Wk E a i m
 | [], i, h => h.1
 | x :: a, i, h => ⟨h.1, Wk.left (a := a) h.2⟩
theorem Wk.right {E : Nat → Nat → Prop} {m k : Nat} {b : List Nat} : ∀ {a : List Nat} {i : Nat}, Wk E (a ++ m :: b) i k → Wk E b m k
 | [], i, h => h.2
 | x :: a, i, h => Wk.right (a := a) h.2
theorem mem_split {x : Nat} : ∀ {l : List Nat}, x ∈ l → ∃ a b, l = a ++ x :: b
 | y :: l, h => by
  rcases List.mem_cons.1 h with h | h
  ·exact ⟨[], l, by rw [h]; rfl⟩
  ·obtain ⟨a, b, e⟩ := mem_split h
   exact ⟨y :: a, b, by rw [e]; rfl⟩
theorem Wk.short {E : Nat → Nat → Prop} {k : Nat} : ∀ {l : List Nat} {i : Nat}, Wk E l i k → ∃ l', Wk E l' i k ∧ l'.Nodup ∧ ∀ x ∈ l', x ∈ l
 | [], i, h => ⟨[], h, List.nodup_nil, fun x hx => hx⟩
 | y :: l, i, h => by
  obtain ⟨t, h1, h2, h3⟩ := Wk.short (l := l) h.2
  by_cases hy : y ∈ t
  ·obtain ⟨a, b, e⟩ := mem_split hy
   subst e
   refine ⟨y :: b, ⟨h.1, h1.right⟩, (List.nodup_append.1 h2).2.1, fun x hx => ?_⟩
   rcases List.mem_cons.1 hx with hx | hx
   ·rw [hx]; exact List.mem_cons_self ..
   ·exact List.mem_cons_of_mem _ (h3 x (List.mem_append.2 (.inr (List.mem_cons_of_mem _ hx))))
  ·exact ⟨y :: t, ⟨h.1, h1⟩, List.nodup_cons.2 ⟨hy, h2⟩, fun x hx => by
    rcases List.mem_cons.1 hx with hx | hx
    ·rw [hx]; exact List.mem_cons_self ..
    ·exact List.mem_cons_of_mem _ (h3 x hx)⟩
theorem nodup_below : ∀ (m : Nat) (l : List Nat), l.Nodup → (∀ x ∈ l, x < m) → l.length ≤ m
 | 0, [], _, _ => Nat.le_refl _
 | 0, x :: l, _, h => absurd (h x (List.mem_cons_self ..)) (by omega)
 | m + 1, l, hn, h => by
  by_cases hm : m ∈ l
  ·obtain ⟨a, b, e⟩ := mem_split hm
   subst e
   have h1 := List.nodup_append.1 hn
   have h2 := List.nodup_cons.1 h1.2.1
   have h3 : (a ++ b).Nodup := List.nodup_append.2 ⟨h1.1, h2.2, fun x hx y hy e => h1.2.2 x hx y (List.mem_cons_of_mem _ hy) e⟩
   have h4 := nodup_below m (a ++ b) h3 (fun x hx => by
    have hx2 : x ∈ a ++ m :: b := by
     rcases List.mem_append.1 hx with h | h
     ·exact List.mem_append.2 (.inl h)
     ·exact List.mem_append.2 (.inr (List.mem_cons_of_mem _ h))
    have hlt := h x hx2
    have hne : x ≠ m := fun e => by
     subst e
     rcases List.mem_append.1 hx with h | h
     ·exact h1.2.2 x h x (List.mem_cons_self ..) rfl
     ·exact h2.1 h
    omega)
   simp only [List.length_append, List.length_cons] at h4 ⊢
   omega
  ·have := nodup_below m l hn (fun x hx => by
    have := h x hx
    have hne : x ≠ m := fun e => hm (e ▸ hx)
    omega)
   omega
abbrev Dm := Nat → Nat → Option Int
def updD (c : Dm) (i k : Nat) (a : Int) : Dm := fun i' k' => if i' = i ∧ k' = k then some a else c i' k'
theorem updD_same (c : Dm) (i k : Nat) (a : Int) : updD c i k a i k = some a := by simp [updD]
theorem updD_ne (c : Dm) {i k i' k' : Nat} (a : Int) (h : ¬(i' = i ∧ k' = k)) : updD c i k a i' k' = c i' k' := by simp only [updD, if_neg h]
def addD (c : Dm) (i k : Nat) (v : Int) : Dm := updD c i k (match c i k with | none => v | some a => max a v)
theorem addD_same (c : Dm) (i k : Nat) (v : Int) : ∃ e, addD c i k v i k = some e ∧ v ≤ e ∧ (∀ a, c i k = some a → a ≤ e) ∧ (∀ U, v ≤ U → (∀ a, c i k = some a → a ≤ U) → e ≤ U) := by
 refine ⟨_, updD_same _ _ _ _, ?_, ?_, ?_⟩
 ·cases c i k with
  | none => exact Int.le_refl _
  | some a => exact Int.le_max_right ..
 ·intro a ha
  rw [ha]
  exact Int.le_max_left ..
 ·intro U h1 h2
  cases hc : c i k with
  | none => exact h1
  | some a => exact Int.max_le.2 ⟨h2 a hc, h1⟩
theorem addD_ne (c : Dm) {i k i' k' : Nat} (v : Int) (h : ¬(i' = i ∧ k' = k)) : addD c i k v i' k' = c i' k' := updD_ne _ _ h
theorem addD_mono (c : Dm) (i k : Nat) (v : Int) {i' k' : Nat} {a : Int} (h : c i' k' = some a) : ∃ b, addD c i k v i' k' = some b ∧ a ≤ b := by
 by_cases e : i' = i ∧ k' = k
 ·obtain ⟨rfl, rfl⟩ := e
  obtain ⟨e, h1, _, h2, _⟩ := addD_same c i' k' v
  exact ⟨e, h1, h2 a h⟩
 ·exact ⟨a, by rw [addD_ne c v e]; exact h, Int.le_refl _⟩
structure GoodD (E : Nat → Nat → Prop) (n m : Nat) (U : Int) (c : Dm) : Prop where
 pos : 0 ≤ U
 diag : ∀ i, i < n → ∃ a, c i i = some a ∧ 0 ≤ a
 up : ∀ i k a, c i k = some a → a ≤ U
 ex : ∀ i k, i < n → k < n → i ≠ k → (c i k).isSome = true → ∃ l, Wk E l i k ∧ ∀ x ∈ l, x < m
 lo : ∀ i k l, i < n → k < n → Wk E l i k → l.Nodup → (∀ x ∈ l, x < m) → ∃ a, c i k = some a ∧ -60 * ((l.length : Int) + 1) ≤ a
def ahead (i k i' k' : Nat) : Prop := i' < i ∨ (i' = i ∧ k' < k)
structure MidD (E : Nat → Nat → Prop) (n m : Nat) (U : Int) (d : Dm) (i k : Nat) (c : Dm) : Prop where
 old : ∀ i' k', ¬ ahead i k i' k' → c i' k' = d i' k'
 mono : ∀ i' k' a, d i' k' = some a → ∃ b, c i' k' = some b ∧ a ≤ b
 done : ∀ i' k', i' < n → k' < n → ahead i k i' k' → ∀ a b, d i' m = some a → d m k' = some b → ∃ e, c i' k' = some e ∧ a + b ≤ e
 ex : ∀ i' k', i' < n → k' < n → i' ≠ k' → (c i' k').isSome = true → ∃ l, Wk E l i' k' ∧ ∀ x ∈ l, x < m + 1
 mm : ∀ a, c m m = some a → a ≤ 2 * U
 row : ∀ k' a, c m k' = some a → a ≤ 3 * U
 col : ∀ i' a, c i' m = some a → a ≤ 3 * U
 all : ∀ i' k' a, c i' k' = some a → a ≤ 6 * U
theorem MidD.start {E : Nat → Nat → Prop} {n m : Nat} {U : Int} {d : Dm} (h : GoodD E n m U d) : MidD E n m U d 0 0 d :=
 ⟨fun _ _ _ => rfl, fun _ _ a ha => ⟨a, ha, Int.le_refl _⟩, fun i' k' _ _ hA => absurd hA (by unfold ahead; omega), fun i' k' h1 h2 h3 h4 => by
  obtain ⟨l, h5, h6⟩ := h.ex i' k' h1 h2 h3 h4
  exact ⟨l, h5, fun x hx => by have := h6 x hx; omega⟩,
 fun a ha => by have := h.up _ _ a ha; have := h.pos; omega, fun k' a ha => by have := h.up _ _ a ha; have := h.pos; omega, fun k' a ha => by have := h.up _ _ a ha; have := h.pos; omega, fun i' k' a ha => by have := h.up _ _ a ha; have := h.pos; omega⟩
theorem MidD.low {E : Nat → Nat → Prop} {n m : Nat} {U : Int} {d c : Dm} {i k : Nat} (G : GoodD E n m U d) (M : MidD E n m U d i k c) (hm : m < n) {i' k' : Nat} (hi : i' < n) (hk : k' < n) (hmm : i' = m ∨ k' = m) {a : Int} (ha : c i' k' = some a) : -60 * ((m : Int) + 1) ≤ a := by
 by_cases e : i' = k'
 ·subst e
  have : i' = m := by omega
  subst this
  obtain ⟨b, h1, h2⟩ := G.diag i' hm
  obtain ⟨b', h3, h4⟩ := M.mono _ _ _ h1
  rw [ha] at h3; cases h3
  omega
 ·obtain ⟨l, h1, h2⟩ := M.ex i' k' hi hk e (by rw [ha]; rfl)
  obtain ⟨l2, h3, h4, h5⟩ := h1.short
  have key : ∃ l3, Wk E l3 i' k' ∧ l3.Nodup ∧ ∀ x ∈ l3, x < m := by
   by_cases hin : m ∈ l2
   ·obtain ⟨p, q, hq⟩ := mem_split hin
    subst hq
    have n1 := List.nodup_append.1 h4
    have n2 := List.nodup_cons.1 n1.2.1
    rcases hmm with rfl | rfl
    ·refine ⟨q, h3.right, n2.2, fun x hx => ?_⟩
     have := h2 x (h5 x (List.mem_append.2 (.inr (List.mem_cons_of_mem _ hx))))
     have hne : x ≠ i' := fun e => n2.1 (e ▸ hx)
     omega
    ·refine ⟨p, h3.left, n1.1, fun x hx => ?_⟩
     have := h2 x (h5 x (List.mem_append.2 (.inl hx)))
     have hne : x ≠ k' := fun e => n1.2.2 x hx k' (List.mem_cons_self ..) e
     omega
   ·refine ⟨l2, h3, h4, fun x hx => ?_⟩
    have := h2 x (h5 x hx)
    have hne : x ≠ m := fun e => hin (e ▸ hx)
    omega
  obtain ⟨l3, k1, k2, k3⟩ := key
  obtain ⟨b, k4, k5⟩ := G.lo i' k' l3 hi hk k1 k2 k3
  obtain ⟨b', k6, k7⟩ := M.mono _ _ _ k4
  rw [ha] at k6; cases k6
  have := nodup_below m l3 k2 k3
  omega
theorem ahead_next {i k i' k' : Nat} : ahead i (k + 1) i' k' ↔ ahead i k i' k' ∨ (i' = i ∧ k' = k) := by unfold ahead; omega
theorem MidD.step {E : Nat → Nat → Prop} {n m : Nat} {U : Int} {d c : Dm} {i k : Nat} (G : GoodD E n m U d) (M : MidD E n m U d i k c) (hm : m < n) (hi : i < n) (hk : k < n) {a b : Int} (ha : c i m = some a) (hb : c m k = some b) :
  (-60 * ((m : Int) + 1) ≤ a ∧ -60 * ((m : Int) + 1) ≤ b ∧ a ≤ 3 * U ∧ b ≤ 3 * U) ∧ MidD E n m U d i (k + 1) (addD c i k (a + b)) := by
 have la := M.low G hm hi hm (.inr rfl) ha
 have lb := M.low G hm hm hk (.inl rfl) hb
 have ua := M.col i a ha
 have ub := M.row k b hb
 have hU := G.pos
 have hself : ¬ ahead i k i k := by unfold ahead; omega
 have hcur : c i k = d i k := M.old i k hself
 obtain ⟨e, he, he1, he2, he3⟩ := addD_same c i k (a + b)
 have oth : ∀ {i' k' : Nat}, ¬(i' = i ∧ k' = k) → addD c i k (a + b) i' k' = c i' k' := fun {i' k'} h => addD_ne c _ h
 -- what is below in row and column m
 have um : i = m → a ≤ 2 * U := fun h => by subst h; exact M.mm a ha
 have um2 : k = m → b ≤ 2 * U := fun h => by subst h; exact M.mm b hb
 have ur : i = m → b ≤ U := fun h => by
  subst h
  rw [hcur] at hb
  exact G.up _ _ b hb
 have uc : k = m → a ≤ U := fun h => by
  subst h
  rw [hcur] at ha
  exact G.up _ _ a ha
 have uo : ∀ x, c i k = some x → x ≤ U := fun x hx => by rw [hcur] at hx; exact G.up _ _ x hx
 refine ⟨⟨la, lb, ua, ub⟩, ?_, ?_, ?_, ?_, ?_, ?_, ?_, ?_⟩
 ·intro i' k' hA
  rw [ahead_next] at hA
  rw [oth (fun h => hA (.inr h))]
  exact M.old i' k' (fun h => hA (.inl h))
 ·intro i' k' x hx
  obtain ⟨y, h1, h2⟩ := M.mono i' k' x hx
  obtain ⟨z, h3, h4⟩ := addD_mono c i k (a + b) h1
  exact ⟨z, h3, by omega⟩
 ·intro i' k' hi' hk' hA x y hx hy
  rw [ahead_next] at hA
  rcases hA with hA | ⟨rfl, rfl⟩
  ·obtain ⟨z, h1, h2⟩ := M.done i' k' hi' hk' hA x y hx hy
   obtain ⟨z', h3, h4⟩ := addD_mono c i k (a + b) h1
   exact ⟨z', h3, by omega⟩
  ·obtain ⟨x', h1, h2⟩ := M.mono _ _ _ hx
   obtain ⟨y', h3, h4⟩ := M.mono _ _ _ hy
   rw [ha] at h1; cases h1
   rw [hb] at h3; cases h3
   exact ⟨e, he, by omega⟩
 ·intro i' k' hi' hk' hne hs
  by_cases hp : i' = i ∧ k' = k
  ·obtain ⟨rfl, rfl⟩ := hp
   by_cases h1 : i' = m
   ·subst h1
    exact M.ex i' k' hi' hk' hne (by rw [hb]; rfl)
   ·by_cases h2 : k' = m
    ·subst h2
     exact M.ex i' k' hi' hk' hne (by rw [ha]; rfl)
    ·obtain ⟨p, p1, p2⟩ := M.ex i' m hi' hm h1 (by rw [ha]; rfl)
     obtain ⟨q, q1, q2⟩ := M.ex m k' hm hk' (fun e => h2 e.symm) (by rw [hb]; rfl)
     refine ⟨p ++ m :: q, Wk.join q1 p1, fun x hx => ?_⟩
     rcases List.mem_append.1 hx with h | h
     ·exact p2 x h
     ·rcases List.mem_cons.1 h with h | h
      ·omega
      ·exact q2 x h
  ·rw [oth hp] at hs
   exact M.ex i' k' hi' hk' hne hs
 ·intro x hx
  by_cases hp : m = i ∧ m = k
  ·obtain ⟨h1, h2⟩ := hp
   have e1 := ur h1.symm
   have e2 := uc h2.symm
   rw [← h1, ← h2] at hx he
   have hh : addD c i k (a + b) m m = some e := by rw [← h1, ← h2]; exact he
   rw [← h1, ← h2] at hh
   rw [hx] at hh; cases hh
   exact he3 _ (by omega) (fun z hz => by have := uo z hz; omega)
  ·rw [oth hp] at hx
   exact M.mm x hx
 ·intro k' x hx
  by_cases hp : m = i ∧ k' = k
  ·obtain ⟨h1, rfl⟩ := hp
   subst h1
   rw [he] at hx; cases hx
   have e1 := um rfl
   have e2 := ur rfl
   exact he3 _ (by omega) (fun z hz => by have := uo z hz; omega)
  ·rw [oth hp] at hx
   exact M.row k' x hx
 ·intro i' x hx
  by_cases hp : i' = i ∧ m = k
  ·obtain ⟨rfl, h1⟩ := hp
   subst h1
   rw [he] at hx; cases hx
   have e1 := um2 rfl
   have e2 := uc rfl
   exact he3 _ (by omega) (fun z hz => by have := uo z hz; omega)
  ·rw [oth hp] at hx
   exact M.col i' x hx
 ·intro i' k' x hx
  by_cases hp : i' = i ∧ k' = k
  ·obtain ⟨rfl, rfl⟩ := hp
   rw [he] at hx; cases hx
   exact he3 _ (by omega) (fun z hz => by have := uo z hz; omega)
  ·rw [oth hp] at hx
   exact M.all i' k' x hx
theorem MidD.skip {E : Nat → Nat → Prop} {n m : Nat} {U : Int} {d c : Dm} {i k : Nat} (M : MidD E n m U d i k c) (h : c i m = none ∨ c m k = none) : MidD E n m U d i (k + 1) c := by
 refine ⟨fun i' k' hA => M.old i' k' (fun hh => hA (ahead_next.2 (.inl hh))), M.mono, fun i' k' hi' hk' hA x y hx hy => ?_, M.ex, M.mm, M.row, M.col, M.all⟩
 rcases ahead_next.1 hA with hA | ⟨rfl, rfl⟩
 ·exact M.done i' k' hi' hk' hA x y hx hy
 ·obtain ⟨x', h1, _⟩ := M.mono _ _ _ hx
  obtain ⟨y', h2, _⟩ := M.mono _ _ _ hy
  rcases h with h | h
  ·rw [h] at h1; cases h1
  ·rw [h] at h2; cases h2
theorem MidD.line {E : Nat → Nat → Prop} {n m : Nat} {U : Int} {d c : Dm} {i : Nat} (M : MidD E n m U d i n c) : MidD E n m U d (i + 1) 0 c :=
 ⟨fun i' k' hA => M.old i' k' (fun hh => hA (by unfold ahead at *; omega)), M.mono, fun i' k' hi' hk' hA => M.done i' k' hi' hk' (by unfold ahead at *; omega), M.ex, M.mm, M.row, M.col, M.all⟩
theorem MidD.end_ {E : Nat → Nat → Prop} {n m : Nat} {U : Int} {d c : Dm} (G : GoodD E n m U d) (hm : m < n) (M : MidD E n m U d n 0 c) : GoodD E n (m + 1) (6 * U) c := by
 refine ⟨by have := G.pos; omega, fun i hi => ?_, fun i k a h => M.all i k a h, fun i k hi hk hne hs => M.ex i k hi hk hne hs, fun i k l hi hk hw hn hl => ?_⟩
 ·obtain ⟨a, h1, h2⟩ := G.diag i hi
  obtain ⟨b, h3, h4⟩ := M.mono _ _ _ h1
  exact ⟨b, h3, by omega⟩
 ·by_cases hin : m ∈ l
  ·obtain ⟨p, q, hq⟩ := mem_split hin
   subst hq
   have n1 := List.nodup_append.1 hn
   have n2 := List.nodup_cons.1 n1.2.1
   obtain ⟨a, a1, a2⟩ := G.lo i m p hi hm hw.left n1.1 (fun x hx => by
    have := hl x (List.mem_append.2 (.inl hx))
    have hne : x ≠ m := fun e => n1.2.2 x hx m (List.mem_cons_self ..) e
    omega)
   obtain ⟨b, b1, b2⟩ := G.lo m k q hm hk hw.right n2.2 (fun x hx => by
    have := hl x (List.mem_append.2 (.inr (List.mem_cons_of_mem _ hx)))
    have hne : x ≠ m := fun e => n2.1 (e ▸ hx)
    omega)
   obtain ⟨e, e1, e2⟩ := M.done i k hi hk (.inl hi) a b a1 b1
   refine ⟨e, e1, ?_⟩
   simp only [List.length_append, List.length_cons]
   omega
  ·obtain ⟨a, a1, a2⟩ := G.lo i k l hi hk hw hn (fun x hx => by
    have := hl x hx
    have hne : x ≠ m := fun e => hin (e ▸ hx)
    omega)
   obtain ⟨b, h3, h4⟩ := M.mono _ _ _ a1
   exact ⟨b, h3, by omega⟩
structure EncS (n : Nat) (d : List (List Int)) (c : Dm) : Prop where
 len : d.length = n
 row : ∀ i, i < n → ∃ row, d[i]? = some row ∧ row.length = n ∧ ∀ k, k < n → row[k]? = some ((c i k).getD (-1000))
structure EncI (n : Nat) (far : List (List Int)) (met : List (List Bool)) (c : Dm) : Prop where
 lf : far.length = n
 lm : met.length = n
 row : ∀ i, i < n → ∃ fr mr, far[i]? = some fr ∧ met[i]? = some mr ∧ fr.length = n ∧ mr.length = n ∧ ∀ k, k < n → mr[k]? = some (c i k).isSome ∧ ∃ v, fr[k]? = some v ∧ ∀ a, c i k = some a → v = a
theorem idxL_nat {α : Type} (l : List α) (i : Nat) : idxL l (i : Int) = l[i]? := by simp [idxL]
theorem setL_nat {α : Type} (l : List α) (i : Nat) (v : α) : setL l (i : Int) v = l.set i v := by simp [setL]
theorem set_get {α : Type} {l : List α} {i : Nat} {v : α} (h : i < l.length) (j : Nat) : (l.set i v)[j]? = if i = j then some v else l[j]? := by
 rw [List.getElem?_set]
 by_cases e : i = j
 ·rw [if_pos e, if_pos h, if_pos e]
 ·rw [if_neg e, if_neg e]
theorem neL_of {α : Type} {l : List α} (h : l ≠ []) : neL l = some l := by
 unfold neL
 cases l with
 | nil => exact absurd rfl h
 | cons x l => rfl
theorem ne_len {α : Type} {l : List α} {n : Nat} (h : l.length = n) (hn : 0 < n) : l ≠ [] := fun e => by subst e; simp at h; omega
theorem sameN_of {α : Type} : ∀ {a b : List (List α)}, a.length = b.length → (∀ x ∈ a, x ≠ []) → (∀ x ∈ b, x ≠ []) → sameN a b = some () := by
 have key : ∀ {a b : List (List α)}, a.length = b.length → (∀ x ∈ a, x ≠ []) → (∀ x ∈ b, x ≠ []) → a.map List.isEmpty = b.map List.isEmpty := by
  intro a
  induction a with
  | nil => intro b h _ _; cases b with
   | nil => rfl
   | cons y b => simp at h
  | cons x a ih =>
   intro b h h1 h2
   cases b with
   | nil => simp at h
   | cons y b =>
    have e1 : x.isEmpty = false := by
     have := h1 x (List.mem_cons_self ..)
     cases x with
     | nil => exact absurd rfl this
     | cons _ _ => rfl
    have e2 : y.isEmpty = false := by
     have := h2 y (List.mem_cons_self ..)
     cases y with
     | nil => exact absurd rfl this
     | cons _ _ => rfl
    rw [List.map_cons, List.map_cons, e1, e2, ih (by simpa using h) (fun z hz => h1 z (List.mem_cons_of_mem _ hz)) (fun z hz => h2 z (List.mem_cons_of_mem _ hz))]
 intro a b h h1 h2
 unfold sameN
 rw [key h h1 h2, beq_self_eq_true]; rfl
theorem EncI.nef {n : Nat} {far : List (List Int)} {met : List (List Bool)} {c : Dm} (h : EncI n far met c) (hn : 0 < n) : ∀ x ∈ far, x ≠ [] := fun x hx => by
 obtain ⟨i, hi, rfl⟩ := List.mem_iff_getElem.1 hx
 obtain ⟨fr, mr, h1, h2, h3, h4, _⟩ := h.row i (by rw [← h.lf]; exact hi)
 rw [List.getElem?_eq_getElem hi] at h1; cases h1
 exact ne_len h3 hn
theorem EncI.nem {n : Nat} {far : List (List Int)} {met : List (List Bool)} {c : Dm} (h : EncI n far met c) (hn : 0 < n) : ∀ x ∈ met, x ≠ [] := fun x hx => by
 obtain ⟨i, hi, rfl⟩ := List.mem_iff_getElem.1 hx
 obtain ⟨fr, mr, h1, h2, h3, h4, _⟩ := h.row i (by rw [← h.lm]; exact hi)
 rw [List.getElem?_eq_getElem hi] at h2; cases h2
 exact ne_len h4 hn
theorem EncS.upd {n : Nat} {d : List (List Int)} {c : Dm} (h : EncS n d c) {i k : Nat} (hi : i < n) (hk : k < n) {row : List Int} (hr : d[i]? = some row) (v : Int) : EncS n (setL d i (setL row k v)) (updD c i k v) := by
 rw [setL_nat, setL_nat]
 refine ⟨by rw [List.length_set]; exact h.len, fun j hj => ?_⟩
 rw [set_get (by rw [h.len]; exact hi)]
 by_cases e : i = j
 ·subst e
  rw [if_pos rfl]
  obtain ⟨row', h1, h2, h3⟩ := h.row i hi
  rw [hr] at h1; cases h1
  refine ⟨_, rfl, by rw [List.length_set]; exact h2, fun q hq => ?_⟩
  rw [set_get (by rw [h2]; exact hk)]
  by_cases e2 : k = q
  ·subst e2; rw [if_pos rfl, updD_same]; rfl
  ·rw [if_neg e2, updD_ne _ _ (fun hh => e2 hh.2.symm)]; exact h3 q hq
 ·rw [if_neg e]
  obtain ⟨row', h1, h2, h3⟩ := h.row j hj
  exact ⟨row', h1, h2, fun q hq => by rw [updD_ne _ _ (fun hh => e hh.1.symm)]; exact h3 q hq⟩
theorem EncS.add {n : Nat} {d : List (List Int)} {c : Dm} (h : EncS n d c) {i k : Nat} (hi : i < n) (hk : k < n) {row : List Int} (hr : d[i]? = some row) {v : Int} (hv : -1000 ≤ v) : EncS n (setL d i (setL row k (max ((c i k).getD (-1000)) v))) (addD c i k v) := by
 have e : max ((c i k).getD (-1000)) v = (match c i k with | none => v | some a => max a v) := by
  cases c i k with
  | none => show max (-1000) v = v; omega
  | some a => rfl
 rw [e]
 exact h.upd hi hk hr _
theorem EncI.upd {n : Nat} {far : List (List Int)} {met : List (List Bool)} {c : Dm} (h : EncI n far met c) {i k : Nat} (hi : i < n) (hk : k < n) {fr : List Int} {mr : List Bool} (hf : far[i]? = some fr) (hm : met[i]? = some mr) (v : Int) : EncI n (setL far i (setL fr k v)) (setL met i (setL mr k true)) (updD c i k v) := by
 rw [setL_nat, setL_nat, setL_nat, setL_nat]
 refine ⟨by rw [List.length_set]; exact h.lf, by rw [List.length_set]; exact h.lm, fun j hj => ?_⟩
 rw [set_get (by rw [h.lf]; exact hi), set_get (by rw [h.lm]; exact hi)]
 obtain ⟨fr', mr', h1, h2, h3, h4, h5⟩ := h.row j hj
 by_cases e : i = j
 ·subst e
  rw [if_pos rfl, if_pos rfl]
  rw [hf] at h1; cases h1
  rw [hm] at h2; cases h2
  refine ⟨_, _, rfl, rfl, by rw [List.length_set]; exact h3, by rw [List.length_set]; exact h4, fun q hq => ?_⟩
  rw [set_get (by rw [h4]; exact hk), set_get (by rw [h3]; exact hk)]
  by_cases e2 : k = q
  ·subst e2
   rw [if_pos rfl, if_pos rfl, updD_same]
   exact ⟨rfl, v, rfl, fun a ha => Option.some.inj ha⟩
  ·rw [if_neg e2, if_neg e2, updD_ne _ _ (fun hh => e2 hh.2.symm)]; exact h5 q hq
 ·rw [if_neg e, if_neg e]
  exact ⟨fr', mr', h1, h2, h3, h4, fun q hq => by rw [updD_ne _ _ (fun hh => e hh.1.symm)]; exact h5 q hq⟩
theorem EncI.add {n : Nat} {far : List (List Int)} {met : List (List Bool)} {c : Dm} (h : EncI n far met c) (hn : 0 < n) {i k : Nat} (hi : i < n) (hk : k < n) (v : Int) :
  ∃ r, i_Distances_c1 i k v met far = some r ∧ EncI n r.2 r.1 (addD c i k v) ∧ sameN met r.1 = some () ∧ sameN far r.2 = some () := by
 obtain ⟨fr, mr, h1, h2, h3, h4, h5⟩ := h.row i hi
 obtain ⟨h6, x, h7, h8⟩ := h5 k hk
 have key : ∀ r, (EncI n r.2 r.1 (addD c i k v)) → i_Distances_c1 i k v met far = some r → ∃ r, i_Distances_c1 i k v met far = some r ∧ EncI n r.2 r.1 (addD c i k v) ∧ sameN met r.1 = some () ∧ sameN far r.2 = some () := fun r hr he =>
  ⟨r, he, hr, sameN_of (by rw [h.lm, hr.lm]) (h.nem hn) (hr.nem hn), sameN_of (by rw [h.lf, hr.lf]) (h.nef hn) (hr.nef hn)⟩
 have hup := h.upd hi hk h1 h2
 cases hc : c i k with
 | none =>
  refine key (setL met i (setL mr k true), setL far i (setL fr k v)) ?_ ?_
  ·have e : addD c i k v = updD c i k v := by unfold addD; rw [hc]
   rw [e]; exact hup v
  ·unfold i_Distances_c1
   simp only [idxL_nat, h2, Option.bind_some, neL_of (ne_len h4 hn), h6, hc, Option.isSome_none, Bool.not_false, cond_true, h1, neL_of (ne_len h3 hn), h7]
 | some a =>
  have hx := h8 a hc
  subst hx
  by_cases hlt : x < v
  ·refine key (setL met i (setL mr k true), setL far i (setL fr k v)) ?_ ?_
   ·have e : addD c i k v = updD c i k v := by
     unfold addD; rw [hc]
     have : max x v = v := by omega
     simp only [this]
    rw [e]; exact hup v
   ·unfold i_Distances_c1
    simp only [idxL_nat, h2, Option.bind_some, neL_of (ne_len h4 hn), h6, hc, Option.isSome_some, Bool.not_true, cond_false, cond_true, h1, neL_of (ne_len h3 hn), h7, hlt, decide_true]
  ·refine key (met, far) ?_ ?_
   ·have e : addD c i k v = c := by
     unfold addD; rw [hc]
     have : max x v = x := by omega
     simp only [this]
     funext i' k'
     by_cases hp : i' = i ∧ k' = k
     ·obtain ⟨rfl, rfl⟩ := hp; rw [updD_same, hc]
     ·rw [updD_ne _ _ hp]
    rw [e]; exact h
   ·unfold i_Distances_c1
    simp only [idxL_nat, h2, Option.bind_some, neL_of (ne_len h4 hn), h6, hc, Option.isSome_some, Bool.not_true, cond_false, cond_true, h1, neL_of (ne_len h3 hn), h7, hlt, decide_false]
theorem W_nat {k : Nat} (h : k ≤ 1000) : W ((k : Int) + 1) = ((k + 1 : Nat) : Int) := by rw [W_of (by omega)]; omega
section
variable {p : TProject} {E : Nat → Nat → Prop} {n m : Nat} {U : Int} {d0 : Dm}
theorem rowLoop (hn : p.Activities.length = n) (h6 : n ≤ 6) (hm : m < n) (hU : U ≤ 1000000000000) (G : GoodD E n m U d0) {i : Nat} (hi : i < n) : ∀ (r k : Nat) (xs : List TActivity) (fuel : Nat) (c : Dm) (d far : List (List Int)) (met : List (List Bool)), k + r = n → xs.length = r → r < fuel → EncS n d c → EncI n far met c → MidD E n m U d0 i k c →
  ∃ c' d' far' met', s_l08Dist_L6 m i xs k d = some d' ∧ i_Distances_L5 p m i fuel k far met = some (far', met') ∧ EncS n d' c' ∧ EncI n far' met' c' ∧ MidD E n m U d0 i n c'
 | 0, k, [], fuel + 1, c, d, far, met, hk, _, _, hS, hI, M => by
  have e : k = n := by omega
  subst e
  refine ⟨c, d, far, met, rfl, ?_, hS, hI, M⟩
  rw [i_Distances_L5, hn]
  simp
 | r + 1, k, x :: xs, fuel + 1, c, d, far, met, hk, hx, hf, hS, hI, M => by
  have hkn : k < n := by omega
  have hn0 : 0 < n := by omega
  have ih := rowLoop hn h6 hm hU G hi r (k + 1) xs fuel
  obtain ⟨row, s1, s2, s3⟩ := hS.row i hi
  obtain ⟨rowm, t1, t2, t3⟩ := hS.row m hm
  obtain ⟨fr, mr, a1, a2, a3, a4, a5⟩ := hI.row i hi
  obtain ⟨frm, mrm, b1, b2, b3, b4, b5⟩ := hI.row m hm
  have hz : (k : Int) + 1 = ((k + 1 : Nat) : Int) := by omega
  rw [s_l08Dist_L6, i_Distances_L5, W_nat (by omega), hn, hz]
  simp only [idxL_nat, s1, Option.bind_some, s3 m hm, a2, neL_of (ne_len a4 hn0), (a5 m hm).1, show decide ((k : Int) < (n : Int)) = true from decide_eq_true (by omega), cond_true]
  cases hA : c i m with
  | none =>
   simp only [Option.getD_none, Option.isSome_none, bne_self_eq_false, cond_false, Option.bind_some]
   exact ih c d far met (by omega) (by simpa using hx) (by omega) hS hI (M.skip (.inl hA))
  | some a =>
   have la := M.low G hm hi hm (.inr rfl) hA
   have e1 : (a != (-1000 : Int)) = true := by
    have : a ≠ -1000 := by omega
    simpa using this
   simp only [Option.getD_some, Option.isSome_some, e1, cond_true, t1, Option.bind_some, t3 k hkn, b2, neL_of (ne_len b4 hn0), (b5 k hkn).1]
   cases hB : c m k with
   | none =>
    simp only [Option.getD_none, Option.isSome_none, bne_self_eq_false, cond_false]
    exact ih c d far met (by omega) (by simpa using hx) (by omega) hS hI (M.skip (.inr hB))
   | some b =>
    obtain ⟨⟨l1, l2, l3, l4⟩, M'⟩ := M.step G hm hi hkn hA hB
    have hU0 := G.pos
    have e2 : (b != (-1000 : Int)) = true := by
     have : b ≠ -1000 := by omega
     simpa using this
    obtain ⟨va, c1, c2⟩ := (a5 m hm).2
    obtain ⟨vb, c3, c4⟩ := (b5 k hkn).2
    have c2 := c2 a hA
    have c4 := c4 b hB
    subst c2; subst c4
    have hW : W (va + vb) = va + vb := W_of (by omega)
    obtain ⟨q, q1, q2, q3, q4⟩ := hI.add hn0 hi hkn (va + vb)
    simp only [Option.getD_some, Option.isSome_some, e2, cond_true, s3 k hkn, Option.bind_some, s_l02Max_eq, hW, a1, neL_of (ne_len a3 hn0), c1, b1, neL_of (ne_len b3 hn0), c3, q1, q3, q4]
    exact ih _ _ _ _ (by omega) (by simpa using hx) (by omega) (hS.add hi hkn s1 (by omega)) q2 M'
 | 0, _, _ :: _, _, _, _, _, _, _, h, _, _, _, _ => by simp at h
 | _ + 1, _, [], _, _, _, _, _, _, h, _, _, _, _ => by simp at h
 | _, _, _, 0, _, _, _, _, _, _, h, _, _, _ => by omega
theorem stageLoop (hn : p.Activities.length = n) (h6 : n ≤ 6) (hm : m < n) (hU : U ≤ 1000000000000) (G : GoodD E n m U d0) : ∀ (r i : Nat) (xs : List TActivity) (fuel : Nat) (c : Dm) (d far : List (List Int)) (met : List (List Bool)), i + r = n → xs.length = r → r < fuel → EncS n d c → EncI n far met c → MidD E n m U d0 i 0 c →
  ∃ c' d' far' met', s_l08Dist_L5 p m xs i d = some d' ∧ i_Distances_L4 p m fuel i far met = some (far', met') ∧ EncS n d' c' ∧ EncI n far' met' c' ∧ MidD E n m U d0 n 0 c'
 | 0, i, [], fuel + 1, c, d, far, met, hk, _, _, hS, hI, M => by
  have e : i = n := by omega
  subst e
  refine ⟨c, d, far, met, rfl, ?_, hS, hI, M⟩
  rw [i_Distances_L4, hn]
  simp
 | r + 1, i, x :: xs, fuel + 1, c, d, far, met, hk, hx, hf, hS, hI, M => by
  have hin : i < n := by omega
  obtain ⟨c1, d1, f1, m1, h1, h2, h3, h4, h5⟩ := rowLoop hn h6 hm hU G hin n 0 p.Activities F0 c d far met (by omega) hn (by unfold F0; omega) hS hI M
  have hz : (i : Int) + 1 = ((i + 1 : Nat) : Int) := by omega
  rw [s_l08Dist_L5, i_Distances_L4, W_nat (by omega), hn, hz]
  have h1' : s_l08Dist_L6 (m : Int) (i : Int) p.Activities 0 d = some d1 := h1
  have h2' : i_Distances_L5 p (m : Int) (i : Int) F0 0 far met = some (f1, m1) := h2
  simp only [h1', h2', Option.bind_some, show decide ((i : Int) < (n : Int)) = true from decide_eq_true (by omega), cond_true]
  exact stageLoop hn h6 hm hU G r (i + 1) xs fuel _ _ _ _ (by omega) (by simpa using hx) (by omega) h3 h4 h5.line
 | 0, _, _ :: _, _, _, _, _, _, _, h, _, _, _, _ => by simp at h
 | _ + 1, _, [], _, _, _, _, _, _, h, _, _, _, _ => by simp at h
 | _, _, _, 0, _, _, _, _, _, _, h, _, _, _ => by omega
end
theorem stages {p : TProject} {E : Nat → Nat → Prop} {n : Nat} (hn : p.Activities.length = n) (h6 : n ≤ 6) : ∀ (r m : Nat) (U : Int) (xs : List TActivity) (fuel : Nat) (c : Dm) (d far : List (List Int)) (met : List (List Bool)), m + r = n → xs.length = r → r < fuel → U * 6 ^ r ≤ 1000000000000 → EncS n d c → EncI n far met c → GoodD E n m U c →
  ∃ c' U' d' far' met', s_l08Dist_L4 p xs m d = some d' ∧ i_Distances_L3 p fuel m far met = some (far', met') ∧ EncS n d' c' ∧ EncI n far' met' c' ∧ GoodD E n n U' c' ∧ U' ≤ 1000000000000
 | 0, m, U, [], fuel + 1, c, d, far, met, hk, _, _, hu, hS, hI, G => by
  have e : m = n := by omega
  subst e
  refine ⟨c, U, d, far, met, rfl, ?_, hS, hI, G, by simpa using hu⟩
  rw [i_Distances_L3, hn]
  simp
 | r + 1, m, U, x :: xs, fuel + 1, c, d, far, met, hk, hx, hf, hu, hS, hI, G => by
  have hmn : m < n := by omega
  have h1r : (1 : Int) ≤ 6 ^ r := by
   have : (0 : Int) < 6 ^ r := Int.pow_pos (by omega)
   omega
  have hU0 := G.pos
  have hpow : U * 6 ^ (r + 1) = 6 * U * 6 ^ r := by rw [Int.pow_succ]; rw [Int.mul_comm (6 ^ r) 6, ← Int.mul_assoc, Int.mul_comm U 6]
  have hUb : U ≤ 1000000000000 := by
   have : U * 1 ≤ 6 * U * 6 ^ r := by
    have h1 : 6 * U * 1 ≤ 6 * U * 6 ^ r := Int.mul_le_mul_of_nonneg_left h1r (by omega)
    omega
   omega
  obtain ⟨c1, d1, f1, m1, h1, h2, h3, h4, h5⟩ := stageLoop hn h6 hmn hUb G n 0 p.Activities F0 c d far met (by omega) hn (by unfold F0; omega) hS hI (MidD.start G)
  have hz : (m : Int) + 1 = ((m + 1 : Nat) : Int) := by omega
  rw [s_l08Dist_L4, i_Distances_L3, W_nat (by omega), hn, hz]
  have h1' : s_l08Dist_L5 p (m : Int) p.Activities 0 d = some d1 := h1
  have h2' : i_Distances_L4 p (m : Int) F0 0 far met = some (f1, m1) := h2
  simp only [h1', h2', Option.bind_some, show decide ((m : Int) < (n : Int)) = true from decide_eq_true (by omega), cond_true]
  exact stages hn h6 r (m + 1) (6 * U) xs fuel _ _ _ _ (by omega) (by simpa using hx) (by omega) (by rw [← hpow]; exact hu) h3 h4 (h5.end_ G hmn)
 | 0, _, _, _ :: _, _, _, _, _, _, _, h, _, _, _, _, _ => by simp at h
 | _ + 1, _, _, [], _, _, _, _, _, _, h, _, _, _, _, _ => by simp at h
 | _, _, _, _, 0, _, _, _, _, _, _, h, _, _, _, _ => by omega
theorem leastF_in {f : TMode → Int} {lo hi : Int} : ∀ {l : List TMode} {a : Int} {has : Bool}, (∀ x ∈ l, lo ≤ f x ∧ f x ≤ hi) → lo ≤ a ∧ a ≤ hi → lo ≤ leastF f l a has ∧ leastF f l a has ≤ hi
 | [], a, has, _, h => h
 | x :: l, a, has, hl, h => by
  rw [leastF]
  have ih := fun a has h => leastF_in (l := l) (a := a) (has := has) (fun y hy => hl y (List.mem_cons_of_mem _ hy)) h
  cases (!has || decide (f x < a))
  ·exact ih a has h
  ·exact ih (f x) true (hl x (List.mem_cons_self ..))
theorem minDur_ok {p : TProject} (F : ProjF p) {a : Int} {x : TActivity} (hx : idxL p.Activities a = some x) : ∃ v, s_ModeIndexes x = some (rangeI x.Modes.length) ∧ s_MinDuration x (rangeI x.Modes.length) = some v ∧ i_MinDuration x (rangeI x.Modes.length) = some v ∧ 0 ≤ v ∧ v ≤ 12 := by
 have hA := F.acts x (idxL_lt_len hx).2
 have hm : x.Modes.length ≤ 200 := by have := hA.2.1; omega
 refine ⟨_, s_ModeIndexes_eq x hm, s_MinDuration_eq x _, by rw [i_MinDuration_eq x _ (by omega)]; exact s_MinDuration_eq x _, ?_⟩
 exact leastF_in (fun y hy => by
  have := hA.2.2 y (chosenF_mem _ _ _ _ hy)
  have h1 := this.1
  omega) (by omega)
theorem gap_ok {p : TProject} (F : ProjF p) {z : Int} {x : TLink} (hx : idxL p.Links z = some x) : ∃ g, s_l07All p z = some g ∧ i_Project_fullGap p x = some g ∧ -60 ≤ g ∧ g ≤ 200 := by
 have hl := F.lnks x (idxL_lt_len hx).2
 obtain ⟨y, hy, _⟩ := idxL_some (l := p.Activities) (z := x.From) hl.1.1 hl.1.2
 obtain ⟨v, h1, h2, h3, h4, h5⟩ := minDur_ok F hy
 cases hf : x.FromEnd with
 | false =>
  refine ⟨x.Lag, ?_, ?_, by omega, by omega⟩
  ·simp only [s_l07All, s_l07Gap, hx, hy, Option.bind_some, h1, hf, cond_false]
  ·simp only [i_Project_fullGap, i_Project_gap, hy, Option.bind_some, ModeIndexes_eq, h1, hf, cond_false]
 | true =>
  have hW : W (x.Lag + v) = x.Lag + v := W_of (by omega)
  refine ⟨x.Lag + v, ?_, ?_, by omega, by omega⟩
  ·simp only [s_l07All, s_l07Gap, hx, hy, Option.bind_some, h1, hf, cond_true, h2, hW]
  ·simp only [i_Project_fullGap, i_Project_gap, hy, Option.bind_some, ModeIndexes_eq, h1, hf, cond_true, h3, hW]
def c0 : Dm := fun i k => if i = k then some 0 else none
def row0 (i n : Nat) : List Int := (List.range n).map fun k => if i = k then 0 else -1000
theorem first_L2 (i : Nat) : ∀ (xs : List TActivity) (k : Nat), k + xs.length ≤ 1000 → s_l08Dist_L2 i xs k (row0 i k) = some (row0 i (k + xs.length))
 | [], k, _ => rfl
 | x :: xs, k, h => by
  have hz : (k : Int) + 1 = ((k + 1 : Nat) : Int) := by omega
  have hl : (row0 i k).length = k := by simp [row0]
  simp only [List.length_cons] at h
  have hap : ∀ v : Int, appL (row0 i k) [v] = some (row0 i k ++ [v]) := fun v => by
   unfold appL
   rw [if_pos (by rw [hl, List.length_singleton]; omega)]
  have hr : row0 i (k + 1) = row0 i k ++ [if i = k then 0 else -1000] := by simp [row0, List.range_succ]
  rw [s_l08Dist_L2]
  have hb : ((i : Int) == (k : Int)) = decide (i = k) := by
   rw [int_beq]
   by_cases e : i = k
   ·subst e; simp
   ·rw [decide_eq_false (by omega), decide_eq_false e]
  simp only [hb, hz, cond_some, Option.bind_some, hap]
  have hc : (bif decide (i = k) then (0 : Int) else -1000) = if i = k then 0 else -1000 := by
   by_cases e : i = k <;> simp [e]
  rw [hc, ← hr, first_L2 i xs (k + 1) (by omega), List.length_cons]
  congr 2
  omega
theorem first_L1 {p : TProject} {n : Nat} (hn : p.Activities.length = n) (h6 : n ≤ 6) : ∀ (xs : List TActivity) (i : Nat), i + xs.length ≤ 100 → s_l08Dist_L1 p xs i ((List.range i).map fun j => row0 j n) = some ((List.range (i + xs.length)).map fun j => row0 j n)
 | [], i, _ => rfl
 | x :: xs, i, h => by
  have hz : (i : Int) + 1 = ((i + 1 : Nat) : Int) := by omega
  simp only [List.length_cons] at h
  have h2 := first_L2 i p.Activities 0 (by omega)
  rw [Nat.zero_add, hn] at h2
  have h2' : s_l08Dist_L2 (i : Int) p.Activities 0 [] = some (row0 i n) := h2
  have hap : appL ((List.range i).map fun j => row0 j n) [row0 i n] = some (((List.range i).map fun j => row0 j n) ++ [row0 i n]) := by
   unfold appL
   rw [if_pos (by simp; omega)]
  have hr : ((List.range (i + 1)).map fun j => row0 j n) = ((List.range i).map fun j => row0 j n) ++ [row0 i n] := by simp [List.range_succ]
  rw [s_l08Dist_L1]
  simp only [h2', hap, Option.bind_some, hz]
  rw [← hr, first_L1 hn h6 xs (i + 1) (by omega), List.length_cons]
  congr 3
  omega
theorem enc0 (n : Nat) : EncS n ((List.range n).map fun j => row0 j n) c0 := by
 refine ⟨by simp, fun i hi => ⟨row0 i n, by simp [hi], by simp [row0], fun k hk => ?_⟩⟩
 simp only [row0, c0, List.getElem?_map, List.getElem?_range hk, Option.map_some]
 by_cases e : i = k <;> simp [e]
structure PreI (n i : Nat) (far : List (List Int)) (met : List (List Bool)) : Prop where
 lf : far.length = n
 lm : met.length = n
 done : ∀ j, j < i → j < n → ∃ fr mr, far[j]? = some fr ∧ met[j]? = some mr ∧ fr.length = n ∧ mr.length = n ∧ ∀ k, k < n → mr[k]? = some (c0 j k).isSome ∧ ∃ v, fr[k]? = some v ∧ ∀ a, c0 j k = some a → v = a
 todo : ∀ j, i ≤ j → j < n → far[j]? = some [] ∧ met[j]? = some []
theorem makeL_some {α : Type} (z : α) (n : Nat) (h : n ≤ 1000) : makeL z (n : Int) = some (List.replicate n z) := by
 unfold makeL
 rw [if_pos (by omega)]
 simp
theorem nilL_nil {α : Type} : nilL ([] : List α) = some () := rfl
theorem first_I {p : TProject} {n : Nat} (hn : p.Activities.length = n) (h6 : n ≤ 6) (hn0 : 0 < n) : ∀ (xs : List TActivity) (i : Nat) (far : List (List Int)) (met : List (List Bool)), i + xs.length = n → PreI n i far met → ∃ far' met', i_Distances_L1 p xs i far met = some (far', met') ∧ EncI n far' met' c0
 | [], i, far, met, h, I => by
  have e : i = n := by simpa using h
  subst e
  exact ⟨far, met, rfl, I.lf, I.lm, fun j hj => I.done j hj hj⟩
 | x :: xs, i, far, met, h, I => by
  simp only [List.length_cons] at h
  have hin : i < n := by omega
  have hz : (i : Int) + 1 = ((i + 1 : Nat) : Int) := by omega
  obtain ⟨t1, t2⟩ := I.todo i (Nat.le_refl _) hin
  have r1 : (List.replicate n (0 : Int)) ≠ [] := ne_len (n := n) (by simp) hn0
  have r2 : (List.replicate n false) ≠ [] := ne_len (n := n) (by simp) hn0
  have g1 : (met.set i (List.replicate n false))[i]? = some (List.replicate n false) := by rw [set_get (by rw [I.lm]; exact hin), if_pos rfl]
  have g2 : (List.replicate n false)[i]? = some false := by simp [hin]
  rw [i_Distances_L1]
  simp only [hn, makeL_some _ n (by omega), Option.bind_some, idxL_nat, setL_nat, t1, t2, nilL_nil, neL_of r1, neL_of r2, g1, g2, hz]
  refine first_I hn h6 hn0 xs (i + 1) _ _ (by omega) ⟨by rw [List.length_set]; exact I.lf, by rw [List.length_set, List.length_set]; exact I.lm, fun j hj hjn => ?_, fun j hj hjn => ?_⟩
  ·by_cases e : i = j
   ·subst e
    refine ⟨List.replicate n 0, (List.replicate n false).set i true, by rw [set_get (by rw [I.lf]; exact hin), if_pos rfl], by rw [set_get (by rw [List.length_set, I.lm]; exact hin), if_pos rfl], by simp, by simp, fun k hk => ⟨?_, 0, by simp [hk], fun a ha => ?_⟩⟩
    ·rw [set_get (by simpa using hin)]
     by_cases e2 : i = k
     ·subst e2; simp [c0]
     ·rw [if_neg e2]; simp [c0, e2, hk]
    ·unfold c0 at ha
     split at ha
     ·exact Option.some.inj ha
     ·cases ha
   ·obtain ⟨fr, mr, h1, h2, h3⟩ := I.done j (by omega) hjn
    exact ⟨fr, mr, by rw [set_get (by rw [I.lf]; exact hin), if_neg e]; exact h1, by rw [set_get (by rw [List.length_set, I.lm]; exact hin), if_neg e, set_get (by rw [I.lm]; exact hin), if_neg e]; exact h2, h3⟩
  ·have e : i ≠ j := by omega
   rw [set_get (by rw [I.lf]; exact hin), if_neg e, set_get (by rw [List.length_set, I.lm]; exact hin), if_neg e, set_get (by rw [I.lm]; exact hin), if_neg e]
   exact I.todo j (by omega) hjn
def linkE (p : TProject) (i k : Nat) : Prop := ∃ x ∈ p.Links, x.From = (i : Int) ∧ x.To = (k : Int)
structure LnkI (p : TProject) (n : Nat) (pre : List TLink) (c : Dm) : Prop where
 diag : ∀ i, i < n → ∃ a, c i i = some a ∧ 0 ≤ a
 up : ∀ i k a, c i k = some a → a ≤ 200
 ex : ∀ i k, i ≠ k → (c i k).isSome = true → linkE p i k
 lo : ∀ x ∈ pre, ∃ a, c x.From.toNat x.To.toNat = some a ∧ -60 ≤ a
theorem links_loop {p : TProject} {n : Nat} (F : ProjF p) (hn : p.Activities.length = n) (hn0 : 0 < n) : ∀ (xs pre : List TLink) (c : Dm) (d far : List (List Int)) (met : List (List Bool)), p.Links = pre ++ xs → EncS n d c → EncI n far met c → LnkI p n pre c →
  ∃ c' d' far' met', s_l08Dist_L3 p xs pre.length d = some d' ∧ i_Distances_L2 p xs pre.length far met = some (far', met') ∧ EncS n d' c' ∧ EncI n far' met' c' ∧ LnkI p n p.Links c'
 | [], pre, c, d, far, met, hp, hS, hI, L => ⟨c, d, far, met, rfl, rfl, hS, hI, by rw [hp, List.append_nil]; exact L⟩
 | x :: xs, pre, c, d, far, met, hp, hS, hI, L => by
  have hx : idxL p.Links (pre.length : Int) = some x := by rw [idxL_nat, hp, List.getElem?_append_right (Nat.le_refl _)]; simp
  have hmem : x ∈ p.Links := (idxL_lt_len hx).2
  obtain ⟨g, g1, g2, g3, g4⟩ := gap_ok F hx
  obtain ⟨⟨f0, f1⟩, ⟨f2, f3⟩, f4, _⟩ := F.lnks x hmem
  obtain ⟨i, hi⟩ : ∃ i : Nat, x.From = (i : Int) := ⟨x.From.toNat, by omega⟩
  obtain ⟨k, hk⟩ : ∃ k : Nat, x.To = (k : Int) := ⟨x.To.toNat, by omega⟩
  have hin : i < n := by omega
  have hkn : k < n := by omega
  obtain ⟨row, s1, s2, s3⟩ := hS.row i hin
  obtain ⟨q, q1, q2, q3, q4⟩ := hI.add hn0 hin hkn g
  have hz : (pre.length : Int) + 1 = ((pre ++ [x]).length : Int) := by simp
  rw [s_l08Dist_L3, i_Distances_L2]
  simp only [hi, hk, idxL_nat, s1, Option.bind_some, s3 k hkn, g1, g2, s_l02Max_eq, q1, q3, q4, hz]
  obtain ⟨e, e1, e2, e3, e4⟩ := addD_same c i k g
  refine links_loop F hn hn0 xs (pre ++ [x]) _ _ _ _ (by rw [hp]; simp) (hS.add hin hkn s1 (by omega)) q2 ⟨fun j hj => ?_, fun i' k' a ha => ?_, fun i' k' hne hs => ?_, fun y hy => ?_⟩
  ·obtain ⟨a, h1, h2⟩ := L.diag j hj
   obtain ⟨b, h3, h4⟩ := addD_mono c i k g h1
   exact ⟨b, h3, by omega⟩
  ·by_cases hpq : i' = i ∧ k' = k
   ·obtain ⟨rfl, rfl⟩ := hpq
    rw [e1] at ha; cases ha
    exact e4 200 g4 (fun z hz => L.up _ _ z hz)
   ·rw [addD_ne c g hpq] at ha
    exact L.up _ _ a ha
  ·by_cases hpq : i' = i ∧ k' = k
   ·obtain ⟨rfl, rfl⟩ := hpq
    exact ⟨x, hmem, hi, hk⟩
   ·rw [addD_ne c g hpq] at hs
    exact L.ex _ _ hne hs
  ·rcases List.mem_append.1 hy with hy | hy
   ·obtain ⟨a, h1, h2⟩ := L.lo y hy
    obtain ⟨b, h3, h4⟩ := addD_mono c i k g h1
    exact ⟨b, h3, by omega⟩
   ·rw [List.mem_singleton.1 hy, hi, hk]
    exact ⟨e, e1, by omega⟩
theorem links_good {p : TProject} {n : Nat} (F : ProjF p) {c : Dm} (L : LnkI p n p.Links c) : GoodD (linkE p) n 0 200 c := by
 refine ⟨by omega, L.diag, L.up, fun i k hi hk hne hs => ⟨[], L.ex i k hne hs, fun x hx => by cases hx⟩, fun i k l hi hk hw hnd hl => ?_⟩
 match l, hw, hl with
 | [], hw, _ =>
  obtain ⟨x, hx, h1, h2⟩ := hw
  obtain ⟨a, h3, h4⟩ := L.lo x hx
  rw [h1, h2] at h3
  exact ⟨a, by simpa using h3, by simp; omega⟩
 | y :: l, _, hl => exact absurd (hl y (List.mem_cons_self ..)) (by omega)
structure FinI (n i k : Nat) (far : List (List Int)) (c : Dm) : Prop where
 len : far.length = n
 row : ∀ j, j < n → ∃ row, far[j]? = some row ∧ row.length = n ∧ ∀ q, q < n → ∃ v, row[q]? = some v ∧ (∀ a, c j q = some a → v = a) ∧ (ahead i k j q → c j q = none → v = -1000)
theorem FinI.next {n i k : Nat} {far : List (List Int)} {c : Dm} (h : FinI n i k far c) (hs : (c i k).isSome = true) : FinI n i (k + 1) far c := by
 refine ⟨h.len, fun j hj => ?_⟩
 obtain ⟨row, h1, h2, h3⟩ := h.row j hj
 refine ⟨row, h1, h2, fun q hq => ?_⟩
 obtain ⟨v, h4, h5, h6⟩ := h3 q hq
 refine ⟨v, h4, h5, fun hA hc => ?_⟩
 rcases ahead_next.1 hA with hA | ⟨rfl, rfl⟩
 ·exact h6 hA hc
 ·rw [hc] at hs; cases hs
theorem FinI.put {n i k : Nat} {far : List (List Int)} {c : Dm} (h : FinI n i k far c) (hi : i < n) (hk : k < n) (hc0 : c i k = none) {row : List Int} (hr : far[i]? = some row) : FinI n i (k + 1) (setL far i (setL row k (-1000))) c := by
 rw [setL_nat, setL_nat]
 refine ⟨by rw [List.length_set]; exact h.len, fun j hj => ?_⟩
 rw [set_get (by rw [h.len]; exact hi)]
 obtain ⟨row', h1, h2, h3⟩ := h.row j hj
 by_cases e : i = j
 ·subst e
  rw [if_pos rfl]
  rw [hr] at h1; cases h1
  refine ⟨_, rfl, by rw [List.length_set]; exact h2, fun q hq => ?_⟩
  rw [set_get (by rw [h2]; exact hk)]
  by_cases e2 : k = q
  ·subst e2
   rw [if_pos rfl]
   exact ⟨-1000, rfl, (fun a ha => by rw [hc0] at ha; cases ha), fun _ _ => rfl⟩
  ·rw [if_neg e2]
   obtain ⟨v, h4, h5, h6⟩ := h3 q hq
   exact ⟨v, h4, h5, fun hA hc => h6 ((ahead_next.1 hA).resolve_right (fun hh => e2 hh.2.symm)) hc⟩
 ·rw [if_neg e]
  refine ⟨row', h1, h2, fun q hq => ?_⟩
  obtain ⟨v, h4, h5, h6⟩ := h3 q hq
  exact ⟨v, h4, h5, fun hA hc => h6 ((ahead_next.1 hA).resolve_right (fun hh => e hh.1.symm)) hc⟩
theorem FinI.line {n i : Nat} {far : List (List Int)} {c : Dm} (h : FinI n i n far c) : FinI n (i + 1) 0 far c := by
 refine ⟨h.len, fun j hj => ?_⟩
 obtain ⟨row, h1, h2, h3⟩ := h.row j hj
 refine ⟨row, h1, h2, fun q hq => ?_⟩
 obtain ⟨v, h4, h5, h6⟩ := h3 q hq
 exact ⟨v, h4, h5, fun hA hc => h6 (by unfold ahead at *; omega) hc⟩
theorem fin_L7 {p : TProject} {n : Nat} (hn : p.Activities.length = n) (h6 : n ≤ 6) {P : List (List Int) × List (List Bool)} {c : Dm} (hI : EncI n P.1 P.2 c) {i : Nat} (hi : i < n) : ∀ (r k : Nat) (fuel : Nat) (far : List (List Int)), k + r = n → r < fuel → FinI n i k far c → ∃ far', i_Distances_L7 p P i fuel k far = some far' ∧ FinI n i n far' c
 | 0, k, fuel + 1, far, hk, _, h => by
  have e : k = n := by omega
  subst e
  refine ⟨far, ?_, h⟩
  rw [i_Distances_L7, hn]
  simp
 | r + 1, k, fuel + 1, far, hk, hf, h => by
  have hkn : k < n := by omega
  have hn0 : 0 < n := by omega
  obtain ⟨fr, mr, a1, a2, a3, a4, a5⟩ := hI.row i hi
  obtain ⟨row, b1, b2, b3⟩ := h.row i hi
  obtain ⟨v, b4, _⟩ := b3 k hkn
  rw [i_Distances_L7, W_nat (by omega), hn]
  simp only [idxL_nat, a2, Option.bind_some, neL_of (ne_len a4 hn0), (a5 k hkn).1, show decide ((k : Int) < (n : Int)) = true from decide_eq_true (by omega), cond_true, b1, neL_of (ne_len b2 hn0), b4]
  cases hc : c i k with
  | none =>
   simp only [Option.isSome_none, Bool.not_false, cond_true]
   exact fin_L7 hn h6 hI hi r (k + 1) fuel _ (by omega) (by omega) (h.put hi hkn hc b1)
  | some a =>
   simp only [Option.isSome_some, Bool.not_true, cond_false]
   exact fin_L7 hn h6 hI hi r (k + 1) fuel _ (by omega) (by omega) (h.next (by rw [hc]; rfl))
 | _, _, 0, _, _, h, _ => by omega
theorem fin_L6 {p : TProject} {n : Nat} (hn : p.Activities.length = n) (h6 : n ≤ 6) {P : List (List Int) × List (List Bool)} {c : Dm} (hI : EncI n P.1 P.2 c) : ∀ (r i : Nat) (fuel : Nat) (far : List (List Int)), i + r = n → r < fuel → FinI n i 0 far c → ∃ far', i_Distances_L6 p P fuel i far = some far' ∧ FinI n n 0 far' c
 | 0, i, fuel + 1, far, hk, _, h => by
  have e : i = n := by omega
  subst e
  refine ⟨far, ?_, h⟩
  rw [i_Distances_L6, hn]
  simp
 | r + 1, i, fuel + 1, far, hk, hf, h => by
  have hin : i < n := by omega
  obtain ⟨f1, h1, h2⟩ := fin_L7 hn h6 hI hin n 0 F0 far (by omega) (by unfold F0; omega) h
  have h1' : i_Distances_L7 p P (i : Int) F0 0 far = some f1 := h1
  rw [i_Distances_L6, W_nat (by omega), hn]
  simp only [h1', Option.bind_some, show decide ((i : Int) < (n : Int)) = true from decide_eq_true (by omega), cond_true]
  exact fin_L6 hn h6 hI r (i + 1) fuel _ (by omega) (by omega) h2.line
 | _, _, 0, _, _, h, _ => by omega
theorem FinI.enc {n : Nat} {far : List (List Int)} {c : Dm} (h : FinI n n 0 far c) : EncS n far c := by
 refine ⟨h.len, fun i hi => ?_⟩
 obtain ⟨row, h1, h2, h3⟩ := h.row i hi
 refine ⟨row, h1, h2, fun k hk => ?_⟩
 obtain ⟨v, h4, h5, h6⟩ := h3 k hk
 rw [h4]
 cases hc : c i k with
 | none => rw [h6 (.inl hi) hc]; rfl
 | some a => rw [h5 a hc]; rfl
theorem EncS.same {n : Nat} {d e : List (List Int)} {c : Dm} (h : EncS n d c) (k : EncS n e c) : d = e := by
 apply List.ext_getElem?
 intro i
 by_cases hi : i < n
 ·obtain ⟨r, h1, h2, h3⟩ := h.row i hi
  obtain ⟨s, k1, k2, k3⟩ := k.row i hi
  rw [h1, k1]
  congr 1
  apply List.ext_getElem?
  intro j
  by_cases hj : j < n
  ·rw [h3 j hj, k3 j hj]
  ·rw [List.getElem?_eq_none (by omega), List.getElem?_eq_none (by omega)]
 ·rw [List.getElem?_eq_none (by have := h.len; omega), List.getElem?_eq_none (by have := k.len; omega)]
theorem allNe_of {α : Type} {l : List (List α)} (h : ∀ x ∈ l, x ≠ []) : allNe l = some l := by
 unfold allNe
 have : l.any List.isEmpty = false := by
  rw [List.any_eq_false]
  intro x hx
  have := h x hx
  cases x with
  | nil => exact absurd rfl this
  | cons _ _ => simp
 rw [this]; rfl
structure MatF (n : Nat) (d : List (List Int)) : Prop where
 len : d.length = n
 row : ∀ r ∈ d, r.length = n ∧ ∀ x ∈ r, -1000 ≤ x ∧ x ≤ 1000000000000
theorem dist_ok {p : TProject} (F : ProjF p) : ∃ d, s_l08Dist p = some d ∧ MatF p.Activities.length d ∧ (i_ProjectOk p = some true → i_PositiveCycle p = some [] → i_Distances p = some d) := by
 obtain ⟨n, hn⟩ : ∃ n, p.Activities.length = n := ⟨_, rfl⟩
 have hn0 : 0 < n := by have := F.nact.1; omega
 have h6 : n ≤ 6 := by have := F.nact.2; omega
 have a1 := first_L1 hn h6 p.Activities 0 (by omega)
 rw [Nat.zero_add, hn] at a1
 have a1' : s_l08Dist_L1 p p.Activities 0 [] = some ((List.range n).map fun j => row0 j n) := a1
 obtain ⟨far, met, b1, b2⟩ := first_I hn h6 hn0 p.Activities 0 (List.replicate n []) (List.replicate n []) (by omega) ⟨by simp, by simp, fun j h _ => by omega, fun j _ hj => by simp [hj]⟩
 have b1' : i_Distances_L1 p p.Activities 0 (List.replicate n []) (List.replicate n []) = some (far, met) := b1
 have L0 : LnkI p n [] c0 := by
  refine ⟨fun i hi => ⟨0, by simp [c0], Int.le_refl _⟩, fun i k a ha => ?_, fun i k hne hs => ?_, fun x hx => by cases hx⟩
  ·unfold c0 at ha
   split at ha
   ·cases ha; omega
   ·cases ha
  ·simp [c0, hne] at hs
 obtain ⟨c1, d1, f1, m1, l1, l2, l3, l4, l5⟩ := links_loop F hn hn0 p.Links [] c0 _ far met rfl (enc0 n) b2 L0
 have l1' : s_l08Dist_L3 p p.Links 0 ((List.range n).map fun j => row0 j n) = some d1 := l1
 have l2' : i_Distances_L2 p p.Links 0 far met = some (f1, m1) := l2
 have hp6 : (200 : Int) * 6 ^ n ≤ 1000000000000 := by
  have : n = 1 ∨ n = 2 ∨ n = 3 ∨ n = 4 ∨ n = 5 ∨ n = 6 := by omega
  rcases this with h | h | h | h | h | h <;> rw [h] <;> decide
 obtain ⟨c2, U2, d2, f2, m2, s1, s2, s3, s4, s5, s6⟩ := stages hn h6 n 0 200 p.Activities F0 c1 d1 f1 m1 (by omega) hn (by unfold F0; omega) hp6 l3 l4 (links_good F l5)
 have s1' : s_l08Dist_L4 p p.Activities 0 d1 = some d2 := s1
 have s2' : i_Distances_L3 p F0 0 f1 m1 = some (f2, m2) := s2
 obtain ⟨f3, e1, e2⟩ := fin_L6 (P := (f2, m2)) hn h6 s4 n 0 F0 f2 (by omega) (by unfold F0; omega) ⟨s4.lf, fun j hj => by
  obtain ⟨fr, mr, h1, _, h3, _, h5⟩ := s4.row j hj
  refine ⟨fr, h1, h3, fun q hq => ?_⟩
  obtain ⟨v, h6, h7⟩ := (h5 q hq).2
  exact ⟨v, h6, h7, fun hA => by unfold ahead at hA; omega⟩⟩
 have e1' : i_Distances_L6 p (f2, m2) F0 0 f2 = some f3 := e1
 have he := e2.enc.same s3
 refine ⟨d2, ?_, ⟨s3.len.trans hn.symm, fun r hr => ?_⟩, fun hP hC => ?_⟩
 ·simp only [s_l08Dist, a1', Option.bind_some, l1', s1']
 ·obtain ⟨i, hi, rfl⟩ := List.mem_iff_getElem.1 hr
  have hin : i < n := by rw [← s3.len]; exact hi
  obtain ⟨row, h1, h2, h3⟩ := s3.row i hin
  rw [List.getElem?_eq_getElem hi] at h1; cases h1
  refine ⟨by rw [h2, hn], fun x hx => ?_⟩
  obtain ⟨k, hk, rfl⟩ := List.mem_iff_getElem.1 hx
  have hkn : k < n := by rw [← h2]; exact hk
  have h4 := h3 k hkn
  rw [List.getElem?_eq_getElem hk] at h4
  cases hc : c2 i k with
  | none =>
   rw [hc] at h4
   have h4 := Option.some.inj h4
   have h5 : d2[i][k] = -1000 := h4
   rw [h5]; omega
  | some a =>
   rw [hc] at h4
   have h4 := Option.some.inj h4
   have h5 : d2[i][k] = a := h4
   rw [h5]
   have u := s5.up i k a hc
   have lo : -1000 ≤ a := by
    by_cases e : i = k
    ·subst e
     obtain ⟨b, q1, q2⟩ := s5.diag i hin
     rw [hc] at q1; cases q1; omega
    ·obtain ⟨l, w1, w2⟩ := s5.ex i k hin hkn e (by rw [hc]; rfl)
     obtain ⟨l2, w3, w4, w5⟩ := w1.short
     obtain ⟨b, q1, q2⟩ := s5.lo i k l2 hin hkn w3 w4 (fun x hx => w2 x (w5 x hx))
     rw [hc] at q1; cases q1
     have := nodup_below n l2 w4 (fun x hx => w2 x (w5 x hx))
     omega
   omega
 ·have hne : allNe f3 = some f3 := allNe_of fun x hx => by
   rw [he] at hx
   obtain ⟨i, hi, rfl⟩ := List.mem_iff_getElem.1 hx
   obtain ⟨row, h1, h2, _⟩ := s3.row i (by rw [← s3.len]; exact hi)
   rw [List.getElem?_eq_getElem hi] at h1; cases h1
   exact ne_len h2 hn0
  unfold i_Distances
  rw [he] at hne e1'
  have hz : decide ((0 : Int) < ((([] : List Int).length : Nat) : Int)) = false := rfl
  simp only [hP, hC, Option.bind_some, Bool.not_true, cond_false, hz, hn, makeL_some _ n (by omega), b1', l2', s2', e1', hne]
def toL (p : TProject) (z : Int) : Int := ((idxL p.Links z).map TLink.To).getD 0
theorem Contains_eq (l : List Int) (n : Int) : slices_Contains_int l n = some (decide (n ∈ l)) := by
 have h := i_SetHas_eq l n
 unfold i_SetHas at h
 obtain ⟨v, h1, h2⟩ := bindE h
 rw [h1]; exact h2
theorem Clone_eq {l : List Int} (h : l.length ≤ 1000) : slices_Clone_int l = some l := by
 unfold slices_Clone_int appL
 rw [if_pos (by simp; omega)]; rfl
theorem appL_one {α : Type} {l : List α} (x : α) (h : l.length ≤ 1000) : appL l [x] = some (l ++ [x]) := by
 unfold appL
 rw [if_pos (by simp; omega)]
theorem ring_L1_app {p : TProject} {y g : Int} (hg : s_l07All p y = some g) : ∀ (xs : List Int) (i a s : Int), s_l07Ring_L1 p xs i a = some s → s_l07Ring_L1 p (xs ++ [y]) i a = some (W (s + g))
 | [], i, a, s, h => by
  cases h
  simp only [List.nil_append, s_l07Ring_L1, hg, Option.bind_some]
 | x :: xs, i, a, s, h => by
  rw [List.cons_append, s_l07Ring_L1]
  rw [s_l07Ring_L1] at h
  obtain ⟨v, h1, h2⟩ := bindE h
  rw [h1, Option.bind_some]
  exact ring_L1_app hg xs _ _ _ h2
theorem ring_L2_eq {p : TProject} {xl : TLink} : ∀ (xs : List Int) (i : Int), (∀ z ∈ xs, ∃ x, idxL p.Links z = some x) → s_l07Ring_L2 p xl xs i = some (if xl.To ∈ xs.map (toL p) then .inr [] else .inl ())
 | [], i, _ => rfl
 | z :: xs, i, h => by
  obtain ⟨x, hx⟩ := h z (List.mem_cons_self ..)
  have ht : toL p z = x.To := by unfold toL; rw [hx]; rfl
  rw [s_l07Ring_L2, hx, Option.bind_some, ring_L2_eq xs _ (fun y hy => h y (List.mem_cons_of_mem _ hy)), List.map_cons, ht]
  by_cases e : x.To = xl.To
  ·rw [show (x.To == xl.To) = true by simp [e], cond_true, if_pos (by rw [e]; exact List.mem_cons_self ..)]
  ·rw [show (x.To == xl.To) = false by simp [e], cond_false]
   congr 1
   by_cases e2 : xl.To ∈ xs.map (toL p)
   ·rw [if_pos e2, if_pos (List.mem_cons_of_mem _ e2)]
   ·rw [if_neg e2, if_neg (fun h => by
     rcases List.mem_cons.1 h with h | h
     ·exact e h.symm
     ·exact e2 h)]
theorem len_isEmpty {α : Type} (l : List α) : decide (0 < (l.length : Int)) = !l.isEmpty := by cases l <;> simp <;> omega
theorem loop3 {p : TProject} {way vis : List Int} {sum most w0 : Int} {xl : TLink} {fi : TProject → List Int → List Int → Int → Int → Option (List Int)} {fs : TProject → List Int → Int → Option (List Int)}
  (hw : way.length ≤ 900) (hv : vis.length ≤ 900) (F : ProjF p) (hrec : ∀ z x g, idxL p.Links z = some x → s_l07All p z = some g → ∃ v, fs p (way ++ [z]) most = some v ∧ fi p (way ++ [z]) (vis ++ [xl.To]) (W (sum + g)) most = some v) :
  ∀ (xs : List TLink) (z : Int), 0 ≤ z → p.Links.drop z.toNat = xs → ∃ v, s_l07Ring_L3 p way most fs w0 xl xs z = some v ∧ i_Project_cycle_L1 p way vis sum most fi w0 xl xs z = some v
 | [], z, _, _ => ⟨_, rfl, rfl⟩
 | x :: xs, z, h0, hd => by
  obtain ⟨hx, hd2⟩ := idxL_drop h0 hd
  obtain ⟨v0, ih1, ih2⟩ := loop3 (w0 := w0) hw hv F hrec xs (z + 1) (by omega) hd2
  obtain ⟨g, g1, g2, _⟩ := gap_ok F hx
  obtain ⟨v, r1, r2⟩ := hrec z x g hx g1
  have hap : appL ([] : List Int) way = some way := by
   unfold appL
   rw [if_pos (by simp; omega)]; rfl
  rw [s_l07Ring_L3, i_Project_cycle_L1, ih1, ih2]
  simp only [hap, appL_one z (by omega : way.length ≤ 1000), appL_one xl.To (by omega : vis.length ≤ 1000), Clone_eq (by omega : way.length ≤ 1000), Clone_eq (by omega : vis.length ≤ 1000), g2, Option.bind_some, r1, r2, len_isEmpty]
  by_cases e1 : x.From = xl.To
  ·have b1 : (x.From == xl.To) = true := by simp [e1]
   have b2 : (x.From != xl.To) = false := by simp [e1]
   by_cases e2 : w0 < z
   ·rw [b1, b2, decide_eq_true e2, decide_eq_false (by omega : ¬ z ≤ w0)]
    simp only [cond_true, cond_false, Option.bind_some]
    cases hE : v.isEmpty
    ·exact ⟨_, rfl, rfl⟩
    ·exact ⟨_, rfl, rfl⟩
   ·rw [b2, decide_eq_false e2, decide_eq_true (by omega : z ≤ w0)]
    exact ⟨_, rfl, rfl⟩
  ·have b1 : (x.From == xl.To) = false := by simp [e1]
   have b2 : (x.From != xl.To) = true := by simp [e1]
   rw [b1, b2]
   by_cases e2 : w0 < z
   ·rw [decide_eq_true e2]; exact ⟨_, rfl, rfl⟩
   ·rw [decide_eq_false e2]; exact ⟨_, rfl, rfl⟩
theorem ring_eq {p : TProject} (F : ProjF p) : ∀ (r : Nat) (fuel : Nat) (ini : List Int) (wl : Int) (x0 : TLink) (w0 sum : Int) (most : Nat), (ini ++ [wl]).length + r = most → most ≤ 200 → r < fuel → (∀ z ∈ ini ++ [wl], ∃ x, idxL p.Links z = some x) → idxL (ini ++ [wl]) 0 = some w0 → idxL p.Links w0 = some x0 → s_l07Ring_L1 p (ini ++ [wl]) 0 0 = some sum →
  ∃ v, s_l07Ring_R fuel p (ini ++ [wl]) most = some v ∧ i_Project_cycle_R fuel p (ini ++ [wl]) (x0.From :: ini.map (toL p)) sum most = some v ∧ (v = [] ∨ v.length = most)
 | r, fuel + 1, ini, wl, x0, w0, sum, most, hr, hm, hf, hz, h0, hx0, hs => by
  have hlen : (ini ++ [wl]).length = ini.length + 1 := by simp
  obtain ⟨xl, hxl⟩ := hz wl (by simp)
  have hW : W (((ini ++ [wl]).length : Int) - 1) = (ini.length : Int) := by rw [hlen, W_of (by omega)]; omega
  have hlast : idxL (ini ++ [wl]) (ini.length : Int) = some wl := by rw [idxL_nat, List.getElem?_append_right (Nat.le_refl _)]; simp
  have hsub : subL (ini ++ [wl]) 0 (ini.length : Int) = some ini := by
   unfold subL
   rw [if_pos (by simp; omega)]
   simp
  have htl : ∀ y, idxL p.Links wl = some y → toL p wl = y.To := fun y hy => by unfold toL; rw [hy]; rfl
  show ∃ v, s_l07Ring_S (s_l07Ring_R fuel) p (ini ++ [wl]) most = some v ∧ i_Project_cycle_S (i_Project_cycle_R fuel) p (ini ++ [wl]) (x0.From :: ini.map (toL p)) sum most = some v ∧ (v = [] ∨ v.length = most)
  unfold s_l07Ring_S i_Project_cycle_S
  simp only [h0, hx0, hW, hlast, hxl, Option.bind_some, hs, hsub, Contains_eq, ring_L2_eq ini 0 (fun z hzz => hz z (List.mem_append.2 (.inl hzz))), Clone_eq (by omega : (ini ++ [wl]).length ≤ 1000), neL_of (show ini ++ [wl] ≠ [] by simp)]
  by_cases e1 : (ini ++ [wl]).length = most
  ·have b1 : (((ini ++ [wl]).length : Int) == (most : Int)) = true := by rw [e1]; exact beq_self_eq_true _
   rw [b1]
   by_cases e2 : xl.To = x0.From
   ·rw [show (xl.To == x0.From) = true by simp [e2]]
    by_cases e3 : 0 < sum
    ·rw [decide_eq_true e3]; exact ⟨_, rfl, rfl, .inr e1⟩
    ·rw [decide_eq_false e3]; exact ⟨_, rfl, rfl, .inl rfl⟩
   ·rw [show (xl.To == x0.From) = false by simp [e2]]
    exact ⟨_, rfl, rfl, .inl rfl⟩
  ·have b1 : (((ini ++ [wl]).length : Int) == (most : Int)) = false := by
    rw [int_beq]; exact decide_eq_false (by omega)
   rw [b1]
   by_cases e2 : xl.To = x0.From
   ·rw [show (xl.To == x0.From) = true by simp [e2], show decide (xl.To ∈ x0.From :: ini.map (toL p)) = true by simp [e2]]
    refine ⟨[], ?_, rfl, .inl rfl⟩
    cases decide (0 < sum) <;> rfl
   ·rw [show (xl.To == x0.From) = false by simp [e2]]
    by_cases e3 : xl.To ∈ ini.map (toL p)
    ·rw [if_pos e3, show decide (xl.To ∈ x0.From :: ini.map (toL p)) = true from decide_eq_true (List.mem_cons_of_mem _ e3)]
     exact ⟨_, rfl, rfl, .inl rfl⟩
    ·rw [if_neg e3, show decide (xl.To ∈ x0.From :: ini.map (toL p)) = false from decide_eq_false (fun h => by
      rcases List.mem_cons.1 h with h | h
      ·exact e2 h
      ·exact e3 h)]
     have hvis : x0.From :: ini.map (toL p) ++ [xl.To] = x0.From :: (ini ++ [wl]).map (toL p) := by
      rw [List.map_append, List.map_cons, List.map_nil, htl xl hxl]; rfl
     have hrec : ∀ z x g, idxL p.Links z = some x → s_l07All p z = some g → ∃ v, s_l07Ring_R fuel p (ini ++ [wl] ++ [z]) most = some v ∧ i_Project_cycle_R fuel p (ini ++ [wl] ++ [z]) (x0.From :: ini.map (toL p) ++ [xl.To]) (W (sum + g)) most = some v ∧ (v = [] ∨ v.length = most) := fun z x g hx hg => by
      have hi0 : idxL (ini ++ [wl] ++ [z]) 0 = some w0 := by
       have h2 : (ini ++ [wl])[0]? = some w0 := by
        have := (idxL_spec h0).2
        simpa using this
       show idxL (ini ++ [wl] ++ [z]) ((0 : Nat) : Int) = some w0
       rw [idxL_nat, List.getElem?_append_left (by rw [hlen]; omega)]
       exact h2
      have hzz : ∀ y ∈ ini ++ [wl] ++ [z], ∃ x, idxL p.Links y = some x := fun y hy => by
       rcases List.mem_append.1 hy with h | h
       ·exact hz y h
       ·rw [List.mem_singleton.1 h]; exact ⟨x, hx⟩
      rw [hvis]
      exact ring_eq F (r - 1) fuel (ini ++ [wl]) z x0 w0 (W (sum + g)) most (by simp only [List.length_append, List.length_singleton] at hr e1 ⊢; omega) hm (by simp only [List.length_append, List.length_singleton] at hr e1; omega) hzz hi0 hx0 (ring_L1_app hg _ _ _ _ hs)
     obtain ⟨v, l1, l2⟩ := loop3 (w0 := w0) (xl := xl) (vis := x0.From :: ini.map (toL p)) (sum := sum) (most := (most : Int)) (by rw [hlen]; omega) (by simp; omega) F (fun z x g hx hg => by
      obtain ⟨v, q1, q2, _⟩ := hrec z x g hx hg
      exact ⟨v, q1, q2⟩) p.Links 0 (Int.le_refl _) rfl
     have l3 : ∀ (xs : List TLink) (z : Int), 0 ≤ z → p.Links.drop z.toNat = xs → ∀ q, s_l07Ring_L3 p (ini ++ [wl]) most (s_l07Ring_R fuel) w0 xl xs z = some (.inr q) → q = [] ∨ q.length = most := by
      intro xs
      induction xs with
      | nil => intro z _ _ q h; cases h
      | cons x xs ih =>
       intro z hz0 hd q h
       obtain ⟨hx, hd2⟩ := idxL_drop hz0 hd
       obtain ⟨g, g1, _⟩ := gap_ok F hx
       obtain ⟨v, q1, _, q3⟩ := hrec z x g hx g1
       have hap : appL ([] : List Int) (ini ++ [wl]) = some (ini ++ [wl]) := by
        unfold appL
        rw [if_pos (by simp; omega)]; rfl
       rw [s_l07Ring_L3] at h
       simp only [hap, appL_one z (by omega : (ini ++ [wl]).length ≤ 1000), Option.bind_some, q1] at h
       obtain ⟨e, he, h⟩ := bindE h
       cases e
       ·simp only [cond_false] at h
        cases hc : decide (0 < (v.length : Int))
        ·rw [hc] at h; exact ih (z + 1) (by omega) hd2 q h
        ·rw [hc] at h; cases h; exact q3
       ·exact ih (z + 1) (by omega) hd2 q h
     cases v with
     | inl u =>
      refine ⟨[], ?_, ?_, .inl rfl⟩
      ·simp only [sumBind, Option.bind_some, Sum.elim_inl, l1, cond_false]
      ·simp only [sumBind, Option.bind_some, Sum.elim_inl, l2, cond_false]
     | inr q =>
      refine ⟨q, ?_, ?_, l3 p.Links 0 (Int.le_refl _) rfl q l1⟩
      ·simp only [sumBind, Option.bind_some, Sum.elim_inl, l1, cond_false, Sum.elim_inr]
      ·simp only [sumBind, Option.bind_some, Sum.elim_inl, l2, cond_false, Sum.elim_inr]
 | _, 0, _, _, _, _, _, _, _, _, h, _, _, _, _ => by omega
theorem pos_L2 {p : TProject} (F : ProjF p) (most : Nat) (h1 : 1 ≤ most) (hm : most ≤ 200) : ∀ (xs : List TLink) (z : Int), 0 ≤ z → p.Links.drop z.toNat = xs → ∃ v, s_PositiveCycle_L2 p most xs z = some v ∧ i_PositiveCycle_L2 p most xs z = some v ∧ ∀ q, v = .inr q → q.length ≤ 200
 | [], z, _, _ => ⟨_, rfl, rfl, fun q h => by cases h⟩
 | x :: xs, z, h0, hd => by
  obtain ⟨hx, hd2⟩ := idxL_drop h0 hd
  obtain ⟨v0, ih1, ih2, ih3⟩ := pos_L2 F most h1 hm xs (z + 1) (by omega) hd2
  obtain ⟨g, g1, g2, g3, g4⟩ := gap_ok F hx
  have hW : W (0 + g) = g := by rw [W_of (by omega)]; omega
  obtain ⟨v, r1, r2, r3⟩ := ring_eq F (most - 1) F0 [] z x z g most (by simp; omega) hm (by unfold F0; omega) (fun y hy => by
   rw [List.mem_singleton.1 hy]; exact ⟨x, hx⟩) rfl hx (by
   show s_l07Ring_L1 p [z] 0 0 = some g
   simp only [s_l07Ring_L1, g1, Option.bind_some, hW])
  have r1' : s_l07Ring p [z] most = some v := r1
  have r2' : i_Project_cycle p [z] [x.From] g most = some v := r2
  rw [s_PositiveCycle_L2, i_PositiveCycle_L2, ih1, ih2]
  simp only [r1', r2', g2, Option.bind_some, len_isEmpty]
  cases hE : v.isEmpty
  ·exact ⟨_, rfl, rfl, fun q h => by
    cases h
    rcases r3 with h | h
    ·rw [h]; simp
    ·omega⟩
  ·exact ⟨_, rfl, rfl, ih3⟩
theorem pos_L1 {p : TProject} (F : ProjF p) : ∀ (r : Nat) (fuel : Nat) (most : Nat), 1 ≤ most → most + r = 200 → r < fuel → ∃ v, s_PositiveCycle_L1 p fuel most = some v ∧ i_PositiveCycle_L1 p fuel most = some v ∧ ∀ q, v = .inr q → q.length ≤ 200
 | 0, fuel + 1, most, h1, hr, _ => by
  have h6 := F.nact.2
  refine ⟨.inl (), ?_, ?_, fun q h => by cases h⟩
  ·rw [s_PositiveCycle_L1, decide_eq_false (by omega)]; rfl
  ·rw [i_PositiveCycle_L1, decide_eq_false (by omega)]; rfl
 | r + 1, fuel + 1, most, h1, hr, hf => by
  obtain ⟨v0, ih1, ih2, ih3⟩ := pos_L1 F r fuel (most + 1) (by omega) (by omega) (by omega)
  obtain ⟨v, a1, a2, a3⟩ := pos_L2 F most h1 (by omega) p.Links 0 (Int.le_refl _) rfl
  rw [s_PositiveCycle_L1, i_PositiveCycle_L1, W_nat (by omega), ih1, ih2, a1, a2]
  cases decide ((most : Int) ≤ (p.Activities.length : Int))
  ·exact ⟨_, rfl, rfl, fun q h => by cases h⟩
  ·cases v with
   | inl u => exact ⟨_, rfl, rfl, ih3⟩
   | inr q => exact ⟨_, rfl, rfl, fun q' h => by cases h; exact a3 q rfl⟩
 | _, 0, _, _, _, h => by omega
theorem pos_eq {p : TProject} (hs : ∀ x ∈ p.Activities, x.Name.size ≤ 9223372036854775807) : ∃ v, s_PositiveCycle p = some v ∧ i_PositiveCycle p = some v ∧ v.length ≤ 1048576 := by
 obtain ⟨b, hb, hF⟩ := s_ProjectOk_ok p hs
 unfold s_PositiveCycle i_PositiveCycle
 rw [ProjectOk_eq, hb]
 cases b with
 | false => exact ⟨_, rfl, rfl, by simp⟩
 | true =>
  obtain ⟨v, h1, h2, h3⟩ := pos_L1 (hF rfl) 198 F0 2 (by omega) (by omega) (by unfold F0; omega)
  have h1' : s_PositiveCycle_L1 p F0 2 = some v := h1
  have h2' : i_PositiveCycle_L1 p F0 2 = some v := h2
  simp only [Option.bind_some, Bool.not_true, cond_false, h1', h2', sumBind]
  cases v with
  | inl u => exact ⟨_, rfl, rfl, by simp⟩
  | inr q => exact ⟨_, rfl, rfl, by have := h3 q rfl; omega⟩
theorem Distances_eq {p : TProject} (hs : ∀ x ∈ p.Activities, x.Name.size ≤ 9223372036854775807) : ∃ d, s_Distances p = some d ∧ i_Distances p = some d ∧ (d = [] ∨ (ProjF p ∧ s_ProjectOk p = some true ∧ MatF p.Activities.length d)) := by
 obtain ⟨b, hb, hF⟩ := s_ProjectOk_ok p hs
 obtain ⟨v, h1, h2, _⟩ := pos_eq hs
 cases b with
 | false =>
  refine ⟨[], ?_, ?_, .inl rfl⟩
  ·simp only [s_Distances, hb, Option.bind_some, Bool.not_false, cond_true]
  ·simp only [i_Distances, ProjectOk_eq, hb, Option.bind_some, Bool.not_false, cond_true]
 | true =>
  have F := hF rfl
  cases v with
  | cons y ys =>
   have hc : decide (0 < (((y :: ys).length : Nat) : Int)) = true := decide_eq_true (by simp)
   refine ⟨[], ?_, ?_, .inl rfl⟩
   ·simp only [s_Distances, hb, Option.bind_some, Bool.not_true, cond_false, h1, hc, cond_true]
   ·simp only [i_Distances, ProjectOk_eq, hb, Option.bind_some, Bool.not_true, cond_false, h2, hc, cond_true]
  | nil =>
   obtain ⟨d, d1, d2, d3⟩ := dist_ok F
   refine ⟨d, ?_, d3 (by rw [ProjectOk_eq]; exact hb) h2, .inr ⟨F, hb, d2⟩⟩
   have hz : decide ((0 : Int) < ((([] : List Int).length : Nat) : Int)) = false := rfl
   simp only [s_Distances, hb, Option.bind_some, Bool.not_true, cond_false, h1, hz, d1]
def colM (rows : List (List Int)) (k : Nat) : Int := rows.foldl (fun m r => max m (r.getD k 0)) 0
theorem colM_snoc (rows : List (List Int)) (r : List Int) (k : Nat) : colM (rows ++ [r]) k = max (colM rows k) (r.getD k 0) := by simp [colM]
structure SqF (n : Nat) (d : List (List Int)) : Prop where
 len : d.length = n
 row : ∀ r ∈ d, r.length = n
theorem SqF.at {n : Nat} {d : List (List Int)} (h : SqF n d) {i : Nat} (hi : i < n) : ∃ row, d[i]? = some row ∧ row.length = n ∧ d.take (i + 1) = d.take i ++ [row] ∧ ∀ k, k < n → row[k]? = some (row.getD k 0) := by
 have hl : i < d.length := by rw [h.len]; exact hi
 refine ⟨d[i], List.getElem?_eq_getElem hl, h.row _ (List.getElem_mem hl), by rw [List.take_add_one, List.getElem?_eq_getElem hl]; rfl, fun k hk => ?_⟩
 have hk2 : k < d[i].length := by rw [h.row _ (List.getElem_mem hl)]; exact hk
 rw [List.getElem?_eq_getElem hk2, List.getD_eq_getElem?_getD, List.getElem?_eq_getElem hk2]; rfl
theorem earl_s2 {n : Nat} {d : List (List Int)} (h : SqF n d) (hn : n ≤ 100) {k : Nat} (hk : k < n) : ∀ (r i fuel : Nat), i + r = n → r < fuel → s_EarliestStarts_L2 d k fuel (colM (d.take i) k) i = some (colM d k)
 | 0, i, fuel + 1, hi, _ => by
  rw [s_EarliestStarts_L2, h.len, decide_eq_false (by omega), cond_false, List.take_of_length_le (by rw [h.len]; omega)]
 | r + 1, i, fuel + 1, hi, hf => by
  obtain ⟨row, h1, h2, h3, h4⟩ := h.at (show i < n by omega)
  rw [s_EarliestStarts_L2, h.len, decide_eq_true (by omega), W_nat (by omega)]
  simp only [cond_true, idxL_nat, h1, Option.bind_some, h4 k hk, s_l02Max_eq]
  rw [← colM_snoc, ← h3]
  exact earl_s2 h hn hk r (i + 1) fuel (by omega) (by omega)
 | _, _, 0, _, h => by omega
theorem earl_s1 {n : Nat} {d : List (List Int)} (h : SqF n d) (hn : n ≤ 100) : ∀ (r k fuel : Nat), k + r = n → r < fuel → s_EarliestStarts_L1 d fuel k ((List.range k).map (colM d)) = some ((List.range n).map (colM d))
 | 0, k, fuel + 1, hk, _ => by
  rw [s_EarliestStarts_L1, h.len, decide_eq_false (by omega), cond_false]
  have : k = n := by omega
  rw [this]
 | r + 1, k, fuel + 1, hk, hf => by
  have h2 := earl_s2 h hn (show k < n by omega) n 0 F0 (by omega) (by unfold F0; omega)
  have h2' : s_EarliestStarts_L2 d (k : Int) F0 0 0 = some (colM d k) := h2
  have hr : (List.range (k + 1)).map (colM d) = (List.range k).map (colM d) ++ [colM d k] := by simp [List.range_succ]
  rw [s_EarliestStarts_L1, h.len, decide_eq_true (by omega), W_nat (by omega)]
  simp only [cond_true, h2', Option.bind_some, appL_one (colM d k) (show ((List.range k).map (colM d)).length ≤ 1000 by simp; omega)]
  rw [← hr]
  exact earl_s1 h hn r (k + 1) fuel (by omega) (by omega)
 | _, _, 0, _, h => by omega
theorem range_set {n k : Nat} (hk : k < n) (g : Nat → Int) (v : Int) : ((List.range n).map g).set k v = (List.range n).map fun q => if q = k then v else g q := by
 apply List.ext_getElem?
 intro j
 rw [set_get (by simpa using hk), List.getElem?_map, List.getElem?_map]
 by_cases hj : j < n
 ·rw [List.getElem?_range hj]
  by_cases e : k = j
  ·subst e; simp
  ·rw [if_neg e]; simp [Ne.symm e]
 ·have : (List.range n)[j]? = none := List.getElem?_eq_none (by simp; omega)
  rw [this, if_neg (by omega)]; rfl
theorem earl_i2 {n : Nat} {row : List Int} (hl : row.length = n) (hn : n ≤ 100) (f : Nat → Int) : ∀ (r k fuel : Nat), k + r = n → r < fuel → i_EarliestStarts_L2 row fuel k ((List.range n).map fun q => if q < k then max (f q) (row.getD q 0) else f q) = some ((List.range n).map fun q => max (f q) (row.getD q 0))
 | 0, k, fuel + 1, hk, _ => by
  rw [i_EarliestStarts_L2, hl, decide_eq_false (by omega), cond_false]
  congr 1
  refine List.map_congr_left fun q hq => ?_
  have := List.mem_range.1 hq
  rw [if_pos (by omega)]
 | r + 1, k, fuel + 1, hk, hf => by
  have hkn : k < n := by omega
  have h1 : row[k]? = some (row.getD k 0) := by
   have hk2 : k < row.length := by omega
   rw [List.getElem?_eq_getElem hk2, List.getD_eq_getElem?_getD, List.getElem?_eq_getElem hk2]; rfl
  have h2 : ((List.range n).map fun q => if q < k then max (f q) (row.getD q 0) else f q)[k]? = some (f k) := by
   rw [List.getElem?_map, List.getElem?_range hkn]; simp
  rw [i_EarliestStarts_L2, hl, decide_eq_true (by omega), W_nat (by omega)]
  simp only [cond_true, idxL_nat, setL_nat, h1, h2, Option.bind_some]
  rw [range_set hkn]
  have hq : ((List.range n).map fun q => if q = k then max (f k) (row.getD k 0) else if q < k then max (f q) (row.getD q 0) else f q) = (List.range n).map fun q => if q < k + 1 then max (f q) (row.getD q 0) else f q := by
   refine List.map_congr_left fun q hq => ?_
   by_cases e : q = k
   ·subst e; rw [if_pos rfl, if_pos (by omega)]
   ·rw [if_neg e]
    by_cases e2 : q < k
    ·rw [if_pos e2, if_pos (by omega)]
    ·rw [if_neg e2, if_neg (by omega)]
  rw [hq]
  exact earl_i2 hl hn f r (k + 1) fuel (by omega) (by omega)
 | _, _, 0, _, h => by omega
theorem earl_i1 {n : Nat} {d : List (List Int)} (h : SqF n d) (hn : n ≤ 100) : ∀ (r i fuel : Nat), i + r = n → r < fuel → i_EarliestStarts_L1 d fuel i ((List.range n).map (colM (d.take i))) = some ((List.range n).map (colM d))
 | 0, i, fuel + 1, hk, _ => by
  rw [i_EarliestStarts_L1, h.len, decide_eq_false (by omega), cond_false, List.take_of_length_le (by rw [h.len]; omega)]
 | r + 1, i, fuel + 1, hk, hf => by
  obtain ⟨row, h1, h2, h3, h4⟩ := h.at (show i < n by omega)
  have h5 := earl_i2 h2 hn (colM (d.take i)) n 0 F0 (by omega) (by unfold F0; omega)
  have h5' : i_EarliestStarts_L2 row F0 0 ((List.range n).map (colM (d.take i))) = some ((List.range n).map fun q => max (colM (d.take i) q) (row.getD q 0)) := by
   rw [← h5]
   congr 1
  have h6 : ((List.range n).map fun q => max (colM (d.take i) q) (row.getD q 0)) = (List.range n).map (colM (d.take (i + 1))) := by
   refine List.map_congr_left fun q _ => ?_
   rw [h3, colM_snoc]
  rw [i_EarliestStarts_L1, h.len, decide_eq_true (by omega), W_nat (by omega)]
  simp only [cond_true, idxL_nat, h1, Option.bind_some, h5', h6]
  exact earl_i1 h hn r (i + 1) fuel (by omega) (by omega)
 | _, _, 0, _, h => by omega
theorem Earl_eq {p : TProject} {d : List (List Int)} {n : Nat} (h1 : s_Distances p = some d) (h2 : i_Distances p = some d) (h : SqF n d) (hn : n ≤ 100) : s_EarliestStarts p = some ((List.range n).map (colM d)) ∧ i_EarliestStarts p = some ((List.range n).map (colM d)) := by
 have a1 := earl_s1 h hn n 0 F0 (by omega) (by unfold F0; omega)
 have a1' : s_EarliestStarts_L1 d F0 0 [] = some ((List.range n).map (colM d)) := a1
 have a2 := earl_i1 h hn n 0 F0 (by omega) (by unfold F0; omega)
 have a3 : (List.range n).map (colM (d.take 0)) = List.replicate n 0 := by
  rw [List.take_zero]
  apply List.ext_getElem?
  intro j
  rw [List.getElem?_map, List.getElem?_replicate]
  by_cases hj : j < n
  ·rw [List.getElem?_range hj, if_pos hj]; rfl
  ·have : (List.range n)[j]? = none := List.getElem?_eq_none (by simp; omega)
   rw [this, if_neg hj]; rfl
 rw [a3] at a2
 have a2' : i_EarliestStarts_L1 d F0 0 (List.replicate n 0) = some ((List.range n).map (colM d)) := a2
 constructor
 ·simp only [s_EarliestStarts, h1, Option.bind_some, a1']
 ·simp only [i_EarliestStarts, h2, Option.bind_some, h.len, makeL_some _ n (by omega), a2']
theorem short_ok {p : TProject} (F : ProjF p) {z : Int} (h0 : 0 ≤ z) (h : z < p.Activities.length) : ∃ v, s_l08Short p z = some v ∧ i_Project_shortest p z = some v ∧ 0 ≤ v ∧ v ≤ 12 := by
 obtain ⟨x, hx, _⟩ := idxL_some h0 h
 obtain ⟨v, h1, h2, h3, h4, h5⟩ := minDur_ok F hx
 exact ⟨v, by simp only [s_l08Short, hx, Option.bind_some, h1, h2], by simp only [i_Project_shortest, hx, Option.bind_some, ModeIndexes_eq, h1, h3], h4, h5⟩
theorem path_L1 {p : TProject} (F : ProjF p) : ∀ (xs : List Int) (z a : Int), 0 ≤ z → z + xs.length ≤ p.Activities.length → ∃ v, s_PathBound_L1 p xs z a = some v ∧ i_PathBound_L1 p xs z a = some v
 | [], z, a, _, _ => ⟨_, rfl, rfl⟩
 | x :: xs, z, a, h0, h => by
  simp only [List.length_cons] at h
  obtain ⟨v, h1, h2, _⟩ := short_ok F h0 (show z < p.Activities.length by omega)
  obtain ⟨w, h3, h4⟩ := path_L1 F xs (z + 1) (max a (W (x + v))) (by omega) (by omega)
  exact ⟨w, by simp only [s_PathBound_L1, h1, Option.bind_some, s_l02Max_eq, h3], by simp only [i_PathBound_L1, h2, Option.bind_some, h4]⟩
theorem PathBound_eq {p : TProject} (hs : ∀ x ∈ p.Activities, x.Name.size ≤ 9223372036854775807) : ∃ v, s_PathBound p = some v ∧ i_PathBound p = some v := by
 obtain ⟨d, d1, d2, d3⟩ := Distances_eq hs
 rcases d3 with rfl | ⟨F, _, d3⟩
 ·obtain ⟨e1, e2⟩ := Earl_eq (n := 0) d1 d2 ⟨rfl, fun r hr => by cases hr⟩ (by omega)
  exact ⟨0, by simp only [s_PathBound, e1, Option.bind_some]; rfl, by simp only [i_PathBound, e2, Option.bind_some]; rfl⟩
 ·obtain ⟨e1, e2⟩ := Earl_eq d1 d2 ⟨d3.len, fun r hr => (d3.row r hr).1⟩ (by have := F.nact.2; omega)
  obtain ⟨v, h1, h2⟩ := path_L1 F ((List.range p.Activities.length).map (colM d)) 0 0 (Int.le_refl _) (by simp)
  exact ⟨v, by simp only [s_PathBound, e1, Option.bind_some, h1], by simp only [i_PathBound, e2, Option.bind_some, h2]⟩
theorem work_L3 {k : Int} : ∀ (xs : List TActivity) (z a : Int), (∀ x ∈ xs, x.Modes.length ≤ 200) → ∃ v, s_WorkBound_L3 k xs z a = some v ∧ i_WorkBound_L3 k xs z a = some v
 | [], z, a, _ => ⟨_, rfl, rfl⟩
 | x :: xs, z, a, h => by
  have hx := h x (List.mem_cons_self ..)
  obtain ⟨g, hg⟩ : ∃ g, s_MinWork x (rangeI x.Modes.length) k = some g := ⟨_, by simp only [s_MinWork, s_l04Least_eq, Option.bind_some]; rfl⟩
  obtain ⟨v, h1, h2⟩ := work_L3 (k := k) xs (z + 1) (W (a + g)) (fun y hy => h y (List.mem_cons_of_mem _ hy))
  exact ⟨v, by simp only [s_WorkBound_L3, s_ModeIndexes_eq x hx, Option.bind_some, hg, h1], by simp only [i_WorkBound_L3, ModeIndexes_eq, s_ModeIndexes_eq x hx, Option.bind_some, MinWork_eq x _ k (by omega : x.Modes.length ≤ 1048576), hg, h2]⟩
theorem cap_at {p : TProject} (F : ProjF p) (hp : s_ProjectOk p = some true) {z t : Int} {x : TResource} (hx : idxL p.Resources z = some x) : s_CapacityIn p z 0 t = s_TotalCapacity x.Steps 0 t := by
 have h1 := idxL_lt_len hx
 have h0 := (idxL_spec hx).1
 have h3 := F.nres
 have hin : inR z 0 (W ((p.Resources.length : Int) - 1)) = true := by rw [inR_iff, W_of (by omega)]; omega
 obtain ⟨v, hv⟩ := s_TotalCapacity_ok x.Steps 0 t
 simp only [s_CapacityIn, hp, s_l01In_eq, hin, Option.bind_some, Bool.not_true, cond_false, hx, hv]
theorem work_L2 {p : TProject} (F : ProjF p) (hp : s_ProjectOk p = some true) (t : Int) : ∀ (xs : List TResource) (z : Int) (e : Bool), 0 ≤ z → p.Resources.drop z.toNat = xs → ∃ v, s_WorkBound_L2 p t xs z e = some v ∧ i_WorkBound_L2 p t xs z e = some v
 | [], z, e, _, _ => ⟨_, rfl, rfl⟩
 | x :: xs, z, e, h0, hd => by
  obtain ⟨hx, hd2⟩ := idxL_drop h0 hd
  obtain ⟨g, g1, g2⟩ := work_L3 (k := z) p.Activities 0 0 (fun y hy => by have := (F.acts y hy).2.1; omega)
  obtain ⟨c, hc⟩ := s_TotalCapacity_ok x.Steps 0 t
  rw [s_WorkBound_L2, i_WorkBound_L2]
  simp only [g1, g2, cap_at F hp hx, TotalCapacity_eq, hc, Option.bind_some]
  cases e
  ·exact work_L2 F hp t xs (z + 1) _ (by omega) hd2
  ·exact work_L2 F hp t xs (z + 1) _ (by omega) hd2
theorem work_L1 {p : TProject} (F : ProjF p) (hp : s_ProjectOk p = some true) : ∀ (r fuel : Nat) (t : Int), 1 ≤ t → 61 - t ≤ r → r < fuel → ∃ v, s_WorkBound_L1 p fuel t = some v ∧ i_WorkBound_L1 p fuel t = some v
 | r, fuel + 1, t, h1, hr, hf => by
  rw [s_WorkBound_L1, i_WorkBound_L1]
  by_cases ht : t ≤ 60
  ·rw [decide_eq_true ht]
   obtain ⟨b, b1, b2⟩ := work_L2 F hp t p.Resources 0 true (Int.le_refl _) rfl
   have hW : W (t + 1) = t + 1 := W_of (by omega)
   simp only [b1, b2, hW, cond_true, Option.bind_some]
   cases b
   ·exact work_L1 F hp (r - 1) fuel (t + 1) (by omega) (by omega) (by omega)
   ·exact ⟨_, rfl, rfl⟩
  ·rw [decide_eq_false ht]
   exact ⟨_, rfl, rfl⟩
 | _, 0, _, _, _, h => by omega
theorem WorkBound_eq {p : TProject} (hs : ∀ x ∈ p.Activities, x.Name.size ≤ 9223372036854775807) : ∃ v, s_WorkBound p = some v ∧ i_WorkBound p = some v := by
 obtain ⟨b, hb, hF⟩ := s_ProjectOk_ok p hs
 obtain ⟨v, v1, v2⟩ := PathBound_eq hs
 simp only [s_WorkBound, i_WorkBound, ProjectOk_eq, hb, v1, v2, s_l02Max_eq, Option.bind_some]
 cases b with
 | false => exact ⟨_, rfl, rfl⟩
 | true =>
  have e : max v 1 = max 1 v := by omega
  have h1 : 1 ≤ max 1 v := by omega
  obtain ⟨w, w1, w2⟩ := work_L1 (hF rfl) hb 60 F0 (max 1 v) h1 (by omega) (by unfold F0; omega)
  rw [e]
  simp only [Bool.not_true, cond_false, w1, w2, sumBind, Option.bind_some]
  cases w with
  | inl u => exact ⟨_, rfl, rfl⟩
  | inr q => exact ⟨_, rfl, rfl⟩
theorem core_WorkBound (p : TProject) (hp : bTProject 1048576 p) : ∃ v, s_WorkBound p = some v ∧ i_WorkBound p = some v := WorkBound_eq (names_of hp (by omega))
end Go.Px.YtimegoembedagaaGreat
