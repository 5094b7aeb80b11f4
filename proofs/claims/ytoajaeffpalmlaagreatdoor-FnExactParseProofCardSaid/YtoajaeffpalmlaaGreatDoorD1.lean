/-
  PROVED: definitions that say what functions of the program compute. No condition.
-/
import Derived.Test.YtoajaeffpalmlaaGreatDoorQ4
namespace Go.Px.YtoajaeffpalmlaaGreatDoor
set_option linter.unusedSimpArgs false
set_option linter.unusedVariables false
open Go.Px
structure TMode where
 Duration:Int
 Usage:List Int
 Consumption:List Int
 deriving DecidableEq
structure TActivity where
 Name:ByteArray
 Family:Int
 Modes:List TMode
 deriving DecidableEq
structure TLink where
 From:Int
 To:Int
 FromEnd:Bool
 Lag:Int
 deriving DecidableEq
structure TStep where
 At:Int
 Capacity:Int
 deriving DecidableEq
structure TResource where
 Steps:List TStep
 Setup:List (List Int)
 deriving DecidableEq
structure TProject where
 Deadline:Int
 Activities:List TActivity
 Links:List TLink
 Resources:List TResource
 Stocks:List Int
 deriving DecidableEq
structure TRule where
 Kind:Int
 A:Int
 B:Int
 C:Int
 deriving DecidableEq
structure TLiteral where
 Kind:Int
 Activity:Int
 Value:Int
 deriving DecidableEq
structure TLine where
 Kind:Int
 Rule:TRule
 Clause:List TLiteral
 deriving DecidableEq
abbrev eTMode (x:TMode):PV:=.agg [int x.Duration,.slice (x.Usage.map int),.slice (x.Consumption.map int)]
abbrev eTActivity (x:TActivity):PV:=.agg [str x.Name,int x.Family,.slice (x.Modes.map eTMode)]
abbrev eTLink (x:TLink):PV:=.agg [int x.From,int x.To,bool x.FromEnd,int x.Lag]
abbrev eTStep (x:TStep):PV:=.agg [int x.At,int x.Capacity]
abbrev l_int (x:List Int):PV:=.slice (x.map int)
abbrev eTResource (x:TResource):PV:=.agg [.slice (x.Steps.map eTStep),.slice (x.Setup.map l_int)]
abbrev eTProject (x:TProject):PV:=.agg [int x.Deadline,.slice (x.Activities.map eTActivity),.slice (x.Links.map eTLink),.slice (x.Resources.map eTResource),.slice (x.Stocks.map int)]
abbrev e_u8 (x:Int):PV:=.lit (.int .u8 x)
abbrev eTRule (x:TRule):PV:=.agg [int x.Kind,int x.A,int x.B,int x.C]
abbrev eTLiteral (x:TLiteral):PV:=.agg [int x.Kind,int x.Activity,int x.Value]
abbrev eTLine (x:TLine):PV:=.agg [int x.Kind,int x.Rule.Kind,int x.Rule.A,int x.Rule.B,int x.Rule.C,.slice (x.Clause.map eTLiteral)]
abbrev tTLine (x:TLine):PV:=.agg [int x.Kind,int x.Rule.Kind,int x.Rule.A,int x.Rule.B,int x.Rule.C,.obj true 114 3 (x.Clause.map eTLiteral)]
def w_szIntS (b0:List Int)(b1:Int):Option Int:=
 (bif (decide ((W (b1 - (b0.length:Int)))<0)) then
 some (-1)
 else
 some (W (b1 - (b0.length:Int))))
def w_szMode (b0:TMode)(b1:Int):Option Int:=
 (w_szIntS b0.Usage b1).bind fun v1=>
 (bif (decide (v1<0)) then
 some (-1)
 else
 (w_szIntS b0.Consumption v1).bind fun v3=>
 (bif (decide (v3<0)) then
 some (-1)
 else
 some v3))
def w_szModeS_L1  : List TMode→Int→Int→Option (Int ⊕ Int)
 | [],z9,a10=>
  some (Sum.inl a10)
 | x11::xs12,z9,a10=>
  (w_szMode x11 a10).bind fun v14=>
  (bif (decide (v14<0)) then
  some (Sum.inr (-1))
  else
  w_szModeS_L1 xs12 (z9+1) v14)
def w_szModeS (b0:List TMode)(b1:Int):Option Int:=
 (bif (decide ((W (b1 - (b0.length:Int)))<0)) then
 some (-1)
 else
 sumBind
 (w_szModeS_L1 b0 0 (W (b1 - (b0.length:Int))))
 (fun q17=>some q17) fun p16=>
 some p16)
def w_szActivity (b0:TActivity)(b1:Int):Option Int:=
 (bif (decide ((W (b1 - (b0.Name.size:Int)))<0)) then
 some (-1)
 else
 (w_szModeS b0.Modes (W (b1 - (b0.Name.size:Int)))).bind fun v2=>
 (bif (decide (v2<0)) then
 some (-1)
 else
 some v2))
def w_szActivityS_L1  : List TActivity→Int→Int→Option (Int ⊕ Int)
 | [],z9,a10=>
  some (Sum.inl a10)
 | x11::xs12,z9,a10=>
  (w_szActivity x11 a10).bind fun v14=>
  (bif (decide (v14<0)) then
  some (Sum.inr (-1))
  else
  w_szActivityS_L1 xs12 (z9+1) v14)
def w_szActivityS (b0:List TActivity)(b1:Int):Option Int:=
 (bif (decide ((W (b1 - (b0.length:Int)))<0)) then
 some (-1)
 else
 sumBind
 (w_szActivityS_L1 b0 0 (W (b1 - (b0.length:Int))))
 (fun q17=>some q17) fun p16=>
 some p16)
def w_szLinkS (b0:List TLink)(b1:Int):Option Int:=
 (bif (decide ((W (b1 - (b0.length:Int)))<0)) then
 some (-1)
 else
 some (W (b1 - (b0.length:Int))))
def w_szStepS (b0:List TStep)(b1:Int):Option Int:=
 (bif (decide ((W (b1 - (b0.length:Int)))<0)) then
 some (-1)
 else
 some (W (b1 - (b0.length:Int))))
def w_szIntSS_L1  : List (List Int)→Int→Int→Option (Int ⊕ Int)
 | [],z9,a10=>
  some (Sum.inl a10)
 | x11::xs12,z9,a10=>
  (w_szIntS x11 a10).bind fun v14=>
  (bif (decide (v14<0)) then
  some (Sum.inr (-1))
  else
  w_szIntSS_L1 xs12 (z9+1) v14)
def w_szIntSS (b0:List (List Int))(b1:Int):Option Int:=
 (bif (decide ((W (b1 - (b0.length:Int)))<0)) then
 some (-1)
 else
 sumBind
 (w_szIntSS_L1 b0 0 (W (b1 - (b0.length:Int))))
 (fun q17=>some q17) fun p16=>
 some p16)
def w_szResource (b0:TResource)(b1:Int):Option Int:=
 (w_szStepS b0.Steps b1).bind fun v1=>
 (bif (decide (v1<0)) then
 some (-1)
 else
 (w_szIntSS b0.Setup v1).bind fun v3=>
 (bif (decide (v3<0)) then
 some (-1)
 else
 some v3))
def w_szResourceS_L1  : List TResource→Int→Int→Option (Int ⊕ Int)
 | [],z9,a10=>
  some (Sum.inl a10)
 | x11::xs12,z9,a10=>
  (w_szResource x11 a10).bind fun v14=>
  (bif (decide (v14<0)) then
  some (Sum.inr (-1))
  else
  w_szResourceS_L1 xs12 (z9+1) v14)
def w_szResourceS (b0:List TResource)(b1:Int):Option Int:=
 (bif (decide ((W (b1 - (b0.length:Int)))<0)) then
 some (-1)
 else
 sumBind
 (w_szResourceS_L1 b0 0 (W (b1 - (b0.length:Int))))
 (fun q17=>some q17) fun p16=>
 some p16)
def w_szProject (b0:TProject)(b1:Int):Option Int:=
 (w_szActivityS b0.Activities b1).bind fun v1=>
 (bif (decide (v1<0)) then
 some (-1)
 else
 (w_szLinkS b0.Links v1).bind fun v3=>
 (bif (decide (v3<0)) then
 some (-1)
 else
 (w_szResourceS b0.Resources v3).bind fun v5=>
 (bif (decide (v5<0)) then
 some (-1)
 else
 (w_szIntS b0.Stocks v5).bind fun v7=>
 (bif (decide (v7<0)) then
 some (-1)
 else
 some v7))))
def w_toIntS_L1  : List Int→Int→(List Int)→Option (List Int)
 | [],z9,a10=>
  some a10
 | x11::xs12,z9,a10=>
  (idxL a10 z9).bind fun v14=>
  w_toIntS_L1 xs12 (z9+1) (setL a10 z9 x11)
def w_toIntS (b0:List Int):Option (List Int):=
 (makeL 0 (b0.length:Int)).bind fun v1=>
 Option.bind
 (w_toIntS_L1 b0 0 v1) fun p15=>
 some p15
def w_toMode (b0:TMode):Option TMode:=
 (w_toIntS b0.Usage).bind fun v1=>
 (w_toIntS b0.Consumption).bind fun v2=>
 some (TMode.mk b0.Duration v1 v2)
def w_toModeS_L1  : List TMode→Int→(List TMode)→Option (List TMode)
 | [],z9,a10=>
  some a10
 | x11::xs12,z9,a10=>
  (w_toMode x11).bind fun v14=>
  (idxL a10 z9).bind fun v15=>
  w_toModeS_L1 xs12 (z9+1) (setL a10 z9 v14)
def w_toModeS (b0:List TMode):Option (List TMode):=
 (makeL (TMode.mk 0 [] []) (b0.length:Int)).bind fun v1=>
 Option.bind
 (w_toModeS_L1 b0 0 v1) fun p16=>
 some p16
def w_toActivity (b0:TActivity):Option TActivity:=
 (w_toModeS b0.Modes).bind fun v1=>
 some (TActivity.mk b0.Name b0.Family v1)
def w_toActivityS_L1  : List TActivity→Int→(List TActivity)→Option (List TActivity)
 | [],z9,a10=>
  some a10
 | x11::xs12,z9,a10=>
  (w_toActivity x11).bind fun v14=>
  (idxL a10 z9).bind fun v15=>
  w_toActivityS_L1 xs12 (z9+1) (setL a10 z9 v14)
def w_toActivityS (b0:List TActivity):Option (List TActivity):=
 (makeL (TActivity.mk ByteArray.empty 0 []) (b0.length:Int)).bind fun v1=>
 Option.bind
 (w_toActivityS_L1 b0 0 v1) fun p16=>
 some p16
def w_toLink (b0:TLink):Option TLink:=
 some b0
def w_toLinkS_L1  : List TLink→Int→(List TLink)→Option (List TLink)
 | [],z9,a10=>
  some a10
 | x11::xs12,z9,a10=>
  (w_toLink x11).bind fun v14=>
  (idxL a10 z9).bind fun v15=>
  w_toLinkS_L1 xs12 (z9+1) (setL a10 z9 v14)
def w_toLinkS (b0:List TLink):Option (List TLink):=
 (makeL (TLink.mk 0 0 false 0) (b0.length:Int)).bind fun v1=>
 Option.bind
 (w_toLinkS_L1 b0 0 v1) fun p16=>
 some p16
def w_toStep (b0:TStep):Option TStep:=
 some b0
def w_toStepS_L1  : List TStep→Int→(List TStep)→Option (List TStep)
 | [],z9,a10=>
  some a10
 | x11::xs12,z9,a10=>
  (w_toStep x11).bind fun v14=>
  (idxL a10 z9).bind fun v15=>
  w_toStepS_L1 xs12 (z9+1) (setL a10 z9 v14)
def w_toStepS (b0:List TStep):Option (List TStep):=
 (makeL (TStep.mk 0 0) (b0.length:Int)).bind fun v1=>
 Option.bind
 (w_toStepS_L1 b0 0 v1) fun p16=>
 some p16
def w_toIntSS_L1  : List (List Int)→Int→(List (List Int))→Option (List (List Int))
 | [],z9,a10=>
  some a10
 | x11::xs12,z9,a10=>
  (w_toIntS x11).bind fun v14=>
  (idxL a10 z9).bind fun v15=>
  w_toIntSS_L1 xs12 (z9+1) (setL a10 z9 v14)
def w_toIntSS (b0:List (List Int)):Option (List (List Int)):=
 (makeL ([]:List Int) (b0.length:Int)).bind fun v1=>
 Option.bind
 (w_toIntSS_L1 b0 0 v1) fun p16=>
 some p16
def w_toResource (b0:TResource):Option TResource:=
 (w_toStepS b0.Steps).bind fun v1=>
 (w_toIntSS b0.Setup).bind fun v2=>
 some (TResource.mk v1 v2)
def w_toResourceS_L1  : List TResource→Int→(List TResource)→Option (List TResource)
 | [],z9,a10=>
  some a10
 | x11::xs12,z9,a10=>
  (w_toResource x11).bind fun v14=>
  (idxL a10 z9).bind fun v15=>
  w_toResourceS_L1 xs12 (z9+1) (setL a10 z9 v14)
def w_toResourceS (b0:List TResource):Option (List TResource):=
 (makeL (TResource.mk [] []) (b0.length:Int)).bind fun v1=>
 Option.bind
 (w_toResourceS_L1 b0 0 v1) fun p16=>
 some p16
def w_toProject (b0:TProject):Option TProject:=
 (w_toActivityS b0.Activities).bind fun v1=>
 (w_toLinkS b0.Links).bind fun v2=>
 (w_toResourceS b0.Resources).bind fun v3=>
 (w_toIntS b0.Stocks).bind fun v4=>
 some (TProject.mk b0.Deadline v1 v2 v3 v4)
def s_SplitAny_L2 (b0:ByteArray)(b1:ByteArray)(a7:Int)(a8:Int)(a9:List ByteArray):Nat→Int→Option (Int×(List ByteArray))
 | 0,_=>none
 | fuel+1,a19=>
  (bif (decide (a19<(b1.size:Int))) then
  (idxS b0 a8).bind fun v23=>
  (idxS b1 a19).bind fun v24=>
  (bif (v23 == v24) then
  (subS b0 a7 a8).bind fun v26=>
  (appL a9 ([v26]:List ByteArray)).bind fun v27=>
  some ((W (a8+1)),v27)
  else
  s_SplitAny_L2 b0 b1 a7 a8 a9 fuel (W (a19+1)))
  else
  some (a7,a9))
def s_SplitAny_L1 (b0:ByteArray)(b1:ByteArray):Nat→Int→Int→(List ByteArray)→Option (Int×(List ByteArray))
 | 0,_,_,_=>none
 | fuel+1,a7,a8,a9=>
  (bif (decide (a8<(b0.size:Int))) then
  Option.bind
  (s_SplitAny_L2 b0 b1 a7 a8 a9 F0 0) fun p28=>
  s_SplitAny_L1 b0 b1 fuel p28.1 (W (a8+1)) p28.2
  else
  some (a7,a9))
def s_SplitAny (b0:ByteArray)(b1:ByteArray):Option (List ByteArray):=
 Option.bind
 (s_SplitAny_L1 b0 b1 F0 0 0 ([]:List ByteArray)) fun p29=>
 (subS b0 p29.1 (b0.size:Int)).bind fun v30=>
 (appL p29.2 ([v30]:List ByteArray)).bind fun v31=>
 some v31
def s_SplitLines (b0:ByteArray):Option (List ByteArray):=
 (s_SplitAny b0 (⟨#[10]⟩:ByteArray)).bind fun v1=>
 (idxL v1 (W ((v1.length:Int) - 1))).bind fun v2=>
 (bif (v2 == ByteArray.empty) then
 (subL v1 0 (W ((v1.length:Int) - 1))).bind fun v4=>
 some v4
 else
 some v1)
def s_l21Swap_L1 (b1:Int)(b2:Int)(v1:List Int):Nat→Int→(List Int)→Option (List Int)
 | 0,_,_=>none
 | fuel+1,a8,a9=>
  (bif (decide (a8<(v1.length:Int))) then
  (idxL a9 a8).bind fun v13=>
  (bif (v13 == b1) then
  s_l21Swap_L1 b1 b2 v1 fuel (W (a8+1)) (setL a9 a8 b2)
  else
  s_l21Swap_L1 b1 b2 v1 fuel (W (a8+1)) a9)
  else
  some a9)
def s_l21Swap (b0:ByteArray)(b1:Int)(b2:Int):Option ByteArray:=
 (bytesO b0).bind fun v1=>
 Option.bind
 (s_l21Swap_L1 b1 b2 v1 F0 0 v1) fun p15=>
 some (strB p15)
def s_l01In (b0:Int)(b1:Int)(b2:Int):Option Bool:=
 Option.bind
 ((bif (decide (b1≤b0)) then
 some (decide (b0≤b2))
 else
 some false)) fun e1=>
 some e1
def s_RuleName (b0:Int):Option ByteArray:=
 (s_l01In b0 0 6).bind fun v1=>
 (bif (!v1) then
 some ByteArray.empty
 else
 (idxL ([(⟨#[110,111,110,101]⟩:ByteArray),(⟨#[108,105,110,107]⟩:ByteArray),(⟨#[101,110,100]⟩:ByteArray),(⟨#[116,105,109,101]⟩:ByteArray),(⟨#[119,111,114,107]⟩:ByteArray),(⟨#[112,97,105,114]⟩:ByteArray),(⟨#[115,116,111,99,107]⟩:ByteArray)]:List ByteArray) b0).bind fun v3=>
 some v3)
def s_FormatInt_L1  : Nat→Int→ByteArray→Option (Int×ByteArray)
 | 0,_,_=>none
 | fuel+1,a11,a12=>
  (bif (decide (9<a11)) then
  (catS (strB ([(IntKind.u8.wrap (W (48+(a11.tmod 10))))]:List Int)) a12).bind fun v16=>
  s_FormatInt_L1 fuel (W (a11.tdiv 10)) v16
  else
  some (a11,a12))
def s_FormatInt_S (rec:Int→Option ByteArray)(b0:Int):Option ByteArray:=
 (s_l01In b0 (-100000) 100000).bind fun v1=>
 (bif (!v1) then
 some ByteArray.empty
 else
 (bif (decide (b0<0)) then
 (rec (W (0 - b0))).bind fun v4=>
 (catS (⟨#[45]⟩:ByteArray) v4).bind fun v5=>
 some v5
 else
 Option.bind
 (s_FormatInt_L1 F0 b0 ByteArray.empty) fun p17=>
 (catS (strB ([(IntKind.u8.wrap (W (48+p17.1)))]:List Int)) p17.2).bind fun v18=>
 some v18))
def s_FormatInt_R:Nat→Int→Option ByteArray
 | 0=>fun _=>none
 | fuel+1=>s_FormatInt_S (s_FormatInt_R fuel)
def s_FormatInt (b0:Int):Option ByteArray:=s_FormatInt_R F0 b0
def s_ParseInt_L1 (b0:ByteArray)(e1:Bool):Nat→Int→Int→Option (Int ⊕ (Int×Bool))
 | 0,_,_=>none
 | fuel+1,a10,a11=>
  (bif (decide (a11<(b0.size:Int))) then
  (idxS b0 a11).bind fun v15=>
  Option.bind
  ((bif (a11 == 0) then
  some e1
  else
  some false)) fun e16=>
  (bif e16 then
  s_ParseInt_L1 b0 e1 fuel a10 (W (a11+1))
  else
  Option.bind
  ((bif (decide ((W ((IntKind.i64.wrap v15) - 48))<0)) then
  some true
  else
  (bif (decide (9<(W ((IntKind.i64.wrap v15) - 48)))) then
  some true
  else
  some (decide (8<(b0.size:Int)))))) fun e19=>
  (bif e19 then
  some (Sum.inr (0,false))
  else
  s_ParseInt_L1 b0 e1 fuel (W ((W (a10*10))+(W ((IntKind.i64.wrap v15) - 48)))) (W (a11+1))))
  else
  some (Sum.inl a10))
def s_ParseInt (b0:ByteArray):Option (Int×Bool):=
 Option.bind
 ((bif (decide (0<(b0.size:Int))) then
 (idxS b0 0).bind fun v3=>
 some (v3 == 45)
 else
 some false)) fun e1=>
 sumBind
 (s_ParseInt_L1 b0 e1 F0 0 0)
 (fun q24=>some q24) fun p23=>
 Option.bind
 ((bif e1 then
 some (W (0 - p23))
 else
 some p23)) fun p30=>
 Option.bind
 ((bif (b0 == ByteArray.empty) then
 some true
 else
 (s_FormatInt p30).bind fun v33=>
 some (v33 != b0))) fun e31=>
 (bif e31 then
 some (0,false)
 else
 some (p30,true))
def s_ActivityIndex_L1 (b1:ByteArray):List TActivity→Int→Option (Unit ⊕ Int)
 | [],z8=>
  some (Sum.inl ())
 | x9::xs10,z8=>
  (bif (x9.Name == b1) then
  some (Sum.inr z8)
  else
  s_ActivityIndex_L1 b1 xs10 (z8+1))
def s_ActivityIndex (b0:TProject)(b1:ByteArray):Option Int:=
 sumBind
 (s_ActivityIndex_L1 b1 b0.Activities 0)
 (fun q14=>some q14) fun p13=>
 some (-1)
def s_l04Nums_L1  : List Int→Int→Option (Unit ⊕ Bool)
 | [],z8=>
  some (Sum.inl ())
 | x9::xs10,z8=>
  (s_l01In x9 0 20).bind fun v12=>
  (bif (!v12) then
  some (Sum.inr false)
  else
  s_l04Nums_L1 xs10 (z8+1))
def s_l04Nums (b0:List Int)(b1:Int):Option Bool:=
 sumBind
 (s_l04Nums_L1 b0 0)
 (fun q15=>some q15) fun p14=>
 some ((b0.length:Int) == b1)
def s_ModeOk (b0:TMode)(b1:Int)(b2:Int):Option Bool:=
 (s_l01In b0.Duration 1 12).bind fun v1=>
 Option.bind
 ((bif v1 then
 (s_l04Nums b0.Usage b1).bind fun v4=>
 (bif v4 then
 (s_l04Nums b0.Consumption b2).bind fun v6=>
 some v6
 else
 some false)
 else
 some false)) fun e2=>
 some e2
def s_IsName_L1 (b0:ByteArray):Nat→Int→Option (Unit ⊕ Bool)
 | 0,_=>none
 | fuel+1,a7=>
  (bif (decide (a7<(b0.size:Int))) then
  (idxS b0 a7).bind fun v11=>
  Option.bind
  ((bif (decide (97≤v11)) then
  some (decide (v11≤122))
  else
  some false)) fun e12=>
  Option.bind
  ((bif (!e12) then
  (bif (a7 == 0) then
  some true
  else
  (bif (decide (v11<48)) then
  some true
  else
  some (decide (57<v11))))
  else
  some false)) fun e14=>
  (bif e14 then
  some (Sum.inr false)
  else
  s_IsName_L1 b0 fuel (W (a7+1)))
  else
  some (Sum.inl ()))
def s_IsName (b0:ByteArray):Option Bool:=
 sumBind
 (s_IsName_L1 b0 F0 0)
 (fun q20=>some q20) fun p19=>
 (s_l01In (b0.size:Int) 1 8).bind fun v21=>
 some v21
def s_ActivityOk_L1 (b1:Int)(b2:Int):List TMode→Int→Option (Unit ⊕ Bool)
 | [],z8=>
  some (Sum.inl ())
 | x9::xs10,z8=>
  (s_ModeOk x9 b1 b2).bind fun v12=>
  (bif (!v12) then
  some (Sum.inr false)
  else
  s_ActivityOk_L1 b1 b2 xs10 (z8+1))
def s_ActivityOk (b0:TActivity)(b1:Int)(b2:Int):Option Bool:=
 sumBind
 (s_ActivityOk_L1 b1 b2 b0.Modes 0)
 (fun q15=>some q15) fun p14=>
 (s_IsName b0.Name).bind fun v16=>
 Option.bind
 ((bif v16 then
 (s_l01In b0.Family 0 3).bind fun v19=>
 (bif v19 then
 (s_l01In (b0.Modes.length:Int) 1 3).bind fun v21=>
 some v21
 else
 some false)
 else
 some false)) fun e17=>
 some e17
def s_StepsOk_L1 (b0:List TStep):List TStep→Int→Option (Unit ⊕ Bool)
 | [],z8=>
  some (Sum.inl ())
 | x9::xs10,z8=>
  (s_l01In x9.At 0 60).bind fun v12=>
  Option.bind
  ((bif (!v12) then
  some true
  else
  (s_l01In x9.Capacity 0 20).bind fun v15=>
  (bif (!v15) then
  some true
  else
  (bif (decide (0<z8)) then
  (idxL b0 (z8 - 1)).bind fun v18=>
  some (decide (x9.At≤v18.At))
  else
  some false)))) fun e13=>
  (bif e13 then
  some (Sum.inr false)
  else
  s_StepsOk_L1 b0 xs10 (z8+1))
def s_StepsOk (b0:List TStep):Option Bool:=
 sumBind
 (s_StepsOk_L1 b0 b0 0)
 (fun q21=>some q21) fun p20=>
 (s_l01In (b0.length:Int) 1 8).bind fun v22=>
 Option.bind
 ((bif v22 then
 (idxL b0 0).bind fun v25=>
 some (v25.At == 0)
 else
 some false)) fun e23=>
 some e23
def s_ResourceOk_L2  : List Int→Int→Option (Unit ⊕ Bool)
 | [],z20=>
  some (Sum.inl ())
 | x21::xs22,z20=>
  (s_l01In x21 0 12).bind fun v24=>
  (bif (!v24) then
  some (Sum.inr false)
  else
  s_ResourceOk_L2 xs22 (z20+1))
def s_ResourceOk_L1  : List (List Int)→Int→Option (Unit ⊕ Bool)
 | [],z8=>
  some (Sum.inl ())
 | x9::xs10,z8=>
  (bif ((x9.length:Int) != 4) then
  some (Sum.inr false)
  else
  sumBind
  (s_ResourceOk_L2 x9 0)
  (fun q27=>some (Sum.inr q27)) fun p26=>
  s_ResourceOk_L1 xs10 (z8+1))
def s_ResourceOk (b0:TResource):Option Bool:=
 sumBind
 (s_ResourceOk_L1 b0.Setup 0)
 (fun q29=>some q29) fun p28=>
 (s_StepsOk b0.Steps).bind fun v30=>
 Option.bind
 ((bif v30 then
 (bif ((b0.Setup.length:Int) == 0) then
 some true
 else
 some ((b0.Setup.length:Int) == 4))
 else
 some false)) fun e31=>
 some e31
def s_ProjectOk_L1 (b0:TProject):List TActivity→Int→Option (Unit ⊕ Bool)
 | [],z16=>
  some (Sum.inl ())
 | x17::xs18,z16=>
  (s_ActivityOk x17 (b0.Resources.length:Int) (b0.Stocks.length:Int)).bind fun v20=>
  Option.bind
  ((bif (!v20) then
  some true
  else
  (s_ActivityIndex b0 x17.Name).bind fun v23=>
  some (v23 != z16))) fun e21=>
  (bif e21 then
  some (Sum.inr false)
  else
  s_ProjectOk_L1 b0 xs18 (z16+1))
def s_ProjectOk_L2  : List TResource→Int→Option (Unit ⊕ Bool)
 | [],z34=>
  some (Sum.inl ())
 | x35::xs36,z34=>
  (s_ResourceOk x35).bind fun v38=>
  (bif (!v38) then
  some (Sum.inr false)
  else
  s_ProjectOk_L2 xs36 (z34+1))
def s_ProjectOk_L3  : List Int→Int→Option (Unit ⊕ Bool)
 | [],z49=>
  some (Sum.inl ())
 | x50::xs51,z49=>
  (s_l01In x50 0 100).bind fun v53=>
  (bif (!v53) then
  some (Sum.inr false)
  else
  s_ProjectOk_L3 xs51 (z49+1))
def s_ProjectOk_L4 (b0:TProject):List TLink→Int→Option (Unit ⊕ Bool)
 | [],z64=>
  some (Sum.inl ())
 | x65::xs66,z64=>
  (s_l01In x65.From 0 (W ((b0.Activities.length:Int) - 1))).bind fun v68=>
  Option.bind
  ((bif (!v68) then
  some true
  else
  (s_l01In x65.To 0 (W ((b0.Activities.length:Int) - 1))).bind fun v71=>
  (bif (!v71) then
  some true
  else
  (bif (x65.From == x65.To) then
  some true
  else
  (s_l01In x65.Lag (-60) 60).bind fun v74=>
  some (!v74))))) fun e69=>
  (bif e69 then
  some (Sum.inr false)
  else
  s_ProjectOk_L4 b0 xs66 (z64+1))
def s_ProjectOk (b0:TProject):Option Bool:=
 (s_l01In b0.Deadline 1 60).bind fun v1=>
 Option.bind
 ((bif (!v1) then
 some true
 else
 (s_l01In (b0.Activities.length:Int) 1 6).bind fun v4=>
 (bif (!v4) then
 some true
 else
 (bif (decide (3<(b0.Resources.length:Int))) then
 some true
 else
 (bif (decide (2<(b0.Stocks.length:Int))) then
 some true
 else
 some (decide (12<(b0.Links.length:Int)))))))) fun e2=>
 (bif e2 then
 some false
 else
 sumBind
 (s_ProjectOk_L1 b0 b0.Activities 0)
 (fun q26=>some q26) fun p25=>
 sumBind
 (s_ProjectOk_L2 b0.Resources 0)
 (fun q41=>some q41) fun p40=>
 sumBind
 (s_ProjectOk_L3 b0.Stocks 0)
 (fun q56=>some q56) fun p55=>
 sumBind
 (s_ProjectOk_L4 b0 b0.Links 0)
 (fun q77=>some q77) fun p76=>
 some true)
def s_IsMachine (b0:TProject)(b1:Int):Option Bool:=
 (s_l01In b1 0 (W ((b0.Resources.length:Int) - 1))).bind fun v1=>
 Option.bind
 ((bif v1 then
 (idxL b0.Resources b1).bind fun v4=>
 some (decide (0<(v4.Setup.length:Int)))
 else
 some false)) fun e2=>
 some e2
def s_RuleOk (b0:TProject)(b1:TRule):Option Bool:=
 (s_ProjectOk b0).bind fun v1=>
 (bif (!v1) then
 some false
 else
 (bif (b1.Kind == 1) then
 (s_l01In b1.A 0 (W ((b0.Links.length:Int) - 1))).bind fun v4=>
 Option.bind
 ((bif v4 then
 (bif (b1.B == 0) then
 some (b1.C == 0)
 else
 some false)
 else
 some false)) fun e5=>
 some e5
 else
 (bif (b1.Kind == 2) then
 (s_l01In b1.A 0 (W ((b0.Activities.length:Int) - 1))).bind fun v9=>
 Option.bind
 ((bif v9 then
 (bif (b1.B == 0) then
 some (b1.C == 0)
 else
 some false)
 else
 some false)) fun e10=>
 some e10
 else
 (bif (b1.Kind == 3) then
 (s_l01In b1.A 0 (W ((b0.Resources.length:Int) - 1))).bind fun v14=>
 Option.bind
 ((bif v14 then
 (s_l01In b1.B 0 60).bind fun v17=>
 (bif v17 then
 some (b1.C == 0)
 else
 some false)
 else
 some false)) fun e15=>
 some e15
 else
 (bif (b1.Kind == 4) then
 (s_l01In b1.A 0 (W ((b0.Resources.length:Int) - 1))).bind fun v20=>
 Option.bind
 ((bif v20 then
 (s_l01In b1.B 0 60).bind fun v23=>
 (bif v23 then
 (s_l01In b1.C 0 60).bind fun v25=>
 (bif v25 then
 some (decide (b1.B<b1.C))
 else
 some false)
 else
 some false)
 else
 some false)) fun e21=>
 some e21
 else
 (bif (b1.Kind == 5) then
 (s_IsMachine b0 b1.A).bind fun v28=>
 Option.bind
 ((bif v28 then
 (s_l01In b1.B 0 (W ((b0.Activities.length:Int) - 1))).bind fun v31=>
 (bif v31 then
 (s_l01In b1.C 0 (W ((b0.Activities.length:Int) - 1))).bind fun v33=>
 (bif v33 then
 some (decide (b1.B<b1.C))
 else
 some false)
 else
 some false)
 else
 some false)) fun e29=>
 some e29
 else
 (bif (b1.Kind == 6) then
 (s_l01In b1.A 0 (W ((b0.Stocks.length:Int) - 1))).bind fun v36=>
 Option.bind
 ((bif v36 then
 (bif (b1.B == 0) then
 some (b1.C == 0)
 else
 some false)
 else
 some false)) fun e37=>
 some e37
 else
 some false)))))))
def s_Join_L1 (b1:ByteArray):List ByteArray→Int→ByteArray→Option ByteArray
 | [],z8,a9=>
  some a9
 | x10::xs11,z8,a9=>
  (bif (decide (0<z8)) then
  (catS a9 b1).bind fun v14=>
  (catS v14 x10).bind fun v15=>
  s_Join_L1 b1 xs11 (z8+1) v15
  else
  (catS a9 x10).bind fun v16=>
  s_Join_L1 b1 xs11 (z8+1) v16)
def s_Join (b0:List ByteArray)(b1:ByteArray):Option ByteArray:=
 Option.bind
 (s_Join_L1 b1 b0 0 ByteArray.empty) fun p17=>
 some p17
def s_FormatRule (b0:TProject)(b1:TRule):Option ByteArray:=
 (s_RuleOk b0 b1).bind fun v1=>
 (bif (!v1) then
 some ByteArray.empty
 else
 (s_RuleName b1.Kind).bind fun v3=>
 (s_FormatInt b1.A).bind fun v4=>
 Option.bind
 ((bif (b1.Kind == 2) then
 (idxL b0.Activities b1.A).bind fun v10=>
 (idxL ([v3,v4]:List ByteArray) 1).bind fun v11=>
 some (setL ([v3,v4]:List ByteArray) 1 v10.Name)
 else
 (bif (b1.Kind == 3) then
 (s_FormatInt b1.B).bind fun v13=>
 (appL ([v3,v4]:List ByteArray) ([v13]:List ByteArray)).bind fun v14=>
 some v14
 else
 (bif (b1.Kind == 4) then
 (s_FormatInt b1.B).bind fun v16=>
 (s_FormatInt b1.C).bind fun v17=>
 (appL ([v3,v4]:List ByteArray) ([v16,v17]:List ByteArray)).bind fun v18=>
 some v18
 else
 (bif (b1.Kind == 5) then
 (idxL b0.Activities b1.B).bind fun v20=>
 (idxL b0.Activities b1.C).bind fun v21=>
 (appL ([v3,v4]:List ByteArray) ([v20.Name,v21.Name]:List ByteArray)).bind fun v22=>
 some v22
 else
 some ([v3,v4]:List ByteArray)))))) fun p23=>
 (s_Join p23 (⟨#[32]⟩:ByteArray)).bind fun v24=>
 some v24)
def s_ParseRule_L1 (v2:List ByteArray):Nat→Int→Int→Option Int
 | 0,_,_=>none
 | fuel+1,a8,a9=>
  (bif (decide (a8≤6)) then
  (s_RuleName a8).bind fun v13=>
  (idxL v2 0).bind fun v14=>
  (bif (v13 == v14) then
  s_ParseRule_L1 v2 fuel (W (a8+1)) a8
  else
  s_ParseRule_L1 v2 fuel (W (a8+1)) a9)
  else
  some a9)
def s_ParseRule (b0:TProject)(b1:ByteArray):Option (TRule×Bool):=
 (s_SplitAny b1 (⟨#[32]⟩:ByteArray)).bind fun v1=>
 (appL v1 ([ByteArray.empty,ByteArray.empty,ByteArray.empty]:List ByteArray)).bind fun v2=>
 Option.bind
 (s_ParseRule_L1 v2 F0 1 0) fun p16=>
 (idxL v2 1).bind fun v17=>
 (s_ParseInt v17).bind fun v18=>
 Option.bind
 ((bif (p16 == 2) then
 (s_ActivityIndex b0 v17).bind fun v24=>
 some (v24,0,0)
 else
 Option.bind
 ((bif (p16 == 3) then
 some (p16 == 3)
 else
 some (p16 == 4))) fun p30=>
 (bif p30 then
 (idxL v2 2).bind fun v32=>
 (s_ParseInt v32).bind fun v33=>
 (bif (p16 == 4) then
 (idxL v2 3).bind fun v35=>
 (s_ParseInt v35).bind fun v36=>
 some (v18.1,v33.1,v36.1)
 else
 some (v18.1,v33.1,0))
 else
 (bif (p16 == 5) then
 (idxL v2 2).bind fun v38=>
 (s_ActivityIndex b0 v38).bind fun v39=>
 (idxL v2 3).bind fun v40=>
 (s_ActivityIndex b0 v40).bind fun v41=>
 some (v18.1,v39,v41)
 else
 some (v18.1,0,0))))) fun p42=>
 (s_FormatRule b0 (TRule.mk p16 p42.1 p42.2.1 p42.2.2)).bind fun v43=>
 Option.bind
 ((bif (v43 == ByteArray.empty) then
 some true
 else
 (s_FormatRule b0 (TRule.mk p16 p42.1 p42.2.1 p42.2.2)).bind fun v46=>
 some (v46 != b1))) fun e44=>
 (bif e44 then
 some ((TRule.mk 0 0 0 0),false)
 else
 some ((TRule.mk p16 p42.1 p42.2.1 p42.2.2),true))
def s_LiteralOk (b0:TProject)(b1:TLiteral):Option Bool:=
 (s_ProjectOk b0).bind fun v1=>
 Option.bind
 ((bif (!v1) then
 some true
 else
 (s_l01In b1.Activity 0 (W ((b0.Activities.length:Int) - 1))).bind fun v4=>
 some (!v4))) fun e2=>
 (bif e2 then
 some false
 else
 Option.bind
 ((bif (b1.Kind == 1) then
 some (b1.Kind == 1)
 else
 some (b1.Kind == 2))) fun p11=>
 (bif p11 then
 (s_l01In b1.Value (-1) 61).bind fun v13=>
 some v13
 else
 Option.bind
 ((bif (b1.Kind == 3) then
 some (b1.Kind == 3)
 else
 some (b1.Kind == 4))) fun p19=>
 (bif p19 then
 (idxL b0.Activities b1.Activity).bind fun v21=>
 (s_l01In b1.Value 0 (W ((v21.Modes.length:Int) - 1))).bind fun v22=>
 some v22
 else
 some false)))
def s_LiteralSign (b0:Int):Option ByteArray:=
 (s_l01In b0 1 4).bind fun v1=>
 (bif (!v1) then
 some ByteArray.empty
 else
 (idxL ([ByteArray.empty,(⟨#[62,61]⟩:ByteArray),(⟨#[60,61]⟩:ByteArray),(⟨#[61]⟩:ByteArray),(⟨#[33,61]⟩:ByteArray)]:List ByteArray) b0).bind fun v3=>
 some v3)
def s_FormatLiteral (b0:TProject)(b1:TLiteral):Option ByteArray:=
 (s_LiteralOk b0 b1).bind fun v1=>
 (bif (!v1) then
 some ByteArray.empty
 else
 (idxL b0.Activities b1.Activity).bind fun v3=>
 (s_LiteralSign b1.Kind).bind fun v4=>
 (catS v3.Name v4).bind fun v5=>
 (s_FormatInt b1.Value).bind fun v6=>
 (catS v5 v6).bind fun v7=>
 some v7)
def s_ParseLiteral_L1 (b0:TProject)(b1:ByteArray)(v1:List ByteArray)(v3:Int×Bool):Nat→Int→Option (Unit ⊕ (TLiteral×Bool))
 | 0,_=>none
 | fuel+1,a9=>
  (bif (decide (a9≤4)) then
  (idxL v1 0).bind fun v13=>
  (s_ActivityIndex b0 v13).bind fun v14=>
  (s_FormatLiteral b0 (TLiteral.mk a9 v14 v3.1)).bind fun v15=>
  Option.bind
  ((bif (v15 == b1) then
  some (b1 != ByteArray.empty)
  else
  some false)) fun e16=>
  (bif e16 then
  some (Sum.inr ((TLiteral.mk a9 v14 v3.1),true))
  else
  s_ParseLiteral_L1 b0 b1 v1 v3 fuel (W (a9+1)))
  else
  some (Sum.inl ()))
def s_ParseLiteral (b0:TProject)(b1:ByteArray):Option (TLiteral×Bool):=
 (s_SplitAny b1 (⟨#[60,62,61,33]⟩:ByteArray)).bind fun v1=>
 (idxL v1 (W ((v1.length:Int) - 1))).bind fun v2=>
 (s_ParseInt v2).bind fun v3=>
 sumBind
 (s_ParseLiteral_L1 b0 b1 v1 v3 F0 1)
 (fun q20=>some q20) fun p19=>
 some ((TLiteral.mk 0 0 0),false)
def s_l11Sign (b0:Int)(b1:Int):Option Int:=
 (bif (decide (b0<b1)) then
 some (-1)
 else
 (bif (decide (b1<b0)) then
 some 1
 else
 some 0))
def s_CompareLiterals (b0:TLiteral)(b1:TLiteral):Option Int:=
 (bif (b0.Activity != b1.Activity) then
 (s_l11Sign b0.Activity b1.Activity).bind fun v2=>
 some v2
 else
 (bif (b0.Kind != b1.Kind) then
 (s_l11Sign b0.Kind b1.Kind).bind fun v4=>
 some v4
 else
 (s_l11Sign b0.Value b1.Value).bind fun v5=>
 some v5))
def s_ClauseOk_L1 (b0:TProject)(b1:List TLiteral):List TLiteral→Int→Option (Unit ⊕ Bool)
 | [],z8=>
  some (Sum.inl ())
 | x9::xs10,z8=>
  (s_LiteralOk b0 x9).bind fun v12=>
  Option.bind
  ((bif (!v12) then
  some true
  else
  (bif (decide (0<z8)) then
  (idxL b1 (z8 - 1)).bind fun v16=>
  (s_CompareLiterals v16 x9).bind fun v17=>
  some (decide (0≤v17))
  else
  some false))) fun e13=>
  (bif e13 then
  some (Sum.inr false)
  else
  s_ClauseOk_L1 b0 b1 xs10 (z8+1))
def s_ClauseOk (b0:TProject)(b1:List TLiteral):Option Bool:=
 sumBind
 (s_ClauseOk_L1 b0 b1 b1 0)
 (fun q20=>some q20) fun p19=>
 some (decide ((b1.length:Int)≤24))
def s_FormatClause_L1 (b0:TProject):List TLiteral→Int→(List ByteArray)→Option (List ByteArray)
 | [],z10,a11=>
  some a11
 | x12::xs13,z10,a11=>
  (s_FormatLiteral b0 x12).bind fun v15=>
  (appL a11 ([v15]:List ByteArray)).bind fun v16=>
  s_FormatClause_L1 b0 xs13 (z10+1) v16
def s_FormatClause (b0:TProject)(b1:List TLiteral):Option ByteArray:=
 (s_ClauseOk b0 b1).bind fun v1=>
 (bif (!v1) then
 some ByteArray.empty
 else
 Option.bind
 (s_FormatClause_L1 b0 b1 0 ([]:List ByteArray)) fun p17=>
 (bif ((p17.length:Int) == 0) then
 some (⟨#[45]⟩:ByteArray)
 else
 (s_Join p17 (⟨#[32]⟩:ByteArray)).bind fun v19=>
 some v19))
def s_ParseClause_L1 (b0:TProject):List ByteArray→Int→(List TLiteral)→Option ((List TLiteral) ⊕ ((List TLiteral)×Bool))
 | [],z10,a11=>
  some (Sum.inl a11)
 | x12::xs13,z10,a11=>
  (s_ParseLiteral b0 x12).bind fun v15=>
  (bif (!v15.2) then
  some (Sum.inr (([]:List TLiteral),false))
  else
  (appL a11 ([v15.1]:List TLiteral)).bind fun v17=>
  s_ParseClause_L1 b0 xs13 (z10+1) v17)
def s_ParseClause (b0:TProject)(b1:ByteArray):Option ((List TLiteral)×Bool):=
 (bif (b1 == (⟨#[45]⟩:ByteArray)) then
 some (([]:List TLiteral),true)
 else
 (s_SplitAny b1 (⟨#[32]⟩:ByteArray)).bind fun v2=>
 sumBind
 (s_ParseClause_L1 b0 v2 0 ([]:List TLiteral))
 (fun q19=>some q19) fun p18=>
 (s_FormatClause b0 p18).bind fun v20=>
 (bif (v20 != b1) then
 some (([]:List TLiteral),false)
 else
 some (p18,true)))
def s_LineOk (b0:TProject)(b1:TLine):Option Bool:=
 (s_ClauseOk b0 b1.Clause).bind fun v1=>
 Option.bind
 ((bif v1 then
 (bif (b1.Kind == 1) then
 some true
 else
 (bif (b1.Kind == 2) then
 some (b1.Rule.Kind == 0 && (b1.Rule.A == 0 && (b1.Rule.B == 0 && (b1.Rule.C == 0 && true))))
 else
 some false))
 else
 some false)) fun e2=>
 some e2
def s_FormatLine (b0:TProject)(b1:TLine):Option ByteArray:=
 (s_LineOk b0 b1).bind fun v1=>
 Option.bind
 ((bif (!v1) then
 some true
 else
 (s_ProjectOk b0).bind fun v4=>
 some (!v4))) fun e2=>
 (bif e2 then
 some ByteArray.empty
 else
 (bif (b1.Kind == 2) then
 (s_FormatClause b0 b1.Clause).bind fun v7=>
 (catS (⟨#[117,110,105,116,32,124,32]⟩:ByteArray) v7).bind fun v8=>
 some v8
 else
 (s_FormatRule b0 b1.Rule).bind fun v9=>
 Option.bind
 ((bif (v9 == ByteArray.empty) then
 (s_RuleName 0).bind fun v15=>
 some v15
 else
 some v9)) fun p16=>
 (s_l21Swap p16 32 44).bind fun v17=>
 (catS (⟨#[114,117,108,101,32]⟩:ByteArray) v17).bind fun v18=>
 (catS v18 (⟨#[32,124,32]⟩:ByteArray)).bind fun v19=>
 (s_FormatClause b0 b1.Clause).bind fun v20=>
 (catS v19 v20).bind fun v21=>
 some v21))
def s_ParseLine (b0:TProject)(b1:ByteArray):Option (TLine×Bool):=
 (s_SplitAny b1 (⟨#[32]⟩:ByteArray)).bind fun v1=>
 (idxL v1 0).bind fun v2=>
 Option.bind
 ((bif (v2 == (⟨#[114,117,108,101]⟩:ByteArray)) then
 some (decide (1<(v1.length:Int)))
 else
 some false)) fun e3=>
 Option.bind
 ((bif e3 then
 (idxL v1 1).bind fun v10=>
 (s_l21Swap v10 44 32).bind fun v11=>
 (s_ParseRule b0 v11).bind fun v12=>
 some (3,1,v12.1.Kind,v12.1.A,v12.1.B,v12.1.C)
 else
 some (2,2,0,0,0,0))) fun p13=>
 (bif (decide ((v1.length:Int)≤p13.1)) then
 some ((TLine.mk 0 (TRule.mk 0 0 0 0) ([]:List TLiteral)),false)
 else
 (subL v1 p13.1 (v1.length:Int)).bind fun v15=>
 (s_Join v15 (⟨#[32]⟩:ByteArray)).bind fun v16=>
 (s_ParseClause b0 v16).bind fun v17=>
 Option.bind
 ((bif (!v17.2) then
 some true
 else
 (s_FormatLine b0 (TLine.mk p13.2.1 (TRule.mk p13.2.2.1 p13.2.2.2.1 p13.2.2.2.2.1 p13.2.2.2.2.2) v17.1)).bind fun v20=>
 some (v20 != b1))) fun e18=>
 (bif e18 then
 some ((TLine.mk 0 (TRule.mk 0 0 0 0) ([]:List TLiteral)),false)
 else
 some ((TLine.mk p13.2.1 (TRule.mk p13.2.2.1 p13.2.2.2.1 p13.2.2.2.2.1 p13.2.2.2.2.2) v17.1),true)))
def s_FormatProof_L1 (b0:TProject):List TLine→Int→ByteArray→Option (ByteArray ⊕ ByteArray)
 | [],z8,a9=>
  some (Sum.inl a9)
 | x10::xs11,z8,a9=>
  (s_FormatLine b0 x10).bind fun v13=>
  (bif (v13 == ByteArray.empty) then
  some (Sum.inr ByteArray.empty)
  else
  (catS a9 v13).bind fun v15=>
  (catS v15 (⟨#[10]⟩:ByteArray)).bind fun v16=>
  s_FormatProof_L1 b0 xs11 (z8+1) v16)
def s_FormatProof (b0:TProject)(b1:List TLine):Option ByteArray:=
 sumBind
 (s_FormatProof_L1 b0 b1 0 ByteArray.empty)
 (fun q18=>some q18) fun p17=>
 some p17
def s_ParseProof_L1 (b0:TProject):List ByteArray→Int→(List TLine)→Option ((List TLine) ⊕ ((List TLine)×Bool))
 | [],z9,a10=>
  some (Sum.inl a10)
 | x11::xs12,z9,a10=>
  (s_ParseLine b0 x11).bind fun v14=>
  Option.bind
  ((bif (!v14.2) then
  some true
  else
  some ((a10.length:Int) == 300))) fun e15=>
  (bif e15 then
  some (Sum.inr (([]:List TLine),false))
  else
  (appL a10 ([v14.1]:List TLine)).bind fun v18=>
  s_ParseProof_L1 b0 xs12 (z9+1) v18)
def s_ParseProof (b0:TProject)(b1:ByteArray):Option ((List TLine)×Bool):=
 (s_SplitLines b1).bind fun v1=>
 sumBind
 (s_ParseProof_L1 b0 v1 0 ([]:List TLine))
 (fun q20=>some q20) fun p19=>
 (s_FormatProof b0 p19).bind fun v21=>
 (bif (v21 != b1) then
 some (([]:List TLine),false)
 else
 some (p19,true))
def strings_IndexByte (b0:ByteArray)(b1:Int):Option Int:=ixByteL b0 b1
def i_SplitAny_L1 (b0:ByteArray)(b1:ByteArray):Nat→Int→Int→(List ByteArray)→Option (Int×(List ByteArray))
 | 0,_,_,_=>none
 | fuel+1,a7,a8,a9=>
  (bif (decide (a8<(b0.size:Int))) then
  (idxS b0 a8).bind fun v13=>
  (strings_IndexByte b1 v13).bind fun v14=>
  (bif (decide (0≤v14)) then
  (subS b0 a7 a8).bind fun v16=>
  (appL a9 ([v16]:List ByteArray)).bind fun v17=>
  i_SplitAny_L1 b0 b1 fuel (W (a8+1)) (W (a8+1)) v17
  else
  i_SplitAny_L1 b0 b1 fuel a7 (W (a8+1)) a9)
  else
  some (a7,a9))
def i_SplitAny (b0:ByteArray)(b1:ByteArray):Option (List ByteArray):=
 Option.bind
 (i_SplitAny_L1 b0 b1 F0 0 0 ([]:List ByteArray)) fun p18=>
 (subS b0 p18.1 (b0.size:Int)).bind fun v19=>
 (appL p18.2 ([v19]:List ByteArray)).bind fun v20=>
 some v20
def i_SplitLines (b0:ByteArray):Option (List ByteArray):=
 (i_SplitAny b0 (⟨#[10]⟩:ByteArray)).bind fun v1=>
 (idxL v1 (W ((v1.length:Int) - 1))).bind fun v2=>
 (bif (v2 == ByteArray.empty) then
 (subL v1 0 (W ((v1.length:Int) - 1))).bind fun v4=>
 some v4
 else
 some v1)
def strings_Cut (b0:ByteArray)(b1:ByteArray):Option (ByteArray×ByteArray×Bool):=cutL b0 b1
def i_LiteralSign (b0:Int):Option ByteArray:=
 (bif (b0 == 1) then
 some (⟨#[62,61]⟩:ByteArray)
 else
 (bif (b0 == 2) then
 some (⟨#[60,61]⟩:ByteArray)
 else
 (bif (b0 == 3) then
 some (⟨#[61]⟩:ByteArray)
 else
 (bif (b0 == 4) then
 some (⟨#[33,61]⟩:ByteArray)
 else
 some ByteArray.empty))))
def strconv_Atoi (b0:ByteArray):Option (Int×Bool):=atoiL b0
def i_within (b0:Int)(b1:Int)(b2:Int):Option Bool:=
 Option.bind
 ((bif (decide (b1≤b0)) then
 some (decide (b0≤b2))
 else
 some false)) fun e1=>
 some e1
def strconv_Itoa (b0:Int):Option ByteArray:=itoaL b0
def i_FormatInt (b0:Int):Option ByteArray:=
 (i_within b0 (-100000) 100000).bind fun v1=>
 (bif (!v1) then
 some ByteArray.empty
 else
 (strconv_Itoa b0).bind fun v3=>
 some v3)
def i_ParseInt (b0:ByteArray):Option (Int×Bool):=
 (strconv_Atoi b0).bind fun v1=>
 Option.bind
 ((bif v1.2 then
 some true
 else
 (bif (b0 == ByteArray.empty) then
 some true
 else
 (i_FormatInt v1.1).bind fun v5=>
 some (v5 != b0)))) fun e2=>
 (bif e2 then
 some (0,false)
 else
 some (v1.1,true))
def i_ActivityIndex_c1 (b0:TActivity)(c1:ByteArray):Option Bool:=
 some (b0.Name == c1)
def slices_IndexFunc_Activity_L1 (g1:TActivity→Option Bool):List TActivity→Int→Option (Unit ⊕ Int)
 | [],z8=>
  some (Sum.inl ())
 | x9::xs10,z8=>
  (g1 x9).bind fun v12=>
  (bif v12 then
  some (Sum.inr z8)
  else
  slices_IndexFunc_Activity_L1 g1 xs10 (z8+1))
def slices_IndexFunc_Activity (b0:List TActivity)(g1:TActivity→Option Bool):Option Int:=
 sumBind
 (slices_IndexFunc_Activity_L1 g1 b0 0)
 (fun q15=>some q15) fun p14=>
 some (-1)
def i_ActivityIndex (b0:TProject)(b1:ByteArray):Option Int:=
 (slices_IndexFunc_Activity b0.Activities (fun x0=>i_ActivityIndex_c1 x0 b1)).bind fun v1=>
 some v1
def i_isAmount (b0:Int):Option Bool:=
 (i_within b0 0 20).bind fun v1=>
 some v1
def i_areAmounts_L1  : List Int→Int→Option (Unit ⊕ Bool)
 | [],z8=>
  some (Sum.inl ())
 | x9::xs10,z8=>
  (i_isAmount x9).bind fun v12=>
  (bif (!v12) then
  some (Sum.inr false)
  else
  i_areAmounts_L1 xs10 (z8+1))
def i_areAmounts (b0:List Int)(b1:Int):Option Bool:=
 sumBind
 (i_areAmounts_L1 b0 0)
 (fun q15=>some q15) fun p14=>
 some ((b0.length:Int) == b1)
def i_ModeOk (b0:TMode)(b1:Int)(b2:Int):Option Bool:=
 (i_within b0.Duration 1 12).bind fun v1=>
 Option.bind
 ((bif v1 then
 (i_areAmounts b0.Usage b1).bind fun v4=>
 (bif v4 then
 (i_areAmounts b0.Consumption b2).bind fun v6=>
 some v6
 else
 some false)
 else
 some false)) fun e2=>
 some e2
def i_IsName_L1 (b0:ByteArray):Nat→Int→Option (Unit ⊕ Bool)
 | 0,_=>none
 | fuel+1,a7=>
  (bif (decide (a7<(b0.size:Int))) then
  (idxS b0 a7).bind fun v11=>
  Option.bind
  ((bif (decide (97≤v11)) then
  some (decide (v11≤122))
  else
  some false)) fun e12=>
  Option.bind
  ((bif (!e12) then
  (bif (a7 == 0) then
  some true
  else
  (bif (decide (v11<48)) then
  some true
  else
  some (decide (57<v11))))
  else
  some false)) fun e14=>
  (bif e14 then
  some (Sum.inr false)
  else
  i_IsName_L1 b0 fuel (W (a7+1)))
  else
  some (Sum.inl ()))
def i_IsName (b0:ByteArray):Option Bool:=
 sumBind
 (i_IsName_L1 b0 F0 0)
 (fun q20=>some q20) fun p19=>
 (i_within (b0.size:Int) 1 8).bind fun v21=>
 some v21
def i_ActivityOk_L1 (b1:Int)(b2:Int):List TMode→Int→Option (Unit ⊕ Bool)
 | [],z8=>
  some (Sum.inl ())
 | x9::xs10,z8=>
  (i_ModeOk x9 b1 b2).bind fun v12=>
  (bif (!v12) then
  some (Sum.inr false)
  else
  i_ActivityOk_L1 b1 b2 xs10 (z8+1))
def i_ActivityOk (b0:TActivity)(b1:Int)(b2:Int):Option Bool:=
 sumBind
 (i_ActivityOk_L1 b1 b2 b0.Modes 0)
 (fun q15=>some q15) fun p14=>
 (i_IsName b0.Name).bind fun v16=>
 Option.bind
 ((bif v16 then
 (i_within b0.Family 0 3).bind fun v19=>
 (bif v19 then
 (i_within (b0.Modes.length:Int) 1 3).bind fun v21=>
 some v21
 else
 some false)
 else
 some false)) fun e17=>
 some e17
def i_isTime (b0:Int):Option Bool:=
 (i_within b0 0 60).bind fun v1=>
 some v1
def i_StepsOk_L1 (b0:List TStep):List TStep→Int→Option (Unit ⊕ Bool)
 | [],z8=>
  some (Sum.inl ())
 | x9::xs10,z8=>
  (i_isTime x9.At).bind fun v12=>
  Option.bind
  ((bif (!v12) then
  some true
  else
  (i_isAmount x9.Capacity).bind fun v15=>
  (bif (!v15) then
  some true
  else
  (bif (z8 == 0) then
  (bif (x9.At != 0) then
  some true
  else
  (bif (decide (0<z8)) then
  (idxL b0 (z8 - 1)).bind fun v20=>
  some (decide (x9.At≤v20.At))
  else
  some false))
  else
  (bif (decide (0<z8)) then
  (idxL b0 (z8 - 1)).bind fun v22=>
  some (decide (x9.At≤v22.At))
  else
  some false))))) fun e13=>
  (bif e13 then
  some (Sum.inr false)
  else
  i_StepsOk_L1 b0 xs10 (z8+1))
def i_StepsOk (b0:List TStep):Option Bool:=
 sumBind
 (i_StepsOk_L1 b0 b0 0)
 (fun q25=>some q25) fun p24=>
 (i_within (b0.length:Int) 1 8).bind fun v26=>
 some v26
def i_ResourceOk_L2  : List Int→Int→Option (Unit ⊕ Bool)
 | [],z20=>
  some (Sum.inl ())
 | x21::xs22,z20=>
  (i_within x21 0 12).bind fun v24=>
  (bif (!v24) then
  some (Sum.inr false)
  else
  i_ResourceOk_L2 xs22 (z20+1))
def i_ResourceOk_L1  : List (List Int)→Int→Option (Unit ⊕ Bool)
 | [],z8=>
  some (Sum.inl ())
 | x9::xs10,z8=>
  (bif ((x9.length:Int) != 4) then
  some (Sum.inr false)
  else
  sumBind
  (i_ResourceOk_L2 x9 0)
  (fun q27=>some (Sum.inr q27)) fun p26=>
  i_ResourceOk_L1 xs10 (z8+1))
def i_ResourceOk (b0:TResource):Option Bool:=
 sumBind
 (i_ResourceOk_L1 b0.Setup 0)
 (fun q29=>some q29) fun p28=>
 (i_StepsOk b0.Steps).bind fun v30=>
 Option.bind
 ((bif v30 then
 (bif ((b0.Setup.length:Int) == 0) then
 some true
 else
 some ((b0.Setup.length:Int) == 4))
 else
 some false)) fun e31=>
 some e31
def i_Project_hasActivity (b0:TProject)(b1:Int):Option Bool:=
 (i_within b1 0 (W ((b0.Activities.length:Int) - 1))).bind fun v1=>
 some v1
def i_Project_linkOk (b0:TProject)(b1:TLink):Option Bool:=
 (i_Project_hasActivity b0 b1.From).bind fun v1=>
 Option.bind
 ((bif v1 then
 (i_Project_hasActivity b0 b1.To).bind fun v4=>
 (bif v4 then
 (bif (b1.From != b1.To) then
 (i_within b1.Lag (-60) 60).bind fun v7=>
 some v7
 else
 some false)
 else
 some false)
 else
 some false)) fun e2=>
 some e2
def i_ProjectOk_c1 (b0:TLink)(c1:TProject):Option Bool:=
 (i_Project_linkOk c1 b0).bind fun v1=>
 some (!v1)
def slices_IndexFunc_Link_L1 (g1:TLink→Option Bool):List TLink→Int→Option (Unit ⊕ Int)
 | [],z8=>
  some (Sum.inl ())
 | x9::xs10,z8=>
  (g1 x9).bind fun v12=>
  (bif v12 then
  some (Sum.inr z8)
  else
  slices_IndexFunc_Link_L1 g1 xs10 (z8+1))
def slices_IndexFunc_Link (b0:List TLink)(g1:TLink→Option Bool):Option Int:=
 sumBind
 (slices_IndexFunc_Link_L1 g1 b0 0)
 (fun q15=>some q15) fun p14=>
 some (-1)
def slices_ContainsFunc_Link (b0:List TLink)(g1:TLink→Option Bool):Option Bool:=
 (slices_IndexFunc_Link b0 g1).bind fun v1=>
 some (decide (0≤v1))
def i_ProjectOk_L1 (b0:TProject):List TActivity→Int→Option (Unit ⊕ Bool)
 | [],z16=>
  some (Sum.inl ())
 | x17::xs18,z16=>
  (i_ActivityOk x17 (b0.Resources.length:Int) (b0.Stocks.length:Int)).bind fun v20=>
  Option.bind
  ((bif (!v20) then
  some true
  else
  (i_ActivityIndex b0 x17.Name).bind fun v23=>
  some (v23 != z16))) fun e21=>
  (bif e21 then
  some (Sum.inr false)
  else
  i_ProjectOk_L1 b0 xs18 (z16+1))
def i_ProjectOk_L2  : List TResource→Int→Option (Unit ⊕ Bool)
 | [],z34=>
  some (Sum.inl ())
 | x35::xs36,z34=>
  (i_ResourceOk x35).bind fun v38=>
  (bif (!v38) then
  some (Sum.inr false)
  else
  i_ProjectOk_L2 xs36 (z34+1))
def i_ProjectOk_L3  : List Int→Int→Option (Unit ⊕ Bool)
 | [],z49=>
  some (Sum.inl ())
 | x50::xs51,z49=>
  (i_within x50 0 100).bind fun v53=>
  (bif (!v53) then
  some (Sum.inr false)
  else
  i_ProjectOk_L3 xs51 (z49+1))
def i_ProjectOk (b0:TProject):Option Bool:=
 (i_within b0.Deadline 1 60).bind fun v1=>
 Option.bind
 ((bif (!v1) then
 some true
 else
 (i_within (b0.Activities.length:Int) 1 6).bind fun v4=>
 (bif (!v4) then
 some true
 else
 (bif (decide (3<(b0.Resources.length:Int))) then
 some true
 else
 (bif (decide (2<(b0.Stocks.length:Int))) then
 some true
 else
 some (decide (12<(b0.Links.length:Int)))))))) fun e2=>
 (bif e2 then
 some false
 else
 sumBind
 (i_ProjectOk_L1 b0 b0.Activities 0)
 (fun q26=>some q26) fun p25=>
 sumBind
 (i_ProjectOk_L2 b0.Resources 0)
 (fun q41=>some q41) fun p40=>
 sumBind
 (i_ProjectOk_L3 b0.Stocks 0)
 (fun q56=>some q56) fun p55=>
 (slices_ContainsFunc_Link b0.Links (fun x0=>i_ProjectOk_c1 x0 b0)).bind fun v57=>
 some (!v57))
def i_LiteralOk (b0:TProject)(b1:TLiteral):Option Bool:=
 (i_ProjectOk b0).bind fun v1=>
 Option.bind
 ((bif (!v1) then
 some true
 else
 (i_Project_hasActivity b0 b1.Activity).bind fun v4=>
 some (!v4))) fun e2=>
 (bif e2 then
 some false
 else
 Option.bind
 ((bif (b1.Kind == 1) then
 some (b1.Kind == 1)
 else
 some (b1.Kind == 2))) fun p11=>
 (bif p11 then
 (i_within b1.Value (-1) 61).bind fun v13=>
 some v13
 else
 Option.bind
 ((bif (b1.Kind == 3) then
 some (b1.Kind == 3)
 else
 some (b1.Kind == 4))) fun p19=>
 (bif p19 then
 (idxL b0.Activities b1.Activity).bind fun v21=>
 (i_within b1.Value 0 (W ((v21.Modes.length:Int) - 1))).bind fun v22=>
 some v22
 else
 some false)))
def i_FormatLiteral (b0:TProject)(b1:TLiteral):Option ByteArray:=
 (i_LiteralOk b0 b1).bind fun v1=>
 (bif (!v1) then
 some ByteArray.empty
 else
 (idxL b0.Activities b1.Activity).bind fun v3=>
 (i_LiteralSign b1.Kind).bind fun v4=>
 (catS v3.Name v4).bind fun v5=>
 (i_FormatInt b1.Value).bind fun v6=>
 (catS v5 v6).bind fun v7=>
 some v7)
def i_ParseLiteral_L1 (b1:ByteArray):Nat→Int→Option Int
 | 0,_=>none
 | fuel+1,a6=>
  Option.bind
  ((bif (decide (a6<(b1.size:Int))) then
  (idxS b1 a6).bind fun v11=>
  (bif (decide (97≤v11)) then
  (bif (decide (v11≤122)) then
  some true
  else
  (bif (decide (48≤v11)) then
  some (decide (v11≤57))
  else
  some false))
  else
  (bif (decide (48≤v11)) then
  some (decide (v11≤57))
  else
  some false))
  else
  some false)) fun e9=>
  (bif e9 then
  i_ParseLiteral_L1 b1 fuel (W (a6+1))
  else
  some a6)
def i_ParseLiteral_L2 (b0:TProject)(b1:ByteArray)(p17:Int):Nat→Int→Option (Unit ⊕ (TLiteral×Bool))
 | 0,_=>none
 | fuel+1,a23=>
  (bif (decide (a23≤4)) then
  (i_LiteralSign a23).bind fun v27=>
  Option.bind
  ((bif (decide ((b1.size:Int)<(W (p17+(v27.size:Int))))) then
  some true
  else
  (subS b1 p17 (W (p17+(v27.size:Int)))).bind fun v30=>
  some (v30 != v27))) fun e28=>
  (bif e28 then
  i_ParseLiteral_L2 b0 b1 p17 fuel (W (a23+1))
  else
  (subS b1 (W (p17+(v27.size:Int))) (b1.size:Int)).bind fun v32=>
  (i_ParseInt v32).bind fun v33=>
  (subS b1 0 p17).bind fun v34=>
  (i_ActivityIndex b0 v34).bind fun v35=>
  Option.bind
  ((bif v33.2 then
  (i_FormatLiteral b0 (TLiteral.mk a23 v35 v33.1)).bind fun v38=>
  some (v38 == b1)
  else
  some false)) fun e36=>
  (bif e36 then
  some (Sum.inr ((TLiteral.mk a23 v35 v33.1),true))
  else
  i_ParseLiteral_L2 b0 b1 p17 fuel (W (a23+1))))
  else
  some (Sum.inl ()))
def i_ParseLiteral (b0:TProject)(b1:ByteArray):Option (TLiteral×Bool):=
 Option.bind
 (i_ParseLiteral_L1 b1 F0 0) fun p17=>
 sumBind
 (i_ParseLiteral_L2 b0 b1 p17 F0 1)
 (fun q41=>some q41) fun p40=>
 some ((TLiteral.mk 0 0 0),false)
def cmp_isNaN_int (b0:Int):Option Bool:=
 some (b0 != b0)
def cmp_Compare_int (b0:Int)(b1:Int):Option Int:=
 (cmp_isNaN_int b0).bind fun v1=>
 (cmp_isNaN_int b1).bind fun v2=>
 (bif v1 then
 (bif v2 then
 some 0
 else
 some (-1))
 else
 (bif v2 then
 some 1
 else
 (bif (decide (b0<b1)) then
 some (-1)
 else
 (bif (decide (b1<b0)) then
 some 1
 else
 some 0))))
def cmp_Or_int_L1  : List Int→Int→Option (Unit ⊕ Int)
 | [],z8=>
  some (Sum.inl ())
 | x9::xs10,z8=>
  (bif (x9 != 0) then
  some (Sum.inr x9)
  else
  cmp_Or_int_L1 xs10 (z8+1))
def cmp_Or_int (b0:List Int):Option Int:=
 sumBind
 (cmp_Or_int_L1 b0 0)
 (fun q14=>some q14) fun p13=>
 some 0
def i_CompareLiterals (b0:TLiteral)(b1:TLiteral):Option Int:=
 (cmp_Compare_int b0.Activity b1.Activity).bind fun v1=>
 (cmp_Compare_int b0.Kind b1.Kind).bind fun v2=>
 (cmp_Compare_int b0.Value b1.Value).bind fun v3=>
 (cmp_Or_int ([v1,v2,v3]:List Int)).bind fun v4=>
 some v4
def i_ClauseOk_L1 (b0:TProject)(b1:List TLiteral):List TLiteral→Int→Option (Unit ⊕ Bool)
 | [],z8=>
  some (Sum.inl ())
 | x9::xs10,z8=>
  (i_LiteralOk b0 x9).bind fun v12=>
  Option.bind
  ((bif (!v12) then
  some true
  else
  (bif (decide (0<z8)) then
  (idxL b1 (z8 - 1)).bind fun v16=>
  (i_CompareLiterals v16 x9).bind fun v17=>
  some (decide (0≤v17))
  else
  some false))) fun e13=>
  (bif e13 then
  some (Sum.inr false)
  else
  i_ClauseOk_L1 b0 b1 xs10 (z8+1))
def i_ClauseOk (b0:TProject)(b1:List TLiteral):Option Bool:=
 sumBind
 (i_ClauseOk_L1 b0 b1 b1 0)
 (fun q20=>some q20) fun p19=>
 some (decide ((b1.length:Int)≤24))
def strings_Join (b0:List ByteArray)(b1:ByteArray):Option ByteArray:=joinL b0 b1
def i_FormatClause_L1 (b0:TProject):List TLiteral→Int→(List ByteArray)→Option (List ByteArray)
 | [],z11,a12=>
  some a12
 | x13::xs14,z11,a12=>
  (i_FormatLiteral b0 x13).bind fun v16=>
  (appL a12 ([v16]:List ByteArray)).bind fun v17=>
  i_FormatClause_L1 b0 xs14 (z11+1) v17
def i_FormatClause (b0:TProject)(b1:List TLiteral):Option ByteArray:=
 (i_ClauseOk b0 b1).bind fun v1=>
 (bif (!v1) then
 some ByteArray.empty
 else
 (bif ((b1.length:Int) == 0) then
 some (⟨#[45]⟩:ByteArray)
 else
 Option.bind
 (i_FormatClause_L1 b0 b1 0 ([]:List ByteArray)) fun p18=>
 (strings_Join p18 (⟨#[32]⟩:ByteArray)).bind fun v19=>
 some v19))
def i_ParseClause_L1 (b0:TProject):List ByteArray→Int→(List TLiteral)→Option ((List TLiteral) ⊕ ((List TLiteral)×Bool))
 | [],z14,a15=>
  some (Sum.inl a15)
 | x16::xs17,z14,a15=>
  (i_ParseLiteral b0 x16).bind fun v19=>
  (bif (!v19.2) then
  some (Sum.inr (([]:List TLiteral),false))
  else
  (appL a15 ([v19.1]:List TLiteral)).bind fun v21=>
  i_ParseClause_L1 b0 xs17 (z14+1) v21)
def i_ParseClause (b0:TProject)(b1:ByteArray):Option ((List TLiteral)×Bool):=
 sumBind
 ((bif (b1 != (⟨#[45]⟩:ByteArray)) then
 (i_SplitAny b1 (⟨#[32]⟩:ByteArray)).bind fun v6=>
 sumBind
 (i_ParseClause_L1 b0 v6 0 ([]:List TLiteral))
 (fun q23=>some (Sum.inr q23)) fun p22=>
 some (Sum.inl p22)
 else
 some (Sum.inl ([]:List TLiteral))))
 (fun q25=>some q25) fun p24=>
 (i_FormatClause b0 p24).bind fun v26=>
 (bif (v26 != b1) then
 some (([]:List TLiteral),false)
 else
 some (p24,true))
def strings_CutPrefix (b0:ByteArray)(b1:ByteArray):Option (ByteArray×Bool):=cutPL b0 b1
def strings_ReplaceAll (b0:ByteArray)(b1:ByteArray)(b2:ByteArray):Option ByteArray:=replL b0 b1 b2
def i_RuleName (b0:Int):Option ByteArray:=
 (i_within b0 0 6).bind fun v1=>
 (bif (!v1) then
 some ByteArray.empty
 else
 (idxL ([(⟨#[110,111,110,101]⟩:ByteArray),(⟨#[108,105,110,107]⟩:ByteArray),(⟨#[101,110,100]⟩:ByteArray),(⟨#[116,105,109,101]⟩:ByteArray),(⟨#[119,111,114,107]⟩:ByteArray),(⟨#[112,97,105,114]⟩:ByteArray),(⟨#[115,116,111,99,107]⟩:ByteArray)]:List ByteArray) b0).bind fun v3=>
 some v3)
def i_Project_hasResource (b0:TProject)(b1:Int):Option Bool:=
 (i_within b1 0 (W ((b0.Resources.length:Int) - 1))).bind fun v1=>
 some v1
def i_IsMachine (b0:TProject)(b1:Int):Option Bool:=
 (i_Project_hasResource b0 b1).bind fun v1=>
 Option.bind
 ((bif v1 then
 (idxL b0.Resources b1).bind fun v4=>
 some (decide (0<(v4.Setup.length:Int)))
 else
 some false)) fun e2=>
 some e2
def i_Project_hasStock (b0:TProject)(b1:Int):Option Bool:=
 (i_within b1 0 (W ((b0.Stocks.length:Int) - 1))).bind fun v1=>
 some v1
def i_RuleOk (b0:TProject)(b1:TRule):Option Bool:=
 (i_ProjectOk b0).bind fun v1=>
 (bif (!v1) then
 some false
 else
 (bif (b1.Kind == 1) then
 (i_within b1.A 0 (W ((b0.Links.length:Int) - 1))).bind fun v4=>
 Option.bind
 ((bif v4 then
 (bif (b1.B == 0) then
 some (b1.C == 0)
 else
 some false)
 else
 some false)) fun e5=>
 some e5
 else
 (bif (b1.Kind == 2) then
 (i_Project_hasActivity b0 b1.A).bind fun v9=>
 Option.bind
 ((bif v9 then
 (bif (b1.B == 0) then
 some (b1.C == 0)
 else
 some false)
 else
 some false)) fun e10=>
 some e10
 else
 (bif (b1.Kind == 3) then
 (i_Project_hasResource b0 b1.A).bind fun v14=>
 Option.bind
 ((bif v14 then
 (i_isTime b1.B).bind fun v17=>
 (bif v17 then
 some (b1.C == 0)
 else
 some false)
 else
 some false)) fun e15=>
 some e15
 else
 (bif (b1.Kind == 4) then
 (i_Project_hasResource b0 b1.A).bind fun v20=>
 Option.bind
 ((bif v20 then
 (i_isTime b1.B).bind fun v23=>
 (bif v23 then
 (i_isTime b1.C).bind fun v25=>
 (bif v25 then
 some (decide (b1.B<b1.C))
 else
 some false)
 else
 some false)
 else
 some false)) fun e21=>
 some e21
 else
 (bif (b1.Kind == 5) then
 (i_IsMachine b0 b1.A).bind fun v28=>
 Option.bind
 ((bif v28 then
 (i_Project_hasActivity b0 b1.B).bind fun v31=>
 (bif v31 then
 (i_Project_hasActivity b0 b1.C).bind fun v33=>
 (bif v33 then
 some (decide (b1.B<b1.C))
 else
 some false)
 else
 some false)
 else
 some false)) fun e29=>
 some e29
 else
 (bif (b1.Kind == 6) then
 (i_Project_hasStock b0 b1.A).bind fun v36=>
 Option.bind
 ((bif v36 then
 (bif (b1.B == 0) then
 some (b1.C == 0)
 else
 some false)
 else
 some false)) fun e37=>
 some e37
 else
 some false)))))))
def i_FormatRule (b0:TProject)(b1:TRule):Option ByteArray:=
 (i_RuleOk b0 b1).bind fun v1=>
 (bif (!v1) then
 some ByteArray.empty
 else
 (i_RuleName b1.Kind).bind fun v3=>
 (i_FormatInt b1.A).bind fun v4=>
 Option.bind
 ((bif (b1.Kind == 2) then
 (idxL b0.Activities b1.A).bind fun v10=>
 (idxL ([v3,v4]:List ByteArray) 1).bind fun v11=>
 some (setL ([v3,v4]:List ByteArray) 1 v10.Name)
 else
 (bif (b1.Kind == 3) then
 (i_FormatInt b1.B).bind fun v13=>
 (appL ([v3,v4]:List ByteArray) ([v13]:List ByteArray)).bind fun v14=>
 some v14
 else
 (bif (b1.Kind == 4) then
 (i_FormatInt b1.B).bind fun v16=>
 (i_FormatInt b1.C).bind fun v17=>
 (appL ([v3,v4]:List ByteArray) ([v16,v17]:List ByteArray)).bind fun v18=>
 some v18
 else
 (bif (b1.Kind == 5) then
 (idxL b0.Activities b1.B).bind fun v20=>
 (idxL b0.Activities b1.C).bind fun v21=>
 (appL ([v3,v4]:List ByteArray) ([v20.Name,v21.Name]:List ByteArray)).bind fun v22=>
 some v22
 else
 some ([v3,v4]:List ByteArray)))))) fun p23=>
 (strings_Join p23 (⟨#[32]⟩:ByteArray)).bind fun v24=>
 some v24)
def i_ParseRule_L1 (v1:List ByteArray):Nat→Int→Int→Option Int
 | 0,_,_=>none
 | fuel+1,a7,a8=>
  (bif (decide (a7≤6)) then
  (i_RuleName a7).bind fun v12=>
  (idxL v1 0).bind fun v13=>
  (bif (v12 == v13) then
  i_ParseRule_L1 v1 fuel (W (a7+1)) a7
  else
  i_ParseRule_L1 v1 fuel (W (a7+1)) a8)
  else
  some a8)
def i_ParseRule_L2 (b0:TProject):List ByteArray→Int→Int→Int→Int→Option ((Int×Int×Int) ⊕ (TRule×Bool))
 | [],z24,a25,a26,a27=>
  some (Sum.inl (a25,a26,a27))
 | x28::xs29,z24,a25,a26,a27=>
  (bif (decide (2<z24)) then
  some (Sum.inr ((TRule.mk 0 0 0 0),false))
  else
  (i_ParseInt x28).bind fun v32=>
  (bif (!v32.2) then
  (i_ActivityIndex b0 x28).bind fun v34=>
  (idxL ([a25,a26,a27]:List Int) z24).bind fun v35=>
  i_ParseRule_L2 b0 xs29 (z24+1) (bif (z24 == 0) then v34 else a25) (bif (z24 == 1) then v34 else a26) (bif (z24 == 2) then v34 else a27)
  else
  (idxL ([a25,a26,a27]:List Int) z24).bind fun v36=>
  i_ParseRule_L2 b0 xs29 (z24+1) (bif (z24 == 0) then v32.1 else a25) (bif (z24 == 1) then v32.1 else a26) (bif (z24 == 2) then v32.1 else a27)))
def i_ParseRule (b0:TProject)(b1:ByteArray):Option (TRule×Bool):=
 (i_SplitAny b1 (⟨#[32]⟩:ByteArray)).bind fun v1=>
 Option.bind
 (i_ParseRule_L1 v1 F0 1 0) fun p15=>
 (subL v1 1 (v1.length:Int)).bind fun v16=>
 sumBind
 (i_ParseRule_L2 b0 v16 0 0 0 0)
 (fun q38=>some q38) fun p37=>
 Option.bind
 ((bif (b1 == ByteArray.empty) then
 some true
 else
 (i_FormatRule b0 (TRule.mk p15 p37.1 p37.2.1 p37.2.2)).bind fun v41=>
 some (v41 != b1))) fun e39=>
 (bif e39 then
 some ((TRule.mk 0 0 0 0),false)
 else
 some ((TRule.mk p15 p37.1 p37.2.1 p37.2.2),true))
def i_LineOk (b0:TProject)(b1:TLine):Option Bool:=
 (i_ClauseOk b0 b1.Clause).bind fun v1=>
 Option.bind
 ((bif v1 then
 (bif (b1.Kind == 1) then
 some true
 else
 (bif (b1.Kind == 2) then
 some (b1.Rule.Kind == 0 && (b1.Rule.A == 0 && (b1.Rule.B == 0 && (b1.Rule.C == 0 && true))))
 else
 some false))
 else
 some false)) fun e2=>
 some e2
def i_FormatLine (b0:TProject)(b1:TLine):Option ByteArray:=
 (i_ProjectOk b0).bind fun v1=>
 Option.bind
 ((bif (!v1) then
 some true
 else
 (i_LineOk b0 b1).bind fun v4=>
 some (!v4))) fun e2=>
 (bif e2 then
 some ByteArray.empty
 else
 (bif (b1.Kind == 2) then
 (i_FormatClause b0 b1.Clause).bind fun v7=>
 (catS (⟨#[117,110,105,116,32,124,32]⟩:ByteArray) v7).bind fun v8=>
 some v8
 else
 (i_RuleOk b0 b1.Rule).bind fun v9=>
 Option.bind
 ((bif v9 then
 (i_FormatRule b0 b1.Rule).bind fun v15=>
 (strings_ReplaceAll v15 (⟨#[32]⟩:ByteArray) (⟨#[44]⟩:ByteArray)).bind fun v16=>
 some v16
 else
 some (⟨#[110,111,110,101]⟩:ByteArray))) fun p17=>
 (catS (⟨#[114,117,108,101,32]⟩:ByteArray) p17).bind fun v18=>
 (catS v18 (⟨#[32,124,32]⟩:ByteArray)).bind fun v19=>
 (i_FormatClause b0 b1.Clause).bind fun v20=>
 (catS v19 v20).bind fun v21=>
 some v21))
def i_ParseLine (b0:TProject)(b1:ByteArray):Option (TLine×Bool):=
 (strings_Cut b1 (⟨#[32,124,32]⟩:ByteArray)).bind fun v1=>
 (i_ParseClause b0 v1.2.1).bind fun v2=>
 Option.bind
 ((bif (!v1.2.2) then
 some true
 else
 some (!v2.2))) fun e3=>
 (bif e3 then
 some ((TLine.mk 0 (TRule.mk 0 0 0 0) ([]:List TLiteral)),false)
 else
 (strings_CutPrefix v1.1 (⟨#[114,117,108,101,32]⟩:ByteArray)).bind fun v6=>
 Option.bind
 ((bif v6.2 then
 (bif (v6.1 != (⟨#[110,111,110,101]⟩:ByteArray)) then
 (strings_ReplaceAll v6.1 (⟨#[44]⟩:ByteArray) (⟨#[32]⟩:ByteArray)).bind fun v13=>
 (i_ParseRule b0 v13).bind fun v14=>
 some (1,v14.1.Kind,v14.1.A,v14.1.B,v14.1.C)
 else
 some (1,0,0,0,0))
 else
 some (2,0,0,0,0))) fun p15=>
 (i_FormatLine b0 (TLine.mk p15.1 (TRule.mk p15.2.1 p15.2.2.1 p15.2.2.2.1 p15.2.2.2.2) v2.1)).bind fun v16=>
 (bif (v16 != b1) then
 some ((TLine.mk 0 (TRule.mk 0 0 0 0) ([]:List TLiteral)),false)
 else
 some ((TLine.mk p15.1 (TRule.mk p15.2.1 p15.2.2.1 p15.2.2.2.1 p15.2.2.2.2) v2.1),true)))
def i_FormatProof_L1 (b0:TProject):List TLine→Int→ByteArray→Option (ByteArray ⊕ ByteArray)
 | [],z8,a9=>
  some (Sum.inl a9)
 | x10::xs11,z8,a9=>
  (i_FormatLine b0 x10).bind fun v13=>
  (bif (v13 == ByteArray.empty) then
  some (Sum.inr ByteArray.empty)
  else
  (catS v13 (⟨#[10]⟩:ByteArray)).bind fun v15=>
  (catS a9 v15).bind fun v16=>
  i_FormatProof_L1 b0 xs11 (z8+1) v16)
def i_FormatProof (b0:TProject)(b1:List TLine):Option ByteArray:=
 sumBind
 (i_FormatProof_L1 b0 b1 0 ByteArray.empty)
 (fun q18=>some q18) fun p17=>
 some p17
def i_ParseProof_L1 (b0:TProject):List ByteArray→Int→(List TLine)→Option ((List TLine) ⊕ ((List TLine)×Bool))
 | [],z9,a10=>
  some (Sum.inl a10)
 | x11::xs12,z9,a10=>
  (i_ParseLine b0 x11).bind fun v14=>
  (bif (!v14.2) then
  some (Sum.inr (([]:List TLine),false))
  else
  (appL a10 ([v14.1]:List TLine)).bind fun v16=>
  i_ParseProof_L1 b0 xs12 (z9+1) v16)
def i_ParseProof (b0:TProject)(b1:ByteArray):Option ((List TLine)×Bool):=
 (i_SplitLines b1).bind fun v1=>
 sumBind
 (i_ParseProof_L1 b0 v1 0 ([]:List TLine))
 (fun q18=>some q18) fun p17=>
 Option.bind
 ((bif (decide (300<(p17.length:Int))) then
 some true
 else
 (i_FormatProof b0 p17).bind fun v21=>
 some (v21 != b1))) fun e19=>
 (bif e19 then
 some (([]:List TLine),false)
 else
 some (p17,true))
def w_eqRule (b0:TRule)(b1:TRule):Option Bool:=
 (bif (b0.Kind != b1.Kind) then
 some false
 else
 (bif (b0.A != b1.A) then
 some false
 else
 (bif (b0.B != b1.B) then
 some false
 else
 (bif (b0.C != b1.C) then
 some false
 else
 some true))))
def w_eqLiteral (b0:TLiteral)(b1:TLiteral):Option Bool:=
 (bif (b0.Kind != b1.Kind) then
 some false
 else
 (bif (b0.Activity != b1.Activity) then
 some false
 else
 (bif (b0.Value != b1.Value) then
 some false
 else
 some true)))
def w_eqLiteralS_L1 (b1:List TLiteral):List TLiteral→Int→Option (Unit ⊕ Bool)
 | [],z9=>
  some (Sum.inl ())
 | x10::xs11,z9=>
  (idxL b1 z9).bind fun v13=>
  (w_eqLiteral x10 v13).bind fun v14=>
  (bif (!v14) then
  some (Sum.inr false)
  else
  w_eqLiteralS_L1 b1 xs11 (z9+1))
def w_eqLiteralS (b0:List TLiteral)(b1:List TLiteral):Option Bool:=
 (bif ((b0.length:Int) != (b1.length:Int)) then
 some false
 else
 sumBind
 (w_eqLiteralS_L1 b1 b0 0)
 (fun q17=>some q17) fun p16=>
 some true)
def w_eqLine (b0:TLine)(b1:TLine):Option Bool:=
 (bif (b0.Kind != b1.Kind) then
 some false
 else
 (w_eqRule b0.Rule b1.Rule).bind fun v2=>
 (bif (!v2) then
 some false
 else
 (w_eqLiteralS b0.Clause b1.Clause).bind fun v4=>
 (bif (!v4) then
 some false
 else
 some true)))
def w_eqLineS_L1 (b1:List TLine):List TLine→Int→Option (Unit ⊕ Bool)
 | [],z9=>
  some (Sum.inl ())
 | x10::xs11,z9=>
  (idxL b1 z9).bind fun v13=>
  (w_eqLine x10 v13).bind fun v14=>
  (bif (!v14) then
  some (Sum.inr false)
  else
  w_eqLineS_L1 b1 xs11 (z9+1))
def w_eqLineS (b0:List TLine)(b1:List TLine):Option Bool:=
 (bif ((b0.length:Int) != (b1.length:Int)) then
 some false
 else
 sumBind
 (w_eqLineS_L1 b1 b0 0)
 (fun q17=>some q17) fun p16=>
 some true)
def w_eqIntS_L1 (b1:List Int):List Int→Int→Option (Unit ⊕ Bool)
 | [],z9=>
  some (Sum.inl ())
 | x10::xs11,z9=>
  (idxL b1 z9).bind fun v13=>
  (bif (x10 != v13) then
  some (Sum.inr false)
  else
  w_eqIntS_L1 b1 xs11 (z9+1))
def w_eqIntS (b0:List Int)(b1:List Int):Option Bool:=
 (bif ((b0.length:Int) != (b1.length:Int)) then
 some false
 else
 sumBind
 (w_eqIntS_L1 b1 b0 0)
 (fun q16=>some q16) fun p15=>
 some true)
def w_eqMode (b0:TMode)(b1:TMode):Option Bool:=
 (bif (b0.Duration != b1.Duration) then
 some false
 else
 (w_eqIntS b0.Usage b1.Usage).bind fun v2=>
 (bif (!v2) then
 some false
 else
 (w_eqIntS b0.Consumption b1.Consumption).bind fun v4=>
 (bif (!v4) then
 some false
 else
 some true)))
def w_eqModeS_L1 (b1:List TMode):List TMode→Int→Option (Unit ⊕ Bool)
 | [],z9=>
  some (Sum.inl ())
 | x10::xs11,z9=>
  (idxL b1 z9).bind fun v13=>
  (w_eqMode x10 v13).bind fun v14=>
  (bif (!v14) then
  some (Sum.inr false)
  else
  w_eqModeS_L1 b1 xs11 (z9+1))
def w_eqModeS (b0:List TMode)(b1:List TMode):Option Bool:=
 (bif ((b0.length:Int) != (b1.length:Int)) then
 some false
 else
 sumBind
 (w_eqModeS_L1 b1 b0 0)
 (fun q17=>some q17) fun p16=>
 some true)
def w_eqActivity (b0:TActivity)(b1:TActivity):Option Bool:=
 (bif (b0.Name != b1.Name) then
 some false
 else
 (bif (b0.Family != b1.Family) then
 some false
 else
 (w_eqModeS b0.Modes b1.Modes).bind fun v3=>
 (bif (!v3) then
 some false
 else
 some true)))
def w_eqActivityS_L1 (b1:List TActivity):List TActivity→Int→Option (Unit ⊕ Bool)
 | [],z9=>
  some (Sum.inl ())
 | x10::xs11,z9=>
  (idxL b1 z9).bind fun v13=>
  (w_eqActivity x10 v13).bind fun v14=>
  (bif (!v14) then
  some (Sum.inr false)
  else
  w_eqActivityS_L1 b1 xs11 (z9+1))
def w_eqActivityS (b0:List TActivity)(b1:List TActivity):Option Bool:=
 (bif ((b0.length:Int) != (b1.length:Int)) then
 some false
 else
 sumBind
 (w_eqActivityS_L1 b1 b0 0)
 (fun q17=>some q17) fun p16=>
 some true)
def w_eqLink (b0:TLink)(b1:TLink):Option Bool:=
 (bif (b0.From != b1.From) then
 some false
 else
 (bif (b0.To != b1.To) then
 some false
 else
 (bif (b0.FromEnd != b1.FromEnd) then
 some false
 else
 (bif (b0.Lag != b1.Lag) then
 some false
 else
 some true))))
def w_eqLinkS_L1 (b1:List TLink):List TLink→Int→Option (Unit ⊕ Bool)
 | [],z9=>
  some (Sum.inl ())
 | x10::xs11,z9=>
  (idxL b1 z9).bind fun v13=>
  (w_eqLink x10 v13).bind fun v14=>
  (bif (!v14) then
  some (Sum.inr false)
  else
  w_eqLinkS_L1 b1 xs11 (z9+1))
def w_eqLinkS (b0:List TLink)(b1:List TLink):Option Bool:=
 (bif ((b0.length:Int) != (b1.length:Int)) then
 some false
 else
 sumBind
 (w_eqLinkS_L1 b1 b0 0)
 (fun q17=>some q17) fun p16=>
 some true)
def w_eqStep (b0:TStep)(b1:TStep):Option Bool:=
 (bif (b0.At != b1.At) then
 some false
 else
 (bif (b0.Capacity != b1.Capacity) then
 some false
 else
 some true))
def w_eqStepS_L1 (b1:List TStep):List TStep→Int→Option (Unit ⊕ Bool)
 | [],z9=>
  some (Sum.inl ())
 | x10::xs11,z9=>
  (idxL b1 z9).bind fun v13=>
  (w_eqStep x10 v13).bind fun v14=>
  (bif (!v14) then
  some (Sum.inr false)
  else
  w_eqStepS_L1 b1 xs11 (z9+1))
def w_eqStepS (b0:List TStep)(b1:List TStep):Option Bool:=
 (bif ((b0.length:Int) != (b1.length:Int)) then
 some false
 else
 sumBind
 (w_eqStepS_L1 b1 b0 0)
 (fun q17=>some q17) fun p16=>
 some true)
def w_eqIntSS_L1 (b1:List (List Int)):List (List Int)→Int→Option (Unit ⊕ Bool)
 | [],z9=>
  some (Sum.inl ())
 | x10::xs11,z9=>
  (idxL b1 z9).bind fun v13=>
  (w_eqIntS x10 v13).bind fun v14=>
  (bif (!v14) then
  some (Sum.inr false)
  else
  w_eqIntSS_L1 b1 xs11 (z9+1))
def w_eqIntSS (b0:List (List Int))(b1:List (List Int)):Option Bool:=
 (bif ((b0.length:Int) != (b1.length:Int)) then
 some false
 else
 sumBind
 (w_eqIntSS_L1 b1 b0 0)
 (fun q17=>some q17) fun p16=>
 some true)
def w_eqResource (b0:TResource)(b1:TResource):Option Bool:=
 (w_eqStepS b0.Steps b1.Steps).bind fun v1=>
 (bif (!v1) then
 some false
 else
 (w_eqIntSS b0.Setup b1.Setup).bind fun v3=>
 (bif (!v3) then
 some false
 else
 some true))
def w_eqResourceS_L1 (b1:List TResource):List TResource→Int→Option (Unit ⊕ Bool)
 | [],z9=>
  some (Sum.inl ())
 | x10::xs11,z9=>
  (idxL b1 z9).bind fun v13=>
  (w_eqResource x10 v13).bind fun v14=>
  (bif (!v14) then
  some (Sum.inr false)
  else
  w_eqResourceS_L1 b1 xs11 (z9+1))
def w_eqResourceS (b0:List TResource)(b1:List TResource):Option Bool:=
 (bif ((b0.length:Int) != (b1.length:Int)) then
 some false
 else
 sumBind
 (w_eqResourceS_L1 b1 b0 0)
 (fun q17=>some q17) fun p16=>
 some true)
def w_eqProject (b0:TProject)(b1:TProject):Option Bool:=
 (bif (b0.Deadline != b1.Deadline) then
 some false
 else
 (w_eqActivityS b0.Activities b1.Activities).bind fun v2=>
 (bif (!v2) then
 some false
 else
 (w_eqLinkS b0.Links b1.Links).bind fun v4=>
 (bif (!v4) then
 some false
 else
 (w_eqResourceS b0.Resources b1.Resources).bind fun v6=>
 (bif (!v6) then
 some false
 else
 (w_eqIntS b0.Stocks b1.Stocks).bind fun v8=>
 (bif (!v8) then
 some false
 else
 some true)))))
def w_markText_L1  : Nat→Int→ByteArray→Option ByteArray
 | 0,_,_=>none
 | fuel+1,a7,a8=>
  (bif (decide (0<a7)) then
  (catS (strB ([(IntKind.u8.wrap (W (48+(a7.tmod 10))))]:List Int)) a8).bind fun v12=>
  w_markText_L1 fuel (W (a7.tdiv 10)) v12
  else
  some a8)
def w_markText (b0:Int):Option ByteArray:=
 (bif (decide (b0≤0)) then
 some (⟨#[109,48]⟩:ByteArray)
 else
 Option.bind
 (w_markText_L1 F0 b0 ByteArray.empty) fun p13=>
 (catS (⟨#[109]⟩:ByteArray) p13).bind fun v14=>
 some v14)
def w_markIntS_k_L1  : List Int→Int→Int→Option Int
 | [],z8,a9=>
  some a9
 | x10::xs11,z8,a9=>
  w_markIntS_k_L1 xs11 (z8+1) (W (a9+1))
def w_markIntS_k (b0:List Int)(b1:Int):Option Int:=
 Option.bind
 (w_markIntS_k_L1 b0 0 b1) fun p13=>
 some p13
def w_markModeS_k_L1  : List TMode→Int→Int→Option Int
 | [],z8,a9=>
  some a9
 | x10::xs11,z8,a9=>
  (w_markIntS_k x10.Usage (W (a9+1))).bind fun v13=>
  (w_markIntS_k x10.Consumption v13).bind fun v14=>
  w_markModeS_k_L1 xs11 (z8+1) v14
def w_markModeS_k (b0:List TMode)(b1:Int):Option Int:=
 Option.bind
 (w_markModeS_k_L1 b0 0 b1) fun p15=>
 some p15
def w_markActivityS_k_L1  : List TActivity→Int→Int→Option Int
 | [],z8,a9=>
  some a9
 | x10::xs11,z8,a9=>
  (w_markText a9).bind fun v13=>
  (w_markModeS_k x10.Modes (W ((W (a9+1))+1))).bind fun v14=>
  w_markActivityS_k_L1 xs11 (z8+1) v14
def w_markActivityS_k (b0:List TActivity)(b1:Int):Option Int:=
 Option.bind
 (w_markActivityS_k_L1 b0 0 b1) fun p15=>
 some p15
def w_markLinkS_k_L1  : List TLink→Int→Int→Option Int
 | [],z8,a9=>
  some a9
 | x10::xs11,z8,a9=>
  w_markLinkS_k_L1 xs11 (z8+1) (W ((W ((W ((W (a9+1))+1))+1))+1))
def w_markLinkS_k (b0:List TLink)(b1:Int):Option Int:=
 Option.bind
 (w_markLinkS_k_L1 b0 0 b1) fun p13=>
 some p13
def w_markStepS_k_L1  : List TStep→Int→Int→Option Int
 | [],z8,a9=>
  some a9
 | x10::xs11,z8,a9=>
  w_markStepS_k_L1 xs11 (z8+1) (W ((W (a9+1))+1))
def w_markStepS_k (b0:List TStep)(b1:Int):Option Int:=
 Option.bind
 (w_markStepS_k_L1 b0 0 b1) fun p13=>
 some p13
def w_markIntSS_k_L1  : List (List Int)→Int→Int→Option Int
 | [],z8,a9=>
  some a9
 | x10::xs11,z8,a9=>
  (w_markIntS_k x10 a9).bind fun v13=>
  w_markIntSS_k_L1 xs11 (z8+1) v13
def w_markIntSS_k (b0:List (List Int))(b1:Int):Option Int:=
 Option.bind
 (w_markIntSS_k_L1 b0 0 b1) fun p14=>
 some p14
def w_markResourceS_k_L1  : List TResource→Int→Int→Option Int
 | [],z8,a9=>
  some a9
 | x10::xs11,z8,a9=>
  (w_markStepS_k x10.Steps a9).bind fun v13=>
  (w_markIntSS_k x10.Setup v13).bind fun v14=>
  w_markResourceS_k_L1 xs11 (z8+1) v14
def w_markResourceS_k (b0:List TResource)(b1:Int):Option Int:=
 Option.bind
 (w_markResourceS_k_L1 b0 0 b1) fun p15=>
 some p15
def w_markProject_k (b0:TProject)(b1:Int):Option Int:=
 (w_markActivityS_k b0.Activities b1).bind fun v1=>
 (w_markLinkS_k b0.Links v1).bind fun v2=>
 (w_markResourceS_k b0.Resources v2).bind fun v3=>
 (w_markIntS_k b0.Stocks v3).bind fun v4=>
 some v4
def w_markLiteralS_L1  : Nat→Int→Int→(List TLiteral)→Option (Int×(List TLiteral))
 | 0,_,_,_=>none
 | fuel+1,a7,a8,a9=>
  (bif (decide (a8<(a9.length:Int))) then
  (idxL a9 a8).bind fun v13=>
  (idxL (setL a9 a8 (TLiteral.mk a7 v13.Activity v13.Value)) a8).bind fun v14=>
  (idxL (setL (setL a9 a8 (TLiteral.mk a7 v13.Activity v13.Value)) a8 (TLiteral.mk v14.Kind (W (a7+1)) v14.Value)) a8).bind fun v15=>
  w_markLiteralS_L1 fuel (W ((W ((W (a7+1))+1))+1)) (W (a8+1)) (setL (setL (setL a9 a8 (TLiteral.mk a7 v13.Activity v13.Value)) a8 (TLiteral.mk v14.Kind (W (a7+1)) v14.Value)) a8 (TLiteral.mk v15.Kind v15.Activity (W ((W (a7+1))+1))))
  else
  some (a7,a9))
def w_markLiteralS (b0:List TLiteral)(b1:Int):Option (Int×(List TLiteral)):=
 Option.bind
 (w_markLiteralS_L1 F0 b1 0 b0) fun p16=>
 some (p16.1,p16.2)
def w_markLineS_L1  : Nat→Int→Int→(List TLine)→Option (Int×(List TLine))
 | 0,_,_,_=>none
 | fuel+1,a7,a8,a9=>
  (bif (decide (a8<(a9.length:Int))) then
  (idxL a9 a8).bind fun v13=>
  (idxL (setL a9 a8 (TLine.mk a7 v13.Rule v13.Clause)) a8).bind fun v14=>
  (idxL (setL (setL a9 a8 (TLine.mk a7 v13.Rule v13.Clause)) a8 (TLine.mk v14.Kind (TRule.mk (W (a7+1)) v14.Rule.A v14.Rule.B v14.Rule.C) v14.Clause)) a8).bind fun v15=>
  (idxL (setL (setL (setL a9 a8 (TLine.mk a7 v13.Rule v13.Clause)) a8 (TLine.mk v14.Kind (TRule.mk (W (a7+1)) v14.Rule.A v14.Rule.B v14.Rule.C) v14.Clause)) a8 (TLine.mk v15.Kind (TRule.mk v15.Rule.Kind (W ((W (a7+1))+1)) v15.Rule.B v15.Rule.C) v15.Clause)) a8).bind fun v16=>
  (idxL (setL (setL (setL (setL a9 a8 (TLine.mk a7 v13.Rule v13.Clause)) a8 (TLine.mk v14.Kind (TRule.mk (W (a7+1)) v14.Rule.A v14.Rule.B v14.Rule.C) v14.Clause)) a8 (TLine.mk v15.Kind (TRule.mk v15.Rule.Kind (W ((W (a7+1))+1)) v15.Rule.B v15.Rule.C) v15.Clause)) a8 (TLine.mk v16.Kind (TRule.mk v16.Rule.Kind v16.Rule.A (W ((W ((W (a7+1))+1))+1)) v16.Rule.C) v16.Clause)) a8).bind fun v17=>
  (idxL (setL (setL (setL (setL (setL a9 a8 (TLine.mk a7 v13.Rule v13.Clause)) a8 (TLine.mk v14.Kind (TRule.mk (W (a7+1)) v14.Rule.A v14.Rule.B v14.Rule.C) v14.Clause)) a8 (TLine.mk v15.Kind (TRule.mk v15.Rule.Kind (W ((W (a7+1))+1)) v15.Rule.B v15.Rule.C) v15.Clause)) a8 (TLine.mk v16.Kind (TRule.mk v16.Rule.Kind v16.Rule.A (W ((W ((W (a7+1))+1))+1)) v16.Rule.C) v16.Clause)) a8 (TLine.mk v17.Kind (TRule.mk v17.Rule.Kind v17.Rule.A v17.Rule.B (W ((W ((W ((W (a7+1))+1))+1))+1))) v17.Clause)) a8).bind fun v18=>
  (w_markLiteralS v18.Clause (W ((W ((W ((W ((W (a7+1))+1))+1))+1))+1))).bind fun v19=>
  w_markLineS_L1 fuel v19.1 (W (a8+1)) (setL (setL (setL (setL (setL (setL a9 a8 (TLine.mk a7 v13.Rule v13.Clause)) a8 (TLine.mk v14.Kind (TRule.mk (W (a7+1)) v14.Rule.A v14.Rule.B v14.Rule.C) v14.Clause)) a8 (TLine.mk v15.Kind (TRule.mk v15.Rule.Kind (W ((W (a7+1))+1)) v15.Rule.B v15.Rule.C) v15.Clause)) a8 (TLine.mk v16.Kind (TRule.mk v16.Rule.Kind v16.Rule.A (W ((W ((W (a7+1))+1))+1)) v16.Rule.C) v16.Clause)) a8 (TLine.mk v17.Kind (TRule.mk v17.Rule.Kind v17.Rule.A v17.Rule.B (W ((W ((W ((W (a7+1))+1))+1))+1))) v17.Clause)) a8 (TLine.mk v18.Kind v18.Rule v19.2))
  else
  some (a7,a9))
def w_markLineS (b0:List TLine)(b1:Int):Option (Int×(List TLine)):=
 Option.bind
 (w_markLineS_L1 F0 b1 0 b0) fun p20=>
 some (p20.1,p20.2)
def w_heldLiteralS_L1  : List TLiteral→Int→Int→Option (Int ⊕ Int)
 | [],z8,a9=>
  some (Sum.inl a9)
 | x10::xs11,z8,a9=>
  (bif (x10.Kind != a9) then
  some (Sum.inr (-1))
  else
  (bif (x10.Activity != (W (a9+1))) then
  some (Sum.inr (-1))
  else
  (bif (x10.Value != (W ((W (a9+1))+1))) then
  some (Sum.inr (-1))
  else
  w_heldLiteralS_L1 xs11 (z8+1) (W ((W ((W (a9+1))+1))+1)))))
def w_heldLiteralS (b0:List TLiteral)(b1:Int):Option Int:=
 sumBind
 (w_heldLiteralS_L1 b0 0 b1)
 (fun q17=>some q17) fun p16=>
 some p16
def w_heldLineS_L1  : List TLine→Int→Int→Option (Int ⊕ Int)
 | [],z8,a9=>
  some (Sum.inl a9)
 | x10::xs11,z8,a9=>
  (bif (x10.Kind != a9) then
  some (Sum.inr (-1))
  else
  (bif (x10.Rule.Kind != (W (a9+1))) then
  some (Sum.inr (-1))
  else
  (bif (x10.Rule.A != (W ((W (a9+1))+1))) then
  some (Sum.inr (-1))
  else
  (bif (x10.Rule.B != (W ((W ((W (a9+1))+1))+1))) then
  some (Sum.inr (-1))
  else
  (bif (x10.Rule.C != (W ((W ((W ((W (a9+1))+1))+1))+1))) then
  some (Sum.inr (-1))
  else
  (w_heldLiteralS x10.Clause (W ((W ((W ((W ((W (a9+1))+1))+1))+1))+1))).bind fun v18=>
  (bif (decide (v18<0)) then
  some (Sum.inr (-1))
  else
  w_heldLineS_L1 xs11 (z8+1) v18))))))
def w_heldLineS (b0:List TLine)(b1:Int):Option Int:=
 sumBind
 (w_heldLineS_L1 b0 0 b1)
 (fun q21=>some q21) fun p20=>
 some p20
def w_FnExactParseProof (b0:TProject)(b1:ByteArray):Option Bool:=
 (bif (decide (1048576<(b1.size:Int))) then
 some true
 else
 (w_szProject b0 1048576).bind fun v2=>
 (bif (decide (v2<0)) then
 some true
 else
 (w_toProject b0).bind fun v4=>
 (s_ParseProof v4 b1).bind fun v5=>
 (w_toProject b0).bind fun v6=>
 (i_ParseProof v6 b1).bind fun v7=>
 (w_eqLineS v7.1 v5.1).bind fun v8=>
 Option.bind
 ((bif (!v8) then
 some true
 else
 some (v7.2 != v5.2))) fun e9=>
 (bif e9 then
 some false
 else
 (w_toProject b0).bind fun v12=>
 (w_eqProject v6 v12).bind fun v13=>
 (bif (!v13) then
 some false
 else
 (w_markProject_k v6 1).bind fun v15=>
 Option.bind
 ((bif (decide (v15<0)) then
 some true
 else
 (w_eqLineS v7.1 v5.1).bind fun v18=>
 (bif (!v18) then
 some true
 else
 some (v7.2 != v5.2)))) fun e16=>
 (bif e16 then
 some false
 else
 (w_markLineS v7.1 1).bind fun v21=>
 (w_heldLineS v21.2 1).bind fun v22=>
 (bif (decide (v22<0)) then
 some false
 else
 (bif (v22 != v21.1) then
 some false
 else
 (w_toProject b0).bind fun v25=>
 (i_ParseProof v25 b1).bind fun v26=>
 (w_eqLineS v26.1 v5.1).bind fun v27=>
 Option.bind
 ((bif (!v27) then
 some true
 else
 some (v26.2 != v5.2))) fun e28=>
 (bif e28 then
 some false
 else
 (w_heldLineS v21.2 1).bind fun v31=>
 (bif (decide (v31<0)) then
 some false
 else
 (bif (v31 != v21.1) then
 some false
 else
 some true))))))))))
def inR (n lo hi:Int):Bool:=decide (lo≤n) && decide (n≤hi)
def sC (b:List TStep)(x:TStep)(z:Int):Option Bool:=
 (s_l01In x.At 0 60).bind fun v12=>(bif (!v12) then some true else (s_l01In x.Capacity 0 20).bind fun v15=>(bif (!v15) then some true else (bif (decide (0<z)) then (idxL b (z - 1)).bind fun v18=>some (decide (x.At≤v18.At)) else some false)))
def ResF (r:TResource):Prop:=(∀ x∈r.Steps,(0≤x.At∧x.At≤60)∧0≤x.Capacity∧x.Capacity≤20)∧s_StepsOk r.Steps=some true∧(r.Setup.length=0∨r.Setup.length=4)∧∀ row∈r.Setup,row.length=4∧∀ n∈row,0≤n∧n≤12
def ModeF (m:TMode)(a b:Int):Prop:=(1≤m.Duration∧m.Duration≤12)∧((m.Usage.length:Int)=a∧∀ n∈m.Usage,0≤n∧n≤20)∧((m.Consumption.length:Int)=b∧∀ n∈m.Consumption,0≤n∧n≤20)
def ActF (x:TActivity)(a b:Int):Prop:=(0≤x.Family∧x.Family≤3)∧(1≤x.Modes.length∧x.Modes.length≤3)∧∀ m∈x.Modes,ModeF m a b
structure ProjF (p:TProject):Prop where
 deadline:1≤p.Deadline∧p.Deadline≤60
 nact:1≤p.Activities.length∧p.Activities.length≤6
 nres:p.Resources.length≤3
 nstk:p.Stocks.length≤2
 nlnk:p.Links.length≤12
 acts:∀ x∈p.Activities,ActF x p.Resources.length p.Stocks.length
 ress:∀ r∈p.Resources,ResF r
 stks:∀ n∈p.Stocks,0≤n∧n≤100
 lnks:∀ k∈p.Links,(0≤k.From∧k.From<p.Activities.length)∧(0≤k.To∧k.To<p.Activities.length)∧k.From≠k.To∧-60≤k.Lag∧k.Lag≤60
def sgn (a b:Int):Int:=bif decide (a<b) then -1 else bif decide (b<a) then 1 else 0
def cmpLit (a b:TLiteral):Int:=if a.Activity≠b.Activity then sgn a.Activity b.Activity else if a.Kind≠b.Kind then sgn a.Kind b.Kind else sgn a.Value b.Value
structure RuleF (p:TProject)(r:TRule):Prop where
 k1:r.Kind=1→inR r.A 0 (W ((p.Links.length:Int) - 1))=true
 k2:r.Kind=2→inR r.A 0 (W ((p.Activities.length:Int) - 1))=true
 k3:r.Kind=3→inR r.A 0 (W ((p.Resources.length:Int) - 1))=true
 k4:r.Kind=4→inR r.A 0 (W ((p.Resources.length:Int) - 1))=true∧inR r.B 0 60=true∧inR r.C 0 60=true∧r.B<r.C
 k5:r.Kind=5→s_IsMachine p r.A=some true∧inR r.B 0 (W ((p.Activities.length:Int) - 1))=true∧inR r.C 0 (W ((p.Activities.length:Int) - 1))=true∧r.B<r.C
 k6:r.Kind≠1→r.Kind≠2→r.Kind≠3→r.Kind≠4→r.Kind≠5→inR r.A 0 (W ((p.Stocks.length:Int) - 1))=true
abbrev sl (s:ByteArray):List UInt8:=s.data.toList
def splitP (p:UInt8→Bool):List UInt8→List UInt8×List (List UInt8)
 | []=>([],[])
 | c::r=>if p c then ([],(splitP p r).1::(splitP p r).2) else (c::(splitP p r).1,(splitP p r).2)
def valN (a:Nat)(l:List UInt8):Nat:=l.foldl (fun a c=>a*10+(c.toNat - 48)) a
def isNum (s:ByteArray)(n:Int):Prop:=-100000≤n∧n≤100000∧sl s=Lib.itoa n
def isAl (c:UInt8):Bool:=(decide (97≤c.toNat) && decide (c.toNat≤122)) || (decide (48≤c.toNat) && decide (c.toNat≤57))
def signL (k:Int):List UInt8:=if k=1 then [62,61] else if k=2 then [60,61] else if k=3 then [61] else [33,61]
structure LitT (p:TProject)(l:TLiteral)(s:ByteArray)(a:TActivity):Prop where
 ok:s_LiteralOk p l=some true
 text:sl s=sl a.Name ++ (signL l.Kind ++ Lib.itoa l.Value)
 kind:l.Kind=1∨l.Kind=2∨l.Kind=3∨l.Kind=4
 val:-100000≤l.Value∧l.Value≤100000
 act:s_ActivityIndex p a.Name=some l.Activity
 al:∀ c∈sl a.Name,isAl c=true
structure RWord (p:TProject)(w:ByteArray)(b:Bool)(v:Int):Prop where
 size:w.size≤1048576
 chars:∀ c∈sl w,c≠32∧c≠44
 isnum:b=true→isNum w v
 isname:b=false→(∀ n,¬ isNum w n)∧s_ActivityIndex p w=some v
def RShape (p:TProject)(r:TRule)(ws:List ByteArray):Prop:=
 ((r.Kind=1∨r.Kind=6)∧r.B=0∧r.C=0∧∃ x,ws=[x]∧RWord p x true r.A) ∨
 (r.Kind=2∧r.B=0∧r.C=0∧∃ x,ws=[x]∧RWord p x false r.A) ∨
 (r.Kind=3∧r.C=0∧∃ x y,ws=[x,y]∧RWord p x true r.A∧RWord p y true r.B) ∨
 (r.Kind=4∧∃ x y z,ws=[x,y,z]∧RWord p x true r.A∧RWord p y true r.B∧RWord p z true r.C) ∨
 (r.Kind=5∧∃ x y z,ws=[x,y,z]∧RWord p x true r.A∧RWord p y false r.B∧RWord p z false r.C)
def rnm (k:Int):ByteArray:=if k=1 then ⟨#[108,105,110,107]⟩ else if k=2 then ⟨#[101,110,100]⟩ else if k=3 then ⟨#[116,105,109,101]⟩ else if k=4 then ⟨#[119,111,114,107]⟩ else if k=5 then ⟨#[112,97,105,114]⟩ else ⟨#[115,116,111,99,107]⟩
structure PRule (p:TProject)(s:ByteArray)(v:TRule×Bool):Prop where
 one:(∃ r,v=(r,true)∧s_RuleOk p r=some true∧s_FormatRule p r=some s)∨v=(⟨0,0,0,0⟩,false)
 all:∀ r,s_RuleOk p r=some true→s_FormatRule p r=some s→v=(r,true)
def tlen (ys:List ByteArray):Nat:=(Lib.joinTail [32] (ys.map sl)).length
def canon (p:TProject)(l:TLine):Prop:=l.Kind=1→s_RuleOk p l.Rule=some false→l.Rule=⟨0,0,0,0⟩
structure PLine (p:TProject)(s:ByteArray)(v:TLine×Bool):Prop where
 one:(∃ l,v=(l,true)∧s_FormatLine p l=some s∧s≠ByteArray.empty∧canon p l)∨v=(⟨0,⟨0,0,0,0⟩,[]⟩,false)
 all:∀ l,s_FormatLine p l=some s→s≠ByteArray.empty→canon p l→v=(l,true)
def b_l_int (M:Nat)(l:List Int):Prop:=l.length≤M
theorem w_szIntS_ok (x:List Int)(h:b_l_int 9223372036854775807 x):SzOk w_szIntS (b_l_int 1048576) x:=szFlat x (fun _=>rfl) h
def b_str (M:Nat)(x:ByteArray):Prop:=x.size≤M
def bTMode (M:Nat)(x:TMode):Prop:=b_l_int M x.Usage∧b_l_int M x.Consumption ∧  True
theorem w_szMode_ok (x:TMode)(h:bTMode 9223372036854775807 x):SzOk w_szMode (bTMode 1048576) x:=fun n m0 hn=>by
 unfold w_szMode bTMode
 unfold bTMode at h
 exact szThen (w_szIntS_ok _ h.1) m0 (by omega) (fun n1 m1 _ _=>szThen (w_szIntS_ok _ h.2.1) m1 (by omega) (fun n2 m2 _ _=>szEnd m2))
def b_l_eTMode (M:Nat)(l:List TMode):Prop:=l.length≤M∧∀ x∈l,bTMode M x
theorem w_szModeS_ok (x:List TMode)(h:b_l_eTMode 9223372036854775807 x):SzOk w_szModeS (b_l_eTMode 1048576) x:=szList (F:=w_szModeS_L1) (sz:=w_szMode) (Q:=bTMode 1048576) x (fun _ _=>rfl) (fun _ _ _ _=>rfl) (fun _=>rfl) h.1 (fun y hy=>w_szMode_ok y (h.2 y hy))
def bTActivity (M:Nat)(x:TActivity):Prop:=b_str M x.Name∧b_l_eTMode M x.Modes ∧  True
theorem w_szActivity_ok (x:TActivity)(h:bTActivity 9223372036854775807 x):SzOk w_szActivity (bTActivity 1048576) x:=fun n m0 hn=>by
 unfold w_szActivity bTActivity
 unfold bTActivity at h
 exact szStr h.1 m0 (by omega) (fun n1 m1 _ _=>szThen (w_szModeS_ok _ h.2.1) m1 (by omega) (fun n2 m2 _ _=>szEnd m2))
def b_l_eTActivity (M:Nat)(l:List TActivity):Prop:=l.length≤M∧∀ x∈l,bTActivity M x
theorem w_szActivityS_ok (x:List TActivity)(h:b_l_eTActivity 9223372036854775807 x):SzOk w_szActivityS (b_l_eTActivity 1048576) x:=szList (F:=w_szActivityS_L1) (sz:=w_szActivity) (Q:=bTActivity 1048576) x (fun _ _=>rfl) (fun _ _ _ _=>rfl) (fun _=>rfl) h.1 (fun y hy=>w_szActivity_ok y (h.2 y hy))
def b_l_eTLink (M:Nat)(l:List TLink):Prop:=l.length≤M
theorem w_szLinkS_ok (x:List TLink)(h:b_l_eTLink 9223372036854775807 x):SzOk w_szLinkS (b_l_eTLink 1048576) x:=szFlat x (fun _=>rfl) h
def b_l_eTStep (M:Nat)(l:List TStep):Prop:=l.length≤M
theorem w_szStepS_ok (x:List TStep)(h:b_l_eTStep 9223372036854775807 x):SzOk w_szStepS (b_l_eTStep 1048576) x:=szFlat x (fun _=>rfl) h
def b_l_l_int (M:Nat)(l:List (List Int)):Prop:=l.length≤M∧∀ x∈l,b_l_int M x
theorem w_szIntSS_ok (x:List (List Int))(h:b_l_l_int 9223372036854775807 x):SzOk w_szIntSS (b_l_l_int 1048576) x:=szList (F:=w_szIntSS_L1) (sz:=w_szIntS) (Q:=b_l_int 1048576) x (fun _ _=>rfl) (fun _ _ _ _=>rfl) (fun _=>rfl) h.1 (fun y hy=>w_szIntS_ok y (h.2 y hy))
def bTResource (M:Nat)(x:TResource):Prop:=b_l_eTStep M x.Steps∧b_l_l_int M x.Setup ∧  True
theorem w_szResource_ok (x:TResource)(h:bTResource 9223372036854775807 x):SzOk w_szResource (bTResource 1048576) x:=fun n m0 hn=>by
 unfold w_szResource bTResource
 unfold bTResource at h
 exact szThen (w_szStepS_ok _ h.1) m0 (by omega) (fun n1 m1 _ _=>szThen (w_szIntSS_ok _ h.2.1) m1 (by omega) (fun n2 m2 _ _=>szEnd m2))
def b_l_eTResource (M:Nat)(l:List TResource):Prop:=l.length≤M∧∀ x∈l,bTResource M x
theorem w_szResourceS_ok (x:List TResource)(h:b_l_eTResource 9223372036854775807 x):SzOk w_szResourceS (b_l_eTResource 1048576) x:=szList (F:=w_szResourceS_L1) (sz:=w_szResource) (Q:=bTResource 1048576) x (fun _ _=>rfl) (fun _ _ _ _=>rfl) (fun _=>rfl) h.1 (fun y hy=>w_szResource_ok y (h.2 y hy))
def bTProject (M:Nat)(x:TProject):Prop:=b_l_eTActivity M x.Activities∧b_l_eTLink M x.Links∧b_l_eTResource M x.Resources∧b_l_int M x.Stocks ∧  True
theorem w_szProject_ok (x:TProject)(h:bTProject 9223372036854775807 x):SzOk w_szProject (bTProject 1048576) x:=fun n m0 hn=>by
 unfold w_szProject bTProject
 unfold bTProject at h
 exact szThen (w_szActivityS_ok _ h.1) m0 (by omega) (fun n1 m1 _ _=>szThen (w_szLinkS_ok _ h.2.1) m1 (by omega) (fun n2 m2 _ _=>szThen (w_szResourceS_ok _ h.2.2.1) m2 (by omega) (fun n3 m3 _ _=>szThen (w_szIntS_ok _ h.2.2.2.1) m3 (by omega) (fun n4 m4 _ _=>szEnd m4))))
theorem w_toIntS_eq (x:List Int)(h:b_l_int 1048576 x):w_toIntS x=some x:=fillList (F:=w_toIntS_L1) (Q:=fun _=>True) (fun _ _=>rfl) (fun x xs z a y hq hy=>by simp only [w_toIntS_L1,hy,Option.bind_some]) h (fun _ _=>trivial) rfl
theorem w_toMode_eq (x:TMode)(h:bTMode 1048576 x):w_toMode x=some x:=by
 unfold bTMode at h
 unfold w_toMode
 try simp only [w_toIntS_eq _ (h.1),w_toIntS_eq _ (h.2.1),Option.bind_some]
theorem w_toModeS_eq (x:List TMode)(h:b_l_eTMode 1048576 x):w_toModeS x=some x:=fillList (F:=w_toModeS_L1) (Q:=bTMode 1048576) (fun _ _=>rfl) (fun x xs z a y hq hy=>by simp only [w_toModeS_L1,w_toMode_eq x hq,hy,Option.bind_some]) h.1 h.2 rfl
theorem w_toActivity_eq (x:TActivity)(h:bTActivity 1048576 x):w_toActivity x=some x:=by
 unfold bTActivity at h
 unfold w_toActivity
 try simp only [w_toModeS_eq _ (h.2.1),Option.bind_some]
theorem w_toActivityS_eq (x:List TActivity)(h:b_l_eTActivity 1048576 x):w_toActivityS x=some x:=fillList (F:=w_toActivityS_L1) (Q:=bTActivity 1048576) (fun _ _=>rfl) (fun x xs z a y hq hy=>by simp only [w_toActivityS_L1,w_toActivity_eq x hq,hy,Option.bind_some]) h.1 h.2 rfl
theorem w_toLink_eq (x:TLink):w_toLink x=some x:=by
 unfold w_toLink
 try simp only [Option.bind_some]
theorem w_toLinkS_eq (x:List TLink)(h:b_l_eTLink 1048576 x):w_toLinkS x=some x:=fillList (F:=w_toLinkS_L1) (Q:=fun _=>True) (fun _ _=>rfl) (fun x xs z a y hq hy=>by simp only [w_toLinkS_L1,w_toLink_eq,hy,Option.bind_some]) h (fun _ _=>trivial) rfl
theorem w_toStep_eq (x:TStep):w_toStep x=some x:=by
 unfold w_toStep
 try simp only [Option.bind_some]
theorem w_toStepS_eq (x:List TStep)(h:b_l_eTStep 1048576 x):w_toStepS x=some x:=fillList (F:=w_toStepS_L1) (Q:=fun _=>True) (fun _ _=>rfl) (fun x xs z a y hq hy=>by simp only [w_toStepS_L1,w_toStep_eq,hy,Option.bind_some]) h (fun _ _=>trivial) rfl
theorem w_toIntSS_eq (x:List (List Int))(h:b_l_l_int 1048576 x):w_toIntSS x=some x:=fillList (F:=w_toIntSS_L1) (Q:=b_l_int 1048576) (fun _ _=>rfl) (fun x xs z a y hq hy=>by simp only [w_toIntSS_L1,w_toIntS_eq x hq,hy,Option.bind_some]) h.1 h.2 rfl
theorem w_toResource_eq (x:TResource)(h:bTResource 1048576 x):w_toResource x=some x:=by
 unfold bTResource at h
 unfold w_toResource
 try simp only [w_toStepS_eq _ (h.1),w_toIntSS_eq _ (h.2.1),Option.bind_some]
theorem w_toResourceS_eq (x:List TResource)(h:b_l_eTResource 1048576 x):w_toResourceS x=some x:=fillList (F:=w_toResourceS_L1) (Q:=bTResource 1048576) (fun _ _=>rfl) (fun x xs z a y hq hy=>by simp only [w_toResourceS_L1,w_toResource_eq x hq,hy,Option.bind_some]) h.1 h.2 rfl
theorem w_toProject_eq (x:TProject)(h:bTProject 1048576 x):w_toProject x=some x:=by
 unfold bTProject at h
 unfold w_toProject
 try simp only [w_toActivityS_eq _ (h.1),w_toLinkS_eq _ (h.2.1),w_toResourceS_eq _ (h.2.2.1),w_toIntS_eq _ (h.2.2.2.1),Option.bind_some]
theorem w_eqRule_eq (a b:TRule):w_eqRule a b=some (decide (a=b)):=by
 obtain ⟨a0,a1,a2,a3⟩:=a
 obtain ⟨b0,b1,b2,b3⟩:=b
 simp only [w_eqRule,TRule.mk.injEq,Option.bind_some,int_bne,bool_bne,ba_bne]
 by_cases h0:a0=b0 <;> by_cases h1:a1=b1 <;> by_cases h2:a2=b2 <;> by_cases h3:a3=b3 <;> simp [h0,h1,h2,h3]
theorem w_eqLiteral_eq (a b:TLiteral):w_eqLiteral a b=some (decide (a=b)):=by
 obtain ⟨a0,a1,a2⟩:=a
 obtain ⟨b0,b1,b2⟩:=b
 simp only [w_eqLiteral,TLiteral.mk.injEq,Option.bind_some,int_bne,bool_bne,ba_bne]
 by_cases h0:a0=b0 <;> by_cases h1:a1=b1 <;> by_cases h2:a2=b2 <;> simp [h0,h1,h2]
theorem w_eqLiteralS_eq (a b:List TLiteral):w_eqLiteralS a b=some (decide (a=b)):=eqList (F:=w_eqLiteralS_L1 b) (fun _=>rfl) (fun x xs z y h=>by simp only [w_eqLiteralS_L1,h,Option.bind_some,int_bne,w_eqLiteral_eq];by_cases hxy:x=y <;> simp [hxy]) rfl
theorem w_eqLine_eq (a b:TLine):w_eqLine a b=some (decide (a=b)):=by
 obtain ⟨a0,a1,a2⟩:=a
 obtain ⟨b0,b1,b2⟩:=b
 simp only [w_eqLine,w_eqRule_eq,w_eqLiteralS_eq,TLine.mk.injEq,Option.bind_some,int_bne,bool_bne,ba_bne]
 by_cases h0:a0=b0 <;> by_cases h1:a1=b1 <;> by_cases h2:a2=b2 <;> simp [h0,h1,h2]
theorem w_eqLineS_eq (a b:List TLine):w_eqLineS a b=some (decide (a=b)):=eqList (F:=w_eqLineS_L1 b) (fun _=>rfl) (fun x xs z y h=>by simp only [w_eqLineS_L1,h,Option.bind_some,int_bne,w_eqLine_eq];by_cases hxy:x=y <;> simp [hxy]) rfl
theorem w_eqIntS_eq (a b:List Int):w_eqIntS a b=some (decide (a=b)):=eqList (F:=w_eqIntS_L1 b) (fun _=>rfl) (fun x xs z y h=>by simp only [w_eqIntS_L1,h,Option.bind_some,int_bne];by_cases hxy:x=y <;> simp [hxy]) rfl
theorem w_eqMode_eq (a b:TMode):w_eqMode a b=some (decide (a=b)):=by
 obtain ⟨a0,a1,a2⟩:=a
 obtain ⟨b0,b1,b2⟩:=b
 simp only [w_eqMode,w_eqIntS_eq,w_eqIntS_eq,TMode.mk.injEq,Option.bind_some,int_bne,bool_bne,ba_bne]
 by_cases h0:a0=b0 <;> by_cases h1:a1=b1 <;> by_cases h2:a2=b2 <;> simp [h0,h1,h2]
theorem w_eqModeS_eq (a b:List TMode):w_eqModeS a b=some (decide (a=b)):=eqList (F:=w_eqModeS_L1 b) (fun _=>rfl) (fun x xs z y h=>by simp only [w_eqModeS_L1,h,Option.bind_some,int_bne,w_eqMode_eq];by_cases hxy:x=y <;> simp [hxy]) rfl
theorem w_eqActivity_eq (a b:TActivity):w_eqActivity a b=some (decide (a=b)):=by
 obtain ⟨a0,a1,a2⟩:=a
 obtain ⟨b0,b1,b2⟩:=b
 simp only [w_eqActivity,w_eqModeS_eq,TActivity.mk.injEq,Option.bind_some,int_bne,bool_bne,ba_bne]
 by_cases h0:a0=b0 <;> by_cases h1:a1=b1 <;> by_cases h2:a2=b2 <;> simp [h0,h1,h2]
theorem w_eqActivityS_eq (a b:List TActivity):w_eqActivityS a b=some (decide (a=b)):=eqList (F:=w_eqActivityS_L1 b) (fun _=>rfl) (fun x xs z y h=>by simp only [w_eqActivityS_L1,h,Option.bind_some,int_bne,w_eqActivity_eq];by_cases hxy:x=y <;> simp [hxy]) rfl
theorem w_eqLink_eq (a b:TLink):w_eqLink a b=some (decide (a=b)):=by
 obtain ⟨a0,a1,a2,a3⟩:=a
 obtain ⟨b0,b1,b2,b3⟩:=b
 simp only [w_eqLink,TLink.mk.injEq,Option.bind_some,int_bne,bool_bne,ba_bne]
 by_cases h0:a0=b0 <;> by_cases h1:a1=b1 <;> by_cases h2:a2=b2 <;> by_cases h3:a3=b3 <;> simp [h0,h1,h2,h3]
theorem w_eqLinkS_eq (a b:List TLink):w_eqLinkS a b=some (decide (a=b)):=eqList (F:=w_eqLinkS_L1 b) (fun _=>rfl) (fun x xs z y h=>by simp only [w_eqLinkS_L1,h,Option.bind_some,int_bne,w_eqLink_eq];by_cases hxy:x=y <;> simp [hxy]) rfl
theorem w_eqStep_eq (a b:TStep):w_eqStep a b=some (decide (a=b)):=by
 obtain ⟨a0,a1⟩:=a
 obtain ⟨b0,b1⟩:=b
 simp only [w_eqStep,TStep.mk.injEq,Option.bind_some,int_bne,bool_bne,ba_bne]
 by_cases h0:a0=b0 <;> by_cases h1:a1=b1 <;> simp [h0,h1]
theorem w_eqStepS_eq (a b:List TStep):w_eqStepS a b=some (decide (a=b)):=eqList (F:=w_eqStepS_L1 b) (fun _=>rfl) (fun x xs z y h=>by simp only [w_eqStepS_L1,h,Option.bind_some,int_bne,w_eqStep_eq];by_cases hxy:x=y <;> simp [hxy]) rfl
theorem w_eqIntSS_eq (a b:List (List Int)):w_eqIntSS a b=some (decide (a=b)):=eqList (F:=w_eqIntSS_L1 b) (fun _=>rfl) (fun x xs z y h=>by simp only [w_eqIntSS_L1,h,Option.bind_some,int_bne,w_eqIntS_eq];by_cases hxy:x=y <;> simp [hxy]) rfl
theorem w_eqResource_eq (a b:TResource):w_eqResource a b=some (decide (a=b)):=by
 obtain ⟨a0,a1⟩:=a
 obtain ⟨b0,b1⟩:=b
 simp only [w_eqResource,w_eqStepS_eq,w_eqIntSS_eq,TResource.mk.injEq,Option.bind_some,int_bne,bool_bne,ba_bne]
 by_cases h0:a0=b0 <;> by_cases h1:a1=b1 <;> simp [h0,h1]
theorem w_eqResourceS_eq (a b:List TResource):w_eqResourceS a b=some (decide (a=b)):=eqList (F:=w_eqResourceS_L1 b) (fun _=>rfl) (fun x xs z y h=>by simp only [w_eqResourceS_L1,h,Option.bind_some,int_bne,w_eqResource_eq];by_cases hxy:x=y <;> simp [hxy]) rfl
theorem w_eqProject_eq (a b:TProject):w_eqProject a b=some (decide (a=b)):=by
 obtain ⟨a0,a1,a2,a3,a4⟩:=a
 obtain ⟨b0,b1,b2,b3,b4⟩:=b
 simp only [w_eqProject,w_eqActivityS_eq,w_eqLinkS_eq,w_eqResourceS_eq,w_eqIntS_eq,TProject.mk.injEq,Option.bind_some,int_bne,bool_bne,ba_bne]
 by_cases h0:a0=b0 <;> by_cases h1:a1=b1 <;> by_cases h2:a2=b2 <;> by_cases h3:a3=b3 <;> by_cases h4:a4=b4 <;> simp [h0,h1,h2,h3,h4]
theorem w_markIntS_k_ok (x:List Int)(h:b_l_int 1048576 x):MkOk w_markIntS_k 1048576 x:=
 MkOk.list (L1:=w_markIntS_k_L1) (e:=1) (Q:=fun _=>True) (fun _ _=>rfl) (fun x xs z k hx h0 hb=>by
  skip
  refine ⟨(k+1),by omega,by omega,?_⟩
  simp only [w_markIntS_k_L1]
  rw [W_of (n:=(k+1)) ⟨by omega,by omega⟩])
  (fun l k=>by unfold w_markIntS_k;cases w_markIntS_k_L1 l 0 k <;> rfl) h (fun _ _=>trivial) (by decide)
theorem w_markModeS_k_ok (x:List TMode)(h:b_l_eTMode 1048576 x):MkOk w_markModeS_k 2199024304128 x:=
 MkOk.list (L1:=w_markModeS_k_L1) (e:=2097153) (Q:=bTMode 1048576) (fun _ _=>rfl) (fun x xs z k hx h0 hb=>by
  unfold bTMode at hx
  obtain ⟨k0,e0,l0,u0⟩:=w_markIntS_k_ok x.Usage (hx.1) (k+1) (by omega) (by omega)
  obtain ⟨k1,e1,l1,u1⟩:=w_markIntS_k_ok x.Consumption (hx.2.1) k0 (by omega) (by omega)
  refine ⟨k1,by omega,by omega,?_⟩
  simp only [w_markModeS_k_L1]
  rw [W_of (n:=(k+1)) ⟨by omega,by omega⟩,e0,Option.bind_some,e1,Option.bind_some])
  (fun l k=>by unfold w_markModeS_k;cases w_markModeS_k_L1 l 0 k <;> rfl) h.1 h.2 (by decide)
theorem w_markText_ok (k:Int)(h0:0≤k)(h1:k≤9223372036854775807):∃ s,w_markText k=some s:=by
 by_cases hk:k≤0
 ·exact ⟨_,by unfold w_markText;rw [decide_eq_true hk,cond_true]⟩
 obtain ⟨s,e1,e2⟩:=markText (L1:=w_markText_L1) (fun fuel k s hk hk3 hs=>by
  have hd:decide (0<k)=true:=decide_eq_true hk
  have hz:∀ n:Int,(strB [n]).size=1:=fun n=>rfl
  refine ⟨strB [IntKind.u8.wrap (W (48+k.tmod 10))] ++ s,by rw [ByteArray.size_append,hz];omega,?_⟩
  simp only [w_markText_L1,hd,cond_true]
  have hc:catS (strB [IntKind.u8.wrap (W (48+k.tmod 10))]) s=some (strB [IntKind.u8.wrap (W (48+k.tmod 10))] ++ s):=by
   unfold catS;rw [if_pos (by rw [hz];omega)]
  have hw:W (k.tdiv 10)=k.tdiv 10:=W_of ⟨by rw [Int.tdiv_eq_ediv_of_nonneg (by omega)];omega,by rw [Int.tdiv_eq_ediv_of_nonneg (by omega)];omega⟩
  rw [hc,Option.bind_some,hw]) (fun fuel k s hk=>by
  have hd:decide (0<k)=false:=decide_eq_false (by omega)
  simp only [w_markText_L1,hd,cond_false]) 19 F0 k ByteArray.empty (by have:=F0_gt;omega) (by omega) h1 (by decide)
 refine ⟨_,by unfold w_markText;rw [decide_eq_false hk,cond_false,e1,Option.bind_some];unfold catS;rw [if_pos (by have:ByteArray.empty.size=0:=rfl;have:(⟨#[109]⟩:ByteArray).size=1:=rfl;omega),Option.bind_some]⟩
theorem w_markActivityS_k_ok (x:List TActivity)(h:b_l_eTActivity 1048576 x):MkOk w_markActivityS_k 2305844108727418880 x:=
 MkOk.list (L1:=w_markActivityS_k_L1) (e:=2199024304130) (Q:=bTActivity 1048576) (fun _ _=>rfl) (fun x xs z k hx h0 hb=>by
  unfold bTActivity at hx
  obtain ⟨s0,es0⟩:=w_markText_ok k (by omega) (by omega)
  obtain ⟨k1,e1,l1,u1⟩:=w_markModeS_k_ok x.Modes (hx.2.1) ((k+1)+1) (by omega) (by omega)
  refine ⟨k1,by omega,by omega,?_⟩
  simp only [w_markActivityS_k_L1]
  rw [es0,Option.bind_some,W_of (n:=(k+1)) ⟨by omega,by omega⟩,W_of (n:=((k+1)+1)) ⟨by omega,by omega⟩,e1,Option.bind_some])
  (fun l k=>by unfold w_markActivityS_k;cases w_markActivityS_k_L1 l 0 k <;> rfl) h.1 h.2 (by decide)
theorem w_markLinkS_k_ok (x:List TLink)(h:b_l_eTLink 1048576 x):MkOk w_markLinkS_k 4194304 x:=
 MkOk.list (L1:=w_markLinkS_k_L1) (e:=4) (Q:=fun _=>True) (fun _ _=>rfl) (fun x xs z k hx h0 hb=>by
  skip
  refine ⟨((((k+1)+1)+1)+1),by omega,by omega,?_⟩
  simp only [w_markLinkS_k_L1]
  rw [W_of (n:=(k+1)) ⟨by omega,by omega⟩,W_of (n:=((k+1)+1)) ⟨by omega,by omega⟩,W_of (n:=(((k+1)+1)+1)) ⟨by omega,by omega⟩,W_of (n:=((((k+1)+1)+1)+1)) ⟨by omega,by omega⟩])
  (fun l k=>by unfold w_markLinkS_k;cases w_markLinkS_k_L1 l 0 k <;> rfl) h (fun _ _=>trivial) (by decide)
theorem w_markStepS_k_ok (x:List TStep)(h:b_l_eTStep 1048576 x):MkOk w_markStepS_k 2097152 x:=
 MkOk.list (L1:=w_markStepS_k_L1) (e:=2) (Q:=fun _=>True) (fun _ _=>rfl) (fun x xs z k hx h0 hb=>by
  skip
  refine ⟨((k+1)+1),by omega,by omega,?_⟩
  simp only [w_markStepS_k_L1]
  rw [W_of (n:=(k+1)) ⟨by omega,by omega⟩,W_of (n:=((k+1)+1)) ⟨by omega,by omega⟩])
  (fun l k=>by unfold w_markStepS_k;cases w_markStepS_k_L1 l 0 k <;> rfl) h (fun _ _=>trivial) (by decide)
theorem w_markIntSS_k_ok (x:List (List Int))(h:b_l_l_int 1048576 x):MkOk w_markIntSS_k 1099511627776 x:=
 MkOk.list (L1:=w_markIntSS_k_L1) (e:=1048576) (Q:=b_l_int 1048576) (fun _ _=>rfl) (fun x xs z k hx h0 hb=>by
  obtain ⟨k0,e0,l0,u0⟩:=w_markIntS_k_ok x hx k (by omega) (by omega)
  refine ⟨k0,by omega,by omega,?_⟩
  simp only [w_markIntSS_k_L1]
  rw [e0,Option.bind_some])
  (fun l k=>by unfold w_markIntSS_k;cases w_markIntSS_k_L1 l 0 k <;> rfl) h.1 h.2 (by decide)
theorem w_markResourceS_k_ok (x:List TResource)(h:b_l_eTResource 1048576 x):MkOk w_markResourceS_k 1152923703630102528 x:=
 MkOk.list (L1:=w_markResourceS_k_L1) (e:=1099513724928) (Q:=bTResource 1048576) (fun _ _=>rfl) (fun x xs z k hx h0 hb=>by
  unfold bTResource at hx
  obtain ⟨k0,e0,l0,u0⟩:=w_markStepS_k_ok x.Steps (hx.1) k (by omega) (by omega)
  obtain ⟨k1,e1,l1,u1⟩:=w_markIntSS_k_ok x.Setup (hx.2.1) k0 (by omega) (by omega)
  refine ⟨k1,by omega,by omega,?_⟩
  simp only [w_markResourceS_k_L1]
  rw [e0,Option.bind_some,e1,Option.bind_some])
  (fun l k=>by unfold w_markResourceS_k;cases w_markResourceS_k_L1 l 0 k <;> rfl) h.1 h.2 (by decide)
theorem w_markProject_k_ok (x:TProject)(h:bTProject 1048576 x):MkOk w_markProject_k 3458767812362764288 x:=fun k h0 hb=>by
 unfold bTProject at h
 obtain ⟨k0,e0,l0,u0⟩:=w_markActivityS_k_ok x.Activities (h.1) k (by omega) (by omega)
 obtain ⟨k1,e1,l1,u1⟩:=w_markLinkS_k_ok x.Links (h.2.1) k0 (by omega) (by omega)
 obtain ⟨k2,e2,l2,u2⟩:=w_markResourceS_k_ok x.Resources (h.2.2.1) k1 (by omega) (by omega)
 obtain ⟨k3,e3,l3,u3⟩:=w_markIntS_k_ok x.Stocks (h.2.2.2.1) k2 (by omega) (by omega)
 refine ⟨k3,?_,by omega,by omega⟩
 unfold w_markProject_k
 rw [e0,Option.bind_some,e1,Option.bind_some,e2,Option.bind_some,e3,Option.bind_some]
def b_l_eTLiteral (M:Nat)(l:List TLiteral):Prop:=l.length≤M
theorem w_markLiteralS_res (x:List TLiteral)(h:b_l_eTLiteral 1048576 x)(k0:Int)(hk0:0≤k0)(hk1:k0+3145728≤1125899906842624):∃ k ys,w_markLiteralS x k0=some (k,ys)∧w_heldLiteralS ys k0=some k∧k0≤k∧k≤k0+3145728:=by
 replace h:x.length≤1048576:=h
 have e1:=markFlat (G:=w_markLiteralS_L1) (c:=3) (up:=(fun k _=>TLiteral.mk k (k+1) (k+2))) (by decide) (fun fuel k i l x hi hil hl h0 hb hx=>by
  have hd:decide (i<(l.length:Int))=true:=decide_eq_true hil
  have hlt:i.toNat<l.length:=by omega
  have hx2:∀ y,idxL (l.set i.toNat y) i=some y:=fun y=>by simp [idxL,hi,hlt]
  replace hx:idxL l i=some x:=by simp [idxL,hi,hx]
  simp only [w_markLiteralS_L1,hd,cond_true,setL,hx,hx2,Option.bind_some,W_of (n:=k+1) ⟨by omega,by omega⟩,W_of (n:=(k+1)+1) ⟨by omega,by omega⟩,W_of (n:=((k+1)+1)+1) ⟨by omega,by omega⟩,W_of (n:=i+1) ⟨by omega,by omega⟩,List.set_set];first | rfl | (congr 1 <;> (try omega) <;> (congr 2 <;> omega)))
  (fun fuel k i l hi=>by
  have hd:decide (i<(l.length:Int))=false:=decide_eq_false (by omega)
  simp only [w_markLiteralS_L1,hd,cond_false]) (Nat.le_trans h (by decide)) hk0 (by omega)
 have hb:(3:Int)*(x.length:Int)≤3145728:=by omega
 have e2:=heldFlat (H:=w_heldLiteralS_L1) (c:=3) (up:=(fun k _=>TLiteral.mk k (k+1) (k+2))) (by decide) (fun x xs z k h0 hb=>by
  simp only [w_heldLiteralS_L1,W_of (n:=k+1) ⟨by omega,by omega⟩,W_of (n:=(k+1)+1) ⟨by omega,by omega⟩,W_of (n:=((k+1)+1)+1) ⟨by omega,by omega⟩];simp [bne,Int.add_assoc]) (fun _ _=>rfl) x 0 k0 hk0 (by omega)
 refine ⟨_,_,by unfold w_markLiteralS;rw [e1];rfl,by unfold w_heldLiteralS;rw [e2];rfl,by omega,by omega⟩
def bTLine (M:Nat)(x:TLine):Prop:=b_l_eTLiteral M x.Clause ∧  True
def b_l_eTLine (M:Nat)(l:List TLine):Prop:=l.length≤M∧∀ x∈l,bTLine M x
theorem decb_int:∀ p,Val .int p→∃ x:Int,p=int x∧True:=fun p h=>by obtain ⟨n,e⟩:=dec_int h;exact ⟨n,e,trivial⟩
theorem decb_str:∀ p,Val .str p→∃ x:ByteArray,p=str x∧b_str 9223372036854775807 x:=fun p h=>dec_str h
theorem decb_l_int:∀ p,Val (.slice .int) p→∃ x:List Int,p=.slice (x.map int)∧b_l_int 9223372036854775807 x:=fun p h=>by
 obtain ⟨l,e,h1,h2⟩:=dec_slice decb_int h
 exact ⟨l,e,h1⟩
theorem decb_TMode:∀ p,Val (.agg [.int,.slice .int,.slice .int]) p→∃ x:TMode,p=eTMode x∧bTMode 9223372036854775807 x:=fun p h=>by
 obtain ⟨zs0,rfl,hv0⟩:=h
 obtain ⟨x0,zs1,rfl,h0,hv1⟩:=vals_cons hv0
 obtain ⟨y0,rfl,b0⟩:=decb_int _ h0
 obtain ⟨x1,zs2,rfl,h1,hv2⟩:=vals_cons hv1
 obtain ⟨y1,rfl,b1⟩:=decb_l_int _ h1
 obtain ⟨x2,zs3,rfl,h2,hv3⟩:=vals_cons hv2
 obtain ⟨y2,rfl,b2⟩:=decb_l_int _ h2
 obtain rfl:=vals_nil hv3
 exact ⟨⟨y0,y1,y2⟩,rfl,⟨b1,b2,trivial⟩⟩
theorem decb_l_eTMode:∀ p,Val (.slice (.agg [.int,.slice .int,.slice .int])) p→∃ x:List TMode,p=.slice (x.map eTMode)∧b_l_eTMode 9223372036854775807 x:=fun p h=>by
 obtain ⟨l,e,h1,h2⟩:=dec_slice decb_TMode h
 exact ⟨l,e,h1,h2⟩
theorem decb_TActivity:∀ p,Val (.agg [.str,.int,.slice (.agg [.int,.slice .int,.slice .int])]) p→∃ x:TActivity,p=eTActivity x∧bTActivity 9223372036854775807 x:=fun p h=>by
 obtain ⟨zs0,rfl,hv0⟩:=h
 obtain ⟨x0,zs1,rfl,h0,hv1⟩:=vals_cons hv0
 obtain ⟨y0,rfl,b0⟩:=decb_str _ h0
 obtain ⟨x1,zs2,rfl,h1,hv2⟩:=vals_cons hv1
 obtain ⟨y1,rfl,b1⟩:=decb_int _ h1
 obtain ⟨x2,zs3,rfl,h2,hv3⟩:=vals_cons hv2
 obtain ⟨y2,rfl,b2⟩:=decb_l_eTMode _ h2
 obtain rfl:=vals_nil hv3
 exact ⟨⟨y0,y1,y2⟩,rfl,⟨b0,b2,trivial⟩⟩
theorem decb_l_eTActivity:∀ p,Val (.slice (.agg [.str,.int,.slice (.agg [.int,.slice .int,.slice .int])])) p→∃ x:List TActivity,p=.slice (x.map eTActivity)∧b_l_eTActivity 9223372036854775807 x:=fun p h=>by
 obtain ⟨l,e,h1,h2⟩:=dec_slice decb_TActivity h
 exact ⟨l,e,h1,h2⟩
theorem decb_bool:∀ p,Val .bool p→∃ x:Bool,p=bool x∧True:=fun p h=>by obtain ⟨n,e⟩:=dec_bool h;exact ⟨n,e,trivial⟩
theorem decb_TLink:∀ p,Val (.agg [.int,.int,.bool,.int]) p→∃ x:TLink,p=eTLink x∧True:=fun p h=>by
 obtain ⟨zs0,rfl,hv0⟩:=h
 obtain ⟨x0,zs1,rfl,h0,hv1⟩:=vals_cons hv0
 obtain ⟨y0,rfl,b0⟩:=decb_int _ h0
 obtain ⟨x1,zs2,rfl,h1,hv2⟩:=vals_cons hv1
 obtain ⟨y1,rfl,b1⟩:=decb_int _ h1
 obtain ⟨x2,zs3,rfl,h2,hv3⟩:=vals_cons hv2
 obtain ⟨y2,rfl,b2⟩:=decb_bool _ h2
 obtain ⟨x3,zs4,rfl,h3,hv4⟩:=vals_cons hv3
 obtain ⟨y3,rfl,b3⟩:=decb_int _ h3
 obtain rfl:=vals_nil hv4
 exact ⟨⟨y0,y1,y2,y3⟩,rfl,trivial⟩
theorem decb_l_eTLink:∀ p,Val (.slice (.agg [.int,.int,.bool,.int])) p→∃ x:List TLink,p=.slice (x.map eTLink)∧b_l_eTLink 9223372036854775807 x:=fun p h=>by
 obtain ⟨l,e,h1,h2⟩:=dec_slice decb_TLink h
 exact ⟨l,e,h1⟩
theorem decb_TStep:∀ p,Val (.agg [.int,.int]) p→∃ x:TStep,p=eTStep x∧True:=fun p h=>by
 obtain ⟨zs0,rfl,hv0⟩:=h
 obtain ⟨x0,zs1,rfl,h0,hv1⟩:=vals_cons hv0
 obtain ⟨y0,rfl,b0⟩:=decb_int _ h0
 obtain ⟨x1,zs2,rfl,h1,hv2⟩:=vals_cons hv1
 obtain ⟨y1,rfl,b1⟩:=decb_int _ h1
 obtain rfl:=vals_nil hv2
 exact ⟨⟨y0,y1⟩,rfl,trivial⟩
theorem decb_l_eTStep:∀ p,Val (.slice (.agg [.int,.int])) p→∃ x:List TStep,p=.slice (x.map eTStep)∧b_l_eTStep 9223372036854775807 x:=fun p h=>by
 obtain ⟨l,e,h1,h2⟩:=dec_slice decb_TStep h
 exact ⟨l,e,h1⟩
theorem decb_l_l_int:∀ p,Val (.slice (.slice .int)) p→∃ x:List (List Int),p=.slice (x.map l_int)∧b_l_l_int 9223372036854775807 x:=fun p h=>by
 obtain ⟨l,e,h1,h2⟩:=dec_slice decb_l_int h
 exact ⟨l,e,h1,h2⟩
theorem decb_TResource:∀ p,Val (.agg [.slice (.agg [.int,.int]),.slice (.slice .int)]) p→∃ x:TResource,p=eTResource x∧bTResource 9223372036854775807 x:=fun p h=>by
 obtain ⟨zs0,rfl,hv0⟩:=h
 obtain ⟨x0,zs1,rfl,h0,hv1⟩:=vals_cons hv0
 obtain ⟨y0,rfl,b0⟩:=decb_l_eTStep _ h0
 obtain ⟨x1,zs2,rfl,h1,hv2⟩:=vals_cons hv1
 obtain ⟨y1,rfl,b1⟩:=decb_l_l_int _ h1
 obtain rfl:=vals_nil hv2
 exact ⟨⟨y0,y1⟩,rfl,⟨b0,b1,trivial⟩⟩
theorem decb_l_eTResource:∀ p,Val (.slice (.agg [.slice (.agg [.int,.int]),.slice (.slice .int)])) p→∃ x:List TResource,p=.slice (x.map eTResource)∧b_l_eTResource 9223372036854775807 x:=fun p h=>by
 obtain ⟨l,e,h1,h2⟩:=dec_slice decb_TResource h
 exact ⟨l,e,h1,h2⟩
theorem decb_TProject:∀ p,Val (.agg [.int,.slice (.agg [.str,.int,.slice (.agg [.int,.slice .int,.slice .int])]),.slice (.agg [.int,.int,.bool,.int]),.slice (.agg [.slice (.agg [.int,.int]),.slice (.slice .int)]),.slice .int]) p→∃ x:TProject,p=eTProject x∧bTProject 9223372036854775807 x:=fun p h=>by
 obtain ⟨zs0,rfl,hv0⟩:=h
 obtain ⟨x0,zs1,rfl,h0,hv1⟩:=vals_cons hv0
 obtain ⟨y0,rfl,b0⟩:=decb_int _ h0
 obtain ⟨x1,zs2,rfl,h1,hv2⟩:=vals_cons hv1
 obtain ⟨y1,rfl,b1⟩:=decb_l_eTActivity _ h1
 obtain ⟨x2,zs3,rfl,h2,hv3⟩:=vals_cons hv2
 obtain ⟨y2,rfl,b2⟩:=decb_l_eTLink _ h2
 obtain ⟨x3,zs4,rfl,h3,hv4⟩:=vals_cons hv3
 obtain ⟨y3,rfl,b3⟩:=decb_l_eTResource _ h3
 obtain ⟨x4,zs5,rfl,h4,hv5⟩:=vals_cons hv4
 obtain ⟨y4,rfl,b4⟩:=decb_l_int _ h4
 obtain rfl:=vals_nil hv5
 exact ⟨⟨y0,y1,y2,y3,y4⟩,rfl,⟨b1,b2,b3,b4,trivial⟩⟩
theorem inR_iff {n lo hi:Int}:inR n lo hi=true ↔ lo≤n∧n≤hi:=by simp [inR]
theorem s_l01In_eq (n lo hi:Int):s_l01In n lo hi=some (inR n lo hi):=by
 unfold s_l01In inR;cases decide (lo≤n) <;> rfl
theorem i_within_eq (n lo hi:Int):i_within n lo hi=some (inR n lo hi):=by
 unfold i_within inR;cases decide (lo≤n) <;> rfl
theorem i_isTime_eq (n:Int):i_isTime n=some (inR n 0 60):=by simp only [i_isTime,i_within_eq,Option.bind_some]
theorem i_isAmount_eq (n:Int):i_isAmount n=some (inR n 0 20):=by simp only [i_isAmount,i_within_eq,Option.bind_some]
theorem hasActivity_eq (p:TProject)(n:Int):i_Project_hasActivity p n=some (inR n 0 (W ((p.Activities.length:Int) - 1))):=by simp only [i_Project_hasActivity,i_within_eq,Option.bind_some]
theorem W_le {n:Int}(h:-9223372036854775808≤n):W n≤n:=by
 show IntKind.i64.wrap n≤n
 rw [IntKind.wrap_i64];omega
theorem idx_of_inR {α:Type}{l:List α}{i:Int}(h:inR i 0 (W ((l.length:Int) - 1))=true):∃ x,idxL l i=some x∧x∈l:=by
 have h:=inR_iff.1 h
 have:=W_le (n:=(l.length:Int) - 1) (by omega)
 exact idxL_some h.1 (by omega)
theorem areAmounts_L1:∀(xs:List Int)(z:Int),i_areAmounts_L1 xs z=s_l04Nums_L1 xs z
 | [],z=>rfl
 | x::xs,z=>by simp only [i_areAmounts_L1,s_l04Nums_L1,i_isAmount_eq,s_l01In_eq,areAmounts_L1 xs]
theorem areAmounts_eq (l:List Int)(n:Int):i_areAmounts l n=s_l04Nums l n:=by simp only [i_areAmounts,s_l04Nums,areAmounts_L1]
theorem ModeOk_eq (m:TMode)(a b:Int):i_ModeOk m a b=s_ModeOk m a b:=by simp only [i_ModeOk,s_ModeOk,areAmounts_eq,i_within_eq,s_l01In_eq]
theorem IsName_L1 (s:ByteArray):∀(n:Nat)(a:Int),i_IsName_L1 s n a=s_IsName_L1 s n a
 | 0,a=>rfl
 | n+1,a=>by simp only [i_IsName_L1,s_IsName_L1,IsName_L1 s n]
theorem IsName_eq (s:ByteArray):i_IsName s=s_IsName s:=by simp only [i_IsName,s_IsName,IsName_L1,i_within_eq,s_l01In_eq]
theorem ActivityOk_L1 (a b:Int):∀(xs:List TMode)(z:Int),i_ActivityOk_L1 a b xs z=s_ActivityOk_L1 a b xs z
 | [],z=>rfl
 | x::xs,z=>by simp only [i_ActivityOk_L1,s_ActivityOk_L1,ModeOk_eq,ActivityOk_L1 a b xs]
theorem ActivityOk_eq (x:TActivity)(a b:Int):i_ActivityOk x a b=s_ActivityOk x a b:=by simp only [i_ActivityOk,s_ActivityOk,ActivityOk_L1,IsName_eq,i_within_eq,s_l01In_eq]
theorem ActivityIndex_L1 (nm:ByteArray):∀(xs:List TActivity)(z:Int),slices_IndexFunc_Activity_L1 (fun x=>i_ActivityIndex_c1 x nm) xs z=s_ActivityIndex_L1 nm xs z
 | [],z=>rfl
 | x::xs,z=>by rw [slices_IndexFunc_Activity_L1,s_ActivityIndex_L1,ActivityIndex_L1 nm xs];rfl
theorem ActivityIndex_eq (p:TProject)(nm:ByteArray):i_ActivityIndex p nm=s_ActivityIndex p nm:=by
 simp only [i_ActivityIndex,slices_IndexFunc_Activity,s_ActivityIndex,ActivityIndex_L1,Option.bind_some]
 cases h:s_ActivityIndex_L1 nm p.Activities 0 with
 | none=>rfl
 | some o=>cases o <;> rfl
theorem ResourceOk_L2:∀(xs:List Int)(z:Int),i_ResourceOk_L2 xs z=s_ResourceOk_L2 xs z
 | [],z=>rfl
 | x::xs,z=>by simp only [i_ResourceOk_L2,s_ResourceOk_L2,i_within_eq,s_l01In_eq,ResourceOk_L2 xs]
theorem ResourceOk_L1:∀(xs:List (List Int))(z:Int),i_ResourceOk_L1 xs z=s_ResourceOk_L1 xs z
 | [],z=>rfl
 | x::xs,z=>by simp only [i_ResourceOk_L1,s_ResourceOk_L1,ResourceOk_L2,ResourceOk_L1 xs]
theorem chkLoop {α:Type}{F:List α→Int→Option (Unit ⊕ Bool)}{b:List α}{Q:α→Prop}{c:α→Int→Option Bool}(h0:∀ z,F [] z=some (.inl ()))
  (h1:∀ x xs z,F (x::xs) z=(c x z).bind fun e=>bif e then some (.inr false) else F xs (z+1)) (hc:∀ x z,0≤z→idxL b z=some x→∃ e,c x z=some e∧(e=false→Q x)) :
  ∀(xs:List α)(z:Int),0≤z→b.drop z.toNat=xs→F xs z=some (.inr false)∨(F xs z=some (.inl ())∧∀ x∈xs,Q x)
 | [],z,hz,hd=>.inr ⟨h0 z,by simp⟩
 | x::xs,z,hz,hd=>by
  obtain ⟨h2,h3⟩:=idxL_drop hz hd
  obtain ⟨e,he,hq⟩:=hc x z hz h2
  rw [h1,he,Option.bind_some]
  cases e with
  | true=>exact .inl rfl
  | false=>
   rw [cond_false]
   rcases chkLoop h0 h1 hc xs (z+1) (by omega) h3 with h | ⟨h,hQ⟩
   ·exact .inl h
   ·exact .inr ⟨h,fun y hy=>by
     rcases List.mem_cons.1 hy with rfl | hy
     ·exact hq rfl
     exact hQ y hy⟩
theorem chkList {α:Type}{F:List α→Int→Option (Unit ⊕ Bool)}{Q:α→Prop}{c:α→Int→Option Bool}(b:List α)(h0:∀ z,F [] z=some (.inl ()))
 (h1:∀ x xs z,F (x::xs) z=(c x z).bind fun e=>bif e then some (.inr false) else F xs (z+1)) (hc:∀ x z,0≤z→idxL b z=some x→∃ e,c x z=some e∧(e=false→Q x)) :
 F b 0=some (.inr false)∨(F b 0=some (.inl ())∧∀ x∈b,Q x):=chkLoop h0 h1 hc b 0 (Int.le_refl _) rfl
theorem idxL_lt_len {α:Type}{l:List α}{z:Int}{x:α}(h:idxL l z=some x):z<l.length∧x∈l:=by
 have h1:=idxL_spec h
 have h2:=idxL_lt h
 exact ⟨by omega,List.mem_of_getElem? h1.2⟩
theorem idxL_prev {α:Type}{l:List α}{z:Int}{x:α}(h:idxL l z=some x)(h0:0<z):∃ y,idxL l (z - 1)=some y:=by
 obtain ⟨y,hy,_⟩:=idxL_some (l:=l) (z:=z - 1) (by omega) (by have:=(idxL_lt_len h).1;omega)
 exact ⟨y,hy⟩
theorem s_StepsOk_chk (b:List TStep):s_StepsOk_L1 b b 0=some (.inr false)∨(s_StepsOk_L1 b b 0=some (.inl ())∧∀ x∈b,(0≤x.At∧x.At≤60)∧0≤x.Capacity∧x.Capacity≤20):=by
 refine chkList (F:=s_StepsOk_L1 b) (c:=sC b) b (fun _=>rfl) (fun x xs z=>?_) (fun x z hz hx=>?_)
 ·simp only [s_StepsOk_L1,sC,s_l01In_eq,Option.bind_some]
 simp only [sC,s_l01In_eq,Option.bind_some]
 by_cases h1:inR x.At 0 60=true
 ·by_cases h2:inR x.Capacity 0 20=true
  ·rw [h1,h2]
   simp only [Bool.not_true,cond_false,Option.bind_some]
   have hq:=(⟨inR_iff.1 h1,inR_iff.1 h2⟩:(0≤x.At∧x.At≤60)∧0≤x.Capacity∧x.Capacity≤20)
   by_cases h0:0<z
   ·obtain ⟨y,hy⟩:=idxL_prev hx h0
    rw [show decide (0<z)=true by simpa using h0,cond_true,hy]
    exact ⟨_,rfl,fun _=>hq⟩
   rw [show decide (0<z)=false by simpa using h0,cond_false]
   exact ⟨_,rfl,fun _=>hq⟩
  rw [h1,show inR x.Capacity 0 20=false by simpa using h2]
  exact ⟨true,rfl,fun h=>by cases h⟩
 rw [show inR x.At 0 60=false by simpa using h1]
 exact ⟨true,rfl,fun h=>by cases h⟩
theorem s_StepsOk_ok (b:List TStep):∃ v,s_StepsOk b=some v∧(v=true→b≠[]∧∀ x∈b,(0≤x.At∧x.At≤60)∧0≤x.Capacity∧x.Capacity≤20):=by
 rcases s_StepsOk_chk b with h | ⟨h,hQ⟩
 ·exact ⟨false,by simp only [s_StepsOk,h,sumBind,Option.bind_some,Sum.elim_inr],fun h=>by cases h⟩
 simp only [s_StepsOk,h,sumBind,Option.bind_some,Sum.elim_inl,s_l01In_eq]
 cases hl:inR (b.length:Int) 1 8 with
 | false=>exact ⟨false,rfl,fun h=>by cases h⟩
 | true=>
  have:=inR_iff.1 hl
  obtain ⟨x,hx,_⟩:=idxL_some (l:=b) (z:=0) (Int.le_refl _) (by omega)
  rw [cond_true,hx]
  exact ⟨_,rfl,fun _=>⟨fun e=>by subst e;simp at this,hQ⟩⟩
theorem StepsOk_L1 (b:List TStep):∀(xs:List TStep)(z:Int),0<z→i_StepsOk_L1 b xs z=s_StepsOk_L1 b xs z
 | [],z,_=>rfl
 | x::xs,z,hz=>by
  have h0:(z == 0)=false:=by simp;omega
  simp only [i_StepsOk_L1,s_StepsOk_L1,i_isTime_eq,i_isAmount_eq,s_l01In_eq,h0,cond_false,StepsOk_L1 b xs (z+1) (by omega)]
theorem StepsOk_eq (b:List TStep):i_StepsOk b=s_StepsOk b:=by
 have hs:=s_StepsOk_chk b
 match b with
 | []=>rfl
 | x::xs=>
  have hi0:idxL (x::xs) 0=some x:=rfl
  by_cases hA:x.At=0
  ·have e:i_StepsOk_L1 (x::xs) (x::xs) 0=s_StepsOk_L1 (x::xs) (x::xs) 0:=by
    have h1:(x.At != 0)=false:=by simp [hA]
    simp only [i_StepsOk_L1,s_StepsOk_L1,i_isTime_eq,i_isAmount_eq,s_l01In_eq,h1,StepsOk_L1 (x::xs) xs (0+1) (by omega)]
    rfl
   simp only [i_StepsOk,s_StepsOk,e,i_within_eq,s_l01In_eq,hi0,Option.bind_some,hA]
   congr 1
   funext _
   cases inR ((x::xs).length:Int) 1 8 <;> rfl
  have h1:(x.At != 0)=true:=by simp [hA]
  have h2:(x.At == 0)=false:=by simp [hA]
  have e:i_StepsOk_L1 (x::xs) (x::xs) 0=some (.inr false):=by
   simp only [i_StepsOk_L1,i_isTime_eq,i_isAmount_eq,Option.bind_some,h1]
   cases inR x.At 0 60 <;> cases inR x.Capacity 0 20 <;> rfl
  have hi:i_StepsOk (x::xs)=some false:=by simp only [i_StepsOk,e,sumBind,Option.bind_some,Sum.elim_inr]
  rw [hi]
  rcases hs with h | ⟨h,_⟩
  ·simp only [s_StepsOk,h,sumBind,Option.bind_some,Sum.elim_inr]
  simp only [s_StepsOk,h,sumBind,Option.bind_some,Sum.elim_inl,s_l01In_eq,hi0,h2]
  cases inR ((x::xs).length:Int) 1 8 <;> rfl
theorem ResourceOk_eq (r:TResource):i_ResourceOk r=s_ResourceOk r:=by simp only [i_ResourceOk,s_ResourceOk,ResourceOk_L1,StepsOk_eq]
theorem s_ResourceOk_L2_ok (b:List Int):s_ResourceOk_L2 b 0=some (.inr false)∨(s_ResourceOk_L2 b 0=some (.inl ())∧∀ n∈b,0≤n∧n≤12):=
 chkList (F:=s_ResourceOk_L2) (c:=fun x _=>some (!inR x 0 12)) b (fun _=>rfl) (fun x xs z=>by simp only [s_ResourceOk_L2,s_l01In_eq,Option.bind_some]) (fun x z _ _=>⟨_,rfl,fun h=>inR_iff.1 (by simpa using h)⟩)
theorem s_ResourceOk_L1_ok (b:List (List Int)):s_ResourceOk_L1 b 0=some (.inr false)∨(s_ResourceOk_L1 b 0=some (.inl ())∧∀ row∈b,row.length=4∧∀ n∈row,0≤n∧n≤12):=by
 have key:∀ row:List Int,∃ e,(∀ xs z,s_ResourceOk_L1 (row::xs) z=bif e then some (.inr false) else s_ResourceOk_L1 xs (z+1))∧(e=false→row.length=4∧∀ n∈row,0≤n∧n≤12):=by
  intro row
  by_cases hl:row.length=4
  ·have e:((row.length:Int) != 4)=false:=by simp [hl]
   rcases s_ResourceOk_L2_ok row with h | ⟨h,hQ⟩
   ·exact ⟨true,fun xs z=>by simp only [s_ResourceOk_L1,e,cond_false,h,sumBind,Option.bind_some,Sum.elim_inr,cond_true],fun h=>by cases h⟩
   exact ⟨false,fun xs z=>by simp only [s_ResourceOk_L1,e,cond_false,h,sumBind,Option.bind_some,Sum.elim_inl],fun _=>⟨hl,hQ⟩⟩
  have e:((row.length:Int) != 4)=true:=by simp;omega
  exact ⟨true,fun xs z=>by simp only [s_ResourceOk_L1,e,cond_true],fun h=>by cases h⟩
 exact chkList (F:=s_ResourceOk_L1) (c:=fun row _=>some (Classical.choose (key row))) b (fun _=>rfl) (fun x xs z=>(Classical.choose_spec (key x)).1 xs z) (fun x z _ _=>⟨_,rfl,(Classical.choose_spec (key x)).2⟩)
theorem s_ResourceOk_ok (r:TResource):∃ v,s_ResourceOk r=some v∧(v=true→ResF r):=by
 rcases s_ResourceOk_L1_ok r.Setup with h | ⟨h,hQ⟩
 ·exact ⟨false,by simp only [s_ResourceOk,h,sumBind,Option.bind_some,Sum.elim_inr],fun h=>by cases h⟩
 obtain ⟨v,hv,hf⟩:=s_StepsOk_ok r.Steps
 simp only [s_ResourceOk,h,sumBind,Option.bind_some,Sum.elim_inl,hv]
 cases v with
 | false=>exact ⟨false,rfl,fun h=>by cases h⟩
 | true=>
  refine ⟨_,by simp only [cond_true,cond_some,Option.bind_some];rfl,fun he=>⟨(hf rfl).2,hv,?_,hQ⟩⟩
  by_cases h0:r.Setup.length=0
  ·exact .inl h0
  right
  rw [show ((r.Setup.length:Int) == 0)=false by rw [int_beq];exact decide_eq_false (by omega),cond_false,int_beq] at he
  have:=of_decide_eq_true he
  omega
theorem s_l04Nums_ok (l:List Int)(n:Int):∃ v,s_l04Nums l n=some v∧(v=true→(l.length:Int)=n∧∀ k∈l,0≤k∧k≤20):=by
 rcases chkList (F:=s_l04Nums_L1) (c:=fun x _=>some (!inR x 0 20)) (Q:=fun k=>0≤k∧k≤20) l (fun _=>rfl) (fun x xs z=>by simp only [s_l04Nums_L1,s_l01In_eq,Option.bind_some]) (fun x z _ _=>⟨_,rfl,fun h=>inR_iff.1 (by simpa using h)⟩) with h | ⟨h,hQ⟩
 ·exact ⟨false,by simp only [s_l04Nums,h,sumBind,Option.bind_some,Sum.elim_inr],fun h=>by cases h⟩
 exact ⟨_,by simp only [s_l04Nums,h,sumBind,Option.bind_some,Sum.elim_inl];rfl,fun he=>⟨by simpa using he,hQ⟩⟩
theorem s_ModeOk_ok (m:TMode)(a b:Int):∃ v,s_ModeOk m a b=some v∧(v=true→ModeF m a b):=by
 obtain ⟨u,hu,fu⟩:=s_l04Nums_ok m.Usage a
 obtain ⟨k,hk,fk⟩:=s_l04Nums_ok m.Consumption b
 simp only [s_ModeOk,s_l01In_eq,Option.bind_some,hu,hk]
 cases hd:inR m.Duration 1 12 with
 | false=>exact ⟨false,rfl,fun h=>by cases h⟩
 | true=>cases u with
  | false=>exact ⟨false,rfl,fun h=>by cases h⟩
  | true=>cases k with
   | false=>exact ⟨false,rfl,fun h=>by cases h⟩
   | true=>exact ⟨true,rfl,fun _=>⟨inR_iff.1 hd,fu rfl,fk rfl⟩⟩
theorem cond_two {α:Type}{c:Bool}{x y:α}{P:α→Prop}(hx:P x)(hy:P y):P (bif c then x else y):=by cases c <;> assumption
theorem idxS_some {s:ByteArray}{z:Int}(h0:0≤z)(h:z<s.size):∃ v,idxS s z=some v:=by
 have hlt:z.toNat<s.size:=by omega
 exact ⟨_,by unfold idxS;rw [if_pos h0,getElem?_pos s z.toNat hlt];rfl⟩
theorem s_IsName_L1_ok (s:ByteArray)(hs:s.size≤9223372036854775807):∀(n:Nat)(a:Int),0≤a→a≤s.size→(s.size:Int)<a+n→s_IsName_L1 s n a=some (.inr false)∨s_IsName_L1 s n a=some (.inl ())
 | 0,a,h0,h1,h2=>by omega
 | n+1,a,h0,h1,h2=>by
  by_cases hlt:a<s.size
  ·obtain ⟨v,hv⟩:=idxS_some h0 hlt
   have ih:=s_IsName_L1_ok s hs n (a+1) (by omega) (by omega) (by omega)
   rw [← W_of (n:=a+1) (by omega)] at ih
   simp only [s_IsName_L1,show decide (a<(s.size:Int))=true by simpa using hlt,cond_true,hv,Option.bind_some,cond_some]
   exact cond_two (P:=fun (o:Option (Unit ⊕ Bool))=>o=some (.inr false)∨o=some (.inl ())) (.inl rfl) ih
  right
  simp only [s_IsName_L1,show decide (a<(s.size:Int))=false by simpa using hlt,cond_false]
theorem s_IsName_ok (s:ByteArray)(hs:s.size≤9223372036854775807):∃ v,s_IsName s=some v:=by
 rcases s_IsName_L1_ok s hs F0 0 (Int.le_refl _) (by omega) (by have:=F0_gt;omega) with h | h
 ·exact ⟨false,by simp only [s_IsName,h,sumBind,Option.bind_some,Sum.elim_inr]⟩
 exact ⟨_,by simp only [s_IsName,h,sumBind,Option.bind_some,Sum.elim_inl,s_l01In_eq];rfl⟩
theorem s_ActivityOk_ok (x:TActivity)(a b:Int)(hs:x.Name.size≤9223372036854775807):∃ v,s_ActivityOk x a b=some v∧(v=true→ActF x a b):=by
 rcases chkList (F:=s_ActivityOk_L1 a b) (c:=fun m _=>(s_ModeOk m a b).bind fun v=>some (!v)) (Q:=fun m=>ModeF m a b) x.Modes (fun _=>rfl) (fun m xs z=>by
   simp only [s_ActivityOk_L1]
   cases s_ModeOk m a b <;> rfl) (fun m z _ _=>by
   obtain ⟨v,hv,hf⟩:=s_ModeOk_ok m a b
   rw [hv]
   exact ⟨_,rfl,fun h=>hf (by simpa using h)⟩) with h | ⟨h,hQ⟩
 ·exact ⟨false,by simp only [s_ActivityOk,h,sumBind,Option.bind_some,Sum.elim_inr],fun h=>by cases h⟩
 obtain ⟨v,hv⟩:=s_IsName_ok x.Name hs
 simp only [s_ActivityOk,h,sumBind,Option.bind_some,Sum.elim_inl,hv,s_l01In_eq]
 cases v with
 | false=>exact ⟨false,rfl,fun h=>by cases h⟩
 | true=>
  cases hf:inR x.Family 0 3 with
  | false=>exact ⟨false,rfl,fun h=>by cases h⟩
  | true=>exact ⟨_,rfl,fun he=>⟨inR_iff.1 hf,by have:=inR_iff.1 he;omega,hQ⟩⟩
theorem s_ActivityIndex_ok (p:TProject)(nm:ByteArray):∃ v,s_ActivityIndex p nm=some v:=by
 have:∀(xs:List TActivity)(z:Int),∃ o,s_ActivityIndex_L1 nm xs z=some o:=by
  intro xs
  induction xs with
  | nil=>exact fun z=>⟨_,rfl⟩
  | cons x xs ih=>
   intro z
   obtain ⟨o,ho⟩:=ih (z+1)
   exact ⟨_,by rw [s_ActivityIndex_L1,ho,cond_some]⟩
 obtain ⟨o,ho⟩:=this p.Activities 0
 cases o with
 | inl u=>exact ⟨_,by simp only [s_ActivityIndex,ho,sumBind,Option.bind_some,Sum.elim_inl];rfl⟩
 | inr u=>exact ⟨_,by simp only [s_ActivityIndex,ho,sumBind,Option.bind_some,Sum.elim_inr];rfl⟩
theorem linkOk_c (p:TProject)(k:TLink):i_ProjectOk_c1 k p=some (!(inR k.From 0 (W ((p.Activities.length:Int) - 1)) && (inR k.To 0 (W ((p.Activities.length:Int) - 1)) && (k.From != k.To && inR k.Lag (-60) 60)))):=by
 simp only [i_ProjectOk_c1,i_Project_linkOk,hasActivity_eq,i_within_eq,Option.bind_some,cond_some,cond_and]
theorem linkOk_s (p:TProject)(k:TLink):((s_l01In k.From 0 (W ((p.Activities.length:Int) - 1))).bind fun v68=>(bif (!v68) then some true else (s_l01In k.To 0 (W ((p.Activities.length:Int) - 1))).bind fun v71=>(bif (!v71) then some true else (bif (k.From == k.To) then some true else (s_l01In k.Lag (-60) 60).bind fun v74=>some (!v74)))))=i_ProjectOk_c1 k p:=by
 rw [linkOk_c]
 simp only [s_l01In_eq,Option.bind_some,cond_some,int_beq,int_bne]
 cases inR k.From 0 (W ((p.Activities.length:Int) - 1)) <;> cases inR k.To 0 (W ((p.Activities.length:Int) - 1)) <;> cases inR k.Lag (-60) 60 <;> cases decide (k.From=k.To) <;> rfl
theorem links_eq (p:TProject):∀(xs:List TLink)(z:Int),0≤z→∃ o,slices_IndexFunc_Link_L1 (fun x=>i_ProjectOk_c1 x p) xs z=some o∧((o=.inl ()∧s_ProjectOk_L4 p xs z=some (.inl ()))∨∃ k,o=.inr k∧0≤k∧s_ProjectOk_L4 p xs z=some (.inr false))
 | [],z,hz=>⟨.inl (),rfl,.inl ⟨rfl,rfl⟩⟩
 | x::xs,z,hz=>by
  obtain ⟨o,ho,hc⟩:=links_eq p xs (z+1) (by omega)
  have e1:s_ProjectOk_L4 p (x::xs) z=(i_ProjectOk_c1 x p).bind fun e=>bif e then some (.inr false) else s_ProjectOk_L4 p xs (z+1):=by
   rw [← linkOk_s]
   simp only [s_ProjectOk_L4,s_l01In_eq,Option.bind_some]
  have e2:slices_IndexFunc_Link_L1 (fun x=>i_ProjectOk_c1 x p) (x::xs) z=(i_ProjectOk_c1 x p).bind fun e=>bif e then some (.inr z) else slices_IndexFunc_Link_L1 (fun x=>i_ProjectOk_c1 x p) xs (z+1):=rfl
  rw [e1,e2,linkOk_c,Option.bind_some,Option.bind_some]
  cases hb:(!(inR x.From 0 (W ((p.Activities.length:Int) - 1)) && (inR x.To 0 (W ((p.Activities.length:Int) - 1)) && (x.From != x.To && inR x.Lag (-60) 60)))) with
  | true=>exact ⟨_,rfl,.inr ⟨z,rfl,hz,rfl⟩⟩
  | false=>exact ⟨o,ho,hc⟩
theorem ProjectOk_L1 (p:TProject):∀(xs:List TActivity)(z:Int),i_ProjectOk_L1 p xs z=s_ProjectOk_L1 p xs z
 | [],z=>rfl
 | x::xs,z=>by simp only [i_ProjectOk_L1,s_ProjectOk_L1,ActivityOk_eq,ActivityIndex_eq,ProjectOk_L1 p xs]
theorem ProjectOk_L2:∀(xs:List TResource)(z:Int),i_ProjectOk_L2 xs z=s_ProjectOk_L2 xs z
 | [],z=>rfl
 | x::xs,z=>by simp only [i_ProjectOk_L2,s_ProjectOk_L2,ResourceOk_eq,ProjectOk_L2 xs]
theorem ProjectOk_L3:∀(xs:List Int)(z:Int),i_ProjectOk_L3 xs z=s_ProjectOk_L3 xs z
 | [],z=>rfl
 | x::xs,z=>by simp only [i_ProjectOk_L3,s_ProjectOk_L3,i_within_eq,s_l01In_eq,ProjectOk_L3 xs]
theorem ProjectOk_eq (p:TProject):i_ProjectOk p=s_ProjectOk p:=by
 obtain ⟨o,ho,hc⟩:=links_eq p p.Links 0 (Int.le_refl _)
 have e:(slices_ContainsFunc_Link p.Links (fun x=>i_ProjectOk_c1 x p)).bind (fun v=>some (!v))=sumBind (s_ProjectOk_L4 p p.Links 0) (fun q=>some q) fun _=>some true:=by
  rcases hc with ⟨rfl,h2⟩ | ⟨k,rfl,hk,h2⟩
  ·simp only [slices_ContainsFunc_Link,slices_IndexFunc_Link,ho,h2,sumBind,Option.bind_some,Sum.elim_inl];rfl
  simp only [slices_ContainsFunc_Link,slices_IndexFunc_Link,ho,h2,sumBind,Option.bind_some,Sum.elim_inr]
  simp [hk]
 simp only [i_ProjectOk,s_ProjectOk,ProjectOk_L1,ProjectOk_L2,ProjectOk_L3,i_within_eq,s_l01In_eq,e]
theorem s_ProjectOk_ok (p:TProject)(hs:∀ x∈p.Activities,x.Name.size≤9223372036854775807):∃ v,s_ProjectOk p=some v∧(v=true→ProjF p):=by
 simp only [s_ProjectOk,s_l01In_eq,Option.bind_some,cond_some]
 cases hd:inR p.Deadline 1 60 with
 | false=>exact ⟨false,rfl,fun h=>by cases h⟩
 | true=>
 cases ha:inR (p.Activities.length:Int) 1 6 with
 | false=>exact ⟨false,rfl,fun h=>by cases h⟩
 | true=>
 cases hr:decide (3<(p.Resources.length:Int)) with
 | true=>exact ⟨false,rfl,fun h=>by cases h⟩
 | false=>
 cases hk:decide (2<(p.Stocks.length:Int)) with
 | true=>exact ⟨false,rfl,fun h=>by cases h⟩
 | false=>
 cases hl:decide (12<(p.Links.length:Int)) with
 | true=>exact ⟨false,rfl,fun h=>by cases h⟩
 | false=>
 simp only [Bool.not_true,cond_false]
 have hd:=inR_iff.1 hd
 have ha:=inR_iff.1 ha
 have hr:=of_decide_eq_false hr
 have hk:=of_decide_eq_false hk
 have hl:=of_decide_eq_false hl
 have k1:∀ x,x∈p.Activities→∃ v,s_ActivityOk x p.Resources.length p.Stocks.length=some v∧(v=true→ActF x p.Resources.length p.Stocks.length):=fun x hx=>s_ActivityOk_ok x _ _ (hs x hx)
 have l1:=chkList (F:=s_ProjectOk_L1 p) (Q:=fun x=>ActF x p.Resources.length p.Stocks.length) (c:=fun x z=>(s_ActivityOk x p.Resources.length p.Stocks.length).bind fun v20=>(bif (!v20) then some true else (s_ActivityIndex p x.Name).bind fun v23=>some (v23 != z))) p.Activities (fun _=>rfl) (fun x xs z=>by
   simp only [s_ProjectOk_L1]
   cases s_ActivityOk x p.Resources.length p.Stocks.length <;> rfl) (fun x z _ hx=>by
   obtain ⟨v,hv,hf⟩:=k1 x (idxL_lt_len hx).2
   obtain ⟨u,hu⟩:=s_ActivityIndex_ok p x.Name
   rw [hv,hu]
   cases v with
   | false=>exact ⟨true,rfl,fun h=>by cases h⟩
   | true=>exact ⟨_,rfl,fun _=>hf rfl⟩)
 have l2:=chkList (F:=s_ProjectOk_L2) (Q:=ResF) (c:=fun x _=>(s_ResourceOk x).bind fun v=>some (!v)) p.Resources (fun _=>rfl) (fun x xs z=>by
   simp only [s_ProjectOk_L2]
   cases s_ResourceOk x <;> rfl) (fun x z _ hx=>by
   obtain ⟨v,hv,hf⟩:=s_ResourceOk_ok x
   rw [hv]
   exact ⟨_,rfl,fun h=>hf (by simpa using h)⟩)
 have l3:=chkList (F:=s_ProjectOk_L3) (Q:=fun n=>0≤n∧n≤100) (c:=fun x _=>some (!inR x 0 100)) p.Stocks (fun _=>rfl) (fun x xs z=>by simp only [s_ProjectOk_L3,s_l01In_eq,Option.bind_some]) (fun x z _ _=>⟨_,rfl,fun h=>inR_iff.1 (by simpa using h)⟩)
 have l4:=chkList (F:=s_ProjectOk_L4 p) (Q:=fun k=>(0≤k.From∧k.From<p.Activities.length)∧(0≤k.To∧k.To<p.Activities.length)∧k.From≠k.To∧-60≤k.Lag∧k.Lag≤60) (c:=fun x _=>i_ProjectOk_c1 x p) p.Links (fun _=>rfl) (fun x xs z=>by
   rw [← linkOk_s]
   simp only [s_ProjectOk_L4,s_l01In_eq,Option.bind_some]) (fun x z _ _=>⟨_,linkOk_c p x,fun h=>by
   have h:(inR x.From 0 (W ((p.Activities.length:Int) - 1)) && (inR x.To 0 (W ((p.Activities.length:Int) - 1)) && (x.From != x.To && inR x.Lag (-60) 60)))=true:=by simpa using h
   simp only [Bool.and_eq_true] at h
   have h1:=inR_iff.1 h.1
   have h2:=inR_iff.1 h.2.1
   have h4:=inR_iff.1 h.2.2.2
   have h3:x.From≠x.To:=by simpa using h.2.2.1
   rw [W_of (by omega)] at h1 h2
   exact ⟨by omega,by omega,h3,h4⟩⟩)
 rcases l1 with h | ⟨h,q1⟩
 ·exact ⟨false,by simp only [h,sumBind,Option.bind_some,Sum.elim_inr],fun h=>by cases h⟩
 simp only [h,sumBind,Option.bind_some,Sum.elim_inl]
 rcases l2 with h | ⟨h,q2⟩
 ·exact ⟨false,by simp only [h,Option.bind_some,Sum.elim_inr],fun h=>by cases h⟩
 simp only [h,Option.bind_some,Sum.elim_inl]
 rcases l3 with h | ⟨h,q3⟩
 ·exact ⟨false,by simp only [h,Option.bind_some,Sum.elim_inr],fun h=>by cases h⟩
 simp only [h,Option.bind_some,Sum.elim_inl]
 rcases l4 with h | ⟨h,q4⟩
 ·exact ⟨false,by simp only [h,Option.bind_some,Sum.elim_inr],fun h=>by cases h⟩
 simp only [h,Option.bind_some,Sum.elim_inl]
 exact ⟨true,rfl,fun _=>⟨hd,by omega,by omega,by omega,by omega,q1,q2,q3,q4⟩⟩
theorem names_of {p:TProject}{M:Nat}(h:bTProject M p)(hM:M≤9223372036854775807):∀ x∈p.Activities,x.Name.size≤9223372036854775807:=by
 unfold bTProject b_l_eTActivity at h
 intro x hx
 have:=h.1.2 x hx
 unfold bTActivity b_str at this
 omega
theorem s_l11Sign_eq (a b:Int):s_l11Sign a b=some (sgn a b):=by
 unfold s_l11Sign sgn
 cases decide (a<b) <;> cases decide (b<a) <;> rfl
theorem cmp_Compare_eq (a b:Int):cmp_Compare_int a b=some (sgn a b):=by
 simp only [cmp_Compare_int,cmp_isNaN_int,Option.bind_some,int_bne,decide_true,Bool.not_true,cond_false,sgn]
 cases decide (a<b) <;> cases decide (b<a) <;> rfl
theorem sgn_zero {a b:Int}:sgn a b=0 ↔ a=b:=by
 unfold sgn
 by_cases h1:a<b
 ·simp [h1];omega
 by_cases h2:b<a
 ·simp [h1,h2];omega
 simp [h1,h2];omega
theorem sgn_self (a:Int):sgn a a=0:=sgn_zero.2 rfl
theorem s_CompareLiterals_eq (a b:TLiteral):s_CompareLiterals a b=some (cmpLit a b):=by
 simp only [s_CompareLiterals,s_l11Sign_eq,Option.bind_some,int_bne,cmpLit]
 by_cases h1:a.Activity=b.Activity <;> by_cases h2:a.Kind=b.Kind <;> simp [h1,h2]
theorem i_CompareLiterals_eq (a b:TLiteral):i_CompareLiterals a b=some (cmpLit a b):=by
 simp only [i_CompareLiterals,cmp_Compare_eq,Option.bind_some,cmp_Or_int,cmp_Or_int_L1,int_bne,cmpLit]
 by_cases h1:a.Activity=b.Activity
 ·by_cases h2:a.Kind=b.Kind
  ·by_cases h3:a.Value=b.Value
   ·simp [sgn_self,h1,h2,h3,sumBind]
   have h4:sgn a.Value b.Value≠0:=fun e=>h3 (sgn_zero.1 e)
   simp [sgn_self,h4,h1,h2,sumBind]
  have h4:sgn a.Kind b.Kind≠0:=fun e=>h2 (sgn_zero.1 e)
  simp [sgn_self,h4,h1,h2,sumBind]
 have h4:sgn a.Activity b.Activity≠0:=fun e=>h1 (sgn_zero.1 e)
 simp [h4,h1,sumBind]
theorem LiteralOk_eq (p:TProject)(l:TLiteral):i_LiteralOk p l=s_LiteralOk p l:=by simp only [i_LiteralOk,s_LiteralOk,ProjectOk_eq,hasActivity_eq,i_within_eq,s_l01In_eq]
theorem s_LiteralOk_ok (p:TProject)(hs:∀ x∈p.Activities,x.Name.size≤9223372036854775807)(l:TLiteral):∃ v,s_LiteralOk p l=some v∧(v=true→ProjF p∧0≤l.Activity∧l.Activity<p.Activities.length):=by
 obtain ⟨v,hv,hf⟩:=s_ProjectOk_ok p hs
 simp only [s_LiteralOk,hv,s_l01In_eq,Option.bind_some,cond_some]
 cases v with
 | false=>exact ⟨false,rfl,fun h=>by cases h⟩
 | true=>
  cases hr:inR l.Activity 0 (W ((p.Activities.length:Int) - 1)) with
  | false=>exact ⟨false,rfl,fun h=>by cases h⟩
  | true=>
   obtain ⟨a,ha,_⟩:=idx_of_inR hr
   have hq:ProjF p∧0≤l.Activity∧l.Activity<p.Activities.length:=⟨hf rfl,(idxL_spec ha).1,(idxL_lt_len ha).1⟩
   simp only [ha,Option.bind_some,Bool.not_true,cond_false,cond_true,cond_some]
   exact ⟨_,rfl,fun _=>hq⟩
theorem ClauseOk_L1 (p:TProject)(b:List TLiteral):∀(xs:List TLiteral)(z:Int),i_ClauseOk_L1 p b xs z=s_ClauseOk_L1 p b xs z
 | [],z=>rfl
 | x::xs,z=>by simp only [i_ClauseOk_L1,s_ClauseOk_L1,LiteralOk_eq,i_CompareLiterals_eq,s_CompareLiterals_eq,ClauseOk_L1 p b xs]
theorem ClauseOk_eq (p:TProject)(b:List TLiteral):i_ClauseOk p b=s_ClauseOk p b:=by simp only [i_ClauseOk,s_ClauseOk,ClauseOk_L1]
theorem s_ClauseOk_ok (p:TProject)(hs:∀ x∈p.Activities,x.Name.size≤9223372036854775807)(b:List TLiteral):∃ v,s_ClauseOk p b=some v∧(v=true→b.length≤24∧∀ l∈b,s_LiteralOk p l=some true):=by
 rcases chkList (F:=s_ClauseOk_L1 p b) (Q:=fun l=>s_LiteralOk p l=some true) (c:=fun x z=>(s_LiteralOk p x).bind fun v=>(bif (!v) then some true else (bif (decide (0<z)) then (idxL b (z - 1)).bind fun y=>some (decide (0≤cmpLit y x)) else some false))) b (fun _=>rfl) (fun x xs z=>by
   simp only [s_ClauseOk_L1,s_CompareLiterals_eq,Option.bind_some]
   cases s_LiteralOk p x <;> rfl) (fun x z hz hx=>by
   obtain ⟨v,hv,_⟩:=s_LiteralOk_ok p hs x
   rw [hv,Option.bind_some]
   cases v with
   | false=>exact ⟨true,rfl,fun h=>by cases h⟩
   | true=>
    by_cases h0:0<z
    ·obtain ⟨y,hy⟩:=idxL_prev hx h0
     rw [show decide (0<z)=true by simpa using h0,hy]
     exact ⟨_,rfl,fun _=>rfl⟩
    rw [show decide (0<z)=false by simpa using h0]
    exact ⟨_,rfl,fun _=>rfl⟩) with h | ⟨h,hQ⟩
 ·exact ⟨false,by simp only [s_ClauseOk,h,sumBind,Option.bind_some,Sum.elim_inr],fun h=>by cases h⟩
 exact ⟨_,by simp only [s_ClauseOk,h,sumBind,Option.bind_some,Sum.elim_inl];rfl,fun he=>⟨by have:=of_decide_eq_true he;omega,hQ⟩⟩
theorem catS_ok {a b:ByteArray}(h:a.size+b.size≤9223372036854775807):catS a b=some (a ++ b):=by
 unfold catS;rw [if_pos h]
theorem ba_ext {a b:ByteArray}(h:a.data.toList=b.data.toList):a=b:=by
 cases a;cases b
 simp at h
 subst h;rfl
theorem ba_list (a b:ByteArray):(a ++ b).data.toList=a.data.toList ++ b.data.toList:=by simp
theorem ba_size (a:ByteArray):a.size=a.data.toList.length:=(Array.length_toList (xs:=a.data)).symm
theorem appL_ok' {α:Type}{a b:List α}(h:a.length+b.length≤1099511627776):appL a b=some (a ++ b):=by
 unfold appL;rw [if_pos h]
theorem strB_one (n:Int):(strB [n]).data.toList=[UInt8.ofNat n.toNat]:=rfl
theorem dec_step {n:Int}(h0:9<n):Lib.decDigits n.toNat=Lib.decDigits (n / 10).toNat ++ [UInt8.ofNat (48+n % 10).toNat]:=by
 rw [Lib.decDigits,dif_neg (by omega)]
 have e1:n.toNat / 10=(n / 10).toNat:=by omega
 have e2:48+n.toNat % 10=(48+n % 10).toNat:=by omega
 rw [e1,e2]
theorem dec_last {n:Int}(h0:0≤n)(h1:n≤9):Lib.decDigits n.toNat=[UInt8.ofNat (48+n).toNat]:=by
 rw [Lib.decDigits,dif_pos (by omega)]
 have e2:48+n.toNat=(48+n).toNat:=by omega
 rw [e2]
theorem u8_dig {n:Int}(h0:0≤n)(h1:n≤9):IntKind.u8.wrap (W (48+n))=48+n:=by
 rw [W_of ⟨by omega,by omega⟩,IntKind.wrap_u8]
 omega
theorem fmt_L1:∀(fuel:Nat)(n:Int)(s:ByteArray),n.toNat<fuel→0≤n→s.size+n.toNat≤1000000000 →
  ∃ m t,s_FormatInt_L1 fuel n s=some (m,t)∧0≤m∧m≤9∧UInt8.ofNat (48+m).toNat::t.data.toList=Lib.decDigits n.toNat ++ s.data.toList∧t.size≤s.size+n.toNat
 | 0,n,s,h,_,_=>absurd h (Nat.not_lt_zero _)
 | fuel+1,n,s,hf,h0,hs=>by
  simp only [s_FormatInt_L1]
  by_cases h:9<n
  ·have e1:n.tmod 10=n % 10:=Int.tmod_eq_emod_of_nonneg h0
   have e2:n.tdiv 10=n / 10:=Int.tdiv_eq_ediv_of_nonneg h0
   have h1:=strB_one (48+n % 10)
   have hsz:(strB [48+n % 10]).size=1:=by rw [ba_size,h1];rfl
   rw [decide_eq_true h,cond_true,e1,e2,u8_dig (by omega) (by omega),catS_ok (by omega),Option.bind_some,W_of ⟨by omega,by omega⟩]
   have hsz2:(strB [48+n % 10] ++ s).size=1+s.size:=by rw [ba_size,ba_list,List.length_append,← ba_size,← ba_size,hsz]
   obtain ⟨m,t,k1,k2,k3,k4,k5⟩:=fmt_L1 fuel (n / 10) (strB [48+n % 10] ++ s) (by omega) (by omega) (by omega)
   refine ⟨m,t,k1,k2,k3,?_,by omega⟩
   rw [k4,dec_step h,ba_list,h1]
   simp
  rw [decide_eq_false h,cond_false]
  exact ⟨n,s,rfl,h0,by omega,by rw [dec_last h0 (by omega)];rfl,by omega⟩
theorem fmt_pos (rec:Int→Option ByteArray)(n:Int)(h0:0≤n)(h1:n≤100000):s_FormatInt_S rec n=some ⟨(Lib.decDigits n.toNat).toArray⟩∧(Lib.decDigits n.toNat).length≤100001:=by
 obtain ⟨m,t,k1,k2,k3,k4,k5⟩:=fmt_L1 F0 n ByteArray.empty (by have:=F0_gt;omega) h0 (by simp;omega)
 have hin:inR n (-100000) 100000=true:=inR_iff.2 ⟨by omega,h1⟩
 have hs:=strB_one (48+m)
 have hsz:(strB [48+m]).size=1:=by rw [ba_size,hs];rfl
 have h5:t.size≤n.toNat:=by simpa using k5
 have e:strB [48+m] ++ t=⟨(Lib.decDigits n.toNat).toArray⟩:=by
  apply ba_ext
  rw [ba_list,hs]
  have:(ByteArray.empty).data.toList=[]:=rfl
  rw [this,List.append_nil] at k4
  simpa using k4
 refine ⟨?_,?_⟩
 ·simp only [s_FormatInt_S,s_l01In_eq,hin,Option.bind_some,Bool.not_true,cond_false,show decide (n<0)=false from decide_eq_false (by omega),k1,u8_dig k2 k3]
  rw [catS_ok (by omega),Option.bind_some,e]
 have:(Lib.decDigits n.toNat).length=(strB [48+m] ++ t).size:=by rw [e];rfl
 rw [this,ba_size,ba_list,List.length_append,← ba_size,← ba_size,hsz]
 omega
theorem F0_two:∃ k,F0=k+2:=⟨F0 - 2,by have:=F0_gt;omega⟩
theorem fmt_eq (n:Int)(h0:-100000≤n)(h1:n≤100000):∃ s,s_FormatInt n=some s∧i_FormatInt n=some s∧s.size≤100002:=by
 have hin:inR n (-100000) 100000=true:=inR_iff.2 ⟨by omega,h1⟩
 obtain ⟨k,hk⟩:=F0_two
 have hi:i_FormatInt n=some ⟨(Lib.itoa n).toArray⟩:=by
  simp only [i_FormatInt,i_within_eq,hin,strconv_Itoa,itoaL,Option.bind_some,Bool.not_true,cond_false]
  rw [if_pos ⟨by omega,by omega⟩,Option.bind_some]
 refine ⟨⟨(Lib.itoa n).toArray⟩,?_,hi,?_⟩
 ·unfold s_FormatInt
  rw [hk]
  by_cases h:n<0
  ·have hr:s_FormatInt_R (k+1) (W (0 - n))=some ⟨(Lib.decDigits (0 - n).toNat).toArray⟩:=by
    rw [W_of ⟨by omega,by omega⟩]
    exact (fmt_pos _ (0 - n) (by omega) (by omega)).1
   show s_FormatInt_S (s_FormatInt_R (k+1)) n=_
   simp only [s_FormatInt_S,s_l01In_eq,hin,Option.bind_some,Bool.not_true,cond_false,cond_true,show decide (n<0)=true from decide_eq_true h,hr]
   have hl:=(fmt_pos (s_FormatInt_R k) (0 - n) (by omega) (by omega)).2
   rw [Int.zero_sub] at hl
   rw [catS_ok (by simp [ByteArray.size];omega),Option.bind_some]
   congr 1
   apply ba_ext
   rw [ba_list]
   unfold Lib.itoa
   rw [if_pos h,show n.natAbs=(0 - n).toNat by omega]
   rfl
  show s_FormatInt_S (s_FormatInt_R (k+1)) n=_
  rw [(fmt_pos _ n (by omega) h1).1]
  unfold Lib.itoa
  rw [if_neg h]
 unfold Lib.itoa
 split
 ·have hl:=(fmt_pos (s_FormatInt_R 0) (0 - n) (by omega) (by omega)).2
  rw [Int.zero_sub] at hl
  rw [show n.natAbs=(-n).toNat by omega]
  simp [ByteArray.size];omega
 have hl:=(fmt_pos (s_FormatInt_R 0) n (by omega) h1).2
 simp [ByteArray.size];omega
theorem join_L1 (by_:ByteArray):∀(xs:List ByteArray)(z:Int)(s:ByteArray)(B:Nat),0<z→(∀ x∈xs,x.size≤10000000)→by_.size≤10→s.size+20000000*xs.length≤B→B≤1000000000000 →
  ∃ t,s_Join_L1 by_ xs z s=some t∧t.data.toList=s.data.toList ++ Lib.joinTail by_.data.toList (xs.map (·.data.toList))∧t.size≤B
 | [],z,s,B,_,_,_,hs,_=>⟨s,rfl,by simp [Lib.joinTail],by simpa using hs⟩
 | x::xs,z,s,B,hz,hx,hb,hs,hB=>by
  simp only [List.length_cons] at hs
  have hx0:=hx x (List.mem_cons_self ..)
  have e1:(s ++ by_).size=s.size+by_.size:=by rw [ba_size,ba_list,List.length_append,← ba_size,← ba_size]
  have e2:(s ++ by_ ++ x).size=s.size+by_.size+x.size:=by rw [ba_size,ba_list,List.length_append,← ba_size,← ba_size,e1]
  obtain ⟨t,h1,h2,h3⟩:=join_L1 by_ xs (z+1) (s ++ by_ ++ x) B (by omega) (fun y hy=>hx y (List.mem_cons_of_mem _ hy)) hb (by omega) hB
  refine ⟨t,?_,?_,h3⟩
  ·simp only [s_Join_L1,show decide (0<z)=true from decide_eq_true hz,cond_true]
   rw [catS_ok (by omega),Option.bind_some,catS_ok (by omega),Option.bind_some,h1]
  rw [h2,ba_list,ba_list]
  simp [Lib.joinTail]
theorem join_eq (xs:List ByteArray)(by_:ByteArray)(hx:∀ x∈xs,x.size≤10000000)(hb:by_.size≤10)(hl:xs.length≤30):∃ s,s_Join xs by_=some s∧strings_Join xs by_=some s:=by
 have key:∃ s,s_Join xs by_=some s∧s=joinB xs by_∧s.size≤100000000000:=by
  cases xs with
  | nil=>exact ⟨ByteArray.empty,rfl,by apply ba_ext;simp [joinB,Lib.join_nil],by simp⟩
  | cons x xs=>
   simp only [List.length_cons] at hl
   have hx0:=hx x (List.mem_cons_self ..)
   have e0:(ByteArray.empty ++ x).size=x.size:=by rw [ba_size,ba_list,ba_size x];rfl
   obtain ⟨t,h1,h2,h3⟩:=join_L1 by_ xs (0+1) (ByteArray.empty ++ x) 1000000000 (by omega) (fun y hy=>hx y (List.mem_cons_of_mem _ hy)) hb (by omega) (by omega)
   refine ⟨t,?_,?_,by omega⟩
   ·simp only [s_Join,s_Join_L1,show decide ((0:Int)<0)=false from rfl,cond_false]
    rw [catS_ok (by simp;omega),Option.bind_some,h1,Option.bind_some]
   apply ba_ext
   rw [h2,ba_list]
   simp [joinB,Lib.join_cons]
 obtain ⟨s,h1,h2,h3⟩:=key
 refine ⟨s,h1,?_⟩
 unfold strings_Join joinL
 rw [if_pos ⟨by omega,by rw [← h2];omega⟩,h2]
theorem names1 {p:TProject}{M:Nat}(h:bTProject M p):∀ x∈p.Activities,x.Name.size≤M:=by
 unfold bTProject b_l_eTActivity at h
 intro x hx
 have:=h.1.2 x hx
 unfold bTActivity b_str at this
 omega
theorem lit_facts (p:TProject)(l:TLiteral)(hs:∀ x∈p.Activities,x.Name.size≤9223372036854775807)(h:s_LiteralOk p l=some true):∃ a,idxL p.Activities l.Activity=some a∧a∈p.Activities∧(l.Kind=1∨l.Kind=2∨l.Kind=3∨l.Kind=4)∧-100000≤l.Value∧l.Value≤100000:=by
 obtain ⟨v,hv,hf⟩:=s_LiteralOk_ok p hs l
 rw [h] at hv;cases hv
 obtain ⟨F,h0,h1⟩:=hf rfl
 obtain ⟨a,ha,hm⟩:=idxL_some (l:=p.Activities) h0 (by omega)
 have hlen:=(F.acts a hm).2.1
 obtain ⟨u,hu,_⟩:=s_ProjectOk_ok p hs
 refine ⟨a,ha,hm,?_⟩
 simp only [s_LiteralOk,hu,s_l01In_eq,Option.bind_some,cond_some] at h
 cases u with
 | false=>simp at h
 | true=>
  cases hr:inR l.Activity 0 (W ((p.Activities.length:Int) - 1)) with
  | false=>simp [hr] at h
  | true=>
   simp only [hr,ha,Option.bind_some,Bool.not_true,cond_false] at h
   by_cases k1:l.Kind=1
   ·simp only [k1,beq_self_eq_true,cond_true,Option.bind_some] at h
    have:=inR_iff.1 (Option.some.inj h)
    exact ⟨.inl k1,by omega,by omega⟩
   by_cases k2:l.Kind=2
   ·simp only [k2,show ((2:Int) == 1)=false from rfl,cond_false,beq_self_eq_true,cond_true,Option.bind_some] at h
    have:=inR_iff.1 (Option.some.inj h)
    exact ⟨.inr (.inl k2),by omega,by omega⟩
   have b1:(l.Kind == 1)=false:=by rw [int_beq];exact decide_eq_false k1
   have b2:(l.Kind == 2)=false:=by rw [int_beq];exact decide_eq_false k2
   simp only [b1,b2,cond_false,Option.bind_some] at h
   have key:(l.Kind=3∨l.Kind=4)→inR l.Value 0 (W ((a.Modes.length:Int) - 1))=true→-100000≤l.Value∧l.Value≤100000:=fun _ hv=>by
    have:=inR_iff.1 hv
    have:=W_le (n:=(a.Modes.length:Int) - 1) (by omega)
    omega
   by_cases k3:l.Kind=3
   ·simp only [k3,beq_self_eq_true,cond_true,Option.bind_some] at h
    exact ⟨.inr (.inr (.inl k3)),key (.inl k3) (Option.some.inj h)⟩
   by_cases k4:l.Kind=4
   ·simp only [k4,show ((4:Int) == 3)=false from rfl,cond_false,beq_self_eq_true,cond_true,Option.bind_some] at h
    exact ⟨.inr (.inr (.inr k4)),key (.inr k4) (Option.some.inj h)⟩
   have b3:(l.Kind == 3)=false:=by rw [int_beq];exact decide_eq_false k3
   have b4:(l.Kind == 4)=false:=by rw [int_beq];exact decide_eq_false k4
   simp [b3,b4] at h
theorem sign_eq (k:Int)(h:k=1∨k=2∨k=3∨k=4):∃ s,s_LiteralSign k=some s∧i_LiteralSign k=some s∧s.size≤2:=by
 rcases h with rfl | rfl | rfl | rfl
 ·exact ⟨⟨#[62,61]⟩,rfl,rfl,by decide⟩
 ·exact ⟨⟨#[60,61]⟩,rfl,rfl,by decide⟩
 ·exact ⟨⟨#[61]⟩,rfl,rfl,by decide⟩
 exact ⟨⟨#[33,61]⟩,rfl,rfl,by decide⟩
theorem flit_eq (p:TProject)(l:TLiteral)(hp:bTProject 1048576 p)(h:s_LiteralOk p l=some true):∃ s,s_FormatLiteral p l=some s∧i_FormatLiteral p l=some s∧s.size≤10000000:=by
 obtain ⟨a,ha,hm,hk,h0,h1⟩:=lit_facts p l (names_of hp (by omega)) h
 obtain ⟨g,g1,g2,g3⟩:=sign_eq l.Kind hk
 obtain ⟨n,n1,n2,n3⟩:=fmt_eq l.Value h0 h1
 have hn:a.Name.size≤1048576:=names1 hp a hm
 have e1:(a.Name ++ g).size=a.Name.size+g.size:=by rw [ba_size,ba_list,List.length_append,← ba_size,← ba_size]
 have e2:(a.Name ++ g ++ n).size=a.Name.size+g.size+n.size:=by rw [ba_size,ba_list,List.length_append,← ba_size,← ba_size,e1]
 refine ⟨a.Name ++ g ++ n,?_,?_,by omega⟩
 ·simp only [s_FormatLiteral,h,ha,g1,n1,Option.bind_some,Bool.not_true,cond_false]
  rw [catS_ok (by omega),Option.bind_some,catS_ok (by omega),Option.bind_some]
 simp only [i_FormatLiteral,LiteralOk_eq,h,ha,g2,n2,Option.bind_some,Bool.not_true,cond_false]
 rw [catS_ok (by omega),Option.bind_some,catS_ok (by omega),Option.bind_some]
theorem fcl_L1 (p:TProject)(hp:bTProject 1048576 p):∀(xs:List TLiteral)(z z':Int)(a:List ByteArray),(∀ x∈xs,s_LiteralOk p x=some true)→a.length+xs.length≤1000 →
  ∃ W,s_FormatClause_L1 p xs z a=some (a ++ W)∧i_FormatClause_L1 p xs z' a=some (a ++ W)∧W.length=xs.length∧∀ w∈W,w.size≤10000000
 | [],z,z',a,_,_=>⟨[],by simp [s_FormatClause_L1],by simp [i_FormatClause_L1],rfl,by simp⟩
 | x::xs,z,z',a,h,hl=>by
  simp only [List.length_cons] at hl
  obtain ⟨s,s1,s2,s3⟩:=flit_eq p x hp (h x (List.mem_cons_self ..))
  obtain ⟨W,w1,w2,w3,w4⟩:=fcl_L1 p hp xs (z+1) (z'+1) (a ++ [s]) (fun y hy=>h y (List.mem_cons_of_mem _ hy)) (by simp;omega)
  refine ⟨s::W,?_,?_,by simp [w3],fun w hw=>?_⟩
  ·simp only [s_FormatClause_L1,s1,Option.bind_some]
   rw [appL_ok' (by simp;omega),Option.bind_some,w1];simp
  ·simp only [i_FormatClause_L1,s2,Option.bind_some]
   rw [appL_ok' (by simp;omega),Option.bind_some,w2];simp
  rcases List.mem_cons.1 hw with e | e
  ·rw [e];exact s3
  exact w4 w e
theorem hasResource_eq (p:TProject)(n:Int):i_Project_hasResource p n=some (inR n 0 (W ((p.Resources.length:Int) - 1))):=by simp only [i_Project_hasResource,i_within_eq,Option.bind_some]
theorem IsMachine_eq (p:TProject)(r:Int):i_IsMachine p r=s_IsMachine p r:=by simp only [i_IsMachine,s_IsMachine,hasResource_eq,s_l01In_eq]
theorem s_IsMachine_ok (p:TProject)(r:Int):∃ v,s_IsMachine p r=some v∧(v=true→∃ rs,idxL p.Resources r=some rs∧0<rs.Setup.length):=by
 simp only [s_IsMachine,s_l01In_eq,Option.bind_some]
 cases hq:inR r 0 (W ((p.Resources.length:Int) - 1)) with
 | false=>exact ⟨false,rfl,fun h=>by cases h⟩
 | true=>
  obtain ⟨rs,hr,_⟩:=idx_of_inR hq
  simp only [hr,Option.bind_some,cond_true]
  exact ⟨_,rfl,fun h=>⟨rs,rfl,by simpa using h⟩⟩
theorem hasStock_eq (p:TProject)(n:Int):i_Project_hasStock p n=some (inR n 0 (W ((p.Stocks.length:Int) - 1))):=by simp only [i_Project_hasStock,i_within_eq,Option.bind_some]
theorem RuleOk_eq (p:TProject)(r:TRule):i_RuleOk p r=s_RuleOk p r:=by simp only [i_RuleOk,s_RuleOk,ProjectOk_eq,i_within_eq,hasActivity_eq,hasResource_eq,i_isTime_eq,IsMachine_eq,hasStock_eq,s_l01In_eq]
theorem s_RuleOk_ok (p:TProject)(hs:∀ x∈p.Activities,x.Name.size≤9223372036854775807)(r:TRule):∃ v,s_RuleOk p r=some v∧(v=true→s_ProjectOk p=some true∧RuleF p r):=by
 obtain ⟨v,hv,_⟩:=s_ProjectOk_ok p hs
 obtain ⟨m,hm,_⟩:=s_IsMachine_ok p r.A
 simp only [s_RuleOk,hv,hm,s_l01In_eq,Option.bind_some,int_beq]
 cases v with
 | false=>exact ⟨false,rfl,fun h=>by cases h⟩
 | true=>
  simp only [Bool.not_true,cond_false]
  by_cases h1:r.Kind=1
  ·simp only [h1,decide_true,cond_true]
   cases q:inR r.A 0 (W ((p.Links.length:Int) - 1)) with
   | false=>exact ⟨false,rfl,fun h=>by cases h⟩
   | true=>
    have f:RuleF p r:=⟨fun _=>q,by omega,by omega,by omega,by omega,by omega⟩
    cases decide (r.B=0) <;> exact ⟨_,rfl,fun _=>⟨by trivial,f⟩⟩
  by_cases h2:r.Kind=2
  ·simp only [h2,decide_true,cond_true]
   cases q:inR r.A 0 (W ((p.Activities.length:Int) - 1)) with
   | false=>exact ⟨false,rfl,fun h=>by cases h⟩
   | true=>
    have f:RuleF p r:=⟨by omega,fun _=>q,by omega,by omega,by omega,by omega⟩
    cases decide (r.B=0) <;> exact ⟨_,rfl,fun _=>⟨by trivial,f⟩⟩
  by_cases h3:r.Kind=3
  ·simp only [h3,decide_true,cond_true]
   cases q:inR r.A 0 (W ((p.Resources.length:Int) - 1)) with
   | false=>exact ⟨false,rfl,fun h=>by cases h⟩
   | true=>
    have f:RuleF p r:=⟨by omega,by omega,fun _=>q,by omega,by omega,by omega⟩
    cases inR r.B 0 60 <;> exact ⟨_,rfl,fun _=>⟨by trivial,f⟩⟩
  by_cases h4:r.Kind=4
  ·simp only [h4,decide_true,cond_true]
   cases q:inR r.A 0 (W ((p.Resources.length:Int) - 1)) with
   | false=>exact ⟨false,rfl,fun h=>by cases h⟩
   | true=>cases q2:inR r.B 0 60 with
    | false=>exact ⟨false,rfl,fun h=>by cases h⟩
    | true=>cases q3:inR r.C 0 60 with
     | false=>exact ⟨false,rfl,fun h=>by cases h⟩
     | true=>exact ⟨_,rfl,fun h=>⟨by trivial,⟨by omega,by omega,by omega,fun _=>⟨q,q2,q3,by simpa using h⟩,by omega,by omega⟩⟩⟩
  by_cases h5:r.Kind=5
  ·simp only [h5,decide_true,cond_true]
   cases m with
   | false=>exact ⟨false,rfl,fun h=>by cases h⟩
   | true=>cases q2:inR r.B 0 (W ((p.Activities.length:Int) - 1)) with
    | false=>exact ⟨false,rfl,fun h=>by cases h⟩
    | true=>cases q3:inR r.C 0 (W ((p.Activities.length:Int) - 1)) with
     | false=>exact ⟨false,rfl,fun h=>by cases h⟩
     | true=>exact ⟨_,rfl,fun h=>⟨by trivial,⟨by omega,by omega,by omega,by omega,fun _=>⟨hm,q2,q3,by simpa using h⟩,by omega⟩⟩⟩
  by_cases h6:r.Kind=6
  ·simp only [h6,decide_true,cond_true]
   cases q:inR r.A 0 (W ((p.Stocks.length:Int) - 1)) with
   | false=>exact ⟨false,rfl,fun h=>by cases h⟩
   | true=>
    have f:RuleF p r:=⟨by omega,by omega,by omega,by omega,by omega,fun _ _ _ _ _=>q⟩
    cases decide (r.B=0) <;> exact ⟨_,rfl,fun _=>⟨by trivial,f⟩⟩
  simp only [h1,h2,h3,h4,h5,h6,decide_false,cond_false]
  exact ⟨false,rfl,fun h=>by cases h⟩
theorem beq_kind {a k:Int}(h:a≠k):(a == k)=false:=by rw [int_beq];exact decide_eq_false h
theorem subL_ok {α:Type}(l:List α)(lo hi:Nat)(h1:lo≤hi)(h2:hi≤l.length):subL l (lo:Int) (hi:Int)=some ((l.take hi).drop lo):=by
 unfold subL;rw [if_pos ⟨by omega,by omega,by omega⟩];simp
theorem kindRule (p:TProject)(r:TRule)(h:s_RuleOk p r=some true):r.Kind=1∨r.Kind=2∨r.Kind=3∨r.Kind=4∨r.Kind=5∨r.Kind=6:=by
 apply Classical.byContradiction
 intro hk
 have h1:r.Kind≠1:=by omega
 have h2:r.Kind≠2:=by omega
 have h3:r.Kind≠3:=by omega
 have h4:r.Kind≠4:=by omega
 have h5:r.Kind≠5:=by omega
 have h6:r.Kind≠6:=by omega
 simp only [s_RuleOk,beq_kind h1,beq_kind h2,beq_kind h3,beq_kind h4,beq_kind h5,beq_kind h6,cond_false] at h
 cases hp:s_ProjectOk p with
 | none=>rw [hp] at h;cases h
 | some v=>rw [hp] at h;cases v <;> simp at h
theorem ba_beq_ne {a b:ByteArray}(h:a≠b):(a == b)=false:=by rw [ba_beq];exact decide_eq_false h
theorem replK (c d:UInt8):∀ s:List UInt8,Lib.replaceK [c] [d] (Lib.count s [c]) s=s.map fun x=>if x=c then d else x
 | []=>by simp [Lib.count,Lib.countFrom,Lib.index,Lib.replaceK]
 | b::l=>by
  have ih:=replK c d l
  by_cases h:b=c
  ·subst h
   rw [Lib.count_cons_eq,Nat.add_comm,Lib.replaceK_hit [b] [d] _ (b::l) 0 (by simp [Lib.index,List.isPrefixOf])]
   simpa using ih
  rw [Lib.count_cons_ne b c l h]
  have key:∀ k,Lib.replaceK [c] [d] k (b::l)=b::Lib.replaceK [c] [d] k l:=by
   intro k
   cases k with
   | zero=>rfl
   | succ k=>
    have hix:Lib.index (b::l) [c]=if Lib.index l [c] == -1 then -1 else Lib.index l [c]+1:=by
     have hp:([c]:List UInt8).isPrefixOf (b::l)=false:=by simp [List.isPrefixOf,Ne.symm h]
     rw [Lib.index,hp];simp
    by_cases hm:Lib.index l [c] = -1
    ·rw [Lib.replaceK,Lib.replaceK,hix,hm];simp
    have hge:=Lib.index_ge l [c]
    obtain ⟨i,hi⟩:∃ i:Nat,Lib.index l [c]=i:=⟨(Lib.index l [c]).toNat,by omega⟩
    rw [Lib.replaceK_hit [c] [d] k l i hi,Lib.replaceK_hit [c] [d] k (b::l) (i+1) (by
     rw [hix,hi]
     have:((i:Int) == -1)=false:=by simp
     rw [this];simp)]
    simp
  rw [key,ih];simp [h]
theorem replAll (c d:UInt8)(s:List UInt8)(hcd:c≠d):Lib.replaceAll s [c] [d]=s.map fun x=>if x=c then d else x:=by
 unfold Lib.replaceAll Lib.replace
 rw [if_neg (by simp [hcd])]
 have:Lib.replaceNum s [c] (-1)=Lib.count s [c]:=by unfold Lib.replaceNum;rw [if_pos (.inl (by omega))]
 rw [this,replK]
theorem strB_fold:∀(xs:List Int)(r:ByteArray),(xs.foldl (fun r n=>r.push (UInt8.ofNat n.toNat)) r).data.toList=r.data.toList ++ xs.map fun n=>UInt8.ofNat n.toNat
 | [],r=>by simp
 | x::xs,r=>by
  rw [List.foldl_cons,strB_fold xs]
  have:(r.push (UInt8.ofNat x.toNat)).data.toList=r.data.toList ++ [UInt8.ofNat x.toNat]:=by
   show (r.data.push _).toList=_
   simp
  rw [this];simp
theorem strB_list (xs:List Int):(strB xs).data.toList=xs.map fun n=>UInt8.ofNat n.toNat:=by
 unfold strB
 rw [strB_fold]
 rfl
theorem swap_L1 (v1:List Int)(hv:v1.length≤140737488355328):∀(fuel:Nat)(z:Nat)(a:List Int),v1.length - z<fuel→z≤v1.length→a.length=v1.length→s_l21Swap_L1 32 44 v1 fuel z a=some (a.take z ++ (a.drop z).map fun x=>if x=32 then 44 else x)
 | 0,z,a,h,_,_=>absurd h (Nat.not_lt_zero _)
 | fuel+1,z,a,hf,hz,ha=>by
  rw [s_l21Swap_L1]
  by_cases h:(z:Int)<(v1.length:Int)
  ·have hlt:z<a.length:=by omega
   rw [decide_eq_true h,cond_true,idxL_ofNat (List.getElem?_eq_getElem hlt),Option.bind_some,W_of ⟨by omega,by omega⟩]
   have e1:(z:Int)+1=((z+1:Nat):Int):=by omega
   have hd:a.drop z=a[z]::a.drop (z+1):=(List.getElem_cons_drop hlt).symm
   rw [e1]
   by_cases hx:a[z]=32
   ·rw [show (a[z] == (32:Int))=true by simp [hx],cond_true]
    have ih:=swap_L1 v1 hv fuel (z+1) (setL a z 44) (by omega) (by omega) (by simp [setL,ha])
    rw [ih,hd]
    have e2:setL a (z:Int) 44=a.set z 44:=by simp [setL]
    rw [e2]
    congr 1
    rw [List.drop_set_of_lt (by omega)]
    have e3:(a.set z 44).take (z+1)=a.take z ++ [44]:=by
     rw [List.take_set,List.take_succ_eq_append_getElem hlt,List.set_append_right _ _ (by simp;omega)]
     have:z - (List.take z a).length=0:=by simp;omega
     rw [this];rfl
    rw [e3]
    simp [hx]
   rw [show (a[z] == (32:Int))=false by simp [hx],cond_false]
   have ih:=swap_L1 v1 hv fuel (z+1) a (by omega) (by omega) ha
   rw [ih,hd,List.take_succ_eq_append_getElem hlt,List.map_cons,if_neg hx,List.append_assoc]
   rfl
  have:z=v1.length:=by omega
  rw [decide_eq_false h,cond_false,this,← ha]
  simp
theorem swap_eq (s:ByteArray)(hs:s.size≤1000000000):∃ r,s_l21Swap s 32 44=some r∧strings_ReplaceAll s ⟨#[32]⟩ ⟨#[44]⟩=some r∧r.size=s.size:=by
 have hl:=bytesL_len s
 have h1:=swap_L1 (bytesL s) (by omega) F0 0 (bytesL s) (by have:=F0_gt;omega) (by omega) rfl
 rw [List.take_zero,List.drop_zero,List.nil_append] at h1
 have hr:strB ((bytesL s).map fun x=>if x=32 then 44 else x)=replB s ⟨#[32]⟩ ⟨#[44]⟩:=by
  apply ba_ext
  rw [strB_list]
  unfold replB
  show _=Lib.replaceAll s.data.toList [32] [44]
  rw [replAll 32 44 _ (by decide)]
  unfold bytesL
  rw [List.map_map,List.map_map]
  apply List.map_congr_left
  intro c _
  simp only [Function.comp]
  by_cases hc:c=32
  ·subst hc;rfl
  ·have:¬ ((c.toNat:Int)=32):=fun e=>hc (by
    have e2:c.toNat=32:=by omega
    have:=UInt8.ofNat_toNat (x:=c)
    rw [e2] at this
    exact this.symm)
   rw [if_neg this,if_neg hc]
   simp
 have hsz:(replB s ⟨#[32]⟩ ⟨#[44]⟩).size=s.size:=by
  rw [ba_size,ba_size s,← hr,strB_list]
  unfold bytesL
  simp
 refine ⟨replB s ⟨#[32]⟩ ⟨#[44]⟩,?_,?_,hsz⟩
 ·unfold s_l21Swap bytesO
  rw [if_pos (by omega),Option.bind_some]
  show Option.bind (s_l21Swap_L1 32 44 (bytesL s) F0 ((0:Nat):Int) (bytesL s)) _=_
  rw [h1,Option.bind_some,hr]
 unfold strings_ReplaceAll replL
 have hc:Lib.countB s ⟨#[32]⟩≤s.size:=Lib.countB_le ⟨#[32]⟩ (by decide) s.size s (Nat.le_refl _)
 have h1s:(⟨#[44]⟩:ByteArray).size=1:=rfl
 rw [if_pos ⟨by omega,by decide,by rw [h1s];omega⟩]
theorem fmt_any (n:Int):∃ s,s_FormatInt n=some s∧i_FormatInt n=some s∧s.size≤100002:=by
 by_cases h:-100000≤n∧n≤100000
 ·exact fmt_eq n h.1 h.2
 ·have hin:inR n (-100000) 100000=false:=by
   cases hq:inR n (-100000) 100000 with
   | false=>rfl
   | true=>exact absurd (inR_iff.1 hq) h
  obtain ⟨k,hk⟩:=F0_two
  refine ⟨ByteArray.empty,?_,?_,by decide⟩
  ·unfold s_FormatInt
   rw [hk]
   show s_FormatInt_S (s_FormatInt_R (k+1)) n=_
   simp only [s_FormatInt_S,s_l01In_eq,hin,Option.bind_some,Bool.not_false,cond_true]
  simp only [i_FormatInt,i_within_eq,hin,Option.bind_some,Bool.not_false,cond_true]
theorem join_sz (xs:List ByteArray)(by_:ByteArray)(hx:∀ x∈xs,x.size≤10000000)(hb:by_.size≤10)(hl:xs.length≤30):∃ s,s_Join xs by_=some s∧strings_Join xs by_=some s∧s.size≤620000000:=by
 obtain ⟨s,h1,h2⟩:=join_eq xs by_ hx hb hl
 refine ⟨s,h1,h2,?_⟩
 cases xs with
 | nil=>
  have:s=ByteArray.empty:=(Option.some.inj h1).symm
  rw [this];decide
 | cons x xs=>
  simp only [List.length_cons] at hl
  have hx0:=hx x (List.mem_cons_self ..)
  have e0:(ByteArray.empty ++ x).size=x.size:=by rw [ba_size,ba_list,ba_size x];rfl
  obtain ⟨t,k1,k2,k3⟩:=join_L1 by_ xs (0+1) (ByteArray.empty ++ x) 620000000 (by omega) (fun y hy=>hx y (List.mem_cons_of_mem _ hy)) hb (by omega) (by omega)
  have:s_Join (x::xs) by_=some t:=by
   simp only [s_Join,s_Join_L1,show decide ((0:Int)<0)=false from rfl,cond_false]
   rw [catS_ok (by simp;omega),Option.bind_some,k1,Option.bind_some]
  rw [this] at h1
  rw [← Option.some.inj h1];exact k3
theorem clause_sz (p:TProject)(l:List TLiteral)(hp:bTProject 1048576 p):∃ v,s_FormatClause p l=some v∧i_FormatClause p l=some v∧v.size≤620000000:=by
 obtain ⟨v,hv,hf⟩:=s_ClauseOk_ok p (names_of hp (by omega)) l
 simp only [s_FormatClause,i_FormatClause,ClauseOk_eq,hv,Option.bind_some]
 cases v with
 | false=>exact ⟨ByteArray.empty,rfl,rfl,by decide⟩
 | true=>
  obtain ⟨h24,hok⟩:=hf rfl
  obtain ⟨W,w1,w2,w3,w4⟩:=fcl_L1 p hp l 0 0 [] hok (by simp;omega)
  rw [List.nil_append] at w1 w2
  obtain ⟨s,j1,j2,j3⟩:=join_sz W ⟨#[32]⟩ w4 (by decide) (by omega)
  simp only [w1,w2,j1,j2,Option.bind_some,Bool.not_true,cond_false,w3]
  cases h0:((l.length:Int) == 0) with
  | true=>exact ⟨_,rfl,rfl,by decide⟩
  | false=>exact ⟨s,rfl,rfl,j3⟩
theorem RuleName_eq (k:Int):i_RuleName k=s_RuleName k:=by simp only [i_RuleName,s_RuleName,i_within_eq,s_l01In_eq]
theorem RuleName_ok (k:Int):∃ s,s_RuleName k=some s∧s.size≤5:=by
 simp only [s_RuleName,s_l01In_eq,Option.bind_some]
 cases h:inR k 0 6 with
 | false=>exact ⟨ByteArray.empty,rfl,by decide⟩
 | true=>
  have:=inR_iff.1 h
  simp only [Bool.not_true,cond_false]
  have hk:k=0∨k=1∨k=2∨k=3∨k=4∨k=5∨k=6:=by omega
  rcases hk with rfl | rfl | rfl | rfl | rfl | rfl | rfl
  ·exact ⟨⟨#[110,111,110,101]⟩,rfl,by decide⟩
  ·exact ⟨⟨#[108,105,110,107]⟩,rfl,by decide⟩
  ·exact ⟨⟨#[101,110,100]⟩,rfl,by decide⟩
  ·exact ⟨⟨#[116,105,109,101]⟩,rfl,by decide⟩
  ·exact ⟨⟨#[119,111,114,107]⟩,rfl,by decide⟩
  ·exact ⟨⟨#[112,97,105,114]⟩,rfl,by decide⟩
  exact ⟨⟨#[115,116,111,99,107]⟩,rfl,by decide⟩
theorem RuleName_ne (k:Int)(h:0≤k∧k≤6):∃ s,s_RuleName k=some s∧s≠ByteArray.empty:=by
 simp only [s_RuleName,s_l01In_eq,Option.bind_some]
 rw [show inR k 0 6=true from inR_iff.2 h]
 simp only [Bool.not_true,cond_false]
 have hk:k=0∨k=1∨k=2∨k=3∨k=4∨k=5∨k=6:=by omega
 rcases hk with rfl | rfl | rfl | rfl | rfl | rfl | rfl
 ·exact ⟨⟨#[110,111,110,101]⟩,rfl,by decide⟩
 ·exact ⟨⟨#[108,105,110,107]⟩,rfl,by decide⟩
 ·exact ⟨⟨#[101,110,100]⟩,rfl,by decide⟩
 ·exact ⟨⟨#[116,105,109,101]⟩,rfl,by decide⟩
 ·exact ⟨⟨#[119,111,114,107]⟩,rfl,by decide⟩
 ·exact ⟨⟨#[112,97,105,114]⟩,rfl,by decide⟩
 exact ⟨⟨#[115,116,111,99,107]⟩,rfl,by decide⟩
theorem rule_words (p:TProject)(r:TRule)(hp:bTProject 1048576 p)(h:s_RuleOk p r=some true):∃ n0 ws,n0≠ByteArray.empty∧s_FormatRule p r=s_Join (n0::ws) ⟨#[32]⟩∧i_FormatRule p r=strings_Join (n0::ws) ⟨#[32]⟩∧ws.length≤3∧∀ x∈n0::ws,x.size≤10000000:=by
 obtain ⟨v,hv,hf⟩:=s_RuleOk_ok p (names_of hp (by omega)) r
 rw [h] at hv;cases hv
 obtain ⟨_,F⟩:=hf rfl
 have hk:=kindRule p r h
 obtain ⟨n0,e0,z0⟩:=RuleName_ok r.Kind
 obtain ⟨n0',e0',z0'⟩:=RuleName_ne r.Kind (by omega)
 rw [e0] at e0';cases e0'
 obtain ⟨a,a1,a2,a3⟩:=fmt_any r.A
 obtain ⟨b,b1,b2,b3⟩:=fmt_any r.B
 obtain ⟨c,c1,c2,c3⟩:=fmt_any r.C
 have name:∀ z,inR z 0 (W ((p.Activities.length:Int) - 1))=true→∃ x,idxL p.Activities z=some x∧x.Name.size≤1048576:=fun z hz=>by
  have hz:=inR_iff.1 hz
  have hw:W ((p.Activities.length:Int) - 1)≤(p.Activities.length:Int) - 1:=W_le (by omega)
  obtain ⟨x,hx,hm⟩:=idxL_some (l:=p.Activities) hz.1 (by omega)
  exact ⟨x,hx,names1 hp x hm⟩
 have app2:∀ x y:List ByteArray,x.length≤4→y.length≤4→appL x y=some (x ++ y):=fun x y hx hy=>appL_ok' (by omega)
 have sz2:∀ ws:List ByteArray,(∀ x∈ws,x.size≤10000000)→∀ x∈n0::ws,x.size≤10000000:=fun ws hws x hx=>by
  rcases List.mem_cons.1 hx with e | e
  ·rw [e];omega
  exact hws x e
 by_cases k2:r.Kind=2
 ·have t2:(r.Kind == 2)=true:=by simp [k2]
  obtain ⟨x,hx,hxs⟩:=name r.A (F.k2 k2)
  refine ⟨n0,[x.Name],z0',?_,?_,by simp,sz2 _ (by simp;omega)⟩
  ·simp only [s_FormatRule,h,e0,a1,Option.bind_some,Bool.not_true,cond_false,t2,cond_true,hx]
   simp [idxL,setL]
  simp only [i_FormatRule,RuleOk_eq,RuleName_eq,h,e0,a2,Option.bind_some,Bool.not_true,cond_false,t2,cond_true,hx]
  simp [idxL,setL]
 have q2:(r.Kind == 2)=false:=by rw [int_beq];exact decide_eq_false k2
 by_cases k3:r.Kind=3
 ·have t3:(r.Kind == 3)=true:=by simp [k3]
  refine ⟨n0,[a,b],z0',?_,?_,by simp,sz2 _ (by simp;omega)⟩
  ·simp only [s_FormatRule,h,e0,a1,b1,q2,t3,Option.bind_some,Bool.not_true,cond_false,beq_self_eq_true,cond_true,show ((3:Int) == 2)=false from rfl]
   rw [app2 _ _ (by simp) (by simp)];simp
  simp only [i_FormatRule,RuleOk_eq,RuleName_eq,h,e0,a2,b2,q2,t3,Option.bind_some,Bool.not_true,cond_false,beq_self_eq_true,cond_true,show ((3:Int) == 2)=false from rfl]
  rw [app2 _ _ (by simp) (by simp)];simp
 have q3:(r.Kind == 3)=false:=by rw [int_beq];exact decide_eq_false k3
 by_cases k4:r.Kind=4
 ·have t4:(r.Kind == 4)=true:=by simp [k4]
  refine ⟨n0,[a,b,c],z0',?_,?_,by simp,sz2 _ (by simp;omega)⟩
  ·simp only [s_FormatRule,h,e0,a1,b1,c1,q2,q3,t4,Option.bind_some,Bool.not_true,cond_false,beq_self_eq_true,cond_true,show ((4:Int) == 2)=false from rfl,show ((4:Int) == 3)=false from rfl]
   rw [app2 _ _ (by simp) (by simp)];simp
  simp only [i_FormatRule,RuleOk_eq,RuleName_eq,h,e0,a2,b2,c2,q2,q3,t4,Option.bind_some,Bool.not_true,cond_false,beq_self_eq_true,cond_true,show ((4:Int) == 2)=false from rfl,show ((4:Int) == 3)=false from rfl]
  rw [app2 _ _ (by simp) (by simp)];simp
 have q4:(r.Kind == 4)=false:=by rw [int_beq];exact decide_eq_false k4
 by_cases k5:r.Kind=5
 ·have t5:(r.Kind == 5)=true:=by simp [k5]
  obtain ⟨_,hB,hC,_⟩:=F.k5 k5
  obtain ⟨x,hx,hxs⟩:=name r.B hB
  obtain ⟨y,hy,hys⟩:=name r.C hC
  refine ⟨n0,[a,x.Name,y.Name],z0',?_,?_,by simp,sz2 _ (by simp;omega)⟩
  ·simp only [s_FormatRule,h,e0,a1,hx,hy,q2,q3,q4,t5,Option.bind_some,Bool.not_true,cond_false,beq_self_eq_true,cond_true,show ((5:Int) == 2)=false from rfl,show ((5:Int) == 3)=false from rfl,show ((5:Int) == 4)=false from rfl]
   rw [app2 _ _ (by simp) (by simp)];simp
  simp only [i_FormatRule,RuleOk_eq,RuleName_eq,h,e0,a2,hx,hy,q2,q3,q4,t5,Option.bind_some,Bool.not_true,cond_false,beq_self_eq_true,cond_true,show ((5:Int) == 2)=false from rfl,show ((5:Int) == 3)=false from rfl,show ((5:Int) == 4)=false from rfl]
  rw [app2 _ _ (by simp) (by simp)];simp
 have q5:(r.Kind == 5)=false:=by rw [int_beq];exact decide_eq_false k5
 refine ⟨n0,[a],z0',?_,?_,by simp,sz2 _ (by simp;omega)⟩
 ·simp only [s_FormatRule,h,e0,a1,q2,q3,q4,q5,Option.bind_some,Bool.not_true,cond_false]
  simp
 simp only [i_FormatRule,RuleOk_eq,RuleName_eq,h,e0,a2,q2,q3,q4,q5,Option.bind_some,Bool.not_true,cond_false]
 simp
theorem rule_text (p:TProject)(r:TRule)(hp:bTProject 1048576 p)(h:s_RuleOk p r=some true):∃ s,s_FormatRule p r=some s∧i_FormatRule p r=some s∧s≠ByteArray.empty∧s.size≤620000000:=by
 obtain ⟨n0,ws,hn,h1,h2,h3,h4⟩:=rule_words p r hp h
 obtain ⟨s,j1,j2,j3⟩:=join_sz (n0::ws) ⟨#[32]⟩ h4 (by decide) (by simp;omega)
 refine ⟨s,h1.trans j1,h2.trans j2,?_,j3⟩
 intro he
 apply hn
 have h5:joinL (n0::ws) ⟨#[32]⟩=some s:=j2
 unfold joinL at h5
 split at h5
 ·have h6:=Option.some.inj h5
  have h7:(joinB (n0::ws) ⟨#[32]⟩).data.toList=[]:=by rw [h6,he];rfl
  unfold joinB at h7
  simp only [List.map_cons,Lib.join_cons] at h7
  have h8:n0.data.toList=[]:=by
   have:=congrArg List.length h7
   simp at this
   exact List.eq_nil_of_length_eq_zero (by simpa using this.1)
  exact ba_ext (by rw [h8];rfl)
 cases h5
theorem LineOk_eq (p:TProject)(b:TLine):i_LineOk p b=s_LineOk p b:=by simp only [i_LineOk,s_LineOk,ClauseOk_eq]
theorem LineOk_ok (p:TProject)(b:TLine)(hp:bTProject 1048576 p):∃ v,s_LineOk p b=some v∧(v=true→b.Kind=1∨b.Kind=2):=by
 obtain ⟨v,hv,_⟩:=s_ClauseOk_ok p (names_of hp (by omega)) b.Clause
 simp only [s_LineOk,hv,Option.bind_some]
 cases v with
 | false=>exact ⟨false,rfl,fun h=>by cases h⟩
 | true=>
  simp only [cond_true]
  by_cases k1:b.Kind=1
  ·exact ⟨true,by simp [k1],fun _=>.inl k1⟩
  have q1:(b.Kind == 1)=false:=by rw [int_beq];exact decide_eq_false k1
  by_cases k2:b.Kind=2
  ·have t2:(b.Kind == 2)=true:=by simp [k2]
   simp only [q1,t2,cond_false,cond_true,Option.bind_some]
   exact ⟨_,rfl,fun _=>.inr k2⟩
  have q2:(b.Kind == 2)=false:=by rw [int_beq];exact decide_eq_false k2
  exact ⟨false,by simp [q1,q2],fun h=>by cases h⟩
theorem cat_sz (a b:ByteArray):(a ++ b).size=a.size+b.size:=by rw [ba_size,ba_list,List.length_append,← ba_size,← ba_size]
theorem line_text (p:TProject)(l:TLine)(hp:bTProject 1048576 p):∃ s,s_FormatLine p l=some s∧i_FormatLine p l=some s∧s.size≤2000000000:=by
 obtain ⟨v,hv,hv2⟩:=LineOk_ok p l hp
 obtain ⟨u,hu,_⟩:=s_ProjectOk_ok p (names_of hp (by omega))
 simp only [s_FormatLine,i_FormatLine,LineOk_eq,ProjectOk_eq,hv,hu,Option.bind_some]
 cases v with
 | false=>cases u <;> exact ⟨ByteArray.empty,rfl,rfl,by decide⟩
 | true=>
  cases u with
  | false=>exact ⟨ByteArray.empty,rfl,rfl,by decide⟩
  | true=>
   obtain ⟨c,c1,c2,c3⟩:=clause_sz p l.Clause hp
   simp only [Bool.not_true,cond_false,Option.bind_some,c1,c2]
   by_cases k2:l.Kind=2
   ·have hs:(⟨#[117,110,105,116,32,124,32]⟩:ByteArray).size=7:=rfl
    refine ⟨(⟨#[117,110,105,116,32,124,32]⟩:ByteArray) ++ c,?_,?_,by rw [cat_sz];omega⟩
    ·rw [k2,beq_self_eq_true,cond_true,catS_ok (by omega),Option.bind_some]
    rw [k2,beq_self_eq_true,cond_true,catS_ok (by omega),Option.bind_some]
   have q2:(l.Kind == 2)=false:=by rw [int_beq];exact decide_eq_false k2
   rw [q2,cond_false,cond_false]
   obtain ⟨w,hw,_⟩:=s_RuleOk_ok p (names_of hp (by omega)) l.Rule
   have s1:(⟨#[114,117,108,101,32]⟩:ByteArray).size=5:=rfl
   have s2:(⟨#[32,124,32]⟩:ByteArray).size=3:=rfl
   have fin:∀ t:ByteArray,t.size≤620000000→∃ s,((catS (⟨#[114,117,108,101,32]⟩:ByteArray) t).bind fun v19=>(catS v19 (⟨#[32,124,32]⟩:ByteArray)).bind fun v20=>(catS v20 c).bind fun v21=>some v21)=some s∧s.size≤2000000000:=fun t ht=>by
    have z1:=cat_sz (⟨#[114,117,108,101,32]⟩:ByteArray) t
    have z2:=cat_sz ((⟨#[114,117,108,101,32]⟩:ByteArray) ++ t) (⟨#[32,124,32]⟩:ByteArray)
    have z3:=cat_sz ((⟨#[114,117,108,101,32]⟩:ByteArray) ++ t ++ (⟨#[32,124,32]⟩:ByteArray)) c
    exact ⟨_,by rw [catS_ok (by omega),Option.bind_some,catS_ok (by omega),Option.bind_some,catS_ok (by omega),Option.bind_some],by omega⟩
   cases w with
   | true=>
    obtain ⟨t,t1,t2,t3,t4⟩:=rule_text p l.Rule hp hw
    obtain ⟨x,x1,x2,x3⟩:=swap_eq t (by omega)
    have qe:(t == ByteArray.empty)=false:=ba_beq_ne t3
    obtain ⟨s,f1,f2⟩:=fin x (by omega)
    refine ⟨s,?_,?_,f2⟩
    ·rw [t1,Option.bind_some,qe,cond_false,Option.bind_some,x1,Option.bind_some];exact f1
    rw [RuleOk_eq,hw,Option.bind_some,cond_true,t2,Option.bind_some,x2,Option.bind_some,Option.bind_some];exact f1
   | false=>
    have e1:s_FormatRule p l.Rule=some ByteArray.empty:=by simp only [s_FormatRule,hw,Option.bind_some,Bool.not_false,cond_true]
    have e2:s_RuleName 0=some ⟨#[110,111,110,101]⟩:=rfl
    obtain ⟨x,x1,x2,x3⟩:=swap_eq ⟨#[110,111,110,101]⟩ (by decide)
    have x4:x=⟨#[110,111,110,101]⟩:=by
     have h5:replL ⟨#[110,111,110,101]⟩ ⟨#[32]⟩ ⟨#[44]⟩=some x:=x2
     unfold replL at h5
     split at h5
     ·rw [← Option.some.inj h5]
      apply ba_ext
      show Lib.replaceAll [110,111,110,101] [32] [44]=_
      rw [replAll 32 44 _ (by decide)]
      rfl
     cases h5
    obtain ⟨s,f1,f2⟩:=fin ⟨#[110,111,110,101]⟩ (by decide)
    refine ⟨s,?_,?_,f2⟩
    ·rw [e1,Option.bind_some,show (ByteArray.empty == ByteArray.empty)=true by rw [ba_beq];rfl,cond_true,e2,Option.bind_some,Option.bind_some,x1,Option.bind_some,x4];exact f1
    rw [RuleOk_eq,hw,Option.bind_some,cond_false,Option.bind_some];exact f1
theorem idxS_list (s:ByteArray)(i:Nat):idxS s (i:Int)=((sl s)[i]?).map fun u=>(u.toNat:Int):=by
 unfold idxS
 rw [if_pos (by omega),Int.toNat_natCast]
 congr 1
 by_cases h:i<s.size
 ·rw [getElem?_pos s i h,List.getElem?_eq_getElem (by rw [← ba_size];exact h)]
  simp [ByteArray.getElem_eq_getElem_data]
 rw [getElem?_neg s i h,List.getElem?_eq_none (by rw [← ba_size];omega)]
theorem ext_list (s:ByteArray)(i j:Nat):sl (s.extract i j)=((sl s).drop i).take (j - i):=by
 simp [sl,ByteArray.data_extract]
theorem subS_ok (s:ByteArray){i j:Nat}(h1:i≤j)(h2:j≤s.size):∃ e,subS s (i:Int) (j:Int)=some e∧sl e=((sl s).drop i).take (j - i):=by
 refine ⟨s.extract i j,?_,ext_list s i j⟩
 unfold subS
 rw [if_pos ⟨by omega,by omega,by omega⟩,Int.toNat_natCast,Int.toNat_natCast]
theorem byte_back (c:UInt8):((c.toNat:Int).toNat).toUInt8=c:=by
 rw [Int.toNat_natCast]
 simp
theorem ixb_mem (c:UInt8):∀ l:List UInt8,decide (0≤Lib.indexByte l c)=decide (c∈l)
 | []=>by simp [Lib.indexByte]
 | b::l=>by
  have ih:=ixb_mem c l
  have hge:=Lib.indexByte_ge l c
  by_cases h:b=c
  ·subst h
   simp [Lib.indexByte]
  have hb:(b == c)=false:=by simpa using h
  have:(c∈b::l) ↔ c∈l:=by simp [Ne.symm h]
  rw [decide_eq_decide.2 this,← ih]
  have hu:Lib.indexByte (b::l) c=if (b == c)=true then 0 else if (Lib.indexByte l c == -1)=true then -1 else Lib.indexByte l c+1:=rfl
  rw [hu,hb]
  by_cases hm:Lib.indexByte l c = -1
  ·simp [hm]
  have:(Lib.indexByte l c == -1)=false:=by simpa using hm
  simp only [this,Bool.false_eq_true,if_false]
  exact decide_eq_decide.2 ⟨fun _=>by omega,fun _=>by omega⟩
theorem byte_inj {c d:UInt8}(h:(c.toNat:Int)=(d.toNat:Int)):c=d:=by
 apply UInt8.toNat_inj.1
 omega
theorem spl_s2 (s by_:ByteArray)(f i:Int)(a:List ByteArray)(c:UInt8)(hc:idxS s i=some (c.toNat:Int)){e:ByteArray}(he:subS s f i=some e)(ha:appL a [e]=some (a ++ [e]))(hb:by_.size≤1000):∀(fuel z:Nat),by_.size - z<fuel→z≤by_.size →
  s_SplitAny_L2 s by_ f i a fuel (z:Int)=if c∈(sl by_).drop z then some (W (i+1),a ++ [e]) else some (f,a)
 | 0,z,h,_=>absurd h (Nat.not_lt_zero _)
 | fuel+1,z,hf,hz=>by
  rw [s_SplitAny_L2]
  by_cases h:z<by_.size
  ·have hlt:z<(sl by_).length:=by rw [← ba_size];exact h
   rw [decide_eq_true (by omega:(z:Int)<(by_.size:Int)),cond_true,hc,Option.bind_some,idxS_list,List.getElem?_eq_getElem hlt]
   simp only [Option.map_some,Option.bind_some]
   have hd:(sl by_).drop z=(sl by_)[z]::(sl by_).drop (z+1):=(List.getElem_cons_drop hlt).symm
   by_cases hcz:c=(sl by_)[z]
   ·have:((c.toNat:Int) == (((sl by_)[z]).toNat:Int))=true:=by rw [← hcz,int_beq];exact decide_eq_true rfl
    rw [this,cond_true,he,Option.bind_some,ha,Option.bind_some,hd,if_pos (by rw [hcz];exact List.mem_cons_self ..)]
   ·have:((c.toNat:Int) == (((sl by_)[z]).toNat:Int))=false:=by
     rw [int_beq]
     exact decide_eq_false fun e=>hcz (byte_inj e)
    rw [this,cond_false,W_of ⟨by omega,by omega⟩]
    have e1:(z:Int)+1=((z+1:Nat):Int):=by omega
    rw [e1,spl_s2 s by_ f i a c hc he ha hb fuel (z+1) (by omega) (by omega),hd]
    have:(c∈(sl by_)[z]::(sl by_).drop (z+1)) ↔ c∈(sl by_).drop (z+1):=⟨fun h=>(List.mem_cons.1 h).resolve_left hcz,List.mem_cons_of_mem _⟩
    by_cases hm:c∈(sl by_).drop (z+1)
    ·rw [if_pos hm,if_pos (this.2 hm)]
    rw [if_neg hm,if_neg (fun x=>hm (this.1 x))]
  have hzl:(sl by_).drop z=[]:=List.drop_eq_nil_of_le (by rw [← ba_size];omega)
  rw [decide_eq_false (by omega:¬ (z:Int)<(by_.size:Int)),cond_false,hzl,if_neg (by simp)]
theorem spl_L1 (s by_:ByteArray)(hs:s.size≤3000000)(hb:by_.size≤1000):∀(fuel i f:Nat)(a:List ByteArray),s.size - i<fuel→f≤i→i≤s.size→a.length+(s.size - i)≤10000000 →
  ∃ (f':Nat) (a':List ByteArray),i_SplitAny_L1 s by_ fuel (f:Int) (i:Int) a=some ((f':Int),a')∧s_SplitAny_L1 s by_ fuel (f:Int) (i:Int) a=some ((f':Int),a')∧f'≤s.size∧a'.length≤a.length+(s.size - i)∧(∀ x∈a',x∈a∨x.size≤s.size) ∧
   a'.map sl ++ [(sl s).drop f']=a.map sl ++ (((sl s).drop f).take (i - f) ++ (splitP (fun c=>decide (c∈sl by_)) ((sl s).drop i)).1)::(splitP (fun c=>decide (c∈sl by_)) ((sl s).drop i)).2
 | 0,i,f,a,h,_,_,_=>absurd h (Nat.not_lt_zero _)
 | fuel+1,i,f,a,hf,hfi,hi,hl=>by
  rw [i_SplitAny_L1,s_SplitAny_L1]
  have hsl:(sl s).length=s.size:=(ba_size s).symm
  by_cases h:i<s.size
  ·have hlt:i<(sl s).length:=by omega
   rw [decide_eq_true (by omega:(i:Int)<(s.size:Int)),cond_true,cond_true]
   have hc:idxS s (i:Int)=some ((sl s)[i].toNat:Int):=by rw [idxS_list,List.getElem?_eq_getElem hlt];rfl
   obtain ⟨e,he,hel⟩:=subS_ok s hfi hi
   have ha:appL a [e]=some (a ++ [e]):=appL_ok' (by simp;omega)
   have hes:e.size≤s.size:=by rw [ba_size e,show e.data.toList=sl e from rfl,hel];simp;omega
   have hd:(sl s).drop i=(sl s)[i]::(sl s).drop (i+1):=(List.getElem_cons_drop hlt).symm
   have e1:(i:Int)+1=((i+1:Nat):Int):=by omega
   rw [hc,Option.bind_some]
   have hix:strings_IndexByte by_ ((sl s)[i].toNat:Int)=some (Lib.indexByte (sl by_) (sl s)[i]):=by
    show some (Lib.indexByte by_.data.toList _)=_
    rw [byte_back]
   have hs2:=spl_s2 s by_ (f:Int) (i:Int) a _ hc he ha hb F0 0 (by have:=F0_gt;omega) (by omega)
   rw [List.drop_zero,show ((0:Nat):Int)=0 from rfl] at hs2
   rw [hix,Option.bind_some,ixb_mem,hs2]
   by_cases hm:(sl s)[i]∈sl by_
   ·rw [decide_eq_true hm,cond_true,he,Option.bind_some,ha,Option.bind_some,if_pos hm,Option.bind_some,W_of ⟨by omega,by omega⟩,e1]
    obtain ⟨f',a',k1,k2,k3,k4,k5,k6⟩:=spl_L1 s by_ hs hb fuel (i+1) (i+1) (a ++ [e]) (by omega) (Nat.le_refl _) (by omega) (by simp;omega)
    refine ⟨f',a',k1,k2,k3,by simp at k4;omega,fun x hx=>?_,?_⟩
    ·rcases k5 x hx with hx | hx
     ·rcases List.mem_append.1 hx with hx | hx
      ·exact .inl hx
      simp at hx;rw [hx];exact .inr hes
     exact .inr hx
    rw [k6,hd]
    simp only [splitP,decide_eq_true hm,if_true,Nat.sub_self,List.take_zero,List.nil_append,List.append_nil,List.map_append,List.map_cons,List.map_nil,hel]
    simp
   rw [decide_eq_false hm,cond_false,if_neg hm,Option.bind_some,W_of ⟨by omega,by omega⟩,e1]
   obtain ⟨f',a',k1,k2,k3,k4,k5,k6⟩:=spl_L1 s by_ hs hb fuel (i+1) f a (by omega) (by omega) (by omega) (by omega)
   refine ⟨f',a',k1,k2,k3,by omega,k5,?_⟩
   rw [k6,hd]
   have ht:((sl s).drop f).take (i+1 - f)=((sl s).drop f).take (i - f) ++ [(sl s)[i]]:=by
    have hlt2:i - f<((sl s).drop f).length:=by simp;omega
    rw [show i+1 - f=(i - f)+1 by omega,List.take_succ_eq_append_getElem hlt2]
    congr 2
    simp only [List.getElem_drop]
    congr 1
    omega
   simp only [splitP,decide_eq_false hm,Bool.false_eq_true,if_false,ht]
   simp
  have hie:i=s.size:=by omega
  rw [decide_eq_false (by omega:¬ (i:Int)<(s.size:Int)),cond_false,cond_false]
  refine ⟨f,a,rfl,rfl,by omega,by omega,fun x hx=>.inl hx,?_⟩
  rw [hie,List.drop_eq_nil_of_le (as:=sl s) (i:=s.size) (by omega)]
  simp only [splitP,List.append_nil]
  rw [List.take_of_length_le (by simp)]
theorem split_eq (s by_:ByteArray)(hs:s.size≤3000000)(hb:by_.size≤1000):∃ V,i_SplitAny s by_=some V∧s_SplitAny s by_=some V∧V.length≤s.size+1∧(∀ x∈V,x.size≤s.size)∧V.map sl=(splitP (fun c=>decide (c∈sl by_)) (sl s)).1::(splitP (fun c=>decide (c∈sl by_)) (sl s)).2:=by
 obtain ⟨f',a',k1,k2,k3,k4,k5,k6⟩:=spl_L1 s by_ hs hb F0 0 0 [] (by have:=F0_gt;omega) (Nat.le_refl _) (by omega) (by simp;omega)
 obtain ⟨e,he,hel⟩:=subS_ok s k3 (Nat.le_refl _)
 have ha:appL a' [e]=some (a' ++ [e]):=appL_ok' (by simp at k4 ⊢;omega)
 have hsl:(sl s).length=s.size:=(ba_size s).symm
 have hee:sl e=(sl s).drop f':=by rw [hel,List.take_of_length_le (by simp)]
 refine ⟨a' ++ [e],?_,?_,by simp at k4 ⊢;omega,fun x hx=>?_,?_⟩
 ·show Option.bind (i_SplitAny_L1 s by_ F0 ((0:Nat):Int) ((0:Nat):Int) []) _=_
  rw [k1,Option.bind_some,he,Option.bind_some,ha,Option.bind_some]
 ·show Option.bind (s_SplitAny_L1 s by_ F0 ((0:Nat):Int) ((0:Nat):Int) []) _=_
  rw [k2,Option.bind_some,he,Option.bind_some,ha,Option.bind_some]
 ·rcases List.mem_append.1 hx with hx | hx
  ·rcases k5 x hx with h | h
   ·cases h
   exact h
  simp at hx
  rw [hx,ba_size e,show e.data.toList=sl e from rfl,hee]
  simp
 rw [List.map_append,List.map_cons,List.map_nil,hee,k6]
 simp
theorem splitP_free (p:UInt8→Bool):∀(l r:List UInt8),(∀ c∈l,p c=false)→splitP p (l ++ r)=(l ++ (splitP p r).1,(splitP p r).2)
 | [],r,_=>rfl
 | c::l,r,h=>by
  have hc:=h c (List.mem_cons_self ..)
  rw [List.cons_append,splitP,hc,splitP_free p l r (fun x hx=>h x (List.mem_cons_of_mem _ hx))]
  simp
theorem digits_ok:∀(u:Nat),∀ c∈Lib.decDigits u,48≤c.toNat∧c.toNat≤57:=by
 intro u
 induction u using Nat.strongRecOn with
 | _ u ih=>
  intro c hc
  rw [Lib.decDigits] at hc
  split at hc
  ·rename_i h
   rw [List.mem_singleton] at hc
   subst hc
   have:(UInt8.ofNat (48+u)).toNat=48+u:=by simp;omega
   omega
  rename_i h
  rcases List.mem_append.1 hc with hc | hc
  ·exact ih (u / 10) (by omega) c hc
  rw [List.mem_singleton] at hc
  subst hc
  have:(UInt8.ofNat (48+u % 10)).toNat=48+u % 10:=by simp;omega
  omega
theorem valN_dec:∀ u:Nat,valN 0 (Lib.decDigits u)=u:=by
 intro u
 induction u using Nat.strongRecOn with
 | _ u ih=>
  rw [Lib.decDigits]
  split
  ·rename_i h
   have:(UInt8.ofNat (48+u)).toNat=48+u:=by simp;omega
   simp only [valN,List.foldl_cons,List.foldl_nil,this]
   omega
  rename_i h
  have h1:=ih (u / 10) (by omega)
  have:(UInt8.ofNat (48+u % 10)).toNat=48+u % 10:=by simp;omega
  unfold valN at h1 ⊢
  rw [List.foldl_append,h1]
  simp only [List.foldl_cons,List.foldl_nil,this]
  omega
theorem dec_len:∀(k u:Nat),1≤k→u<10 ^ k→(Lib.decDigits u).length≤k
 | 0,_,h,_=>absurd h (by omega)
 | k+1,u,_,h=>by
  rw [Lib.decDigits]
  split
  ·simp
  rename_i h1
  by_cases hk:k=0
  ·subst hk;simp at h;omega
  have:=dec_len k (u / 10) (by omega) (by rw [Nat.pow_succ] at h;omega)
  simp;omega
theorem dec_pos (u:Nat):1≤(Lib.decDigits u).length:=by
 rw [Lib.decDigits]
 split <;> simp
theorem parse_dec:∀(l:List UInt8)(a k:Nat),a<10 ^ k→k+l.length≤15→(∀ c∈l,48≤c.toNat∧c.toNat≤57)→Lib.parseUint10 a l=.ok (valN a l)
 | [],a,k,_,_,_=>rfl
 | c::l,a,k,ha,hk,hd=>by
  have hc:=hd c (List.mem_cons_self ..)
  simp only [List.length_cons] at hk
  have hp:10 ^ (k+1)≤10 ^ 15:=Nat.pow_le_pow_right (by omega) (by omega)
  have hp2:10 ^ (k+1)=10 ^ k*10:=Nat.pow_succ ..
  have h15:(10:Nat) ^ 15=1000000000000000:=by decide
  rw [Lib.parseUint10,if_pos hc,if_neg (by omega),if_neg (by omega)]
  rw [parse_dec l (a*10+(c.toNat - 48)) (k+1) (by omega) (by omega) (fun x hx=>hd x (List.mem_cons_of_mem _ hx))]
  rfl
theorem mag_dec (u:Nat)(h:u≤100000):Lib.parseMag (Lib.decDigits u)=.ok u:=by
 have hp:=dec_pos u
 have hl:=dec_len 6 u (by omega) (by omega)
 unfold Lib.parseMag
 rw [if_neg (by intro e;rw [e] at hp;simp at hp),parse_dec _ 0 0 (by simp) (by omega) (digits_ok u),valN_dec]
theorem dec_head (u:Nat):∃ c r,Lib.decDigits u=c::r∧48≤c.toNat∧c.toNat≤57:=by
 have hp:=dec_pos u
 cases hd:Lib.decDigits u with
 | nil=>rw [hd] at hp;simp at hp
 | cons c r=>exact ⟨c,r,rfl,digits_ok u c (by rw [hd];exact List.mem_cons_self ..)⟩
theorem atoi_itoa (n:Int)(h0:-100000≤n)(h1:n≤100000):Lib.atoiAll (Lib.itoa n)=.ok n:=by
 unfold Lib.itoa
 by_cases hn:n<0
 ·rw [if_pos hn]
  have hm:=mag_dec n.natAbs (by omega)
  have e45:(45:UInt8).toNat=45:=rfl
  have e:Lib.atoiAll (45::Lib.decDigits n.natAbs)=(match Lib.parseMag (if (45:UInt8).toNat=43∨(45:UInt8).toNat=45 then Lib.decDigits n.natAbs else 45::Lib.decDigits n.natAbs) with
   | Go.Lib.NumEnd.syntax=>Go.Lib.NumEnd.syntax
   | .range=>.range
   | .ok u=>if ¬ (45:UInt8).toNat=45∧9223372036854775808≤u then .range else if (45:UInt8).toNat=45∧9223372036854775808<u then .range else .ok (if (45:UInt8).toNat=45 then -(u:Int) else u)):=rfl
  rw [e,if_pos (.inr e45),hm]
  simp only []
  rw [if_neg (by omega),if_neg (by omega),if_pos e45]
  congr 1
  omega
 rw [if_neg hn]
 have hm:=mag_dec n.toNat (by omega)
 obtain ⟨c,r,hd,hc⟩:=dec_head n.toNat
 rw [hd] at hm ⊢
 have e1:¬ (c.toNat=43∨c.toNat=45):=by omega
 have e2:¬ c.toNat=45:=by omega
 have e:Lib.atoiAll (c::r)=(match Lib.parseMag (if c.toNat=43∨c.toNat=45 then r else c::r) with
  | Go.Lib.NumEnd.syntax=>Go.Lib.NumEnd.syntax
  | .range=>.range
  | .ok u=>if ¬ c.toNat=45∧9223372036854775808≤u then .range else if c.toNat=45∧9223372036854775808<u then .range else .ok (if c.toNat=45 then -(u:Int) else u)):=rfl
 rw [e,if_neg e1,hm]
 simp only []
 rw [if_neg (by omega),if_neg (by omega),if_neg e2]
 congr 1
 omega
theorem itoa_inj {n m:Int}(h0:-100000≤n)(h1:n≤100000)(h2:-100000≤m)(h3:m≤100000)(h:Lib.itoa n=Lib.itoa m):n=m:=by
 have a:=atoi_itoa n h0 h1
 rw [h,atoi_itoa m h2 h3] at a
 exact (Lib.NumEnd.ok.inj a).symm
theorem fmt_str (n:Int)(h0:-100000≤n)(h1:n≤100000):s_FormatInt n=some ⟨(Lib.itoa n).toArray⟩∧i_FormatInt n=some ⟨(Lib.itoa n).toArray⟩:=by
 have hin:inR n (-100000) 100000=true:=inR_iff.2 ⟨by omega,h1⟩
 have hi:i_FormatInt n=some ⟨(Lib.itoa n).toArray⟩:=by
  simp only [i_FormatInt,i_within_eq,hin,strconv_Itoa,itoaL,Option.bind_some,Bool.not_true,cond_false]
  rw [if_pos ⟨by omega,by omega⟩,Option.bind_some]
 obtain ⟨s,s1,s2,_⟩:=fmt_eq n h0 h1
 exact ⟨by rw [s1,← s2,hi],hi⟩
theorem fmt_out (n:Int)(h:¬ (-100000≤n∧n≤100000)):s_FormatInt n=some ByteArray.empty∧i_FormatInt n=some ByteArray.empty:=by
 have hin:inR n (-100000) 100000=false:=by
  cases hq:inR n (-100000) 100000 with
  | false=>rfl
  | true=>exact absurd (inR_iff.1 hq) h
 obtain ⟨k,hk⟩:=F0_two
 refine ⟨?_,?_⟩
 ·unfold s_FormatInt
  rw [hk]
  show s_FormatInt_S (s_FormatInt_R (k+1)) n=_
  simp only [s_FormatInt_S,s_l01In_eq,hin,Option.bind_some,Bool.not_false,cond_true]
 simp only [i_FormatInt,i_within_eq,hin,Option.bind_some,Bool.not_false,cond_true]
theorem itoa_ne (n:Int):Lib.itoa n≠[]:=by
 unfold Lib.itoa
 split
 ·simp
 have:=dec_pos n.toNat
 intro e;rw [e] at this;simp at this
theorem isNum_ne {s:ByteArray}{n:Int}(h:isNum s n):(s == ByteArray.empty)=false:=by
 apply ba_beq_ne
 rintro rfl
 exact itoa_ne n h.2.2.symm
theorem fmt_back (s:ByteArray)(hs:(s == ByteArray.empty)=false)(v:Int):∃ t,s_FormatInt v=some t∧i_FormatInt v=some t∧((t != s)=false→isNum s v)∧(isNum s v→(t != s)=false):=by
 by_cases hv:-100000≤v∧v≤100000
 ·obtain ⟨h1,h2⟩:=fmt_str v hv.1 hv.2
  refine ⟨_,h1,h2,fun h=>⟨hv.1,hv.2,?_⟩,fun h=>?_⟩
  ·rw [ba_bne] at h
   have:(⟨(Lib.itoa v).toArray⟩:ByteArray)=s:=by simpa using h
   rw [← this]
  rw [ba_bne]
  have:(⟨(Lib.itoa v).toArray⟩:ByteArray)=s:=ba_ext (by rw [show s.data.toList=sl s from rfl,h.2.2])
  rw [this];simp
 obtain ⟨h1,h2⟩:=fmt_out v hv
 refine ⟨_,h1,h2,fun h=>?_,fun h=>absurd ⟨h.1,h.2.1⟩ hv⟩
 rw [ba_bne] at h
 have:ByteArray.empty=s:=by simpa using h
 rw [← this,ba_beq] at hs
 simp at hs
theorem pint_i (s:ByteArray)(hs:s.size≤3000000):∃ r,i_ParseInt s=some r∧(∀ n,isNum s n→r=(n,true))∧((∀ n,¬ isNum s n)→r=(0,false)):=by
 have ha:strconv_Atoi s=some (atoiV (sl s)):=by
  show atoiL s=_
  unfold atoiL
  rw [if_pos (by omega)]
 simp only [i_ParseInt,ha,Option.bind_some]
 cases he:(s == ByteArray.empty) with
 | true=>
  have hno:∀ n,¬ isNum s n:=fun n h=>by rw [isNum_ne h] at he;cases he
  refine ⟨(0,false),?_,fun n h=>absurd h (hno n),fun _=>rfl⟩
  cases (atoiV (sl s)).2 <;> rfl
 | false=>
  obtain ⟨t,t1,t2,t3,t4⟩:=fmt_back s he (atoiV (sl s)).1
  simp only [t2,Option.bind_some,cond_false]
  by_cases hx:∃ n,isNum s n
  ·obtain ⟨n,hn⟩:=hx
   have hv:atoiV (sl s)=(n,false):=by
    unfold atoiV
    rw [hn.2.2,atoi_itoa n hn.1 hn.2.1]
   rw [hv] at t4 ⊢
   refine ⟨(n,true),?_,fun m hm=>?_,fun h=>absurd hn (h n)⟩
   ·simp only [cond_false,Option.bind_some,t4 hn]
   rw [itoa_inj hn.1 hn.2.1 hm.1 hm.2.1 (by rw [← hn.2.2,hm.2.2])]
  have hno:∀ n,¬ isNum s n:=fun n h=>hx ⟨n,h⟩
  refine ⟨(0,false),?_,fun n h=>absurd h (hno n),fun _=>rfl⟩
  have hb:(t != s)=true:=by
   cases hq:(t != s) with
   | true=>rfl
   | false=>exact absurd (t3 hq) (hno _)
  cases (atoiV (sl s)).2 <;> simp only [cond_false,cond_true,Option.bind_some,hb]
theorem wrap_byte (c:UInt8):IntKind.i64.wrap (c.toNat:Int)=(c.toNat:Int):=by
 have:=c.toNat_lt
 rw [IntKind.wrap_i64]
 omega
theorem pint_tot (s:ByteArray)(e1:Bool)(hs:s.size≤3000000):∀(fuel i:Nat)(a:Int),s.size - i<fuel→i≤s.size→s_ParseInt_L1 s e1 fuel a (i:Int)=some (.inr (0,false))∨∃ m,s_ParseInt_L1 s e1 fuel a (i:Int)=some (.inl m)
 | 0,i,a,h,_=>absurd h (Nat.not_lt_zero _)
 | fuel+1,i,a,hf,hi=>by
  rw [s_ParseInt_L1]
  have hsl:(sl s).length=s.size:=(ba_size s).symm
  by_cases h:i<s.size
  ·have hlt:i<(sl s).length:=by omega
   rw [decide_eq_true (by omega:(i:Int)<(s.size:Int)),cond_true,idxS_list,List.getElem?_eq_getElem hlt]
   simp only [Option.map_some,Option.bind_some]
   rw [W_of (n:=(i:Int)+1) ⟨by omega,by omega⟩,show (i:Int)+1=((i+1:Nat):Int) by omega]
   cases hz:((i:Int) == 0) <;> simp only [cond_true,cond_false,Option.bind_some]
   ·cases decide (W (IntKind.i64.wrap ((sl s)[i].toNat:Int) - 48)<0) <;> cases decide (9<W (IntKind.i64.wrap ((sl s)[i].toNat:Int) - 48)) <;> cases decide (8<(s.size:Int)) <;> simp only [cond_true,cond_false,Option.bind_some] <;> first | exact .inl trivial | exact .inl rfl | exact pint_tot s e1 hs fuel (i+1) _ (by omega) (by omega)
   cases e1 <;> simp only [cond_true,cond_false,Option.bind_some]
   ·cases decide (W (IntKind.i64.wrap ((sl s)[i].toNat:Int) - 48)<0) <;> cases decide (9<W (IntKind.i64.wrap ((sl s)[i].toNat:Int) - 48)) <;> cases decide (8<(s.size:Int)) <;> simp only [cond_true,cond_false,Option.bind_some] <;> first | exact .inl trivial | exact .inl rfl | exact pint_tot s false hs fuel (i+1) _ (by omega) (by omega)
   exact pint_tot s true hs fuel (i+1) _ (by omega) (by omega)
  rw [decide_eq_false (by omega:¬ (i:Int)<(s.size:Int)),cond_false]
  exact .inr ⟨a,rfl⟩
theorem pint_dig (s:ByteArray)(e1:Bool)(hs:s.size≤8):∀(fuel i a:Nat),s.size - i<fuel→i≤s.size→a<10 ^ i→(e1=false∨1≤i)→(∀ c∈(sl s).drop i,48≤c.toNat∧c.toNat≤57)→s_ParseInt_L1 s e1 fuel (a:Int) (i:Int)=some (.inl (valN a ((sl s).drop i):Int))
 | 0,i,a,h,_,_,_,_=>absurd h (Nat.not_lt_zero _)
 | fuel+1,i,a,hf,hi,ha,he,hd=>by
  rw [s_ParseInt_L1]
  have hsl:(sl s).length=s.size:=(ba_size s).symm
  by_cases h:i<s.size
  ·have hlt:i<(sl s).length:=by omega
   have hdr:(sl s).drop i=(sl s)[i]::(sl s).drop (i+1):=(List.getElem_cons_drop hlt).symm
   have hc:=hd (sl s)[i] (by rw [hdr];exact List.mem_cons_self ..)
   have hp:10 ^ i≤10 ^ 8:=Nat.pow_le_pow_right (by omega) (by omega)
   have h8:(10:Nat) ^ 8=100000000:=by decide
   have hp2:10 ^ (i+1)=10 ^ i*10:=Nat.pow_succ ..
   rw [decide_eq_true (by omega:(i:Int)<(s.size:Int)),cond_true,idxS_list,List.getElem?_eq_getElem hlt]
   simp only [Option.map_some,Option.bind_some,wrap_byte]
   have hskip:(bif ((i:Int) == 0) then some e1 else some false)=some false:=by
    rcases he with rfl | he
    ·cases ((i:Int) == 0) <;> rfl
    have:((i:Int) == 0)=false:=by rw [int_beq];exact decide_eq_false (by omega)
    rw [this];rfl
   rw [hskip,Option.bind_some,cond_false]
   have w1:W (((sl s)[i].toNat:Int) - 48)=((sl s)[i].toNat:Int) - 48:=W_of ⟨by omega,by omega⟩
   have w2:W ((a:Int)*10)=(a:Int)*10:=W_of ⟨by omega,by omega⟩
   have w3:W ((a:Int)*10+(((sl s)[i].toNat:Int) - 48))=((a*10+((sl s)[i].toNat - 48):Nat):Int):=by rw [W_of ⟨by omega,by omega⟩];omega
   have w4:W ((i:Int)+1)=((i+1:Nat):Int):=by rw [W_of ⟨by omega,by omega⟩];omega
   rw [w1,w2,w3,w4,decide_eq_false (by omega:¬ ((sl s)[i].toNat:Int) - 48<0),decide_eq_false (by omega:¬ (9:Int)<((sl s)[i].toNat:Int) - 48),decide_eq_false (by omega:¬ (8:Int)<(s.size:Int))]
   simp only [cond_false,Option.bind_some]
   rw [pint_dig s e1 hs fuel (i+1) (a*10+((sl s)[i].toNat - 48)) (by omega) (by omega) (by omega) (.inr (by omega)) (fun c hc=>hd c (by rw [hdr];exact List.mem_cons_of_mem _ hc)),hdr]
   rfl
  rw [decide_eq_false (by omega:¬ (i:Int)<(s.size:Int)),cond_false,List.drop_eq_nil_of_le (by omega)]
  rfl
theorem pint_s (s:ByteArray)(hs:s.size≤3000000):∃ r,s_ParseInt s=some r∧(∀ n,isNum s n→r=(n,true))∧((∀ n,¬ isNum s n)→r=(0,false)):=by
 have hsl:(sl s).length=s.size:=(ba_size s).symm
 have hF:=F0_gt
 by_cases hx:∃ n,isNum s n
 ·obtain ⟨n,hn⟩:=hx
  have b0:=hn.1
  have b1:=hn.2.1
  have he:=isNum_ne hn
  obtain ⟨t,t1,t2,t3,t4⟩:=fmt_back s he n
  refine ⟨(n,true),?_,fun m hm=>?_,fun h=>absurd hn (h n)⟩
  ·by_cases hneg:n<0
   ·have hd:sl s=45::Lib.decDigits n.natAbs:=by rw [hn.2.2,Lib.itoa,if_pos hneg]
    have hl:=dec_len 6 n.natAbs (by omega) (by omega)
    have hlen:s.size=1+(Lib.decDigits n.natAbs).length:=by rw [← hsl,hd];simp;omega
    have h0:idxS s 0=some 45:=by
     show idxS s ((0:Nat):Int)=_
     rw [idxS_list,hd];rfl
    obtain ⟨k,hk⟩:∃ k,F0=k+1:=⟨F0 - 1,by omega⟩
    have hL:s_ParseInt_L1 s true F0 0 0=some (.inl (n.natAbs:Int)):=by
     rw [hk,s_ParseInt_L1,decide_eq_true (by omega:(0:Int)<(s.size:Int)),cond_true,h0]
     simp only [Option.bind_some,show ((0:Int) == 0)=true from rfl,cond_true]
     rw [W_of ⟨by omega,by omega⟩]
     have h1:=pint_dig s true (by omega) k 1 0 (by omega) (by omega) (by decide) (.inr (Nat.le_refl _)) (fun c hc=>by
      rw [hd] at hc
      exact digits_ok _ c (by simpa using hc))
     rw [hd] at h1
     simp only [List.drop_succ_cons,List.drop_zero,valN_dec] at h1
     exact h1
    simp only [s_ParseInt]
    rw [decide_eq_true (by omega:(0:Int)<(s.size:Int)),cond_true,h0]
    simp only [Option.bind_some,show ((45:Int) == 45)=true from rfl,hL,sumBind,Sum.elim_inl,cond_true,he,cond_false]
    have hw:W (0 - (n.natAbs:Int))=n:=by rw [W_of ⟨by omega,by omega⟩];omega
    rw [hw,t1]
    simp only [Option.bind_some,t4 hn,cond_false]
   have hd:sl s=Lib.decDigits n.toNat:=by rw [hn.2.2,Lib.itoa,if_neg hneg]
   have hl:=dec_len 6 n.toNat (by omega) (by have:=hn.2.1;omega)
   have hlen:s.size=(Lib.decDigits n.toNat).length:=by rw [← hsl,hd]
   obtain ⟨c,r,hcr,hc⟩:=dec_head n.toNat
   have h0:idxS s 0=some (c.toNat:Int):=by
    show idxS s ((0:Nat):Int)=_
    rw [idxS_list,hd,hcr];rfl
   have hp:=dec_pos n.toNat
   have hne:((c.toNat:Int) == 45)=false:=by rw [int_beq];exact decide_eq_false (by omega)
   have hL:s_ParseInt_L1 s false F0 0 0=some (.inl n):=by
    have h1:=pint_dig s false (by omega) F0 0 0 (by omega) (by omega) (by decide) (.inl rfl) (fun c hc=>by
     rw [hd] at hc
     exact digits_ok _ c (by simpa using hc))
    rw [hd,List.drop_zero,valN_dec] at h1
    have:((n.toNat:Nat):Int)=n:=by omega
    rw [this] at h1
    exact h1
   simp only [s_ParseInt]
   rw [decide_eq_true (by omega:(0:Int)<(s.size:Int)),cond_true,h0]
   simp only [Option.bind_some,hne,hL,sumBind,Sum.elim_inl,cond_false,he,t1,t4 hn]
  rw [itoa_inj hn.1 hn.2.1 hm.1 hm.2.1 (by rw [← hn.2.2,hm.2.2])]
 have hno:∀ n,¬ isNum s n:=fun n h=>hx ⟨n,h⟩
 refine ⟨(0,false),?_,fun n h=>absurd h (hno n),fun _=>rfl⟩
 obtain ⟨e1,he1⟩:∃ e1,(bif (decide (0<(s.size:Int))) then (idxS s 0).bind fun v3=>some (v3 == 45) else some false)=some e1:=by
  by_cases h:(0:Int)<(s.size:Int)
  ·have h0:idxS s 0=some ((sl s)[0]'(by omega)).toNat:=by
    show idxS s ((0:Nat):Int)=_
    rw [idxS_list,List.getElem?_eq_getElem (by omega)];rfl
   rw [decide_eq_true h,cond_true,h0]
   exact ⟨_,rfl⟩
  rw [decide_eq_false h];exact ⟨_,rfl⟩
 simp only [s_ParseInt,he1,Option.bind_some]
 rcases pint_tot s e1 hs F0 0 0 (by omega) (by omega) with h | ⟨m,h⟩
 ·have h':s_ParseInt_L1 s e1 F0 0 0=some (.inr (0,false)):=h
  simp only [h',sumBind,Option.bind_some,Sum.elim_inr]
 have h':s_ParseInt_L1 s e1 F0 0 0=some (.inl m):=h
 simp only [h',sumBind,Option.bind_some,Sum.elim_inl]
 obtain ⟨p,hp⟩:∃ p,(bif e1 then some (W (0 - m)) else some m)=some p:=by cases e1 <;> exact ⟨_,rfl⟩
 rw [hp,Option.bind_some]
 cases he:(s == ByteArray.empty) with
 | true=>rfl
 | false=>
  obtain ⟨t,t1,t2,t3,t4⟩:=fmt_back s he p
  have hb:(t != s)=true:=by
   cases hq:(t != s) with
   | true=>rfl
   | false=>exact absurd (t3 hq) (hno _)
  simp only [cond_false,t1,Option.bind_some,hb,cond_true]
theorem pint_eq (s:ByteArray)(hs:s.size≤3000000):∃ r,s_ParseInt s=some r∧i_ParseInt s=some r∧(∀ n,isNum s n→r=(n,true))∧((∀ n,¬ isNum s n)→r=(0,false)):=by
 obtain ⟨r,h1,h2,h3⟩:=pint_s s hs
 obtain ⟨q,k1,k2,k3⟩:=pint_i s hs
 refine ⟨r,h1,?_,h2,h3⟩
 rw [k1]
 by_cases hx:∃ n,isNum s n
 ·obtain ⟨n,hn⟩:=hx
  rw [h2 n hn,k2 n hn]
 have hno:∀ n,¬ isNum s n:=fun n h=>hx ⟨n,h⟩
 rw [h3 hno,k3 hno]
theorem name_L1 (s:ByteArray)(hs:s.size≤3000000):∀(fuel i:Nat),s.size - i<fuel→i≤s.size→s_IsName_L1 s fuel (i:Int)=some (.inl ())→∀ c∈(sl s).drop i,isAl c=true
 | 0,i,h,_,_=>absurd h (Nat.not_lt_zero _)
 | fuel+1,i,hf,hi,h=>by
  rw [s_IsName_L1] at h
  have hsl:(sl s).length=s.size:=(ba_size s).symm
  by_cases hlt':i<s.size
  ·have hlt:i<(sl s).length:=by omega
   have hdr:(sl s).drop i=(sl s)[i]::(sl s).drop (i+1):=(List.getElem_cons_drop hlt).symm
   rw [decide_eq_true (by omega:(i:Int)<(s.size:Int)),cond_true,idxS_list,List.getElem?_eq_getElem hlt] at h
   simp only [Option.map_some,Option.bind_some] at h
   rw [W_of (n:=(i:Int)+1) ⟨by omega,by omega⟩,show (i:Int)+1=((i+1:Nat):Int) by omega] at h
   have key:isAl (sl s)[i]=true∧s_IsName_L1 s fuel ((i+1:Nat):Int)=some (.inl ()):=by
    by_cases h1:97≤(sl s)[i].toNat
    ·rw [decide_eq_true (by omega:(97:Int)≤((sl s)[i].toNat:Int)),cond_true] at h
     by_cases h2:(sl s)[i].toNat≤122
     ·rw [decide_eq_true (by omega:((sl s)[i].toNat:Int)≤122)] at h
      simp only [Option.bind_some,Bool.not_true,cond_false] at h
      exact ⟨by rw [isAl,decide_eq_true h1,decide_eq_true h2];rfl,h⟩
     rw [decide_eq_false (by omega:¬ ((sl s)[i].toNat:Int)≤122)] at h
     simp only [Option.bind_some,Bool.not_false,cond_true] at h
     rw [decide_eq_false (by omega:¬ ((sl s)[i].toNat:Int)<48),decide_eq_true (by omega:(57:Int)<((sl s)[i].toNat:Int))] at h
     cases hz:((i:Int) == 0) <;> rw [hz] at h <;> simp at h
    rw [decide_eq_false (by omega:¬ (97:Int)≤((sl s)[i].toNat:Int)),cond_false] at h
    simp only [Option.bind_some,Bool.not_false,cond_true] at h
    by_cases h3:(sl s)[i].toNat<48
    ·rw [decide_eq_true (by omega:((sl s)[i].toNat:Int)<48)] at h
     cases hz:((i:Int) == 0) <;> rw [hz] at h <;> simp at h
    rw [decide_eq_false (by omega:¬ ((sl s)[i].toNat:Int)<48)] at h
    by_cases h4:57<(sl s)[i].toNat
    ·rw [decide_eq_true (by omega:(57:Int)<((sl s)[i].toNat:Int))] at h
     cases hz:((i:Int) == 0) <;> rw [hz] at h <;> simp at h
    rw [decide_eq_false (by omega:¬ (57:Int)<((sl s)[i].toNat:Int))] at h
    cases hz:((i:Int) == 0) <;> rw [hz] at h
    ·simp only [cond_false,Option.bind_some] at h
     exact ⟨by rw [isAl,decide_eq_true (by omega:48≤(sl s)[i].toNat),decide_eq_true (by omega:(sl s)[i].toNat≤57)];simp,h⟩
    simp at h
   intro c hc
   rw [hdr] at hc
   rcases List.mem_cons.1 hc with e | e
   ·rw [e];exact key.1
   exact name_L1 s hs fuel (i+1) (by omega) (by omega) key.2 c e
  rw [List.drop_eq_nil_of_le (by omega)]
  intro c hc;cases hc
theorem name_al (s:ByteArray)(hs:s.size≤3000000)(h:s_IsName s=some true):∀ c∈sl s,isAl c=true:=by
 simp only [s_IsName,s_l01In_eq] at h
 cases hL:s_IsName_L1 s F0 0 with
 | none=>rw [hL] at h;simp [sumBind] at h
 | some r=>
  cases r with
  | inl u=>
   have:=name_L1 s hs F0 0 (by have:=F0_gt;omega) (by omega) (by cases u;exact hL)
   simpa using this
  | inr b=>
   exfalso
   have hf:∀(fuel:Nat)(z:Int) b,s_IsName_L1 s fuel z=some (.inr b)→b=false:=by
    intro fuel
    induction fuel with
    | zero=>intro z b h;cases h
    | succ n ih=>
     intro z b h
     rw [s_IsName_L1] at h
     cases h1:decide (z<(s.size:Int)) with
     | false=>rw [h1] at h;cases h
     | true=>
      rw [h1,cond_true] at h
      cases h2:idxS s z with
      | none=>rw [h2] at h;cases h
      | some v=>
       rw [h2,Option.bind_some] at h
       obtain ⟨e12,he12⟩:∃ e,(bif decide (97≤v) then some (decide (v≤122)) else some false)=some e:=by cases decide (97≤v) <;> exact ⟨_,rfl⟩
       rw [he12,Option.bind_some] at h
       obtain ⟨e14,he14⟩:∃ e,(bif (!e12) then (bif (z == 0) then some true else (bif (decide (v<48)) then some true else some (decide (57<v)))) else some false)=some e:=by
        cases e12 <;> cases (z == 0) <;> cases decide (v<48) <;> exact ⟨_,rfl⟩
       rw [he14,Option.bind_some] at h
       cases e14 with
       | true=>cases h;rfl
       | false=>exact ih _ _ h
   rw [hL,hf _ _ _ hL] at h
   simp [sumBind] at h
theorem actOk_name (x:TActivity)(a b:Int)(h:s_ActivityOk x a b=some true):s_IsName x.Name=some true:=by
 simp only [s_ActivityOk] at h
 cases hL:s_ActivityOk_L1 a b x.Modes 0 with
 | none=>rw [hL] at h;simp [sumBind] at h
 | some r=>
  cases r with
  | inl u=>
   rw [hL] at h
   simp only [sumBind,Option.bind_some,Sum.elim_inl] at h
   cases hn:s_IsName x.Name with
   | none=>rw [hn] at h;cases h
   | some v=>
    rw [hn,Option.bind_some] at h
    cases v with
    | true=>rfl
    | false=>simp at h
  | inr r=>
   exfalso
   have hf:∀(xs:List TMode)(z:Int) r,s_ActivityOk_L1 a b xs z=some (.inr r)→r=false:=by
    intro xs
    induction xs with
    | nil=>intro z r h;cases h
    | cons m xs ih=>
     intro z r h
     rw [s_ActivityOk_L1] at h
     cases hm:s_ModeOk m a b with
     | none=>rw [hm] at h;cases h
     | some v=>
      rw [hm,Option.bind_some] at h
      cases v with
      | true=>exact ih _ _ h
      | false=>cases h;rfl
   rw [hL,hf _ _ _ hL] at h
   simp [sumBind] at h
theorem proj_L1 (p:TProject):∀(xs:List TActivity)(z:Int),s_ProjectOk_L1 p xs z=some (.inl ())→∀(j:Nat) x,xs[j]? = some x→s_IsName x.Name=some true∧s_ActivityIndex p x.Name=some (z+j)
 | [],z,_,j,x,hj=>by simp at hj
 | y::xs,z,h,j,x,hj=>by
  rw [s_ProjectOk_L1] at h
  cases ha:s_ActivityOk y (p.Resources.length:Int) (p.Stocks.length:Int) with
  | none=>rw [ha] at h;cases h
  | some v=>
   rw [ha,Option.bind_some] at h
   cases v with
   | false=>simp at h
   | true=>
    obtain ⟨k,hk⟩:=s_ActivityIndex_ok p y.Name
    simp only [Bool.not_true,cond_false,hk,Option.bind_some] at h
    cases hq:(k != z) with
    | true=>rw [hq] at h;cases h
    | false=>
     rw [hq,cond_false] at h
     cases j with
     | zero=>
      simp at hj;subst hj
      have hkz:k=z:=by simpa using hq
      exact ⟨actOk_name _ _ _ ha,by rw [hk,hkz];simp⟩
     | succ j=>
      have:=proj_L1 p xs (z+1) h j x (by simpa using hj)
      exact ⟨this.1,by rw [this.2];congr 1;omega⟩
theorem proj_names (p:TProject)(h:s_ProjectOk p=some true):∀(j:Nat) x,p.Activities[j]? = some x→s_IsName x.Name=some true∧s_ActivityIndex p x.Name=some (j:Int):=by
 have hL:s_ProjectOk_L1 p p.Activities 0=some (.inl ()):=by
  simp only [s_ProjectOk,s_l01In_eq,Option.bind_some] at h
  obtain ⟨e,he⟩:∃ e,(bif (!inR p.Deadline 1 60) then some true else (bif (!inR (p.Activities.length:Int) 1 6) then some true else (bif (decide (3<(p.Resources.length:Int))) then some true else (bif (decide (2<(p.Stocks.length:Int))) then some true else some (decide (12<(p.Links.length:Int)))))))=some e:=by
   cases inR p.Deadline 1 60 <;> cases inR (p.Activities.length:Int) 1 6 <;> cases decide (3<(p.Resources.length:Int)) <;> cases decide (2<(p.Stocks.length:Int)) <;> exact ⟨_,rfl⟩
  rw [he,Option.bind_some] at h
  cases e with
  | true=>simp at h
  | false=>
   rw [cond_false] at h
   cases hL:s_ProjectOk_L1 p p.Activities 0 with
   | none=>rw [hL] at h;simp [sumBind] at h
   | some r=>
    cases r with
    | inl u=>cases u;rfl
    | inr r=>
     exfalso
     have hf:∀(xs:List TActivity)(z:Int) r,s_ProjectOk_L1 p xs z=some (.inr r)→r=false:=by
      intro xs
      induction xs with
      | nil=>intro z r h;cases h
      | cons y xs ih=>
       intro z r h
       rw [s_ProjectOk_L1] at h
       cases ha:s_ActivityOk y (p.Resources.length:Int) (p.Stocks.length:Int) with
       | none=>rw [ha] at h;cases h
       | some v=>
        rw [ha,Option.bind_some] at h
        obtain ⟨k,hk⟩:=s_ActivityIndex_ok p y.Name
        rw [hk] at h
        cases v with
        | false=>simp at h;exact h.symm ▸ rfl
        | true=>
         simp only [Bool.not_true,cond_false,Option.bind_some] at h
         cases hq:(k != z) with
         | true=>rw [hq] at h;cases h;rfl
         | false=>rw [hq] at h;exact ih _ _ h
     rw [hL,hf _ _ _ hL] at h
     simp [sumBind] at h
 intro j x hj
 have:=proj_L1 p p.Activities 0 hL j x hj
 exact ⟨this.1,by rw [this.2];congr 1;omega⟩
theorem sign_l (k:Int)(h:k=1∨k=2∨k=3∨k=4):∃ g,s_LiteralSign k=some g∧i_LiteralSign k=some g∧sl g=signL k:=by
 rcases h with rfl | rfl | rfl | rfl
 ·exact ⟨⟨#[62,61]⟩,rfl,rfl,rfl⟩
 ·exact ⟨⟨#[60,61]⟩,rfl,rfl,rfl⟩
 ·exact ⟨⟨#[61]⟩,rfl,rfl,rfl⟩
 exact ⟨⟨#[33,61]⟩,rfl,rfl,rfl⟩
theorem lit_t (p:TProject)(l:TLiteral)(hp:bTProject 1048576 p):∃ t,s_FormatLiteral p l=some t∧i_FormatLiteral p l=some t∧(t≠ByteArray.empty→∃ a,LitT p l t a)∧t.size≤10000000:=by
 have hnm:=names_of hp (by omega)
 obtain ⟨u,hu,_⟩:=s_ProjectOk_ok p hnm
 obtain ⟨v,hv,_⟩:=s_LiteralOk_ok p hnm l
 cases v with
 | false=>exact ⟨ByteArray.empty,by simp only [s_FormatLiteral,hv,Option.bind_some,Bool.not_false,cond_true],by simp only [i_FormatLiteral,LiteralOk_eq,hv,Option.bind_some,Bool.not_false,cond_true],fun h=>absurd rfl h,by decide⟩
 | true=>
  obtain ⟨a,ha,hm,hk,h0,h1⟩:=lit_facts p l hnm hv
  obtain ⟨g,g1,g2,g3⟩:=sign_l l.Kind hk
  obtain ⟨n1,n2⟩:=fmt_str l.Value h0 h1
  obtain ⟨t,t1,t2,t3⟩:=flit_eq p l hp hv
  have hn:a.Name.size≤1048576:=names1 hp a hm
  have hgs:g.size≤2:=by
   rw [ba_size,show g.data.toList=sl g from rfl,g3]
   unfold signL
   split
   ·decide
   split
   ·decide
   split <;> decide
  obtain ⟨w,w1,w2,w3⟩:=fmt_eq l.Value h0 h1
  rw [n1] at w1
  have hw:=Option.some.inj w1
  have z1:=cat_sz a.Name g
  have ht:t=a.Name ++ g ++ ⟨(Lib.itoa l.Value).toArray⟩:=by
   simp only [s_FormatLiteral,hv,ha,g1,n1,Option.bind_some,Bool.not_true,cond_false] at t1
   rw [catS_ok (by omega),Option.bind_some,catS_ok (by rw [hw];omega),Option.bind_some] at t1
   exact (Option.some.inj t1).symm
  have hpo:s_ProjectOk p=some true:=by
   cases u with
   | true=>exact hu
   | false=>
    simp only [s_LiteralOk,hu,Option.bind_some,Bool.not_false,cond_true] at hv
    cases hv
  obtain ⟨hi0,hi1⟩:=idxL_spec ha
  have hnames:=proj_names p hpo _ a hi1
  refine ⟨t,t1,t2,fun _=>⟨a,hv,?_,hk,⟨h0,h1⟩,?_,name_al a.Name (by omega) hnames.1⟩,t3⟩
  ·rw [ht]
   show (a.Name ++ g ++ ⟨(Lib.itoa l.Value).toArray⟩:ByteArray).data.toList=_
   rw [ba_list,ba_list,show g.data.toList=sl g from rfl,g3]
   simp
  rw [hnames.2];congr 1;omega
theorem sign_head (k:Int):∃ c r,signL k=c::r∧isAl c=false:=by
 unfold signL
 split
 ·exact ⟨62,[61],rfl,by decide⟩
 split
 ·exact ⟨60,[61],rfl,by decide⟩
 split
 ·exact ⟨61,[],rfl,by decide⟩
 exact ⟨33,[61],rfl,by decide⟩
theorem take_al (n r:List UInt8)(h:∀ c∈n,isAl c=true)(k:Int):(n ++ (signL k ++ r)).takeWhile isAl=n:=by
 obtain ⟨c,q,hc,ha⟩:=sign_head k
 rw [hc]
 induction n with
 | nil=>simp [ha]
 | cons x n ih=>
  have hx:=h x (List.mem_cons_self ..)
  rw [List.cons_append,List.takeWhile_cons,hx]
  simp only [if_true]
  rw [ih fun y hy=>h y (List.mem_cons_of_mem _ hy)]
theorem sign_inj {k k':Int}(hk:k=1∨k=2∨k=3∨k=4)(hk':k'=1∨k'=2∨k'=3∨k'=4){r r':List UInt8}(h:signL k ++ r=signL k' ++ r'):k=k'∧r=r':=by
 rcases hk with rfl | rfl | rfl | rfl <;> rcases hk' with rfl | rfl | rfl | rfl <;> simp [signL] at h <;> first | exact ⟨rfl,h⟩ | exact absurd h (by decide) | exact absurd h.1 (by decide)
theorem lit_inj {p:TProject}{l l':TLiteral}{s:ByteArray}{a a':TActivity}(h:LitT p l s a)(h':LitT p l' s a'):l=l':=by
 have e1:sl a.Name=sl a'.Name:=by
  have h1:=take_al (sl a.Name) (Lib.itoa l.Value) h.al l.Kind
  have h2:=take_al (sl a'.Name) (Lib.itoa l'.Value) h'.al l'.Kind
  rw [← h.text] at h1
  rw [← h'.text] at h2
  rw [← h1,h2]
 have e2:a.Name=a'.Name:=ba_ext e1
 have e3:l.Activity=l'.Activity:=by
  have h1:=h.act
  rw [e2,h'.act] at h1
  exact (Option.some.inj h1).symm
 have e4:signL l.Kind ++ Lib.itoa l.Value=signL l'.Kind ++ Lib.itoa l'.Value:=by
  have h1:=h.text
  rw [h'.text,e1] at h1
  exact (List.append_cancel_left h1).symm
 obtain ⟨e5,e6⟩:=sign_inj h.kind h'.kind e4
 have e7:=itoa_inj h.val.1 h.val.2 h'.val.1 h'.val.2 e6
 cases l;cases l'
 simp_all
theorem scan_L1 (s:ByteArray)(hs:s.size≤3000000):∀(fuel i:Nat),s.size - i<fuel→i≤s.size→i_ParseLiteral_L1 s fuel (i:Int)=some ((i+(((sl s).drop i).takeWhile isAl).length:Nat):Int)
 | 0,i,h,_=>absurd h (Nat.not_lt_zero _)
 | fuel+1,i,hf,hi=>by
  rw [i_ParseLiteral_L1]
  have hsl:(sl s).length=s.size:=(ba_size s).symm
  by_cases hlt':i<s.size
  ·have hlt:i<(sl s).length:=by omega
   have hdr:(sl s).drop i=(sl s)[i]::(sl s).drop (i+1):=(List.getElem_cons_drop hlt).symm
   rw [decide_eq_true (by omega:(i:Int)<(s.size:Int)),cond_true,idxS_list,List.getElem?_eq_getElem hlt]
   simp only [Option.map_some,Option.bind_some]
   have hb:(bif decide ((97:Int)≤((sl s)[i].toNat:Int)) then (bif decide (((sl s)[i].toNat:Int)≤122) then some true else (bif decide ((48:Int)≤((sl s)[i].toNat:Int)) then some (decide (((sl s)[i].toNat:Int)≤57)) else some false)) else (bif decide ((48:Int)≤((sl s)[i].toNat:Int)) then some (decide (((sl s)[i].toNat:Int)≤57)) else some false))=some (isAl (sl s)[i]):=by
    have d1:decide ((97:Int)≤((sl s)[i].toNat:Int))=decide (97≤(sl s)[i].toNat):=decide_eq_decide.2 (by omega)
    have d2:decide (((sl s)[i].toNat:Int)≤122)=decide ((sl s)[i].toNat≤122):=decide_eq_decide.2 (by omega)
    have d3:decide ((48:Int)≤((sl s)[i].toNat:Int))=decide (48≤(sl s)[i].toNat):=decide_eq_decide.2 (by omega)
    have d4:decide (((sl s)[i].toNat:Int)≤57)=decide ((sl s)[i].toNat≤57):=decide_eq_decide.2 (by omega)
    rw [d1,d2,d3,d4]
    unfold isAl
    cases decide (97≤(sl s)[i].toNat) <;> cases decide ((sl s)[i].toNat≤122) <;> cases decide (48≤(sl s)[i].toNat) <;> cases decide ((sl s)[i].toNat≤57) <;> rfl
   rw [hb,Option.bind_some,hdr,List.takeWhile_cons]
   cases ha:isAl (sl s)[i] with
   | false=>
    simp
   | true=>
    simp only [cond_true,if_true]
    rw [W_of ⟨by omega,by omega⟩,show (i:Int)+1=((i+1:Nat):Int) by omega,scan_L1 s hs fuel (i+1) (by omega) (by omega)]
    congr 1
    simp only [List.length_cons]
    omega
  rw [decide_eq_false (by omega:¬ (i:Int)<(s.size:Int)),cond_false,List.drop_eq_nil_of_le (by omega)]
  simp
theorem lit_step {p:TProject}{s:ByteArray}(hp:bTProject 1048576 p)(l0:TLiteral):∃ t,s_FormatLiteral p l0=some t∧i_FormatLiteral p l0=some t∧((t == s)=true→s≠ByteArray.empty→∃ a,LitT p l0 s a)∧(∀ a,LitT p l0 s a→(t == s)=true):=by
 obtain ⟨t,t1,t2,t3,_⟩:=lit_t p l0 hp
 refine ⟨t,t1,t2,fun h hs=>?_,fun a ha=>?_⟩
 ·rw [ba_beq] at h
  have:t=s:=of_decide_eq_true h
  subst this
  exact t3 hs
 have hok:=ha.ok
 have hne:t≠ByteArray.empty:=by
  rintro rfl
  obtain ⟨b,hb,hm,hk,h0,h1⟩:=lit_facts p l0 (names_of hp (by omega)) hok
  obtain ⟨g,g1,g2,g3⟩:=sign_l l0.Kind hk
  obtain ⟨n1,n2⟩:=fmt_str l0.Value h0 h1
  simp only [s_FormatLiteral,hok,hb,g1,n1,Option.bind_some,Bool.not_true,cond_false] at t1
  cases hc:catS b.Name g with
  | none=>rw [hc] at t1;cases t1
  | some c=>
   rw [hc,Option.bind_some] at t1
   cases hd:catS c ⟨(Lib.itoa l0.Value).toArray⟩ with
   | none=>rw [hd] at t1;cases t1
   | some d=>
    rw [hd,Option.bind_some] at t1
    have e1:=Option.some.inj t1
    unfold catS at hd
    split at hd
    ·have e2:=Option.some.inj hd
     rw [e1] at e2
     have e3:=congrArg (fun b:ByteArray=>b.data.toList) e2
     simp only [ba_list] at e3
     have e4:Lib.itoa l0.Value=[]:=by
      have:=congrArg List.length e3
      simp at this
      first | exact this.2 | exact List.eq_nil_of_length_eq_zero this.2
     exact itoa_ne _ e4
    cases hd
 obtain ⟨b,hb⟩:=t3 hne
 rw [ba_beq]
 apply decide_eq_true
 apply ba_ext
 show sl t=sl s
 have e1:a.Name=b.Name:=by
  -- both names stand at the same place
  have h1:=hb.act
  have h2:=ha.act
  obtain ⟨c,hc,_⟩:=lit_facts p l0 (names_of hp (by omega)) hok
  have key:∀(nm:ByteArray)(k:Int),s_ActivityIndex p nm=some k→0≤k→∃ x,p.Activities[k.toNat]? = some x∧x.Name=nm:=by
   intro nm k h hk0
   simp only [s_ActivityIndex] at h
   have hf:∀(xs:List TActivity)(z:Int) r,s_ActivityIndex_L1 nm xs z=some (.inr r)→0≤z→∃ x,xs[(r - z).toNat]? = some x∧x.Name=nm∧z≤r:=by
    intro xs
    induction xs with
    | nil=>intro z r h;cases h
    | cons y xs ih=>
     intro z r h hz
     rw [s_ActivityIndex_L1] at h
     cases hq:(y.Name == nm) with
     | true=>
      rw [hq] at h;cases h
      rw [ba_beq] at hq
      exact ⟨y,by simp,of_decide_eq_true hq,by omega⟩
     | false=>
      rw [hq] at h
      obtain ⟨x,x1,x2,x3⟩:=ih _ _ h (by omega)
      refine ⟨x,?_,x2,by omega⟩
      have:(r - z).toNat=(r - (z+1)).toNat+1:=by omega
      rw [this];simpa using x1
   cases hL:s_ActivityIndex_L1 nm p.Activities 0 with
   | none=>rw [hL] at h;simp [sumBind] at h
   | some r=>
    rw [hL] at h
    cases r with
    | inl u=>simp [sumBind] at h;omega
    | inr r=>
     simp [sumBind] at h
     subst h
     obtain ⟨x,x1,x2,_⟩:=hf _ _ _ hL (by omega)
     exact ⟨x,by simpa using x1,x2⟩
  have h3:=(idxL_spec hc).1
  obtain ⟨x,x1,x2⟩:=key _ _ h1 h3
  obtain ⟨y,y1,y2⟩:=key _ _ h2 h3
  rw [x1] at y1
  cases y1
  rw [← x2,← y2]
 rw [hb.text,ha.text,e1]
theorem plit_eq (p:TProject)(s:ByteArray)(hp:bTProject 1048576 p)(hs:s.size≤3000000):∃ r,s_ParseLiteral p s=some r∧i_ParseLiteral p s=some r∧∀ l x,s≠ByteArray.empty→LitT p l s x→r=(l,true):=by
 have hF:=F0_gt
 have hsl:(sl s).length=s.size:=(ba_size s).symm
 obtain ⟨V,v1,v2,v3,v4,v5⟩:=split_eq s ⟨#[60,62,61,33]⟩ hs (by decide)
 have hsc:=scan_L1 s hs F0 0 (by omega) (by omega)
 rw [List.drop_zero,Nat.zero_add,show ((0:Nat):Int)=0 from rfl] at hsc
 have hVl:0<V.length:=by
  have:=congrArg List.length v5
  simp at this;omega
 -- the reference's numbers
 obtain ⟨w0,hw0,hw0m⟩:=idxL_some (l:=V) (z:=0) (by omega) (by omega)
 obtain ⟨wl,hwl,hwlm⟩:=idxL_some (l:=V) (z:=(V.length:Int) - 1) (by omega) (by omega)
 obtain ⟨n,n1,n2,n3,n4⟩:=pint_eq wl (by have:=v4 wl hwlm;omega)
 obtain ⟨k0,hk0⟩:=s_ActivityIndex_ok p w0
 have hmt:((sl s).takeWhile isAl).length≤s.size:=by rw [← hsl];exact (List.takeWhile_sublist ..).length_le
 generalize hq:((sl s).takeWhile isAl).length=q at hsc hmt
 -- the program's name
 obtain ⟨nm,hnm,hnml⟩:=subS_ok s (i:=0) (j:=q) (by omega) hmt
 obtain ⟨k1,hk1⟩:=s_ActivityIndex_ok p nm
 rw [show ((0:Nat):Int)=0 from rfl] at hnm
 have hspec:s_ParseLiteral p s=sumBind (s_ParseLiteral_L1 p s V n F0 1) (fun q20=>some q20) fun p19=>some ((TLiteral.mk 0 0 0),false):=by
  simp only [s_ParseLiteral,v2,Option.bind_some]
  rw [W_of ⟨by omega,by omega⟩,hwl,Option.bind_some,n1,Option.bind_some]
 have himpl:i_ParseLiteral p s=sumBind (i_ParseLiteral_L2 p s (q:Int) F0 1) (fun q41=>some q41) fun p40=>some ((TLiteral.mk 0 0 0),false):=by
  simp only [i_ParseLiteral,hsc,Option.bind_some]
 -- one round of each
 have rs:∀(fuel:Nat)(a:Int),1≤a→a≤4→∃ e,(e=true→s≠ByteArray.empty∧∃ x,LitT p (TLiteral.mk a k0 n.1) s x)∧(∀ x,s≠ByteArray.empty→LitT p (TLiteral.mk a k0 n.1) s x→e=true)∧s_ParseLiteral_L1 p s V n (fuel+1) a=bif e then some (.inr ((TLiteral.mk a k0 n.1),true)) else s_ParseLiteral_L1 p s V n fuel (a+1):=fun fuel a h1 h4=>by
  obtain ⟨t,t1,t2,t3,t4⟩:=lit_step (s:=s) hp (TLiteral.mk a k0 n.1)
  rw [s_ParseLiteral_L1,decide_eq_true h4,cond_true,hw0,Option.bind_some,hk0,Option.bind_some,t1,Option.bind_some,W_of ⟨by omega,by omega⟩]
  cases ht:(t == s) with
  | false=>exact ⟨false,(fun h=>by cases h),(fun x hx hl=>by rw [t4 x hl] at ht;exact ht.symm ▸ rfl),rfl⟩
  | true=>
   refine ⟨s != ByteArray.empty,fun h=>?_,fun x hx _=>?_,rfl⟩
   ·rw [ba_bne] at h
    have hne:s≠ByteArray.empty:=by simpa using h
    exact ⟨hne,t3 ht hne⟩
   rw [ba_bne];simpa using hx
 have ri:∀(fuel:Nat)(a:Int),1≤a→a≤4→∃ (e:Bool) (l0:TLiteral),l0.Kind=a∧(e=true→s≠ByteArray.empty∧∃ x,LitT p l0 s x)∧(∀ l x,s≠ByteArray.empty→l.Kind=a→LitT p l s x→e=true)∧i_ParseLiteral_L2 p s (q:Int) (fuel+1) a=bif e then some (.inr (l0,true)) else i_ParseLiteral_L2 p s (q:Int) fuel (a+1):=fun fuel a h1 h4=>by
  obtain ⟨g,g1,g2,g3⟩:=sign_l a (by omega)
  have hgl:g.size=(signL a).length:=by rw [ba_size,show g.data.toList=sl g from rfl,g3]
  have hg1:1≤g.size∧g.size≤2:=by
   rw [hgl];unfold signL
   split
   ·decide
   split
   ·decide
   split <;> decide
  rw [i_ParseLiteral_L2,decide_eq_true h4,cond_true,g2,Option.bind_some,W_of (n:=(q:Int)+(g.size:Int)) ⟨by omega,by omega⟩,W_of (n:=a+1) ⟨by omega,by omega⟩,show (q:Int)+(g.size:Int)=((q+g.size:Nat):Int) by omega]
  by_cases hlen:s.size<q+g.size
  ·rw [decide_eq_true (by omega:(s.size:Int)<((q+g.size:Nat):Int)),cond_true,Option.bind_some,cond_true]
   refine ⟨false,TLiteral.mk a 0 0,rfl,(fun h=>by cases h),fun l x hx hka hl=>?_,rfl⟩
   exfalso
   have h5:=congrArg List.length hl.text
   have h6:=take_al (sl x.Name) (Lib.itoa l.Value) hl.al l.Kind
   rw [← hl.text] at h6
   rw [hka] at h5
   rw [h6] at hq
   simp only [List.length_append] at h5
   omega
  obtain ⟨e,he,hel⟩:=subS_ok s (i:=q) (j:=q+g.size) (by omega) (by omega)
  obtain ⟨f,hf,hfl⟩:=subS_ok s (i:=q+g.size) (j:=s.size) (by omega) (Nat.le_refl _)
  have hfs:f.size≤s.size:=by rw [ba_size f,show f.data.toList=sl f from rfl,hfl];simp
  rw [decide_eq_false (by omega:¬ (s.size:Int)<((q+g.size:Nat):Int)),cond_false,he,Option.bind_some,Option.bind_some]
  have hsame:∀ l x,l.Kind=a→LitT p l s x→(e != g)=false∧isNum f l.Value∧nm=x.Name:=fun l x hka hl=>by
   have h6:=take_al (sl x.Name) (Lib.itoa l.Value) hl.al l.Kind
   rw [← hl.text] at h6
   have hqx:(sl x.Name).length=q:=by rw [← h6];exact hq
   have hd:(sl s).drop q=signL a ++ Lib.itoa l.Value:=by
    rw [hl.text,← hqx,List.drop_left,hka]
   refine ⟨?_,⟨hl.val.1,hl.val.2,?_⟩,ba_ext ?_⟩
   ·have:e=g:=by
     apply ba_ext
     show sl e=sl g
     rw [hel,hd,g3,hgl,show q+(signL a).length - q=(signL a).length by omega,List.take_left]
    rw [this,ba_bne];simp
   ·rw [hfl,← List.drop_drop,hd,hgl,List.drop_left,List.take_of_length_le]
    have h5:=congrArg List.length hl.text
    simp only [List.length_append,hka] at h5
    omega
   show sl nm=sl x.Name
   rw [hnml,List.drop_zero,Nat.sub_zero,hl.text,← hqx,List.take_left]
  cases heg:(e != g) with
  | true=>
   refine ⟨false,TLiteral.mk a 0 0,rfl,(fun h=>by cases h),fun l x hx hka hl=>?_,by rw [cond_true];rfl⟩
   rw [(hsame l x hka hl).1] at heg
   exact heg
  | false=>
   obtain ⟨r,r1,r2,r3,r4⟩:=pint_eq f (by omega)
   obtain ⟨t,t1,t2,t3,t4⟩:=lit_step (s:=s) hp (TLiteral.mk a k1 r.1)
   rw [cond_false,hf,Option.bind_some,r2,Option.bind_some,hnm,Option.bind_some,ActivityIndex_eq,hk1,Option.bind_some,t2,Option.bind_some]
   have hit:∀ l x,s≠ByteArray.empty→l.Kind=a→LitT p l s x→r.2=true∧(t == s)=true:=fun l x hx hka hl=>by
    obtain ⟨_,h7,h8⟩:=hsame l x hka hl
    have h9:=r3 _ h7
    have hk1':k1=l.Activity:=by
     have:=hl.act
     rw [← h8,hk1] at this
     exact Option.some.inj this
    have hll:(TLiteral.mk a k1 r.1)=l:=by rw [h9,hk1'];cases l;simp_all
    rw [hll] at t4
    exact ⟨by rw [h9],t4 x hl⟩
   cases h2:r.2 with
   | false=>
    refine ⟨false,TLiteral.mk a k1 r.1,rfl,(fun h=>by cases h),fun l x hx hka hl=>?_,rfl⟩
    rw [(hit l x hx hka hl).1] at h2
    exact h2.symm
   | true=>
    refine ⟨(t == s) && (s != ByteArray.empty),TLiteral.mk a k1 r.1,rfl,fun h=>?_,fun l x hx hka hl=>?_,?_⟩
    ·have h:=Bool.and_eq_true_iff.1 h
     have hne:s≠ByteArray.empty:=by
      have:=h.2
      rw [ba_bne] at this
      simpa using this
     exact ⟨hne,t3 h.1 hne⟩
    ·rw [(hit l x hx hka hl).2,ba_bne]
     simpa using hx
    rw [cond_true,Option.bind_some]
    have hne:(s != ByteArray.empty)=true:=by
     rw [ba_bne]
     have:s≠ByteArray.empty:=by
      rintro rfl
      have:(ByteArray.empty).size=0:=rfl
      omega
     simpa using this
    rw [hne,Bool.and_true]
 by_cases hx:∃ l x,s≠ByteArray.empty∧LitT p l s x
 ·obtain ⟨l,x,hne,hl⟩:=hx
  have hk:=hl.kind
  -- the reference reads this literal
  have hw:w0=x.Name∧isNum wl l.Value:=by
   have hfree:∀ c∈sl x.Name,decide (c∈sl (⟨#[60,62,61,33]⟩:ByteArray))=false:=fun c hc=>by
    have ha:=hl.al c hc
    apply decide_eq_false
    intro hm
    have hm':c=60∨c=62∨c=61∨c=33:=by simpa [sl] using hm
    rcases hm' with rfl | rfl | rfl | rfl <;> exact absurd ha (by decide)
   have hnum:∀ c∈Lib.itoa l.Value,decide (c∈sl (⟨#[60,62,61,33]⟩:ByteArray))=false:=fun c hc=>by
    apply decide_eq_false
    intro hm
    have hm':c=60∨c=62∨c=61∨c=33:=by simpa [sl] using hm
    have hcd:c=45∨(48≤c.toNat∧c.toNat≤57):=by
     unfold Lib.itoa at hc
     split at hc
     ·rcases List.mem_cons.1 hc with e | e
      ·exact .inl e
      exact .inr (digits_ok _ c e)
     exact .inr (digits_ok _ c hc)
    rcases hm' with rfl | rfl | rfl | rfl <;> rcases hcd with h | h <;> first | exact absurd h (by decide) | (have:=h.1;have:=h.2;revert this;decide)
   have hsn:splitP (fun c=>decide (c∈sl (⟨#[60,62,61,33]⟩:ByteArray))) (Lib.itoa l.Value)=(Lib.itoa l.Value,[]):=by
    have:=splitP_free _ (Lib.itoa l.Value) [] hnum
    simpa [splitP] using this
   have hsp:=splitP_free (fun c=>decide (c∈sl (⟨#[60,62,61,33]⟩:ByteArray))) (sl x.Name) (signL l.Kind ++ Lib.itoa l.Value) hfree
   rw [← hl.text] at hsp
   have hV:V.map sl=[sl x.Name,Lib.itoa l.Value]∨V.map sl=[sl x.Name,[],Lib.itoa l.Value]:=by
    rw [v5,hsp]
    have d60:decide ((60:UInt8)∈sl (⟨#[60,62,61,33]⟩:ByteArray))=true:=by decide
    have d61:decide ((61:UInt8)∈sl (⟨#[60,62,61,33]⟩:ByteArray))=true:=by decide
    have d62:decide ((62:UInt8)∈sl (⟨#[60,62,61,33]⟩:ByteArray))=true:=by decide
    have d33:decide ((33:UInt8)∈sl (⟨#[60,62,61,33]⟩:ByteArray))=true:=by decide
    rcases hk with e | e | e | e <;> rw [e] <;> simp only [signL,if_true,show ¬ ((2:Int)=1) by decide,show ¬ ((3:Int)=1) by decide,show ¬ ((3:Int)=2) by decide,show ¬ ((4:Int)=1) by decide,show ¬ ((4:Int)=2) by decide,show ¬ ((4:Int)=3) by decide,if_false,List.cons_append,List.nil_append,splitP,d60,d61,d62,d33,hsn,List.append_nil] <;> first | exact .inr trivial | exact .inl trivial | exact .inr rfl | exact .inl rfl | simp
   rcases hV with hV | hV
   ·obtain ⟨A,V1,rfl,hA,hV1⟩:=List.map_eq_cons_iff.1 hV
    obtain ⟨B,V2,rfl,hB,hV2⟩:=List.map_eq_cons_iff.1 hV1
    obtain rfl:=List.map_eq_nil_iff.1 hV2
    ·have e1:w0=A:=by
      have:idxL [A,B] 0=some A:=rfl
      rw [this] at hw0;exact (Option.some.inj hw0).symm
     have e2:wl=B:=by
      have:idxL [A,B] (((2:Nat):Int) - 1)=some B:=rfl
      have hwl':idxL [A,B] (((2:Nat):Int) - 1)=some wl:=hwl
      rw [this] at hwl';exact (Option.some.inj hwl').symm
     exact ⟨by rw [e1];exact ba_ext hA,hl.val.1,hl.val.2,by rw [e2];exact hB⟩
   obtain ⟨A,V1,rfl,hA,hV1⟩:=List.map_eq_cons_iff.1 hV
   obtain ⟨C,V3,rfl,hC,hV3⟩:=List.map_eq_cons_iff.1 hV1
   obtain ⟨B,V2,rfl,hB,hV2⟩:=List.map_eq_cons_iff.1 hV3
   obtain rfl:=List.map_eq_nil_iff.1 hV2
   ·have e1:w0=A:=by
     have:idxL [A,C,B] 0=some A:=rfl
     rw [this] at hw0;exact (Option.some.inj hw0).symm
    have e2:wl=B:=by
     have:idxL [A,C,B] (((3:Nat):Int) - 1)=some B:=rfl
     have hwl':idxL [A,C,B] (((3:Nat):Int) - 1)=some wl:=hwl
     rw [this] at hwl';exact (Option.some.inj hwl').symm
    exact ⟨by rw [e1];exact ba_ext hA,hl.val.1,hl.val.2,by rw [e2];exact hB⟩
  have hn:=n3 _ hw.2
  have hk0':k0=l.Activity:=by
   have:=hl.act
   rw [← hw.1,hk0] at this
   exact Option.some.inj this
  have hsame:TLiteral.mk l.Kind k0 n.1=l:=by rw [hn,hk0']
  have ls:∀(fuel:Nat)(a:Int),1≤a→a≤l.Kind→(l.Kind - a).toNat<fuel→s_ParseLiteral_L1 p s V n fuel a=some (.inr (l,true)):=by
   intro fuel
   induction fuel with
   | zero=>intro a _ _ h;exact absurd h (Nat.not_lt_zero _)
   | succ f ih=>
    intro a h1 h2 h3
    obtain ⟨e,e1,e2,e3⟩:=rs f a h1 (by omega)
    rw [e3]
    by_cases hka:a=l.Kind
    ·subst hka
     rw [hsame] at e2 ⊢
     rw [e2 x hne hl];rfl
    cases e with
    | true=>
     obtain ⟨_,y,hy⟩:=e1 rfl
     have:=lit_inj hy hl
     exact absurd (congrArg TLiteral.Kind this) hka
    | false=>
     rw [cond_false]
     exact ih (a+1) (by omega) (by omega) (by omega)
  have li:∀(fuel:Nat)(a:Int),1≤a→a≤l.Kind→(l.Kind - a).toNat<fuel→i_ParseLiteral_L2 p s (q:Int) fuel a=some (.inr (l,true)):=by
   intro fuel
   induction fuel with
   | zero=>intro a _ _ h;exact absurd h (Nat.not_lt_zero _)
   | succ f ih=>
    intro a h1 h2 h3
    obtain ⟨e,l0,e0,e1,e2,e3⟩:=ri f a h1 (by omega)
    rw [e3]
    cases e with
    | true=>
     obtain ⟨_,y,hy⟩:=e1 rfl
     rw [lit_inj hy hl];rfl
    | false=>
     have hka:a≠l.Kind:=fun h=>by
      have:=e2 l x hne h.symm hl
      cases this
     rw [cond_false]
     exact ih (a+1) (by omega) (by omega) (by omega)
  refine ⟨(l,true),?_,?_,fun l' x' _ hl'=>by rw [lit_inj hl' hl]⟩
  ·rw [hspec,ls F0 1 (by omega) (by omega) (by omega)];rfl
  rw [himpl,li F0 1 (by omega) (by omega) (by omega)];rfl
 have no:∀ l x,s≠ByteArray.empty→LitT p l s x→False:=fun l x hne hl=>hx ⟨l,x,hne,hl⟩
 have ls:∀(fuel:Nat)(a:Int),1≤a→a≤5→(5 - a).toNat<fuel→s_ParseLiteral_L1 p s V n fuel a=some (.inl ()):=by
  intro fuel
  induction fuel with
  | zero=>intro a _ _ h;exact absurd h (Nat.not_lt_zero _)
  | succ f ih=>
   intro a h1 h2 h3
   by_cases h5:a=5
   ·subst h5
    rw [s_ParseLiteral_L1];rfl
   obtain ⟨e,e1,e2,e3⟩:=rs f a h1 (by omega)
   rw [e3]
   cases e with
   | true=>
    obtain ⟨hne,y,hy⟩:=e1 rfl
    exact (no _ _ hne hy).elim
   | false=>exact ih (a+1) (by omega) (by omega) (by omega)
 have li:∀(fuel:Nat)(a:Int),1≤a→a≤5→(5 - a).toNat<fuel→i_ParseLiteral_L2 p s (q:Int) fuel a=some (.inl ()):=by
  intro fuel
  induction fuel with
  | zero=>intro a _ _ h;exact absurd h (Nat.not_lt_zero _)
  | succ f ih=>
   intro a h1 h2 h3
   by_cases h5:a=5
   ·subst h5
    rw [i_ParseLiteral_L2];rfl
   obtain ⟨e,l0,e0,e1,e2,e3⟩:=ri f a h1 (by omega)
   rw [e3]
   cases e with
   | true=>
    obtain ⟨hne,y,hy⟩:=e1 rfl
    exact (no _ _ hne hy).elim
   | false=>exact ih (a+1) (by omega) (by omega) (by omega)
 refine ⟨((TLiteral.mk 0 0 0),false),?_,?_,fun l' x' hne' hl'=>(no l' x' hne' hl').elim⟩
 ·rw [hspec,ls F0 1 (by omega) (by omega) (by omega)];rfl
 rw [himpl,li F0 1 (by omega) (by omega) (by omega)];rfl
theorem pcl_L1 (p:TProject)(hp:bTProject 1048576 p):∀(xs:List ByteArray)(z z':Int)(a:List TLiteral),(∀ x∈xs,x.size≤3000000)→a.length+xs.length≤10000000 →
  ∃ r,s_ParseClause_L1 p xs z a=some r∧i_ParseClause_L1 p xs z' a=some r∧(∀ q,r=.inr q→q=([],false))
 | [],z,z',a,_,_=>⟨.inl a,rfl,rfl,fun q h=>by cases h⟩
 | x::xs,z,z',a,hx,hl=>by
  simp only [List.length_cons] at hl
  obtain ⟨r,r1,r2,_⟩:=plit_eq p x hp (hx x (List.mem_cons_self ..))
  simp only [s_ParseClause_L1,i_ParseClause_L1,r1,r2,Option.bind_some]
  cases h2:r.2 with
  | false=>exact ⟨_,rfl,rfl,fun q h=>by cases h;rfl⟩
  | true=>
   simp only [Bool.not_true,cond_false]
   rw [appL_ok' (by simp;omega),Option.bind_some,Option.bind_some]
   exact pcl_L1 p hp xs (z+1) (z'+1) (a ++ [r.1]) (fun y hy=>hx y (List.mem_cons_of_mem _ hy)) (by simp;omega)
theorem core_ParseClause (p:TProject)(s:ByteArray)(hp:bTProject 1048576 p)(hs:s.size≤1048576):∃ v,s_ParseClause p s=some v∧i_ParseClause p s=some v∧v.1.length≤1048576:=by
 have hnm:=names_of hp (by omega)
 have hlen:∀(l:List TLiteral) t,s_FormatClause p l=some t→t≠ByteArray.empty→l.length≤24:=fun l t ht hne=>by
  obtain ⟨v,hv,hf⟩:=s_ClauseOk_ok p hnm l
  cases v with
  | true=>exact (hf rfl).1
  | false=>
   simp only [s_FormatClause,hv,Option.bind_some,Bool.not_false,cond_true] at ht
   exact absurd (Option.some.inj ht).symm hne
 by_cases hd:s=⟨#[45]⟩
 ·subst hd
  have h1:((⟨#[45]⟩:ByteArray) == ⟨#[45]⟩)=true:=by rw [ba_beq];exact decide_eq_true rfl
  have h2:((⟨#[45]⟩:ByteArray) != ⟨#[45]⟩)=false:=by rw [bne,h1];rfl
  have hc:s_ClauseOk p []=some true:=by
   obtain ⟨v,hv,_⟩:=s_ClauseOk_ok p hnm []
   exact hv.trans (by rw [show s_ClauseOk p []=some true from rfl] at hv;exact hv.symm)
  have hfc:i_FormatClause p []=some ⟨#[45]⟩:=by
   simp only [i_FormatClause,ClauseOk_eq,hc,Option.bind_some,Bool.not_true,cond_false]
   rfl
  refine ⟨([],true),?_,?_,by simp⟩
  ·simp only [s_ParseClause,h1,cond_true]
  simp only [i_ParseClause,h2,cond_false,sumBind,Option.bind_some,Sum.elim_inl,hfc]
 have h1:(s == (⟨#[45]⟩:ByteArray))=false:=ba_beq_ne hd
 have h2:(s != (⟨#[45]⟩:ByteArray))=true:=by rw [bne,h1];rfl
 obtain ⟨V,v1,v2,v3,v4,_⟩:=split_eq s ⟨#[32]⟩ (by omega) (by decide)
 obtain ⟨r,r1,r2,r3⟩:=pcl_L1 p hp V 0 0 [] (fun x hx=>by have:=v4 x hx;omega) (by simp;omega)
 cases r with
 | inr q=>
  have hq:=r3 q rfl
  subst hq
  refine ⟨([],false),?_,?_,by simp⟩
  ·simp only [s_ParseClause,h1,cond_false,v2,Option.bind_some,r1,sumBind,Sum.elim_inr]
  simp only [i_ParseClause,h2,cond_true,v1,Option.bind_some,r2,sumBind,Sum.elim_inr]
 | inl l=>
  obtain ⟨t,t1,t2,_⟩:=clause_sz p l hp
  cases hts:(t != s) with
  | true=>
   refine ⟨([],false),?_,?_,by simp⟩
   ·simp only [s_ParseClause,h1,cond_false,v2,Option.bind_some,r1,sumBind,Sum.elim_inl,t1,hts,cond_true]
   simp only [i_ParseClause,h2,cond_true,v1,Option.bind_some,r2,sumBind,Sum.elim_inl,t2,hts]
  | false=>
   refine ⟨(l,true),?_,?_,?_⟩
   ·simp only [s_ParseClause,h1,cond_false,v2,Option.bind_some,r1,sumBind,Sum.elim_inl,t1,hts]
   ·simp only [i_ParseClause,h2,cond_true,v1,Option.bind_some,r2,sumBind,Sum.elim_inl,t2,hts,cond_false]
   by_cases hne:t=ByteArray.empty
   ·
    have hse:s=ByteArray.empty:=by
     have:t=s:=by rw [ba_bne] at hts;simpa using hts
     rw [← this,hne]
    show l.length≤1048576
    have hll:∀(xs:List ByteArray)(z:Int)(a:List TLiteral) l,s_ParseClause_L1 p xs z a=some (.inl l)→l.length=a.length+xs.length:=by
     intro xs
     induction xs with
     | nil=>intro z a l h;cases h;simp
     | cons x xs ih=>
      intro z a l h
      rw [s_ParseClause_L1] at h
      cases hq:s_ParseLiteral p x with
      | none=>rw [hq] at h;cases h
      | some y=>
       rw [hq,Option.bind_some] at h
       cases hy:y.2 with
       | false=>rw [hy] at h;simp at h
       | true=>
        rw [hy] at h
        simp only [Bool.not_true,cond_false] at h
        cases ha:appL a [y.1] with
        | none=>rw [ha] at h;cases h
        | some a'=>
         rw [ha,Option.bind_some] at h
         rw [ih _ _ _ h,(appL_spec ha).2]
         simp;omega
    have:=hll V 0 [] l r1
    have hs0:s.size=0:=by rw [hse];rfl
    simp at this
    omega
   have:=hlen l t t1 hne
   show l.length≤1048576
   omega
theorem split_tail (c:UInt8)(p:UInt8→Bool)(hc:p c=true):∀(ys:List (List UInt8))(x:List UInt8),(∀ b∈x,p b=false)→(∀ y∈ys,∀ b∈y,p b=false)→splitP p (x ++ Lib.joinTail [c] ys)=(x,ys)
 | [],x,hx,_=>by
  rw [splitP_free p x _ hx]
  simp [Lib.joinTail,splitP]
 | y::ys,x,hx,hy=>by
  rw [splitP_free p x _ hx]
  have ih:=split_tail c p hc ys y (hy y (List.mem_cons_self ..)) (fun z hz=>hy z (List.mem_cons_of_mem _ hz))
  have e:Lib.joinTail [c] (y::ys)=c::(y ++ Lib.joinTail [c] ys):=by simp [Lib.joinTail]
  rw [e,splitP,hc]
  simp only [if_true,ih,List.append_nil]
theorem joinB_list (xs:List ByteArray)(by_:ByteArray):sl (joinB xs by_)=Lib.join (xs.map sl) (sl by_):=rfl
theorem join_s (xs:List ByteArray)(by_:ByteArray)(hx:∀ x∈xs,x.size≤10000000)(hb:by_.size≤10)(hl:xs.length≤30):s_Join xs by_=some (joinB xs by_)∧strings_Join xs by_=some (joinB xs by_):=by
 obtain ⟨s,h1,h2⟩:=join_eq xs by_ hx hb hl
 have h3:joinL xs by_=some s:=h2
 unfold joinL at h3
 split at h3
 ·have:=Option.some.inj h3
  rw [this];exact ⟨h1,h2⟩
 cases h3
theorem map_sl_inj:∀{xs ys:List ByteArray},xs.map sl=ys.map sl→xs=ys
 | [],[],_=>rfl
 | [],_::_,h=>by simp at h
 | _::_,[],h=>by simp at h
 | x::xs,y::ys,h=>by
  simp only [List.map_cons,List.cons.injEq] at h
  rw [ba_ext h.1,map_sl_inj h.2]
theorem split_join (c:UInt8)(w:ByteArray)(ws:List ByteArray)(hf:∀ x∈w::ws,c∉sl x)(hs:(joinB (w::ws) ⟨#[c]⟩).size≤3000000):s_SplitAny (joinB (w::ws) ⟨#[c]⟩) ⟨#[c]⟩=some (w::ws)∧i_SplitAny (joinB (w::ws) ⟨#[c]⟩) ⟨#[c]⟩=some (w::ws):=by
 obtain ⟨V,v1,v2,_,_,v5⟩:=split_eq (joinB (w::ws) ⟨#[c]⟩) ⟨#[c]⟩ hs (by show 1≤1000;omega)
 have hp:∀ b,decide (b∈sl (⟨#[c]⟩:ByteArray))=decide (b=c):=fun b=>by
  apply decide_eq_decide.2
  simp [sl]
 have e:sl (joinB (w::ws) ⟨#[c]⟩)=sl w ++ Lib.joinTail [c] (ws.map sl):=by
  rw [joinB_list,List.map_cons,Lib.join_cons]
 have hsp:=split_tail c (fun b=>decide (b∈sl (⟨#[c]⟩:ByteArray))) (by rw [hp];exact decide_eq_true rfl) (ws.map sl) (sl w) (fun b hb=>by
  rw [hp]
  exact decide_eq_false fun e=>hf w (List.mem_cons_self ..) (e ▸ hb)) (fun y hy b hb=>by
  obtain ⟨x,hx,rfl⟩:=List.mem_map.1 hy
  rw [hp]
  exact decide_eq_false fun e=>hf x (List.mem_cons_of_mem _ hx) (e ▸ hb))
 rw [e,hsp] at v5
 have:V=w::ws:=map_sl_inj (by rw [v5];rfl)
 rw [this] at v1 v2
 exact ⟨v2,v1⟩
theorem lit_nospace {p:TProject}{l:TLiteral}{s:ByteArray}{a:TActivity}(h:LitT p l s a):∀ b∈sl s,b≠32∧b≠44:=by
 intro b hb
 rw [h.text] at hb
 rcases List.mem_append.1 hb with hb | hb
 ·have:=h.al b hb
  constructor
  ·rintro rfl;exact absurd this (by decide)
  rintro rfl;exact absurd this (by decide)
 rcases List.mem_append.1 hb with hb | hb
 ·have:b=62∨b=60∨b=61∨b=33:=by
   rcases h.kind with e | e | e | e <;> rw [e] at hb <;> simp [signL] at hb
   ·rcases hb with e | e <;> simp [e]
   ·rcases hb with e | e <;> simp [e]
   ·simp [hb]
   rcases hb with e | e <;> simp [e]
  rcases this with rfl | rfl | rfl | rfl <;> decide
 ·have hd:b=45∨(48≤b.toNat∧b.toNat≤57):=by
   unfold Lib.itoa at hb
   split at hb
   ·rcases List.mem_cons.1 hb with e | e
    ·exact .inl e
    exact .inr (digits_ok _ b e)
   exact .inr (digits_ok _ b hb)
  constructor
  ·rintro rfl
   rcases hd with h | h
   ·exact absurd h (by decide)
   exact absurd h.1 (by decide)
  rintro rfl
  rcases hd with h | h
  ·exact absurd h (by decide)
  exact absurd h.1 (by decide)
theorem lit_len {p:TProject}{l:TLiteral}{s:ByteArray}{a:TActivity}(h:LitT p l s a):2≤s.size:=by
 rw [ba_size,show s.data.toList=sl s from rfl,h.text]
 obtain ⟨c,r,hc,_⟩:=sign_head l.Kind
 have h1:1≤(Lib.itoa l.Value).length:=by
  cases hi:Lib.itoa l.Value with
  | nil=>exact absurd hi (itoa_ne _)
  | cons x y=>simp
 rw [hc]
 simp
 omega
theorem fcl_w (p:TProject)(hp:bTProject 1048576 p):∀(xs:List TLiteral)(z:Int)(a:List ByteArray),(∀ x∈xs,s_LiteralOk p x=some true)→a.length+xs.length≤1000 →
  ∃ V,s_FormatClause_L1 p xs z a=some (a ++ V)∧V.length=xs.length∧(∀ w∈V,w.size≤10000000∧∃ l x,LitT p l w x)∧∀(z':Int)(b:List TLiteral),b.length+xs.length≤1000→(∀ w∈V,w.size≤3000000)→s_ParseClause_L1 p V z' b=some (.inl (b ++ xs))
 | [],z,a,_,_=>⟨[],by simp [s_FormatClause_L1],rfl,by simp,fun z' b _ _=>by simp [s_ParseClause_L1]⟩
 | x::xs,z,a,h,hl=>by
  simp only [List.length_cons] at hl
  have hx:=h x (List.mem_cons_self ..)
  obtain ⟨s,s1,s2,s3,s4⟩:=lit_t p x hp
  have hne:s≠ByteArray.empty:=by
   obtain ⟨a0,ha0,hm0,hk0,h00,h10⟩:=lit_facts p x (names_of hp (by omega)) hx
   obtain ⟨g,g1,g2,g3⟩:=sign_l x.Kind hk0
   obtain ⟨n1,n2⟩:=fmt_str x.Value h00 h10
   rintro rfl
   simp only [s_FormatLiteral,hx,ha0,g1,n1,Option.bind_some,Bool.not_true,cond_false] at s1
   cases hc:catS a0.Name g with
   | none=>rw [hc] at s1;cases s1
   | some c=>
    rw [hc,Option.bind_some] at s1
    cases hd:catS c ⟨(Lib.itoa x.Value).toArray⟩ with
    | none=>rw [hd] at s1;cases s1
    | some d=>
     rw [hd,Option.bind_some] at s1
     have e1:=Option.some.inj s1
     unfold catS at hd
     split at hd
     ·have e2:=Option.some.inj hd
      rw [e1] at e2
      have e3:=congrArg (fun b:ByteArray=>b.data.toList) e2
      simp only [ba_list] at e3
      have e4:Lib.itoa x.Value=[]:=by
       have:=congrArg List.length e3
       simp at this
       first | exact this.2 | exact List.eq_nil_of_length_eq_zero this.2
      exact itoa_ne _ e4
     cases hd
  obtain ⟨a0,hl0⟩:=s3 hne
  obtain ⟨V,w1,w2,w3,w4⟩:=fcl_w p hp xs (z+1) (a ++ [s]) (fun y hy=>h y (List.mem_cons_of_mem _ hy)) (by simp;omega)
  refine ⟨s::V,?_,by simp [w2],fun w hw=>?_,fun z' b hb hsz=>?_⟩
  ·simp only [s_FormatClause_L1,s1,Option.bind_some]
   rw [appL_ok' (by simp;omega),Option.bind_some,w1];simp
  ·rcases List.mem_cons.1 hw with e | e
   ·rw [e];exact ⟨s4,x,a0,hl0⟩
   exact w3 w e
  simp only [List.length_cons] at hb
  obtain ⟨r,r1,_,r3⟩:=plit_eq p s hp (hsz s (List.mem_cons_self ..))
  have hr:=r3 x a0 hne hl0
  subst hr
  simp only [s_ParseClause_L1,r1,Option.bind_some,Bool.not_true,cond_false]
  rw [appL_ok' (by simp;omega),Option.bind_some,w4 (z'+1) (b ++ [x]) (by simp;omega) (fun w hw=>hsz w (List.mem_cons_of_mem _ hw))]
  simp
theorem clause_text (p:TProject)(l:List TLiteral)(hp:bTProject 1048576 p)(h:s_ClauseOk p l=some true):∃ c ws,s_FormatClause p l=some (joinB (c::ws) ⟨#[32]⟩)∧i_FormatClause p l=some (joinB (c::ws) ⟨#[32]⟩)∧ws.length≤29∧(∀ x∈c::ws,x.size≤10000000∧32∉sl x)∧((joinB (c::ws) ⟨#[32]⟩).size≤3000000→s_ParseClause p (joinB (c::ws) ⟨#[32]⟩)=some (l,true)):=by
 have hnm:=names_of hp (by omega)
 obtain ⟨v,hv,hf⟩:=s_ClauseOk_ok p hnm l
 rw [h] at hv;cases hv
 obtain ⟨h24,hok⟩:=hf rfl
 obtain ⟨V,w1,w2,w3,w4⟩:=fcl_w p hp l 0 [] hok (by simp;omega)
 rw [List.nil_append] at w1
 obtain ⟨t,t1,t2,_⟩:=clause_sz p l hp
 cases V with
 | nil=>
  have hl0:l=[]:=List.eq_nil_of_length_eq_zero (by simpa using w2.symm)
  subst hl0
  have e:joinB [(⟨#[45]⟩:ByteArray)] ⟨#[32]⟩=⟨#[45]⟩:=by apply ba_ext;rfl
  have hs:s_FormatClause p []=some ⟨#[45]⟩:=by
   simp only [s_FormatClause,h,Option.bind_some,Bool.not_true,cond_false,w1]
   rfl
  refine ⟨⟨#[45]⟩,[],by rw [e];exact hs,by rw [e,t2,← t1,hs],by simp,by simp [sl];decide,fun _=>?_⟩
  rw [e]
  have h1:((⟨#[45]⟩:ByteArray) == ⟨#[45]⟩)=true:=by rw [ba_beq];exact decide_eq_true rfl
  simp only [s_ParseClause,h1,cond_true]
 | cons c ws=>
  obtain ⟨j1,j2⟩:=join_s (c::ws) ⟨#[32]⟩ (fun x hx=>(w3 x hx).1) (by decide) (by simp at w2 ⊢;omega)
  have hl:(((c::ws).length:Int) == 0)=false:=by rw [int_beq];apply decide_eq_false;simp;omega
  have hs:s_FormatClause p l=some (joinB (c::ws) ⟨#[32]⟩):=by
   simp only [s_FormatClause,h,Option.bind_some,Bool.not_true,cond_false,w1,hl,j1]
  have hsp:∀ x∈c::ws,(32:UInt8)∉sl x:=fun x hx hm=>by
   obtain ⟨l0,a0,hl0⟩:=(w3 x hx).2
   exact (lit_nospace hl0 32 hm).1 rfl
  refine ⟨c,ws,hs,by rw [t2,← t1,hs],by simp at w2;omega,fun x hx=>⟨(w3 x hx).1,hsp x hx⟩,fun hsz=>?_⟩
  have hne:joinB (c::ws) ⟨#[32]⟩≠⟨#[45]⟩:=by
   obtain ⟨l0,a0,hl0⟩:=(w3 c (List.mem_cons_self ..)).2
   have h2:=lit_len hl0
   intro e
   have h3:=congrArg (fun b:ByteArray=>b.data.toList.length) e
   have h4:sl (joinB (c::ws) ⟨#[32]⟩)=sl c ++ Lib.joinTail [32] (ws.map sl):=by rw [joinB_list,List.map_cons,Lib.join_cons]
   rw [ba_size] at h2
   have h5:(joinB (c::ws) ⟨#[32]⟩).data.toList.length=c.data.toList.length+(Lib.joinTail [32] (ws.map sl)).length:=by
    show (sl (joinB (c::ws) ⟨#[32]⟩)).length=_
    rw [h4,List.length_append]
   simp only [h5] at h3
   have h6:(⟨#[45]⟩:ByteArray).data.toList.length=1:=rfl
   have h7:([45]:List UInt8).length=1:=rfl
   first | omega | (simp at h3;omega)
  have h1:(joinB (c::ws) ⟨#[32]⟩ == (⟨#[45]⟩:ByteArray))=false:=ba_beq_ne hne
  have hself:(joinB (c::ws) ⟨#[32]⟩ != joinB (c::ws) ⟨#[32]⟩)=false:=by rw [ba_bne];simp
  have hsz2:∀ w∈c::ws,w.size≤3000000:=by
   obtain ⟨V,_,v2,_,v4,_⟩:=split_eq (joinB (c::ws) ⟨#[32]⟩) ⟨#[32]⟩ hsz (by decide)
   rw [(split_join 32 c ws hsp hsz).1] at v2
   rw [Option.some.inj v2]
   intro w hw
   have:=v4 w hw
   omega
  have hpl:=w4 0 [] (by simp;omega) hsz2
  rw [List.nil_append] at hpl
  simp only [s_ParseClause,h1,cond_false,(split_join 32 c ws hsp hsz).1,Option.bind_some,hpl,sumBind,Sum.elim_inl,hs,hself]
theorem swap_L1g (x y:Int)(v1:List Int)(hv:v1.length≤140737488355328):∀(fuel:Nat)(z:Nat)(a:List Int),v1.length - z<fuel→z≤v1.length→a.length=v1.length→s_l21Swap_L1 x y v1 fuel z a=some (a.take z ++ (a.drop z).map fun b=>if b=x then y else b)
 | 0,z,a,h,_,_=>absurd h (Nat.not_lt_zero _)
 | fuel+1,z,a,hf,hz,ha=>by
  rw [s_l21Swap_L1]
  by_cases h:(z:Int)<(v1.length:Int)
  ·have hlt:z<a.length:=by omega
   rw [decide_eq_true h,cond_true,idxL_ofNat (List.getElem?_eq_getElem hlt),Option.bind_some,W_of ⟨by omega,by omega⟩]
   have e1:(z:Int)+1=((z+1:Nat):Int):=by omega
   have hd:a.drop z=a[z]::a.drop (z+1):=(List.getElem_cons_drop hlt).symm
   rw [e1]
   by_cases hx:a[z]=x
   ·rw [show (a[z] == x)=true by simp [hx],cond_true]
    have ih:=swap_L1g x y v1 hv fuel (z+1) (setL a z y) (by omega) (by omega) (by simp [setL,ha])
    rw [ih,hd]
    have e2:setL a (z:Int) y=a.set z y:=by simp [setL]
    rw [e2]
    congr 1
    rw [List.drop_set_of_lt (by omega)]
    have e3:(a.set z y).take (z+1)=a.take z ++ [y]:=by
     rw [List.take_set,List.take_succ_eq_append_getElem hlt,List.set_append_right _ _ (by simp;omega)]
     have:z - (List.take z a).length=0:=by simp;omega
     rw [this];rfl
    rw [e3]
    simp [hx]
   rw [show (a[z] == x)=false by simp [hx],cond_false]
   have ih:=swap_L1g x y v1 hv fuel (z+1) a (by omega) (by omega) ha
   rw [ih,hd,List.take_succ_eq_append_getElem hlt,List.map_cons,if_neg hx,List.append_assoc]
   rfl
  have:z=v1.length:=by omega
  rw [decide_eq_false h,cond_false,this,← ha]
  simp
end Go.Px.YtoajaeffpalmlaaGreatDoor
