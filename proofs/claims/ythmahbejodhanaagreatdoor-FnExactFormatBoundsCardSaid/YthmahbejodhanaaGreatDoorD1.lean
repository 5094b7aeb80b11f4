/-
  PROVED: definitions that say what functions of the program compute. No condition.
-/
import Derived.Test.YthmahbejodhanaaGreatDoorQ4
namespace Go.Px.YthmahbejodhanaaGreatDoor
set_option linter.unusedSimpArgs false
set_option linter.unusedVariables false
open Go.Px
structure TMode where
 Duration:Int
 Usage:List Int
 Consumption:List Int
 deriving DecidableEq
structure A0f where
 Name:ByteArray
 Family:Int
 Modes:List TMode
 deriving DecidableEq
structure TLink where
 From:Int
 To:Int
 FromEnd:Bool
 Lag:Int
 deriving DecidableEq
structure TStep where
 At:Int
 Capacity:Int
 deriving DecidableEq
structure A0q where
 Steps:List TStep
 Setup:List (List Int)
 deriving DecidableEq
structure A0b where
 Deadline:Int
 Activities:List A0f
 Links:List TLink
 Resources:List A0q
 Stocks:List Int
 deriving DecidableEq
structure A0r where
 MinStart:List Int
 MaxStart:List Int
 Modes:List (List Int)
 deriving DecidableEq
abbrev B0f (x:TMode):PV:=.agg [int x.Duration,.slice (x.Usage.map int),.slice (x.Consumption.map int)]
abbrev A0d (x:A0f):PV:=.agg [str x.Name,int x.Family,.slice (x.Modes.map B0f)]
abbrev A0l (x:TLink):PV:=.agg [int x.From,int x.To,bool x.FromEnd,int x.Lag]
abbrev B0e (x:TStep):PV:=.agg [int x.At,int x.Capacity]
abbrev l_int (x:List Int):PV:=.slice (x.map int)
abbrev A0e (x:A0q):PV:=.agg [.slice (x.Steps.map B0e),.slice (x.Setup.map l_int)]
abbrev A0n (x:A0b):PV:=.agg [int x.Deadline,.slice (x.Activities.map A0d),.slice (x.Links.map A0l),.slice (x.Resources.map A0e),.slice (x.Stocks.map int)]
abbrev t_int (x:List Int):PV:=.obj true 3 1 (x.map int)
abbrev H0m (x:A0r):PV:=.agg [.slice (x.MinStart.map int),.slice (x.MaxStart.map int),.slice (x.Modes.map l_int)]
def S0h (b0:List Int)(b1:Int):Option Int:=
 (bif (decide ((W (b1 - (b0.length:Int)))<0)) then
 some (-1)
 else
 some (W (b1 - (b0.length:Int))))
def V0x (b0:TMode)(b1:Int):Option Int:=
 (S0h b0.Usage b1).bind fun v1=>
 (bif (decide (v1<0)) then
 some (-1)
 else
 (S0h b0.Consumption v1).bind fun v3=>
 (bif (decide (v3<0)) then
 some (-1)
 else
 some v3))
def M0w  : List TMode→Int→Int→Option (Int ⊕ Int)
 | [],z9,a10=>
  some (Sum.inl a10)
 | x11::xs12,z9,a10=>
  (V0x x11 a10).bind fun v14=>
  (bif (decide (v14<0)) then
  some (Sum.inr (-1))
  else
  M0w xs12 (z9+1) v14)
def Y0d (b0:List TMode)(b1:Int):Option Int:=
 (bif (decide ((W (b1 - (b0.length:Int)))<0)) then
 some (-1)
 else
 A0m
 (M0w b0 0 (W (b1 - (b0.length:Int))))
 (fun q17=>some q17) fun p16=>
 some p16)
def N0b (b0:A0f)(b1:Int):Option Int:=
 (bif (decide ((W (b1 - (b0.Name.size:Int)))<0)) then
 some (-1)
 else
 (Y0d b0.Modes (W (b1 - (b0.Name.size:Int)))).bind fun v2=>
 (bif (decide (v2<0)) then
 some (-1)
 else
 some v2))
def H0d  : List A0f→Int→Int→Option (Int ⊕ Int)
 | [],z9,a10=>
  some (Sum.inl a10)
 | x11::xs12,z9,a10=>
  (N0b x11 a10).bind fun v14=>
  (bif (decide (v14<0)) then
  some (Sum.inr (-1))
  else
  H0d xs12 (z9+1) v14)
def Q0t (b0:List A0f)(b1:Int):Option Int:=
 (bif (decide ((W (b1 - (b0.length:Int)))<0)) then
 some (-1)
 else
 A0m
 (H0d b0 0 (W (b1 - (b0.length:Int))))
 (fun q17=>some q17) fun p16=>
 some p16)
def Z0l (b0:List TLink)(b1:Int):Option Int:=
 (bif (decide ((W (b1 - (b0.length:Int)))<0)) then
 some (-1)
 else
 some (W (b1 - (b0.length:Int))))
def Y0b (b0:List TStep)(b1:Int):Option Int:=
 (bif (decide ((W (b1 - (b0.length:Int)))<0)) then
 some (-1)
 else
 some (W (b1 - (b0.length:Int))))
def M0v  : List (List Int)→Int→Int→Option (Int ⊕ Int)
 | [],z9,a10=>
  some (Sum.inl a10)
 | x11::xs12,z9,a10=>
  (S0h x11 a10).bind fun v14=>
  (bif (decide (v14<0)) then
  some (Sum.inr (-1))
  else
  M0v xs12 (z9+1) v14)
def Y0j (b0:List (List Int))(b1:Int):Option Int:=
 (bif (decide ((W (b1 - (b0.length:Int)))<0)) then
 some (-1)
 else
 A0m
 (M0v b0 0 (W (b1 - (b0.length:Int))))
 (fun q17=>some q17) fun p16=>
 some p16)
def M0z (b0:A0q)(b1:Int):Option Int:=
 (Y0b b0.Steps b1).bind fun v1=>
 (bif (decide (v1<0)) then
 some (-1)
 else
 (Y0j b0.Setup v1).bind fun v3=>
 (bif (decide (v3<0)) then
 some (-1)
 else
 some v3))
def H0c  : List A0q→Int→Int→Option (Int ⊕ Int)
 | [],z9,a10=>
  some (Sum.inl a10)
 | x11::xs12,z9,a10=>
  (M0z x11 a10).bind fun v14=>
  (bif (decide (v14<0)) then
  some (Sum.inr (-1))
  else
  H0c xs12 (z9+1) v14)
def Q0s (b0:List A0q)(b1:Int):Option Int:=
 (bif (decide ((W (b1 - (b0.length:Int)))<0)) then
 some (-1)
 else
 A0m
 (H0c b0 0 (W (b1 - (b0.length:Int))))
 (fun q17=>some q17) fun p16=>
 some p16)
def R0g (b0:A0b)(b1:Int):Option Int:=
 (Q0t b0.Activities b1).bind fun v1=>
 (bif (decide (v1<0)) then
 some (-1)
 else
 (Z0l b0.Links v1).bind fun v3=>
 (bif (decide (v3<0)) then
 some (-1)
 else
 (Q0s b0.Resources v3).bind fun v5=>
 (bif (decide (v5<0)) then
 some (-1)
 else
 (S0h b0.Stocks v5).bind fun v7=>
 (bif (decide (v7<0)) then
 some (-1)
 else
 some v7))))
def M0t  : List Int→Int→(List Int)→Option (List Int)
 | [],z9,a10=>
  some a10
 | x11::xs12,z9,a10=>
  (idxL a10 z9).bind fun v14=>
  M0t xs12 (z9+1) (setL a10 z9 x11)
def T0v (b0:List Int):Option (List Int):=
 (makeL 0 (b0.length:Int)).bind fun v1=>
 Option.bind
 (M0t b0 0 v1) fun p15=>
 some p15
def Y0k (b0:TMode):Option TMode:=
 (T0v b0.Usage).bind fun v1=>
 (T0v b0.Consumption).bind fun v2=>
 some (TMode.mk b0.Duration v1 v2)
def K0q  : List TMode→Int→(List TMode)→Option (List TMode)
 | [],z9,a10=>
  some a10
 | x11::xs12,z9,a10=>
  (Y0k x11).bind fun v14=>
  (idxL a10 z9).bind fun v15=>
  K0q xs12 (z9+1) (setL a10 z9 v14)
def Z0d (b0:List TMode):Option (List TMode):=
 (makeL (TMode.mk 0 [] []) (b0.length:Int)).bind fun v1=>
 Option.bind
 (K0q b0 0 v1) fun p16=>
 some p16
def P0i (b0:A0f):Option A0f:=
 (Z0d b0.Modes).bind fun v1=>
 some (A0f.mk b0.Name b0.Family v1)
def G0d  : List A0f→Int→(List A0f)→Option (List A0f)
 | [],z9,a10=>
  some a10
 | x11::xs12,z9,a10=>
  (P0i x11).bind fun v14=>
  (idxL a10 z9).bind fun v15=>
  G0d xs12 (z9+1) (setL a10 z9 v14)
def Q0p (b0:List A0f):Option (List A0f):=
 (makeL (A0f.mk ByteArray.empty 0 []) (b0.length:Int)).bind fun v1=>
 Option.bind
 (G0d b0 0 v1) fun p16=>
 some p16
def Y0f (b0:TLink):Option TLink:=
 some b0
def K0s  : List TLink→Int→(List TLink)→Option (List TLink)
 | [],z9,a10=>
  some a10
 | x11::xs12,z9,a10=>
  (Y0f x11).bind fun v14=>
  (idxL a10 z9).bind fun v15=>
  K0s xs12 (z9+1) (setL a10 z9 v14)
def X0u (b0:List TLink):Option (List TLink):=
 (makeL (TLink.mk 0 0 false 0) (b0.length:Int)).bind fun v1=>
 Option.bind
 (K0s b0 0 v1) fun p16=>
 some p16
def Z0t (b0:TStep):Option TStep:=
 some b0
def K0t  : List TStep→Int→(List TStep)→Option (List TStep)
 | [],z9,a10=>
  some a10
 | x11::xs12,z9,a10=>
  (Z0t x11).bind fun v14=>
  (idxL a10 z9).bind fun v15=>
  K0t xs12 (z9+1) (setL a10 z9 v14)
def X0s (b0:List TStep):Option (List TStep):=
 (makeL (TStep.mk 0 0) (b0.length:Int)).bind fun v1=>
 Option.bind
 (K0t b0 0 v1) fun p16=>
 some p16
def L0f  : List (List Int)→Int→(List (List Int))→Option (List (List Int))
 | [],z9,a10=>
  some a10
 | x11::xs12,z9,a10=>
  (T0v x11).bind fun v14=>
  (idxL a10 z9).bind fun v15=>
  L0f xs12 (z9+1) (setL a10 z9 v14)
def X0q (b0:List (List Int)):Option (List (List Int)):=
 (makeL ([]:List Int) (b0.length:Int)).bind fun v1=>
 Option.bind
 (L0f b0 0 v1) fun p16=>
 some p16
def P0k (b0:A0q):Option A0q:=
 (X0s b0.Steps).bind fun v1=>
 (X0q b0.Setup).bind fun v2=>
 some (A0q.mk v1 v2)
def F0z  : List A0q→Int→(List A0q)→Option (List A0q)
 | [],z9,a10=>
  some a10
 | x11::xs12,z9,a10=>
  (P0k x11).bind fun v14=>
  (idxL a10 z9).bind fun v15=>
  F0z xs12 (z9+1) (setL a10 z9 v14)
def Q0r (b0:List A0q):Option (List A0q):=
 (makeL (A0q.mk [] []) (b0.length:Int)).bind fun v1=>
 Option.bind
 (F0z b0 0 v1) fun p16=>
 some p16
def M0r (b0:A0b):Option A0b:=
 (Q0p b0.Activities).bind fun v1=>
 (X0u b0.Links).bind fun v2=>
 (Q0r b0.Resources).bind fun v3=>
 (T0v b0.Stocks).bind fun v4=>
 some (A0b.mk b0.Deadline v1 v2 v3 v4)
def C0v (b0:Int)(b1:Int)(b2:Int):Option Bool:=
 Option.bind
 ((bif (decide (b1≤b0)) then
 some (decide (b0≤b2))
 else
 some false)) fun e1=>
 some e1
def H0k  : List Int→Int→Option (Unit ⊕ Bool)
 | [],z8=>
  some (Sum.inl ())
 | x9::xs10,z8=>
  (C0v x9 0 20).bind fun v12=>
  (bif (!v12) then
  some (Sum.inr false)
  else
  H0k xs10 (z8+1))
def N0h (b0:List Int)(b1:Int):Option Bool:=
 A0m
 (H0k b0 0)
 (fun q15=>some q15) fun p14=>
 some ((b0.length:Int) == b1)
def Q0l (b0:TMode)(b1:Int)(b2:Int):Option Bool:=
 (C0v b0.Duration 1 12).bind fun v1=>
 Option.bind
 ((bif v1 then
 (N0h b0.Usage b1).bind fun v4=>
 (bif v4 then
 (N0h b0.Consumption b2).bind fun v6=>
 some v6
 else
 some false)
 else
 some false)) fun e2=>
 some e2
def G0t (b0:ByteArray):Nat→Int→Option (Unit ⊕ Bool)
 | 0,_=>none
 | fuel+1,a7=>
  (bif (decide (a7<(b0.size:Int))) then
  (idxS b0 a7).bind fun v11=>
  Option.bind
  ((bif (decide (97≤v11)) then
  some (decide (v11≤122))
  else
  some false)) fun e12=>
  Option.bind
  ((bif (!e12) then
  (bif (a7 == 0) then
  some true
  else
  (bif (decide (v11<48)) then
  some true
  else
  some (decide (57<v11))))
  else
  some false)) fun e14=>
  (bif e14 then
  some (Sum.inr false)
  else
  G0t b0 fuel (W (a7+1)))
  else
  some (Sum.inl ()))
def S0g (b0:ByteArray):Option Bool:=
 A0m
 (G0t b0 F0 0)
 (fun q20=>some q20) fun p19=>
 (C0v (b0.size:Int) 1 8).bind fun v21=>
 some v21
def E0f (b1:Int)(b2:Int):List TMode→Int→Option (Unit ⊕ Bool)
 | [],z8=>
  some (Sum.inl ())
 | x9::xs10,z8=>
  (Q0l x9 b1 b2).bind fun v12=>
  (bif (!v12) then
  some (Sum.inr false)
  else
  E0f b1 b2 xs10 (z8+1))
def F0q (b0:A0f)(b1:Int)(b2:Int):Option Bool:=
 A0m
 (E0f b1 b2 b0.Modes 0)
 (fun q15=>some q15) fun p14=>
 (S0g b0.Name).bind fun v16=>
 Option.bind
 ((bif v16 then
 (C0v b0.Family 0 3).bind fun v19=>
 (bif v19 then
 (C0v (b0.Modes.length:Int) 1 3).bind fun v21=>
 some v21
 else
 some false)
 else
 some false)) fun e17=>
 some e17
def B0x (b1:ByteArray):List A0f→Int→Option (Unit ⊕ Int)
 | [],z8=>
  some (Sum.inl ())
 | x9::xs10,z8=>
  (bif (x9.Name == b1) then
  some (Sum.inr z8)
  else
  B0x b1 xs10 (z8+1))
def E0h (b0:A0b)(b1:ByteArray):Option Int:=
 A0m
 (B0x b1 b0.Activities 0)
 (fun q14=>some q14) fun p13=>
 some (-1)
def D0i (b0:List TStep):List TStep→Int→Option (Unit ⊕ Bool)
 | [],z8=>
  some (Sum.inl ())
 | x9::xs10,z8=>
  (C0v x9.At 0 60).bind fun v12=>
  Option.bind
  ((bif (!v12) then
  some true
  else
  (C0v x9.Capacity 0 20).bind fun v15=>
  (bif (!v15) then
  some true
  else
  (bif (decide (0<z8)) then
  (idxL b0 (z8 - 1)).bind fun v18=>
  some (decide (x9.At≤v18.At))
  else
  some false)))) fun e13=>
  (bif e13 then
  some (Sum.inr false)
  else
  D0i b0 xs10 (z8+1))
def K0i (b0:List TStep):Option Bool:=
 A0m
 (D0i b0 b0 0)
 (fun q21=>some q21) fun p20=>
 (C0v (b0.length:Int) 1 8).bind fun v22=>
 Option.bind
 ((bif v22 then
 (idxL b0 0).bind fun v25=>
 some (v25.At == 0)
 else
 some false)) fun e23=>
 some e23
def C0w  : List Int→Int→Option (Unit ⊕ Bool)
 | [],z20=>
  some (Sum.inl ())
 | x21::xs22,z20=>
  (C0v x21 0 12).bind fun v24=>
  (bif (!v24) then
  some (Sum.inr false)
  else
  C0w xs22 (z20+1))
def B0j  : List (List Int)→Int→Option (Unit ⊕ Bool)
 | [],z8=>
  some (Sum.inl ())
 | x9::xs10,z8=>
  (bif ((x9.length:Int) != 4) then
  some (Sum.inr false)
  else
  A0m
  (C0w x9 0)
  (fun q27=>some (Sum.inr q27)) fun p26=>
  B0j xs10 (z8+1))
def G0r (b0:A0q):Option Bool:=
 A0m
 (B0j b0.Setup 0)
 (fun q29=>some q29) fun p28=>
 (K0i b0.Steps).bind fun v30=>
 Option.bind
 ((bif v30 then
 (bif ((b0.Setup.length:Int) == 0) then
 some true
 else
 some ((b0.Setup.length:Int) == 4))
 else
 some false)) fun e31=>
 some e31
def F0c (b0:A0b):List A0f→Int→Option (Unit ⊕ Bool)
 | [],z16=>
  some (Sum.inl ())
 | x17::xs18,z16=>
  (F0q x17 (b0.Resources.length:Int) (b0.Stocks.length:Int)).bind fun v20=>
  Option.bind
  ((bif (!v20) then
  some true
  else
  (E0h b0 x17.Name).bind fun v23=>
  some (v23 != z16))) fun e21=>
  (bif e21 then
  some (Sum.inr false)
  else
  F0c b0 xs18 (z16+1))
def F0i  : List A0q→Int→Option (Unit ⊕ Bool)
 | [],z34=>
  some (Sum.inl ())
 | x35::xs36,z34=>
  (G0r x35).bind fun v38=>
  (bif (!v38) then
  some (Sum.inr false)
  else
  F0i xs36 (z34+1))
def F0l  : List Int→Int→Option (Unit ⊕ Bool)
 | [],z49=>
  some (Sum.inl ())
 | x50::xs51,z49=>
  (C0v x50 0 100).bind fun v53=>
  (bif (!v53) then
  some (Sum.inr false)
  else
  F0l xs51 (z49+1))
def C0h (b0:A0b):List TLink→Int→Option (Unit ⊕ Bool)
 | [],z64=>
  some (Sum.inl ())
 | x65::xs66,z64=>
  (C0v x65.From 0 (W ((b0.Activities.length:Int) - 1))).bind fun v68=>
  Option.bind
  ((bif (!v68) then
  some true
  else
  (C0v x65.To 0 (W ((b0.Activities.length:Int) - 1))).bind fun v71=>
  (bif (!v71) then
  some true
  else
  (bif (x65.From == x65.To) then
  some true
  else
  (C0v x65.Lag (-60) 60).bind fun v74=>
  some (!v74))))) fun e69=>
  (bif e69 then
  some (Sum.inr false)
  else
  C0h b0 xs66 (z64+1))
def B0w (b0:A0b):Option Bool:=
 (C0v b0.Deadline 1 60).bind fun v1=>
 Option.bind
 ((bif (!v1) then
 some true
 else
 (C0v (b0.Activities.length:Int) 1 6).bind fun v4=>
 (bif (!v4) then
 some true
 else
 (bif (decide (3<(b0.Resources.length:Int))) then
 some true
 else
 (bif (decide (2<(b0.Stocks.length:Int))) then
 some true
 else
 some (decide (12<(b0.Links.length:Int)))))))) fun e2=>
 (bif e2 then
 some false
 else
 A0m
 (F0c b0 b0.Activities 0)
 (fun q26=>some q26) fun p25=>
 A0m
 (F0i b0.Resources 0)
 (fun q41=>some q41) fun p40=>
 A0m
 (F0l b0.Stocks 0)
 (fun q56=>some q56) fun p55=>
 A0m
 (C0h b0 b0.Links 0)
 (fun q77=>some q77) fun p76=>
 some true)
def G0k (b0:Int):Nat→Int→(List Int)→Option (List Int)
 | 0,_,_=>none
 | fuel+1,a9,a10=>
  (bif (decide (a9<b0)) then
  (appL a10 ([a9]:List Int)).bind fun v14=>
  G0k b0 fuel (W (a9+1)) v14
  else
  some a10)
def N0r (b0:Int):Option (List Int):=
 (C0v b0 0 200).bind fun v1=>
 (bif (!v1) then
 some ([]:List Int)
 else
 Option.bind
 (G0k b0 F0 0 ([]:List Int)) fun p15=>
 some p15)
def C0x (b0:A0f):Option (List Int):=
 (N0r (b0.Modes.length:Int)).bind fun v1=>
 some v1
def M0m (b1:Int):List Int→Int→Option (Unit ⊕ Bool)
 | [],z8=>
  some (Sum.inl ())
 | x9::xs10,z8=>
  (bif (x9 == b1) then
  some (Sum.inr true)
  else
  M0m b1 xs10 (z8+1))
def U0l (b0:List Int)(b1:Int):Option Bool:=
 A0m
 (M0m b1 b0 0)
 (fun q14=>some q14) fun p13=>
 some false
def E0q (b1:List Int):List TMode→Int→Int→Bool→Option Int
 | [],z8,a9,a10=>
  some a9
 | x11::xs12,z8,a9,a10=>
  (U0l b1 z8).bind fun v14=>
  Option.bind
  ((bif v14 then
  (bif (!a10) then
  some true
  else
  some (decide (x11.Duration<a9)))
  else
  some false)) fun e15=>
  (bif e15 then
  E0q b1 xs12 (z8+1) x11.Duration true
  else
  E0q b1 xs12 (z8+1) a9 a10)
def G0i (b0:A0f)(b1:List Int):Option Int:=
 Option.bind
 (E0q b1 b0.Modes 0 0 false) fun p19=>
 some p19
def X0x (b0:A0b)(b1:Int)(b2:List Int):Option Int:=
 (idxL b0.Links b1).bind fun v1=>
 (bif v1.FromEnd then
 (idxL b0.Activities v1.From).bind fun v3=>
 (G0i v3 b2).bind fun v4=>
 some (W (v1.Lag+v4))
 else
 some v1.Lag)
def P0c (b0:A0b)(b1:Int):Option Int:=
 (idxL b0.Links b1).bind fun v1=>
 (idxL b0.Activities v1.From).bind fun v2=>
 (C0x v2).bind fun v3=>
 (X0x b0 b1 v3).bind fun v4=>
 some v4
def D0k (b0:A0b):List Int→Int→Int→Option Int
 | [],z13,a14=>
  some a14
 | x15::xs16,z13,a14=>
  (P0c b0 x15).bind fun v18=>
  D0k b0 xs16 (z13+1) (W (a14+v18))
def L0b (b0:A0b)(v4:TLink):List Int→Int→Option (Unit ⊕ (List Int))
 | [],z32=>
  some (Sum.inl ())
 | x33::xs34,z32=>
  (idxL b0.Links x33).bind fun v36=>
  (bif (v36.To == v4.To) then
  some (Sum.inr ([]:List Int))
  else
  L0b b0 v4 xs34 (z32+1))
def G0l (b0:A0b)(b1:List Int)(b2:Int)(rec:A0b→(List Int)→Int→Option (List Int))(v1:Int)(v4:TLink):List TLink→Int→Option (Unit ⊕ (List Int))
 | [],z47=>
  some (Sum.inl ())
 | x48::xs49,z47=>
  Option.bind
  ((bif (x48.From != v4.To) then
  some true
  else
  some (decide (z47≤v1)))) fun e51=>
  (bif e51 then
  G0l b0 b1 b2 rec v1 v4 xs49 (z47+1)
  else
  (appL ([]:List Int) b1).bind fun v54=>
  (appL v54 ([z47]:List Int)).bind fun v55=>
  (rec b0 v55 b2).bind fun v56=>
  (bif (decide (0<(v56.length:Int))) then
  some (Sum.inr v56)
  else
  G0l b0 b1 b2 rec v1 v4 xs49 (z47+1)))
def R0e (rec:A0b→(List Int)→Int→Option (List Int))(b0:A0b)(b1:List Int)(b2:Int):Option (List Int):=
 (idxL b1 0).bind fun v1=>
 (idxL b0.Links v1).bind fun v2=>
 (idxL b1 (W ((b1.length:Int) - 1))).bind fun v3=>
 (idxL b0.Links v3).bind fun v4=>
 (bif (v4.To == v2.From) then
 Option.bind
 (D0k b0 b1 0 0) fun p19=>
 Option.bind
 ((bif (decide (0<p19)) then
 some ((b1.length:Int) == b2)
 else
 some false)) fun e20=>
 (bif e20 then
 some b1
 else
 some ([]:List Int))
 else
 (bif ((b1.length:Int) == b2) then
 some ([]:List Int)
 else
 (subL b1 0 (W ((b1.length:Int) - 1))).bind fun v24=>
 A0m
 (L0b b0 v4 v24 0)
 (fun q39=>some q39) fun p38=>
 A0m
 (G0l b0 b1 b2 rec v1 v4 b0.Links 0)
 (fun q59=>some q59) fun p58=>
 some ([]:List Int)))
def K0y:Nat→A0b→(List Int)→Int→Option (List Int)
 | 0=>fun _ _ _=>none
 | fuel+1=>R0e (K0y fuel)
def E1n (b0:A0b)(b1:List Int)(b2:Int):Option (List Int):=K0y F0 b0 b1 b2
def E0d (b0:A0b)(a8:Int):List TLink→Int→Option (Unit ⊕ (List Int))
 | [],z19=>
  some (Sum.inl ())
 | x20::xs21,z19=>
  (E1n b0 ([z19]:List Int) a8).bind fun v23=>
  (bif (decide (0<(v23.length:Int))) then
  some (Sum.inr v23)
  else
  E0d b0 a8 xs21 (z19+1))
def C0l (b0:A0b):Nat→Int→Option (Unit ⊕ (List Int))
 | 0,_=>none
 | fuel+1,a8=>
  (bif (decide (a8≤(b0.Activities.length:Int))) then
  A0m
  (E0d b0 a8 b0.Links 0)
  (fun q26=>some (Sum.inr q26)) fun p25=>
  C0l b0 fuel (W (a8+1))
  else
  some (Sum.inl ()))
def L0d (b0:A0b):Option (List Int):=
 (B0w b0).bind fun v1=>
 (bif (!v1) then
 some ([]:List Int)
 else
 A0m
 (C0l b0 F0 2)
 (fun q28=>some q28) fun p27=>
 some ([]:List Int))
def K0o (b0:Int)(b1:Int):Option Int:=
 (bif (decide (b1<b0)) then
 some b0
 else
 some b1)
def J0o (z8:Int):List A0f→Int→(List Int)→Option (List Int)
 | [],z20,a21=>
  some a21
 | x22::xs23,z20,a21=>
  Option.bind
  ((bif (z8 == z20) then
  some 0
  else
  some (-1000))) fun p30=>
  (appL a21 ([p30]:List Int)).bind fun v31=>
  J0o z8 xs23 (z20+1) v31
def J0m (b0:A0b):List A0f→Int→(List (List Int))→Option (List (List Int))
 | [],z8,a9=>
  some a9
 | x10::xs11,z8,a9=>
  Option.bind
  (J0o z8 b0.Activities 0 ([]:List Int)) fun p32=>
  (appL a9 ([p32]:List (List Int))).bind fun v33=>
  J0m b0 xs11 (z8+1) v33
def J0q (b0:A0b):List TLink→Int→(List (List Int))→Option (List (List Int))
 | [],z42,a43=>
  some a43
 | x44::xs45,z42,a43=>
  (idxL a43 x44.From).bind fun v47=>
  (idxL v47 x44.To).bind fun v48=>
  (P0c b0 z42).bind fun v49=>
  (K0o v48 v49).bind fun v50=>
  J0q b0 xs45 (z42+1) (setL a43 x44.From (setL v47 x44.To v50))
def H0g (z59:Int)(z71:Int):List A0f→Int→(List (List Int))→Option (List (List Int))
 | [],z83,a84=>
  some a84
 | x85::xs86,z83,a84=>
  (idxL a84 z71).bind fun v88=>
  (idxL v88 z59).bind fun v89=>
  Option.bind
  ((bif (v89 != (-1000)) then
  (idxL a84 z59).bind fun v92=>
  (idxL v92 z83).bind fun v93=>
  some (v93 != (-1000))
  else
  some false)) fun e90=>
  (bif e90 then
  (idxL v88 z83).bind fun v95=>
  (idxL a84 z59).bind fun v96=>
  (idxL v96 z83).bind fun v97=>
  (K0o v95 (W (v89+v97))).bind fun v98=>
  H0g z59 z71 xs86 (z83+1) (setL a84 z71 (setL v88 z83 v98))
  else
  H0g z59 z71 xs86 (z83+1) a84)
def J0n (b0:A0b)(z59:Int):List A0f→Int→(List (List Int))→Option (List (List Int))
 | [],z71,a72=>
  some a72
 | x73::xs74,z71,a72=>
  Option.bind
  (H0g z59 z71 b0.Activities 0 a72) fun p99=>
  J0n b0 z59 xs74 (z71+1) p99
def J0p (b0:A0b):List A0f→Int→(List (List Int))→Option (List (List Int))
 | [],z59,a60=>
  some a60
 | x61::xs62,z59,a60=>
  Option.bind
  (J0n b0 z59 b0.Activities 0 a60) fun p100=>
  J0p b0 xs62 (z59+1) p100
def V0m (b0:A0b):Option (List (List Int)):=
 Option.bind
 (J0m b0 b0.Activities 0 ([]:List (List Int))) fun p34=>
 Option.bind
 (J0q b0 b0.Links 0 p34) fun p51=>
 Option.bind
 (J0p b0 b0.Activities 0 p51) fun p101=>
 some p101
def K0r (b0:A0b):Option (List (List Int)):=
 (B0w b0).bind fun v1=>
 Option.bind
 ((bif (!v1) then
 some true
 else
 (L0d b0).bind fun v4=>
 some (decide (0<(v4.length:Int))))) fun e2=>
 (bif e2 then
 some ([]:List (List Int))
 else
 (V0m b0).bind fun v6=>
 some v6)
def C0d (v1:List (List Int))(a8:Int):Nat→Int→Int→Option Int
 | 0,_,_=>none
 | fuel+1,a19,a20=>
  (bif (decide (a20<(v1.length:Int))) then
  (idxL v1 a20).bind fun v24=>
  (idxL v24 a8).bind fun v25=>
  (K0o a19 v25).bind fun v26=>
  C0d v1 a8 fuel v26 (W (a20+1))
  else
  some a19)
def C0c (v1:List (List Int)):Nat→Int→(List Int)→Option (List Int)
 | 0,_,_=>none
 | fuel+1,a8,a9=>
  (bif (decide (a8<(v1.length:Int))) then
  Option.bind
  (C0d v1 a8 F0 0 0) fun p27=>
  (appL a9 ([p27]:List Int)).bind fun v28=>
  C0c v1 fuel (W (a8+1)) v28
  else
  some a9)
def K0j (b0:A0b):Option (List Int):=
 (K0r b0).bind fun v1=>
 Option.bind
 (C0c v1 F0 0 ([]:List Int)) fun p29=>
 some p29
def S0z (b0:A0b)(b1:Int):Option Int:=
 (idxL b0.Activities b1).bind fun v1=>
 (C0x v1).bind fun v2=>
 (G0i v1 v2).bind fun v3=>
 some v3
def H0t (b0:A0b):List Int→Int→Int→Option Int
 | [],z9,a10=>
  some a10
 | x11::xs12,z9,a10=>
  (S0z b0 z9).bind fun v14=>
  (K0o a10 (W (x11+v14))).bind fun v15=>
  H0t b0 xs12 (z9+1) v15
def L0i (b0:A0b):Option Int:=
 (K0j b0).bind fun v1=>
 Option.bind
 (H0t b0 v1 0 0) fun p16=>
 some p16
def H0r  : Nat→Int→ByteArray→Option (Int×ByteArray)
 | 0,_,_=>none
 | fuel+1,a11,a12=>
  (bif (decide (9<a11)) then
  (catS (strB ([(IntKind.u8.wrap (W (48+(a11.tmod 10))))]:List Int)) a12).bind fun v16=>
  H0r fuel (W (a11.tdiv 10)) v16
  else
  some (a11,a12))
def F0k (rec:Int→Option ByteArray)(b0:Int):Option ByteArray:=
 (C0v b0 (-100000) 100000).bind fun v1=>
 (bif (!v1) then
 some ByteArray.empty
 else
 (bif (decide (b0<0)) then
 (rec (W (0 - b0))).bind fun v4=>
 (catS (⟨#[45]⟩:ByteArray) v4).bind fun v5=>
 some v5
 else
 Option.bind
 (H0r F0 b0 ByteArray.empty) fun p17=>
 (catS (strB ([(IntKind.u8.wrap (W (48+p17.1)))]:List Int)) p17.2).bind fun v18=>
 some v18))
def D0z:Nat→Int→Option ByteArray
 | 0=>fun _=>none
 | fuel+1=>F0k (D0z fuel)
def H0w (b0:Int):Option ByteArray:=D0z F0 b0
def G0g (b1:List Int)(b2:Int)(b3:Bool)(b4:Bool):List TMode→Int→Int→Bool→Option (Int ⊕ Int)
 | [],z8,a9,a10=>
  some (Sum.inl a9)
 | x11::xs12,z8,a9,a10=>
  (U0l b1 z8).bind fun v14=>
  (bif (!v14) then
  G0g b1 b2 b3 b4 xs12 (z8+1) a9 a10
  else
  Option.bind
  ((bif b3 then
  some x11.Consumption
  else
  some x11.Usage)) fun p21=>
  (C0v b2 0 (W ((p21.length:Int) - 1))).bind fun v22=>
  (bif (!v22) then
  some (Sum.inr 0)
  else
  (idxL p21 b2).bind fun v24=>
  Option.bind
  ((bif b4 then
  some (W (v24*x11.Duration))
  else
  some v24)) fun p30=>
  Option.bind
  ((bif (!a10) then
  some true
  else
  some (decide (p30<a9)))) fun e31=>
  (bif e31 then
  G0g b1 b2 b3 b4 xs12 (z8+1) p30 true
  else
  G0g b1 b2 b3 b4 xs12 (z8+1) a9 true)))
def R0a (b0:A0f)(b1:List Int)(b2:Int)(b3:Bool)(b4:Bool):Option Int:=
 A0m
 (G0g b1 b2 b3 b4 b0.Modes 0 0 false)
 (fun q35=>some q35) fun p34=>
 some p34
def R0y (b0:A0f)(b1:List Int)(b2:Int):Option Int:=
 (R0a b0 b1 b2 false true).bind fun v1=>
 some v1
def V0k (b0:List TStep)(b1:Int)(b2:Int):Option Bool:=
 (K0i b0).bind fun v1=>
 Option.bind
 ((bif v1 then
 (C0v b1 0 60).bind fun v4=>
 (bif v4 then
 (C0v b2 0 60).bind fun v6=>
 some v6
 else
 some false)
 else
 some false)) fun e2=>
 some e2
def K0k (b1:Int):List TStep→Int→Int→Option Int
 | [],z8,a9=>
  some a9
 | x10::xs11,z8,a9=>
  (bif (decide (x10.At≤b1)) then
  K0k b1 xs11 (z8+1) x10.Capacity
  else
  K0k b1 xs11 (z8+1) a9)
def W0w (b0:List TStep)(b1:Int):Option Int:=
 Option.bind
 (K0k b1 b0 0 0) fun p14=>
 some p14
def C0n (b0:List TStep)(b2:Int):Nat→Int→Int→Option Int
 | 0,_,_=>none
 | fuel+1,a8,a9=>
  (bif (decide (a9<b2)) then
  (W0w b0 a9).bind fun v13=>
  C0n b0 b2 fuel (W (a8+v13)) (W (a9+1))
  else
  some a8)
def F0n (b0:List TStep)(b1:Int)(b2:Int):Option Int:=
 (V0k b0 b1 b2).bind fun v1=>
 (bif (!v1) then
 some 0
 else
 Option.bind
 (C0n b0 b2 F0 0 b1) fun p14=>
 some p14)
def P0m (b0:A0b)(b1:Int)(b2:Int)(b3:Int):Option Int:=
 (B0w b0).bind fun v1=>
 Option.bind
 ((bif (!v1) then
 some true
 else
 (C0v b1 0 (W ((b0.Resources.length:Int) - 1))).bind fun v4=>
 some (!v4))) fun e2=>
 (bif e2 then
 some 0
 else
 (idxL b0.Resources b1).bind fun v6=>
 (F0n v6.Steps b2 b3).bind fun v7=>
 some v7)
def J0a (z21:Int):List A0f→Int→Int→Option Int
 | [],z33,a34=>
  some a34
 | x35::xs36,z33,a34=>
  (C0x x35).bind fun v38=>
  (R0y x35 v38 z21).bind fun v39=>
  J0a z21 xs36 (z33+1) (W (a34+v39))
def H0s (b0:A0b)(a10:Int):List A0q→Int→Bool→Option Bool
 | [],z21,a22=>
  some a22
 | x23::xs24,z21,a22=>
  Option.bind
  (J0a z21 b0.Activities 0 0) fun p40=>
  Option.bind
  ((bif a22 then
  (P0m b0 z21 0 a10).bind fun v43=>
  some (decide (p40≤v43))
  else
  some false)) fun e41=>
  H0s b0 a10 xs24 (z21+1) e41
def J0e (b0:A0b):Nat→Int→Option (Unit ⊕ Int)
 | 0,_=>none
 | fuel+1,a10=>
  (bif (decide (a10≤60)) then
  Option.bind
  (H0s b0 a10 b0.Resources 0 true) fun p44=>
  (bif p44 then
  some (Sum.inr a10)
  else
  J0e b0 fuel (W (a10+1)))
  else
  some (Sum.inl ()))
def N0u (b0:A0b):Option Int:=
 (B0w b0).bind fun v1=>
 (bif (!v1) then
 some 0
 else
 (L0i b0).bind fun v3=>
 (K0o 1 v3).bind fun v4=>
 A0m
 (J0e b0 F0 v4)
 (fun q47=>some q47) fun p46=>
 some 61)
def L0m (b0:A0b):List A0f→Int→(List Int)→(List Int)→(List (List Int))→Option ((List Int)×(List Int)×(List (List Int)))
 | [],z8,a9,a10,a11=>
  some (a9,a10,a11)
 | x12::xs13,z8,a9,a10,a11=>
  (appL a9 ([0]:List Int)).bind fun v15=>
  (appL a10 ([(W (b0.Deadline - 1))]:List Int)).bind fun v16=>
  (C0x x12).bind fun v17=>
  (appL a11 ([v17]:List (List Int))).bind fun v18=>
  L0m b0 xs13 (z8+1) v15 v16 v18
def A1j (b0:A0b):Option A0r:=
 Option.bind
 (L0m b0 b0.Activities 0 ([]:List Int) ([]:List Int) ([]:List (List Int))) fun p19=>
 some (A0r.mk p19.1 p19.2.1 p19.2.2)
def K0n (b0:List Int):List Int→Int→Option (Unit ⊕ Bool)
 | [],z8=>
  some (Sum.inl ())
 | x9::xs10,z8=>
  Option.bind
  ((bif (decide (0<z8)) then
  (idxL b0 (z8 - 1)).bind fun v14=>
  some (decide (x9≤v14))
  else
  some false)) fun e12=>
  (bif e12 then
  some (Sum.inr false)
  else
  K0n b0 xs10 (z8+1))
def R0o (b0:List Int):Option Bool:=
 A0m
 (K0n b0 b0 0)
 (fun q17=>some q17) fun p16=>
 some true
def F0h (b1:List Int):List Int→Int→Option (Unit ⊕ Bool)
 | [],z8=>
  some (Sum.inl ())
 | x9::xs10,z8=>
  (U0l b1 x9).bind fun v12=>
  (bif (!v12) then
  some (Sum.inr false)
  else
  F0h b1 xs10 (z8+1))
def J0z (b0:List Int)(b1:List Int):Option Bool:=
 A0m
 (F0h b1 b0 0)
 (fun q15=>some q15) fun p14=>
 some true
def C0t (b1:A0r):List A0f→Int→Option (Unit ⊕ Bool)
 | [],z14=>
  some (Sum.inl ())
 | x15::xs16,z14=>
  (idxL b1.MinStart z14).bind fun v18=>
  (C0v v18 (-2) 62).bind fun v19=>
  Option.bind
  ((bif (!v19) then
  some true
  else
  (idxL b1.MaxStart z14).bind fun v22=>
  (C0v v22 (-2) 62).bind fun v23=>
  (bif (!v23) then
  some true
  else
  (idxL b1.Modes z14).bind fun v25=>
  (R0o v25).bind fun v26=>
  (bif (!v26) then
  some true
  else
  (C0x x15).bind fun v28=>
  (J0z v25 v28).bind fun v29=>
  some (!v29))))) fun e20=>
  (bif e20 then
  some (Sum.inr false)
  else
  C0t b1 xs16 (z14+1))
def J0r (b0:A0b)(b1:A0r):Option Bool:=
 (B0w b0).bind fun v1=>
 Option.bind
 ((bif (!v1) then
 some true
 else
 (bif ((b1.MinStart.length:Int) != (b0.Activities.length:Int)) then
 some true
 else
 (bif ((b1.MaxStart.length:Int) != (b0.Activities.length:Int)) then
 some true
 else
 some ((b1.Modes.length:Int) != (b0.Activities.length:Int)))))) fun e2=>
 (bif e2 then
 some false
 else
 A0m
 (C0t b1 b0.Activities 0)
 (fun q32=>some q32) fun p31=>
 some true)
def E0p (b0:A0r):List Int→Int→Option (Unit ⊕ Bool)
 | [],z8=>
  some (Sum.inl ())
 | x9::xs10,z8=>
  Option.bind
  ((bif (decide (z8<(b0.MaxStart.length:Int))) then
  (idxL b0.MaxStart z8).bind fun v14=>
  some (decide (v14<x9))
  else
  some false)) fun e12=>
  (bif e12 then
  some (Sum.inr true)
  else
  E0p b0 xs10 (z8+1))
def E0n  : List (List Int)→Int→Option (Unit ⊕ Bool)
 | [],z25=>
  some (Sum.inl ())
 | x26::xs27,z25=>
  (bif ((x26.length:Int) == 0) then
  some (Sum.inr true)
  else
  E0n xs27 (z25+1))
def G0j (b0:A0r):Option Bool:=
 A0m
 (E0p b0 b0.MinStart 0)
 (fun q17=>some q17) fun p16=>
 A0m
 (E0n b0.Modes 0)
 (fun q31=>some q31) fun p30=>
 some false
def N0d (b0:A0b)(b1:A0r):Option Bool:=
 (J0r b0 b1).bind fun v1=>
 Option.bind
 ((bif v1 then
 (G0j b1).bind fun v4=>
 some (!v4)
 else
 some false)) fun e2=>
 some e2
def G0e (b0:A0b)(b1:Int):Option Bool:=
 (C0v b1 0 (W ((b0.Resources.length:Int) - 1))).bind fun v1=>
 Option.bind
 ((bif v1 then
 (idxL b0.Resources b1).bind fun v4=>
 some (decide (0<(v4.Setup.length:Int)))
 else
 some false)) fun e2=>
 some e2
def R0b (b0:A0f)(b1:List Int)(b2:Int):Option Int:=
 (R0a b0 b1 b2 false false).bind fun v1=>
 some v1
def E0j (b0:A0b)(b1:A0r)(b2:Int)(b3:Int):Option Int:=
 (idxL b0.Activities b3).bind fun v1=>
 (idxL b1.Modes b3).bind fun v2=>
 (R0b v1 v2 b2).bind fun v3=>
 some v3
def D0o (b1:A0r)(a14:List Int)(z13:Int):Nat→Int→Option Int
 | 0,_=>none
 | fuel+1,a25=>
  Option.bind
  ((bif (decide (0<a25)) then
  (idxL a14 (W (a25 - 1))).bind fun v30=>
  (idxL b1.MinStart v30).bind fun v31=>
  (idxL b1.MinStart z13).bind fun v32=>
  some (decide (v32<v31))
  else
  some false)) fun e28=>
  (bif e28 then
  D0o b1 a14 z13 fuel (W (a25 - 1))
  else
  some a25)
def D0r (b0:A0b)(b1:A0r)(b2:Int):List A0f→Int→(List Int)→Option (List Int)
 | [],z13,a14=>
  some a14
 | x15::xs16,z13,a14=>
  (E0j b0 b1 b2 z13).bind fun v18=>
  (bif (v18 == 0) then
  D0r b0 b1 b2 xs16 (z13+1) a14
  else
  Option.bind
  (D0o b1 a14 z13 F0 (a14.length:Int)) fun p34=>
  (subL a14 0 p34).bind fun v35=>
  (appL ([]:List Int) v35).bind fun v36=>
  (appL v36 ([z13]:List Int)).bind fun v37=>
  (subL a14 p34 (a14.length:Int)).bind fun v38=>
  (appL v37 v38).bind fun v39=>
  D0r b0 b1 b2 xs16 (z13+1) v39)
def L0w (b0:A0b)(b1:A0r)(b2:Int):Option (List Int):=
 (N0d b0 b1).bind fun v1=>
 Option.bind
 ((bif (!v1) then
 some true
 else
 (G0e b0 b2).bind fun v4=>
 some (!v4))) fun e2=>
 (bif e2 then
 some ([]:List Int)
 else
 Option.bind
 (D0r b0 b1 b2 b0.Activities 0 ([]:List Int)) fun p40=>
 some p40)
def N0q (b0:A0b)(b1:A0r)(b2:Int):Option Int:=
 (idxL b0.Activities b2).bind fun v1=>
 (idxL b1.Modes b2).bind fun v2=>
 (G0i v1 v2).bind fun v3=>
 some v3
def X0v (b0:Int)(b1:Int):Option Int:=
 (bif (decide (b0<b1)) then
 some b0
 else
 some b1)
def B0r (b0:A0b)(b2:Int)(x15:Int):List Int→Int→Int→Option Int
 | [],z26,a27=>
  some a27
 | x28::xs29,z26,a27=>
  (bif (x28 != x15) then
  (idxL b0.Resources b2).bind fun v32=>
  (idxL b0.Activities x28).bind fun v33=>
  (idxL v32.Setup v33.Family).bind fun v34=>
  (idxL b0.Activities x15).bind fun v35=>
  (idxL v34 v35.Family).bind fun v36=>
  (X0v a27 v36).bind fun v37=>
  B0r b0 b2 x15 xs29 (z26+1) v37
  else
  B0r b0 b2 x15 xs29 (z26+1) a27)
def D0j (b0:A0b)(b1:A0r)(b2:Int)(v1:List Int):List Int→Int→Int→Int→Option (Int×Int)
 | [],z12,a13,a14=>
  some (a13,a14)
 | x15::xs16,z12,a13,a14=>
  (N0q b0 b1 x15).bind fun v18=>
  Option.bind
  (B0r b0 b2 x15 v1 0 12) fun p38=>
  (bif (decide (1<(v1.length:Int))) then
  (K0o a14 p38).bind fun v40=>
  D0j b0 b1 b2 v1 xs16 (z12+1) (W ((W (a13+v18))+p38)) v40
  else
  D0j b0 b1 b2 v1 xs16 (z12+1) (W (a13+v18)) a14)
def M0b (b0:A0b)(b1:A0r)(b2:Int):Option Int:=
 (L0w b0 b1 b2).bind fun v1=>
 (bif ((v1.length:Int) == 0) then
 some 0
 else
 (idxL v1 0).bind fun v3=>
 (idxL b1.MinStart v3).bind fun v4=>
 Option.bind
 (D0j b0 b1 b2 v1 v1 0 v4 0) fun p41=>
 some (W (p41.1 - p41.2)))
def C0k (b0:A0b):List A0q→Int→Int→Option Int
 | [],z10,a11=>
  some a11
 | x12::xs13,z10,a11=>
  (A1j b0).bind fun v15=>
  (M0b b0 v15 z10).bind fun v16=>
  (K0o a11 v16).bind fun v17=>
  C0k b0 xs13 (z10+1) v17
def E0x (b0:A0b):Option Int:=
 (B0w b0).bind fun v1=>
 (bif (!v1) then
 some 0
 else
 Option.bind
 (C0k b0 b0.Resources 0 0) fun p18=>
 some p18)
def P0v (b0:A0b):Option Int:=
 (B0w b0).bind fun v1=>
 (bif (!v1) then
 some 0
 else
 (L0i b0).bind fun v3=>
 (K0o 1 v3).bind fun v4=>
 (N0u b0).bind fun v5=>
 (E0x b0).bind fun v6=>
 (K0o v5 v6).bind fun v7=>
 (K0o v4 v7).bind fun v8=>
 some v8)
def N0f (b1:ByteArray):List ByteArray→Int→ByteArray→Option ByteArray
 | [],z8,a9=>
  some a9
 | x10::xs11,z8,a9=>
  (bif (decide (0<z8)) then
  (catS a9 b1).bind fun v14=>
  (catS v14 x10).bind fun v15=>
  N0f b1 xs11 (z8+1) v15
  else
  (catS a9 x10).bind fun v16=>
  N0f b1 xs11 (z8+1) v16)
def F1r (b0:List ByteArray)(b1:ByteArray):Option ByteArray:=
 Option.bind
 (N0f b1 b0 0 ByteArray.empty) fun p17=>
 some p17
def M0d (b0:A0b):Option ByteArray:=
 (B0w b0).bind fun v1=>
 (bif (!v1) then
 some ByteArray.empty
 else
 (L0i b0).bind fun v3=>
 (H0w v3).bind fun v4=>
 (N0u b0).bind fun v5=>
 (H0w v5).bind fun v6=>
 (E0x b0).bind fun v7=>
 (H0w v7).bind fun v8=>
 (P0v b0).bind fun v9=>
 (H0w v9).bind fun v10=>
 (F1r ([v4,v6,v8,v10]:List ByteArray) (⟨#[32]⟩:ByteArray)).bind fun v11=>
 some v11)
def E0r (b0:Int)(b1:Int)(b2:Int):Option Bool:=
 Option.bind
 ((bif (decide (b1≤b0)) then
 some (decide (b0≤b2))
 else
 some false)) fun e1=>
 some e1
def R0c (b0:Int):Option Bool:=
 (E0r b0 0 20).bind fun v1=>
 some v1
def G0y  : List Int→Int→Option (Unit ⊕ Bool)
 | [],z8=>
  some (Sum.inl ())
 | x9::xs10,z8=>
  (R0c x9).bind fun v12=>
  (bif (!v12) then
  some (Sum.inr false)
  else
  G0y xs10 (z8+1))
def M0x (b0:List Int)(b1:Int):Option Bool:=
 A0m
 (G0y b0 0)
 (fun q15=>some q15) fun p14=>
 some ((b0.length:Int) == b1)
def Z0h (b0:TMode)(b1:Int)(b2:Int):Option Bool:=
 (E0r b0.Duration 1 12).bind fun v1=>
 Option.bind
 ((bif v1 then
 (M0x b0.Usage b1).bind fun v4=>
 (bif v4 then
 (M0x b0.Consumption b2).bind fun v6=>
 some v6
 else
 some false)
 else
 some false)) fun e2=>
 some e2
def M0q (b0:ByteArray):Nat→Int→Option (Unit ⊕ Bool)
 | 0,_=>none
 | fuel+1,a7=>
  (bif (decide (a7<(b0.size:Int))) then
  (idxS b0 a7).bind fun v11=>
  Option.bind
  ((bif (decide (97≤v11)) then
  some (decide (v11≤122))
  else
  some false)) fun e12=>
  Option.bind
  ((bif (!e12) then
  (bif (a7 == 0) then
  some true
  else
  (bif (decide (v11<48)) then
  some true
  else
  some (decide (57<v11))))
  else
  some false)) fun e14=>
  (bif e14 then
  some (Sum.inr false)
  else
  M0q b0 fuel (W (a7+1)))
  else
  some (Sum.inl ()))
def Y0w (b0:ByteArray):Option Bool:=
 A0m
 (M0q b0 F0 0)
 (fun q20=>some q20) fun p19=>
 (E0r (b0.size:Int) 1 8).bind fun v21=>
 some v21
def G0v (b1:Int)(b2:Int):List TMode→Int→Option (Unit ⊕ Bool)
 | [],z8=>
  some (Sum.inl ())
 | x9::xs10,z8=>
  (Z0h x9 b1 b2).bind fun v12=>
  (bif (!v12) then
  some (Sum.inr false)
  else
  G0v b1 b2 xs10 (z8+1))
def P0w (b0:A0f)(b1:Int)(b2:Int):Option Bool:=
 A0m
 (G0v b1 b2 b0.Modes 0)
 (fun q15=>some q15) fun p14=>
 (Y0w b0.Name).bind fun v16=>
 Option.bind
 ((bif v16 then
 (E0r b0.Family 0 3).bind fun v19=>
 (bif v19 then
 (E0r (b0.Modes.length:Int) 1 3).bind fun v21=>
 some v21
 else
 some false)
 else
 some false)) fun e17=>
 some e17
def H0f (b0:A0f)(c1:ByteArray):Option Bool:=
 some (b0.Name == c1)
def B0g (g1:A0f→Option Bool):List A0f→Int→Option (Unit ⊕ Int)
 | [],z8=>
  some (Sum.inl ())
 | x9::xs10,z8=>
  (g1 x9).bind fun v12=>
  (bif v12 then
  some (Sum.inr z8)
  else
  B0g g1 xs10 (z8+1))
def F0e (b0:List A0f)(g1:A0f→Option Bool):Option Int:=
 A0m
 (B0g g1 b0 0)
 (fun q15=>some q15) fun p14=>
 some (-1)
def L0h (b0:A0b)(b1:ByteArray):Option Int:=
 (F0e b0.Activities (fun x0=>H0f x0 b1)).bind fun v1=>
 some v1
def U0g (b0:Int):Option Bool:=
 (E0r b0 0 60).bind fun v1=>
 some v1
def F0m (b0:List TStep):List TStep→Int→Option (Unit ⊕ Bool)
 | [],z8=>
  some (Sum.inl ())
 | x9::xs10,z8=>
  (U0g x9.At).bind fun v12=>
  Option.bind
  ((bif (!v12) then
  some true
  else
  (R0c x9.Capacity).bind fun v15=>
  (bif (!v15) then
  some true
  else
  (bif (z8 == 0) then
  (bif (x9.At != 0) then
  some true
  else
  (bif (decide (0<z8)) then
  (idxL b0 (z8 - 1)).bind fun v20=>
  some (decide (x9.At≤v20.At))
  else
  some false))
  else
  (bif (decide (0<z8)) then
  (idxL b0 (z8 - 1)).bind fun v22=>
  some (decide (x9.At≤v22.At))
  else
  some false))))) fun e13=>
  (bif e13 then
  some (Sum.inr false)
  else
  F0m b0 xs10 (z8+1))
def P0g (b0:List TStep):Option Bool:=
 A0m
 (F0m b0 b0 0)
 (fun q25=>some q25) fun p24=>
 (E0r (b0.length:Int) 1 8).bind fun v26=>
 some v26
def G0u  : List Int→Int→Option (Unit ⊕ Bool)
 | [],z20=>
  some (Sum.inl ())
 | x21::xs22,z20=>
  (E0r x21 0 12).bind fun v24=>
  (bif (!v24) then
  some (Sum.inr false)
  else
  G0u xs22 (z20+1))
def G0w  : List (List Int)→Int→Option (Unit ⊕ Bool)
 | [],z8=>
  some (Sum.inl ())
 | x9::xs10,z8=>
  (bif ((x9.length:Int) != 4) then
  some (Sum.inr false)
  else
  A0m
  (G0u x9 0)
  (fun q27=>some (Sum.inr q27)) fun p26=>
  G0w xs10 (z8+1))
def P0r (b0:A0q):Option Bool:=
 A0m
 (G0w b0.Setup 0)
 (fun q29=>some q29) fun p28=>
 (P0g b0.Steps).bind fun v30=>
 Option.bind
 ((bif v30 then
 (bif ((b0.Setup.length:Int) == 0) then
 some true
 else
 some ((b0.Setup.length:Int) == 4))
 else
 some false)) fun e31=>
 some e31
def B0t (b0:A0b)(b1:Int):Option Bool:=
 (E0r b1 0 (W ((b0.Activities.length:Int) - 1))).bind fun v1=>
 some v1
def M0e (b0:A0b)(b1:TLink):Option Bool:=
 (B0t b0 b1.From).bind fun v1=>
 Option.bind
 ((bif v1 then
 (B0t b0 b1.To).bind fun v4=>
 (bif v4 then
 (bif (b1.From != b1.To) then
 (E0r b1.Lag (-60) 60).bind fun v7=>
 some v7
 else
 some false)
 else
 some false)
 else
 some false)) fun e2=>
 some e2
def B0y (b0:TLink)(c1:A0b):Option Bool:=
 (M0e c1 b0).bind fun v1=>
 some (!v1)
def B0k (g1:TLink→Option Bool):List TLink→Int→Option (Unit ⊕ Int)
 | [],z8=>
  some (Sum.inl ())
 | x9::xs10,z8=>
  (g1 x9).bind fun v12=>
  (bif v12 then
  some (Sum.inr z8)
  else
  B0k g1 xs10 (z8+1))
def F0u (b0:List TLink)(g1:TLink→Option Bool):Option Int:=
 A0m
 (B0k g1 b0 0)
 (fun q15=>some q15) fun p14=>
 some (-1)
def C0o (b0:List TLink)(g1:TLink→Option Bool):Option Bool:=
 (F0u b0 g1).bind fun v1=>
 some (decide (0≤v1))
def H0u (b0:A0b):List A0f→Int→Option (Unit ⊕ Bool)
 | [],z16=>
  some (Sum.inl ())
 | x17::xs18,z16=>
  (P0w x17 (b0.Resources.length:Int) (b0.Stocks.length:Int)).bind fun v20=>
  Option.bind
  ((bif (!v20) then
  some true
  else
  (L0h b0 x17.Name).bind fun v23=>
  some (v23 != z16))) fun e21=>
  (bif e21 then
  some (Sum.inr false)
  else
  H0u b0 xs18 (z16+1))
def H0v  : List A0q→Int→Option (Unit ⊕ Bool)
 | [],z34=>
  some (Sum.inl ())
 | x35::xs36,z34=>
  (P0r x35).bind fun v38=>
  (bif (!v38) then
  some (Sum.inr false)
  else
  H0v xs36 (z34+1))
def J0c  : List Int→Int→Option (Unit ⊕ Bool)
 | [],z49=>
  some (Sum.inl ())
 | x50::xs51,z49=>
  (E0r x50 0 100).bind fun v53=>
  (bif (!v53) then
  some (Sum.inr false)
  else
  J0c xs51 (z49+1))
def E0c (b0:A0b):Option Bool:=
 (E0r b0.Deadline 1 60).bind fun v1=>
 Option.bind
 ((bif (!v1) then
 some true
 else
 (E0r (b0.Activities.length:Int) 1 6).bind fun v4=>
 (bif (!v4) then
 some true
 else
 (bif (decide (3<(b0.Resources.length:Int))) then
 some true
 else
 (bif (decide (2<(b0.Stocks.length:Int))) then
 some true
 else
 some (decide (12<(b0.Links.length:Int)))))))) fun e2=>
 (bif e2 then
 some false
 else
 A0m
 (H0u b0 b0.Activities 0)
 (fun q26=>some q26) fun p25=>
 A0m
 (H0v b0.Resources 0)
 (fun q41=>some q41) fun p40=>
 A0m
 (J0c b0.Stocks 0)
 (fun q56=>some q56) fun p55=>
 (C0o b0.Links (fun x0=>B0y x0 b0)).bind fun v57=>
 some (!v57))
def K0a (b0:Int):Nat→Int→(List Int)→Option (List Int)
 | 0,_,_=>none
 | fuel+1,a9,a10=>
  (bif (decide (a9<b0)) then
  (appL a10 ([a9]:List Int)).bind fun v14=>
  K0a b0 fuel (W (a9+1)) v14
  else
  some a10)
def P0a (b0:Int):Option (List Int):=
 (E0r b0 0 200).bind fun v1=>
 (bif (!v1) then
 some ([]:List Int)
 else
 Option.bind
 (K0a b0 F0 0 ([]:List Int)) fun p15=>
 some p15)
def G0h (b0:A0f):Option (List Int):=
 (P0a (b0.Modes.length:Int)).bind fun v1=>
 some v1
def C0b (b1:Int):List Int→Int→Option (Unit ⊕ Int)
 | [],z8=>
  some (Sum.inl ())
 | x9::xs10,z8=>
  (bif (b1 == x9) then
  some (Sum.inr z8)
  else
  C0b b1 xs10 (z8+1))
def K0b (b0:List Int)(b1:Int):Option Int:=
 A0m
 (C0b b1 b0 0)
 (fun q14=>some q14) fun p13=>
 some (-1)
def D0f (b0:List Int)(b1:Int):Option Bool:=
 (K0b b0 b1).bind fun v1=>
 some (decide (0≤v1))
def S0f (b0:List Int)(b1:Int):Option Bool:=
 (D0f b0 b1).bind fun v1=>
 some v1
def J0u (b1:List Int):List TMode→Int→(List TMode)→Option (List TMode)
 | [],z8,a9=>
  some a9
 | x10::xs11,z8,a9=>
  (S0f b1 z8).bind fun v13=>
  (bif v13 then
  (appL a9 ([x10]:List TMode)).bind fun v15=>
  J0u b1 xs11 (z8+1) v15
  else
  J0u b1 xs11 (z8+1) a9)
def U0d (b0:A0f)(b1:List Int):Option (List TMode):=
 Option.bind
 (J0u b1 b0.Modes 0 ([]:List TMode)) fun p16=>
 some p16
def D0d  : List TMode→Int→Int→Option Int
 | [],z9,a10=>
  some a10
 | x11::xs12,z9,a10=>
  Option.bind
  ((bif (z9 == 0) then
  some true
  else
  some (decide (x11.Duration<a10)))) fun e14=>
  (bif e14 then
  D0d xs12 (z9+1) x11.Duration
  else
  D0d xs12 (z9+1) a10)
def H0l (b0:A0f)(b1:List Int):Option Int:=
 (U0d b0 b1).bind fun v1=>
 Option.bind
 (D0d v1 0 0) fun p17=>
 some p17
def N0c (b0:A0b)(b1:TLink)(b2:List Int):Option Int:=
 (bif b1.FromEnd then
 (idxL b0.Activities b1.From).bind fun v2=>
 (H0l v2 b2).bind fun v3=>
 some (W (b1.Lag+v3))
 else
 some b1.Lag)
def D0h (b0:A0b)(b1:TLink):Option Int:=
 (idxL b0.Activities b1.From).bind fun v1=>
 (G0h v1).bind fun v2=>
 (N0c b0 b1 v2).bind fun v3=>
 some v3
def G0a (b0:List Int):Option (List Int):=
 (appL ([]:List Int) b0).bind fun v1=>
 some v1
def C0z (b0:A0b)(b1:List Int)(b2:List Int)(b3:Int)(b4:Int)(rec:A0b→(List Int)→(List Int)→Int→Int→Option (List Int))(v1:Int)(v4:TLink):List TLink→Int→Option (Unit ⊕ (List Int))
 | [],z20=>
  some (Sum.inl ())
 | x21::xs22,z20=>
  Option.bind
  ((bif (decide (v1<z20)) then
  some (x21.From == v4.To)
  else
  some false)) fun e24=>
  (bif e24 then
  (G0a b1).bind fun v27=>
  (appL v27 ([z20]:List Int)).bind fun v28=>
  (G0a b2).bind fun v29=>
  (appL v29 ([v4.To]:List Int)).bind fun v30=>
  (D0h b0 x21).bind fun v31=>
  (rec b0 v28 v30 (W (b3+v31)) b4).bind fun v32=>
  (bif (!(v32.isEmpty)) then
  some (Sum.inr v32)
  else
  C0z b0 b1 b2 b3 b4 rec v1 v4 xs22 (z20+1))
  else
  C0z b0 b1 b2 b3 b4 rec v1 v4 xs22 (z20+1))
def J0k (rec:A0b→(List Int)→(List Int)→Int→Int→Option (List Int))(b0:A0b)(b1:List Int)(b2:List Int)(b3:Int)(b4:Int):Option (List Int):=
 (idxL b1 0).bind fun v1=>
 (idxL b0.Links v1).bind fun v2=>
 (idxL b1 (W ((b1.length:Int) - 1))).bind fun v3=>
 (idxL b0.Links v3).bind fun v4=>
 (bif ((b1.length:Int) == b4) then
 Option.bind
 ((bif (v4.To == v2.From) then
 some (decide (0<b3))
 else
 some false)) fun e6=>
 (bif e6 then
 (G0a b1).bind fun v9=>
 (neL v9).bind fun v10=>
 some v10
 else
 some ([]:List Int))
 else
 (D0f b2 v4.To).bind fun v11=>
 (bif v11 then
 some ([]:List Int)
 else
 A0m
 (C0z b0 b1 b2 b3 b4 rec v1 v4 b0.Links 0)
 (fun q35=>some q35) fun p34=>
 some ([]:List Int)))
def E0w:Nat→A0b→(List Int)→(List Int)→Int→Int→Option (List Int)
 | 0=>fun _ _ _ _ _=>none
 | fuel+1=>J0k (E0w fuel)
def R0w (b0:A0b)(b1:List Int)(b2:List Int)(b3:Int)(b4:Int):Option (List Int):=E0w F0 b0 b1 b2 b3 b4
def E0b (b0:A0b)(a8:Int):List TLink→Int→Option (Unit ⊕ (List Int))
 | [],z19=>
  some (Sum.inl ())
 | x20::xs21,z19=>
  (D0h b0 x20).bind fun v23=>
  (R0w b0 ([z19]:List Int) ([x20.From]:List Int) v23 a8).bind fun v24=>
  (bif (!(v24.isEmpty)) then
  some (Sum.inr v24)
  else
  E0b b0 a8 xs21 (z19+1))
def C0m (b0:A0b):Nat→Int→Option (Unit ⊕ (List Int))
 | 0,_=>none
 | fuel+1,a8=>
  (bif (decide (a8≤(b0.Activities.length:Int))) then
  A0m
  (E0b b0 a8 b0.Links 0)
  (fun q27=>some (Sum.inr q27)) fun p26=>
  C0m b0 fuel (W (a8+1))
  else
  some (Sum.inl ()))
def J0g (b0:A0b):Option (List Int):=
 (E0c b0).bind fun v1=>
 (bif (!v1) then
 some ([]:List Int)
 else
 A0m
 (C0m b0 F0 2)
 (fun q29=>some q29) fun p28=>
 some ([]:List Int))
def D0y (b0:Int)(b1:Int)(b2:Int)(c3:List (List Bool))(c4:List (List Int)):Option ((List (List Bool))×(List (List Int))):=
 (idxL c3 b0).bind fun v1=>
 (neL v1).bind fun v2=>
 (idxL v1 b1).bind fun v3=>
 Option.bind
 ((bif (!v3) then
 some true
 else
 (idxL c4 b0).bind fun v6=>
 (neL v6).bind fun v7=>
 (idxL v6 b1).bind fun v8=>
 some (decide (v8<b2)))) fun e4=>
 (bif e4 then
 (idxL c4 b0).bind fun v10=>
 (neL v10).bind fun v11=>
 (idxL v10 b1).bind fun v12=>
 some ((setL c3 b0 (setL v1 b1 true)),(setL c4 b0 (setL v10 b1 b2)))
 else
 some (c3,c4))
def G0n (b0:A0b):List A0f→Int→(List (List Int))→(List (List Bool))→Option ((List (List Int))×(List (List Bool)))
 | [],z15,a16,a17=>
  some (a16,a17)
 | x18::xs19,z15,a16,a17=>
  (makeL 0 (b0.Activities.length:Int)).bind fun v21=>
  (makeL false (b0.Activities.length:Int)).bind fun v22=>
  (idxL a16 z15).bind fun v23=>
  (nilL v23).bind fun v24=>
  (neL v21).bind fun v25=>
  (idxL a17 z15).bind fun v26=>
  (nilL v26).bind fun v27=>
  (neL v22).bind fun v28=>
  (idxL (setL a17 z15 v22) z15).bind fun v29=>
  (neL v29).bind fun v30=>
  (idxL v29 z15).bind fun v31=>
  G0n b0 xs19 (z15+1) (setL a16 z15 v21) (setL (setL a17 z15 v22) z15 (setL v29 z15 true))
def G0q (b0:A0b):List TLink→Int→(List (List Int))→(List (List Bool))→Option ((List (List Int))×(List (List Bool)))
 | [],z40,a41,a42=>
  some (a41,a42)
 | x43::xs44,z40,a41,a42=>
  (D0h b0 x43).bind fun v46=>
  (D0y x43.From x43.To v46 a42 a41).bind fun v47=>
  (sameN a42 v47.1).bind fun v48=>
  (sameN a41 v47.2).bind fun v49=>
  G0q b0 xs44 (z40+1) v47.2 v47.1
def D0x (b0:A0b)(a57:Int)(a69:Int):Nat→Int→(List (List Int))→(List (List Bool))→Option ((List (List Int))×(List (List Bool)))
 | 0,_,_,_=>none
 | fuel+1,a81,a82,a83=>
  (bif (decide (a81<(b0.Activities.length:Int))) then
  (idxL a83 a69).bind fun v87=>
  (neL v87).bind fun v88=>
  (idxL v87 a57).bind fun v89=>
  Option.bind
  ((bif v89 then
  (idxL a83 a57).bind fun v92=>
  (neL v92).bind fun v93=>
  (idxL v92 a81).bind fun v94=>
  some v94
  else
  some false)) fun e90=>
  (bif e90 then
  (idxL a82 a69).bind fun v96=>
  (neL v96).bind fun v97=>
  (idxL v96 a57).bind fun v98=>
  (idxL a82 a57).bind fun v99=>
  (neL v99).bind fun v100=>
  (idxL v99 a81).bind fun v101=>
  (D0y a69 a81 (W (v98+v101)) a83 a82).bind fun v102=>
  (sameN a83 v102.1).bind fun v103=>
  (sameN a82 v102.2).bind fun v104=>
  D0x b0 a57 a69 fuel (W (a81+1)) v102.2 v102.1
  else
  D0x b0 a57 a69 fuel (W (a81+1)) a82 a83)
  else
  some (a82,a83))
def F0g (b0:A0b)(a57:Int):Nat→Int→(List (List Int))→(List (List Bool))→Option ((List (List Int))×(List (List Bool)))
 | 0,_,_,_=>none
 | fuel+1,a69,a70,a71=>
  (bif (decide (a69<(b0.Activities.length:Int))) then
  Option.bind
  (D0x b0 a57 a69 F0 0 a70 a71) fun p105=>
  F0g b0 a57 fuel (W (a69+1)) p105.1 p105.2
  else
  some (a70,a71))
def F0j (b0:A0b):Nat→Int→(List (List Int))→(List (List Bool))→Option ((List (List Int))×(List (List Bool)))
 | 0,_,_,_=>none
 | fuel+1,a57,a58,a59=>
  (bif (decide (a57<(b0.Activities.length:Int))) then
  Option.bind
  (F0g b0 a57 F0 0 a58 a59) fun p106=>
  F0j b0 fuel (W (a57+1)) p106.1 p106.2
  else
  some (a58,a59))
def D0w (b0:A0b)(p107:(List (List Int))×(List (List Bool)))(a114:Int):Nat→Int→(List (List Int))→Option (List (List Int))
 | 0,_,_=>none
 | fuel+1,a125,a126=>
  (bif (decide (a125<(b0.Activities.length:Int))) then
  (idxL p107.2 a114).bind fun v130=>
  (neL v130).bind fun v131=>
  (idxL v130 a125).bind fun v132=>
  (bif (!v132) then
  (idxL a126 a114).bind fun v134=>
  (neL v134).bind fun v135=>
  (idxL v134 a125).bind fun v136=>
  D0w b0 p107 a114 fuel (W (a125+1)) (setL a126 a114 (setL v134 a125 (-1000)))
  else
  D0w b0 p107 a114 fuel (W (a125+1)) a126)
  else
  some a126)
def F0f (b0:A0b)(p107:(List (List Int))×(List (List Bool))):Nat→Int→(List (List Int))→Option (List (List Int))
 | 0,_,_=>none
 | fuel+1,a114,a115=>
  (bif (decide (a114<(b0.Activities.length:Int))) then
  Option.bind
  (D0w b0 p107 a114 F0 0 a115) fun p137=>
  F0f b0 p107 fuel (W (a114+1)) p137
  else
  some a115)
def J0t (b0:A0b):Option (List (List Int)):=
 (E0c b0).bind fun v1=>
 Option.bind
 ((bif (!v1) then
 some true
 else
 (J0g b0).bind fun v4=>
 some (decide (0<(v4.length:Int))))) fun e2=>
 (bif e2 then
 some ([]:List (List Int))
 else
 (makeL ([]:List Int) (b0.Activities.length:Int)).bind fun v6=>
 (makeL ([]:List Bool) (b0.Activities.length:Int)).bind fun v7=>
 Option.bind
 (G0n b0 b0.Activities 0 v6 v7) fun p32=>
 Option.bind
 (G0q b0 b0.Links 0 p32.1 p32.2) fun p50=>
 Option.bind
 (F0j b0 F0 0 p50.1 p50.2) fun p107=>
 Option.bind
 (F0f b0 p107 F0 0 p107.1) fun p138=>
 (allNe p138).bind fun v139=>
 some v139)
def C0e (v14:List Int):Nat→Int→(List Int)→Option (List Int)
 | 0,_,_=>none
 | fuel+1,a21,a22=>
  (bif (decide (a21<(v14.length:Int))) then
  (idxL v14 a21).bind fun v26=>
  (idxL a22 a21).bind fun v27=>
  C0e v14 fuel (W (a21+1)) (setL a22 a21 (max v27 v26))
  else
  some a22)
def C0a (v1:List (List Int)):Nat→Int→(List Int)→Option (List Int)
 | 0,_,_=>none
 | fuel+1,a9,a10=>
  (bif (decide (a9<(v1.length:Int))) then
  (idxL v1 a9).bind fun v14=>
  Option.bind
  (C0e v14 F0 0 a10) fun p28=>
  C0a v1 fuel (W (a9+1)) p28
  else
  some a10)
def K0c (b0:A0b):Option (List Int):=
 (J0t b0).bind fun v1=>
 (makeL 0 (v1.length:Int)).bind fun v2=>
 Option.bind
 (C0a v1 F0 0 v2) fun p29=>
 some p29
def H0n (b0:A0b)(b1:Int):Option Int:=
 (idxL b0.Activities b1).bind fun v1=>
 (G0h v1).bind fun v2=>
 (H0l v1 v2).bind fun v3=>
 some v3
def J0b (b0:A0b):List Int→Int→Int→Option Int
 | [],z9,a10=>
  some a10
 | x11::xs12,z9,a10=>
  (H0n b0 z9).bind fun v14=>
  J0b b0 xs12 (z9+1) (max a10 (W (x11+v14)))
def K0z (b0:A0b):Option Int:=
 (K0c b0).bind fun v1=>
 Option.bind
 (J0b b0 v1 0 0) fun p15=>
 some p15
def S0u (b0:List Int)(b1:Int):Option (Int×Bool):=
 (E0r b1 0 (W ((b0.length:Int) - 1))).bind fun v1=>
 (bif (!v1) then
 some (0,false)
 else
 (idxL b0 b1).bind fun v3=>
 some (v3,true))
def P0h (b0:TMode)(c1:Int):Option (Int×Bool):=
 (S0u b0.Usage c1).bind fun v1=>
 some ((W (b0.Duration*v1.1)),v1.2)
def J0l (g1:TMode→Option (Int×Bool)):List TMode→Int→Int→Option (Int ⊕ Int)
 | [],z8,a9=>
  some (Sum.inl a9)
 | x10::xs11,z8,a9=>
  (g1 x10).bind fun v13=>
  (bif (!v13.2) then
  some (Sum.inr 0)
  else
  Option.bind
  ((bif (z8 == 0) then
  some true
  else
  some (decide (v13.1<a9)))) fun e15=>
  (bif e15 then
  J0l g1 xs11 (z8+1) v13.1
  else
  J0l g1 xs11 (z8+1) a9))
def S0y (b0:List TMode)(g1:TMode→Option (Int×Bool)):Option Int:=
 A0m
 (J0l g1 b0 0 0)
 (fun q19=>some q19) fun p18=>
 some p18
def V0c (b0:A0f)(b1:List Int)(b2:Int):Option Int:=
 (U0d b0 b1).bind fun v1=>
 (S0y v1 (fun x0=>P0h x0 b2)).bind fun v2=>
 some v2
def F0o (b1:Int):List TStep→Int→Int→Option Int
 | [],z8,a9=>
  some a9
 | x10::xs11,z8,a9=>
  (bif (decide (x10.At≤b1)) then
  F0o b1 xs11 (z8+1) x10.Capacity
  else
  F0o b1 xs11 (z8+1) a9)
def P0f (b0:List TStep)(b1:Int):Option Int:=
 Option.bind
 (F0o b1 b0 0 0) fun p14=>
 some p14
def E0e (b0:List TStep)(b2:Int):Nat→Int→Int→Option Int
 | 0,_,_=>none
 | fuel+1,a13,a14=>
  (bif (decide (a14<b2)) then
  (P0f b0 a14).bind fun v18=>
  E0e b0 b2 fuel (W (a13+v18)) (W (a14+1))
  else
  some a13)
def K0w (b0:List TStep)(b1:Int)(b2:Int):Option Int:=
 (P0g b0).bind fun v1=>
 Option.bind
 ((bif (!v1) then
 some true
 else
 (U0g b1).bind fun v4=>
 (bif (!v4) then
 some true
 else
 (U0g b2).bind fun v6=>
 some (!v6)))) fun e2=>
 (bif e2 then
 some 0
 else
 Option.bind
 (E0e b0 b2 F0 0 b1) fun p19=>
 some p19)
def H0z (z20:Int):List A0f→Int→Int→Option Int
 | [],z32,a33=>
  some a33
 | x34::xs35,z32,a33=>
  (G0h x34).bind fun v37=>
  (V0c x34 v37 z20).bind fun v38=>
  H0z z20 xs35 (z32+1) (W (a33+v38))
def H0p (b0:A0b)(a9:Int):List A0q→Int→Bool→Option Bool
 | [],z20,a21=>
  some a21
 | x22::xs23,z20,a21=>
  Option.bind
  (H0z z20 b0.Activities 0 0) fun p39=>
  Option.bind
  ((bif a21 then
  (K0w x22.Steps 0 a9).bind fun v42=>
  some (decide (p39≤v42))
  else
  some false)) fun e40=>
  H0p b0 a9 xs23 (z20+1) e40
def H0q (b0:A0b):Nat→Int→Option (Unit ⊕ Int)
 | 0,_=>none
 | fuel+1,a9=>
  (bif (decide (a9≤60)) then
  Option.bind
  (H0p b0 a9 b0.Resources 0 true) fun p43=>
  (bif p43 then
  some (Sum.inr a9)
  else
  H0q b0 fuel (W (a9+1)))
  else
  some (Sum.inl ()))
def N0t (b0:A0b):Option Int:=
 (E0c b0).bind fun v1=>
 (bif (!v1) then
 some 0
 else
 (K0z b0).bind fun v3=>
 A0m
 (H0q b0 F0 (max v3 1))
 (fun q46=>some q46) fun p45=>
 some 61)
def E0i (b0:A0b):List A0f→Int→(List Int)→(List Int)→(List (List Int))→Option ((List Int)×(List Int)×(List (List Int)))
 | [],z10,a11,a12,a13=>
  some (a11,a12,a13)
 | x14::xs15,z10,a11,a12,a13=>
  (appL a11 ([0]:List Int)).bind fun v17=>
  (appL a12 ([(W (b0.Deadline - 1))]:List Int)).bind fun v18=>
  (G0h x14).bind fun v19=>
  (appL a13 ([v19]:List (List Int))).bind fun v20=>
  E0i b0 xs15 (z10+1) v17 v18 v20
def J0i (b0:A0b):Option A0r:=
 (E0c b0).bind fun v1=>
 (bif (!v1) then
 some (A0r.mk ([]:List Int) ([]:List Int) ([]:List (List Int)))
 else
 Option.bind
 (E0i b0 b0.Activities 0 ([]:List Int) ([]:List Int) ([]:List (List Int))) fun p21=>
 some (A0r.mk p21.1 p21.2.1 p21.2.2))
def T0d (b0:Int):Option Bool:=
 (E0r b0 (-2) 62).bind fun v1=>
 some v1
def M0u (b0:List Int):Nat→Int→Option (Unit ⊕ Bool)
 | 0,_=>none
 | fuel+1,a6=>
  (bif (decide (a6<(b0.length:Int))) then
  (idxL b0 a6).bind fun v10=>
  (idxL b0 (W (a6 - 1))).bind fun v11=>
  (bif (decide (v10≤v11)) then
  some (Sum.inr false)
  else
  M0u b0 fuel (W (a6+1)))
  else
  some (Sum.inl ()))
def E1k (b0:List Int):Option Bool:=
 A0m
 (M0u b0 F0 1)
 (fun q14=>some q14) fun p13=>
 some true
def H0y (b1:List Int):List Int→Int→Option (Unit ⊕ Bool)
 | [],z8=>
  some (Sum.inl ())
 | x9::xs10,z8=>
  (S0f b1 x9).bind fun v12=>
  (bif (!v12) then
  some (Sum.inr false)
  else
  H0y b1 xs10 (z8+1))
def R0h (b0:List Int)(b1:List Int):Option Bool:=
 A0m
 (H0y b1 b0 0)
 (fun q15=>some q15) fun p14=>
 some true
def G0x (b0:A0b)(b1:A0r):List (List Int)→Int→Option (Unit ⊕ Bool)
 | [],z14=>
  some (Sum.inl ())
 | x15::xs16,z14=>
  (idxL b1.MinStart z14).bind fun v18=>
  (T0d v18).bind fun v19=>
  Option.bind
  ((bif (!v19) then
  some true
  else
  (idxL b1.MaxStart z14).bind fun v22=>
  (T0d v22).bind fun v23=>
  (bif (!v23) then
  some true
  else
  (E1k x15).bind fun v25=>
  (bif (!v25) then
  some true
  else
  (idxL b0.Activities z14).bind fun v27=>
  (G0h v27).bind fun v28=>
  (R0h x15 v28).bind fun v29=>
  some (!v29))))) fun e20=>
  (bif e20 then
  some (Sum.inr false)
  else
  G0x b0 b1 xs16 (z14+1))
def P0q (b0:A0b)(b1:A0r):Option Bool:=
 (E0c b0).bind fun v1=>
 Option.bind
 ((bif (!v1) then
 some true
 else
 (bif ((b1.MinStart.length:Int) != (b0.Activities.length:Int)) then
 some true
 else
 (bif ((b1.MaxStart.length:Int) != (b0.Activities.length:Int)) then
 some true
 else
 some ((b1.Modes.length:Int) != (b0.Activities.length:Int)))))) fun e2=>
 (bif e2 then
 some false
 else
 A0m
 (G0x b0 b1 b1.Modes 0)
 (fun q32=>some q32) fun p31=>
 some true)
def B0d (g1:(List Int)→Option Bool):List (List Int)→Int→Option (Unit ⊕ Int)
 | [],z8=>
  some (Sum.inl ())
 | x9::xs10,z8=>
  (g1 x9).bind fun v12=>
  (bif v12 then
  some (Sum.inr z8)
  else
  B0d g1 xs10 (z8+1))
def F0s (b0:List (List Int))(g1:(List Int)→Option Bool):Option Int:=
 A0m
 (B0d g1 b0 0)
 (fun q15=>some q15) fun p14=>
 some (-1)
def D0q (b0:List (List Int))(g1:(List Int)→Option Bool):Option Bool:=
 (F0s b0 g1).bind fun v1=>
 some (decide (0≤v1))
def E0o (b0:List Int):Option Bool:=
 some ((b0.length:Int) == 0)
def F0x (b0:A0r):List Int→Int→Option (Unit ⊕ Bool)
 | [],z8=>
  some (Sum.inl ())
 | x9::xs10,z8=>
  Option.bind
  ((bif (decide (z8<(b0.MaxStart.length:Int))) then
  (idxL b0.MaxStart z8).bind fun v14=>
  some (decide (v14<x9))
  else
  some false)) fun e12=>
  (bif e12 then
  some (Sum.inr true)
  else
  F0x b0 xs10 (z8+1))
def N0i (b0:A0r):Option Bool:=
 A0m
 (F0x b0 b0.MinStart 0)
 (fun q17=>some q17) fun p16=>
 (D0q b0.Modes (fun x0=>E0o x0)).bind fun v18=>
 some v18
def Q0y (b0:A0b)(b1:A0r):Option Bool:=
 (P0q b0 b1).bind fun v1=>
 Option.bind
 ((bif v1 then
 (N0i b1).bind fun v4=>
 some (!v4)
 else
 some false)) fun e2=>
 some e2
def D0s (b0:A0b)(b1:Int):Option Bool:=
 (E0r b1 0 (W ((b0.Resources.length:Int) - 1))).bind fun v1=>
 some v1
def N0x (b0:A0b)(b1:Int):Option Bool:=
 (D0s b0 b1).bind fun v1=>
 Option.bind
 ((bif v1 then
 (idxL b0.Resources b1).bind fun v4=>
 some (decide (0<(v4.Setup.length:Int)))
 else
 some false)) fun e2=>
 some e2
def T0z (b0:A0b)(b1:A0r)(b2:Int):Option Bool:=
 (Q0y b0 b1).bind fun v1=>
 Option.bind
 ((bif v1 then
 (N0x b0 b2).bind fun v4=>
 some v4
 else
 some false)) fun e2=>
 some e2
def N0g (b0:TMode)(c1:Int):Option (Int×Bool):=
 (S0u b0.Usage c1).bind fun v1=>
 some (v1.1,v1.2)
def Q0z (b0:A0f)(b1:List Int)(b2:Int):Option Int:=
 (U0d b0 b1).bind fun v1=>
 (S0y v1 (fun x0=>N0g x0 b2)).bind fun v2=>
 some v2
def J0f (b0:A0b)(b1:A0r)(b2:Int)(b3:Int):Option Int:=
 (Q0y b0 b1).bind fun v1=>
 Option.bind
 ((bif (!v1) then
 some true
 else
 (B0t b0 b3).bind fun v4=>
 (bif (!v4) then
 some true
 else
 (D0s b0 b2).bind fun v6=>
 some (!v6)))) fun e2=>
 (bif e2 then
 some 0
 else
 (idxL b0.Activities b3).bind fun v8=>
 (idxL b1.Modes b3).bind fun v9=>
 (Q0z v8 v9 b2).bind fun v10=>
 some v10)
def D0l (b0:Int)(c1:A0b)(c2:A0r)(c3:Int):Option Bool:=
 (J0f c1 c2 c3 b0).bind fun v1=>
 some (decide (0<v1))
def N0l (g1:Int→Option Bool):List Int→Int→(List Int)→Option (List Int)
 | [],z8,a9=>
  some a9
 | x10::xs11,z8,a9=>
  (g1 x10).bind fun v13=>
  (bif v13 then
  (appL a9 ([x10]:List Int)).bind fun v15=>
  N0l g1 xs11 (z8+1) v15
  else
  N0l g1 xs11 (z8+1) a9)
def K1e (b0:List Int)(g1:Int→Option Bool):Option (List Int):=
 Option.bind
 (N0l g1 b0 0 ([]:List Int)) fun p16=>
 some p16
def N0e (b0:Int):Option Bool:=
 some (b0 != b0)
def L0e (b0:Int)(b1:Int):Option Int:=
 (N0e b0).bind fun v1=>
 (N0e b1).bind fun v2=>
 (bif v1 then
 (bif v2 then
 some 0
 else
 some (-1))
 else
 (bif v2 then
 some 1
 else
 (bif (decide (b0<b1)) then
 some (-1)
 else
 (bif (decide (b1<b0)) then
 some 1
 else
 some 0))))
def G0s (b0:Int)(b1:Int)(c2:A0r):Option Int:=
 (idxL c2.MinStart b0).bind fun v1=>
 (idxL c2.MinStart b1).bind fun v2=>
 (L0e v1 v2).bind fun v3=>
 some v3
def A0w (b1:Int)(g3:Int→Int→Option Int):Nat→Int→(List Int)→Option (List Int)
 | 0,_,_=>none
 | fuel+1,a16,a17=>
  Option.bind
  ((bif (decide (b1<a16)) then
  (idxL a17 a16).bind fun v22=>
  (idxL a17 (W (a16 - 1))).bind fun v23=>
  (g3 v22 v23).bind fun v24=>
  some (decide (v24<0))
  else
  some false)) fun e20=>
  (bif e20 then
  (idxL a17 (W (a16 - 1))).bind fun v26=>
  (idxL a17 a16).bind fun v27=>
  (idxL (setL a17 a16 v26) (W (a16 - 1))).bind fun v28=>
  A0w b1 g3 fuel (W (a16 - 1)) (setL (setL a17 a16 v26) (W (a16 - 1)) v27)
  else
  some a17)
def A0s (b1:Int)(b2:Int)(g3:Int→Int→Option Int):Nat→Int→(List Int)→Option (List Int)
 | 0,_,_=>none
 | fuel+1,a6,a7=>
  (bif (decide (a6<b2)) then
  Option.bind
  (A0w b1 g3 F0 a6 a7) fun p29=>
  A0s b1 b2 g3 fuel (W (a6+1)) p29
  else
  some a7)
def B0h (b0:List Int)(b1:Int)(b2:Int)(g3:Int→Int→Option Int):Option (List Int):=
 Option.bind
 (A0s b1 b2 g3 F0 (W (b1+1)) b0) fun p30=>
 some p30
def B0z (b1:Int)(b2:Int)(b3:Int):Nat→Int→(List Int)→Option (List Int)
 | 0,_,_=>none
 | fuel+1,a7,a8=>
  (bif (decide (a7<b3)) then
  (idxL a8 (W (b2+a7))).bind fun v12=>
  (idxL a8 (W (b1+a7))).bind fun v13=>
  (idxL (setL a8 (W (b1+a7)) v12) (W (b2+a7))).bind fun v14=>
  B0z b1 b2 b3 fuel (W (a7+1)) (setL (setL a8 (W (b1+a7)) v12) (W (b2+a7)) v13)
  else
  some a8)
def C0q (b0:List Int)(b1:Int)(b2:Int)(b3:Int)(g4:Int→Int→Option Int):Option (List Int):=
 Option.bind
 (B0z b1 b2 b3 F0 0 b0) fun p15=>
 some p15
def B0v (b2:Int)(g4:Int→Int→Option Int):Nat→Int→Int→(List Int)→Option (Int×(List Int))
 | 0,_,_,_=>none
 | fuel+1,a6,a7,a8=>
  (bif (a6 != a7) then
  (bif (decide (a7<a6)) then
  (C0q a8 (W (b2 - a6)) b2 a7 g4).bind fun v13=>
  B0v b2 g4 fuel (W (a6 - a7)) a7 v13
  else
  (C0q a8 (W (b2 - a6)) (W ((W (b2+a7)) - a6)) a6 g4).bind fun v14=>
  B0v b2 g4 fuel a6 (W (a7 - a6)) v14)
  else
  some (a6,a8))
def J0j (b0:List Int)(b1:Int)(b2:Int)(b3:Int)(g4:Int→Int→Option Int):Option (List Int):=
 Option.bind
 (B0v b2 g4 F0 (W (b2 - b1)) (W (b3 - b2)) b0) fun p15=>
 (C0q p15.2 (W (b2 - p15.1)) b2 p15.1 g4).bind fun v16=>
 some v16
def B0s (b0:List Int)(b1:Int)(g4:Int→Int→Option Int):Nat→Int→Int→Option Int
 | 0,_,_=>none
 | fuel+1,a7,a8=>
  (bif (decide (a7<a8)) then
  (idxL b0 (IntKind.i64.wrap (Int.fdiv (IntKind.u64.wrap (W (a7+a8))) (2 ^ min (Int.toNat 1) (IntKind.bits .u64))))).bind fun v12=>
  (idxL b0 b1).bind fun v13=>
  (g4 v12 v13).bind fun v14=>
  (bif (decide (v14<0)) then
  B0s b0 b1 g4 fuel (W ((IntKind.i64.wrap (Int.fdiv (IntKind.u64.wrap (W (a7+a8))) (2 ^ min (Int.toNat 1) (IntKind.bits .u64))))+1)) a8
  else
  B0s b0 b1 g4 fuel a7 (IntKind.i64.wrap (Int.fdiv (IntKind.u64.wrap (W (a7+a8))) (2 ^ min (Int.toNat 1) (IntKind.bits .u64)))))
  else
  some a7)
def C0f (p16:Int):Nat→Int→(List Int)→Option (List Int)
 | 0,_,_=>none
 | fuel+1,a22,a23=>
  (bif (decide (a22<(W (p16 - 1)))) then
  (idxL a23 (W (a22+1))).bind fun v27=>
  (idxL a23 a22).bind fun v28=>
  (idxL (setL a23 a22 v27) (W (a22+1))).bind fun v29=>
  C0f p16 fuel (W (a22+1)) (setL (setL a23 a22 v27) (W (a22+1)) v28)
  else
  some a23)
def B0p (b0:List Int)(b2:Int)(g4:Int→Int→Option Int):Nat→Int→Int→Option Int
 | 0,_,_=>none
 | fuel+1,a37,a38=>
  (bif (decide (a37<a38)) then
  (idxL b0 b2).bind fun v42=>
  (idxL b0 (IntKind.i64.wrap (Int.fdiv (IntKind.u64.wrap (W (a37+a38))) (2 ^ min (Int.toNat 1) (IntKind.bits .u64))))).bind fun v43=>
  (g4 v42 v43).bind fun v44=>
  (bif (!(decide (v44<0))) then
  B0p b0 b2 g4 fuel (W ((IntKind.i64.wrap (Int.fdiv (IntKind.u64.wrap (W (a37+a38))) (2 ^ min (Int.toNat 1) (IntKind.bits .u64))))+1)) a38
  else
  B0p b0 b2 g4 fuel a37 (IntKind.i64.wrap (Int.fdiv (IntKind.u64.wrap (W (a37+a38))) (2 ^ min (Int.toNat 1) (IntKind.bits .u64)))))
  else
  some a37)
def C0g (p46:Int):Nat→Int→(List Int)→Option (List Int)
 | 0,_,_=>none
 | fuel+1,a52,a53=>
  (bif (decide (p46<a52)) then
  (idxL a53 (W (a52 - 1))).bind fun v57=>
  (idxL a53 a52).bind fun v58=>
  (idxL (setL a53 a52 v57) (W (a52 - 1))).bind fun v59=>
  C0g p46 fuel (W (a52 - 1)) (setL (setL a53 a52 v57) (W (a52 - 1)) v58)
  else
  some a53)
def B0o (b0:List Int)(b1:Int)(b2:Int)(b3:Int)(g4:Int→Int→Option Int):Nat→Int→Int→Option Int
 | 0,_,_=>none
 | fuel+1,a72,a73=>
  (bif (decide (a72<a73)) then
  (idxL b0 (W ((W ((W ((IntKind.i64.wrap (Int.fdiv (IntKind.u64.wrap (W (b1+b3))) (2 ^ min (Int.toNat 1) (IntKind.bits .u64))))+b2)) - 1)) - (IntKind.i64.wrap (Int.fdiv (IntKind.u64.wrap (W (a72+a73))) (2 ^ min (Int.toNat 1) (IntKind.bits .u64))))))).bind fun v77=>
  (idxL b0 (IntKind.i64.wrap (Int.fdiv (IntKind.u64.wrap (W (a72+a73))) (2 ^ min (Int.toNat 1) (IntKind.bits .u64))))).bind fun v78=>
  (g4 v77 v78).bind fun v79=>
  (bif (!(decide (v79<0))) then
  B0o b0 b1 b2 b3 g4 fuel (W ((IntKind.i64.wrap (Int.fdiv (IntKind.u64.wrap (W (a72+a73))) (2 ^ min (Int.toNat 1) (IntKind.bits .u64))))+1)) a73
  else
  B0o b0 b1 b2 b3 g4 fuel a72 (IntKind.i64.wrap (Int.fdiv (IntKind.u64.wrap (W (a72+a73))) (2 ^ min (Int.toNat 1) (IntKind.bits .u64)))))
  else
  some a72)
def E0s (b0:List Int)(b1:Int)(b2:Int)(b3:Int)(g4:Int→Int→Option Int):Option (List Int):=
 (bif ((W (b2 - b1)) == 1) then
 Option.bind
 (B0s b0 b1 g4 F0 b2 b3) fun p16=>
 Option.bind
 (C0f p16 F0 b1 b0) fun p30=>
 some p30
 else
 (bif ((W (b3 - b2)) == 1) then
 Option.bind
 (B0p b0 b2 g4 F0 b1 b2) fun p46=>
 Option.bind
 (C0g p46 F0 b2 b0) fun p60=>
 some p60
 else
 Option.bind
 ((bif (decide ((IntKind.i64.wrap (Int.fdiv (IntKind.u64.wrap (W (b1+b3))) (2 ^ min (Int.toNat 1) (IntKind.bits .u64))))<b2)) then
 some ((W ((W ((IntKind.i64.wrap (Int.fdiv (IntKind.u64.wrap (W (b1+b3))) (2 ^ min (Int.toNat 1) (IntKind.bits .u64))))+b2)) - b3)),(IntKind.i64.wrap (Int.fdiv (IntKind.u64.wrap (W (b1+b3))) (2 ^ min (Int.toNat 1) (IntKind.bits .u64)))))
 else
 some (b1,b2))) fun p66=>
 Option.bind
 (B0o b0 b1 b2 b3 g4 F0 p66.1 p66.2) fun p81=>
 Option.bind
 ((bif (decide (p81<b2)) then
 some (decide (b2<(W ((W ((IntKind.i64.wrap (Int.fdiv (IntKind.u64.wrap (W (b1+b3))) (2 ^ min (Int.toNat 1) (IntKind.bits .u64))))+b2)) - p81))))
 else
 some false)) fun e82=>
 Option.bind
 ((bif e82 then
 (J0j b0 p81 b2 (W ((W ((IntKind.i64.wrap (Int.fdiv (IntKind.u64.wrap (W (b1+b3))) (2 ^ min (Int.toNat 1) (IntKind.bits .u64))))+b2)) - p81)) g4).bind fun v89=>
 some v89
 else
 some b0)) fun p90=>
 Option.bind
 ((bif (decide (b1<p81)) then
 some (decide (p81<(IntKind.i64.wrap (Int.fdiv (IntKind.u64.wrap (W (b1+b3))) (2 ^ min (Int.toNat 1) (IntKind.bits .u64))))))
 else
 some false)) fun e91=>
 Option.bind
 ((bif e91 then
 none
 else
 some ())) fun p98=>
 Option.bind
 ((bif (decide ((IntKind.i64.wrap (Int.fdiv (IntKind.u64.wrap (W (b1+b3))) (2 ^ min (Int.toNat 1) (IntKind.bits .u64))))<(W ((W ((IntKind.i64.wrap (Int.fdiv (IntKind.u64.wrap (W (b1+b3))) (2 ^ min (Int.toNat 1) (IntKind.bits .u64))))+b2)) - p81)))) then
 some (decide ((W ((W ((IntKind.i64.wrap (Int.fdiv (IntKind.u64.wrap (W (b1+b3))) (2 ^ min (Int.toNat 1) (IntKind.bits .u64))))+b2)) - p81))<b3))
 else
 some false)) fun e99=>
 (bif e99 then
 none
 else
 some p90)))
def B0i (b1:Int)(g2:Int→Int→Option Int):Nat→Int→Int→(List Int)→Option (Int×(List Int))
 | 0,_,_,_=>none
 | fuel+1,a6,a7,a8=>
  (bif (decide (a7≤b1)) then
  (B0h a8 a6 a7 g2).bind fun v12=>
  B0i b1 g2 fuel a7 (W (a7+20)) v12
  else
  some (a6,a8))
def C0s (b1:Int)(g2:Int→Int→Option Int)(a20:Int):Nat→Int→Int→(List Int)→Option (Int×(List Int))
 | 0,_,_,_=>none
 | fuel+1,a30,a31,a32=>
  (bif (decide (a31≤b1)) then
  (E0s a32 a30 (W (a30+a20)) a31 g2).bind fun v36=>
  C0s b1 g2 a20 fuel a31 (W (a31+(W (2*a20)))) v36
  else
  some (a30,a32))
def B0c (b1:Int)(g2:Int→Int→Option Int):Nat→Int→(List Int)→Option (List Int)
 | 0,_,_=>none
 | fuel+1,a20,a21=>
  (bif (decide (a20<b1)) then
  Option.bind
  (C0s b1 g2 a20 F0 0 (W (2*a20)) a21) fun p37=>
  (bif (decide ((W (p37.1+a20))<b1)) then
  (E0s p37.2 p37.1 (W (p37.1+a20)) b1 g2).bind fun v39=>
  B0c b1 g2 fuel (W (a20*2)) v39
  else
  B0c b1 g2 fuel (W (a20*2)) p37.2)
  else
  some a21)
def F0w (b0:List Int)(b1:Int)(g2:Int→Int→Option Int):Option (List Int):=
 Option.bind
 (B0i b1 g2 F0 0 20 b0) fun p13=>
 (B0h p13.2 p13.1 b1 g2).bind fun v14=>
 Option.bind
 (B0c b1 g2 F0 20 v14) fun p40=>
 some p40
def D0b (b0:List Int)(g1:Int→Int→Option Int):Option (List Int):=
 (F0w b0 (b0.length:Int) g1).bind fun v1=>
 some v1
def L0z (b0:A0b)(b1:A0r)(b2:Int):Option (List Int):=
 (T0z b0 b1 b2).bind fun v1=>
 (bif (!v1) then
 some ([]:List Int)
 else
 (P0a (b0.Activities.length:Int)).bind fun v3=>
 (K1e v3 (fun x0=>D0l x0 b0 b1 b2)).bind fun v4=>
 (D0b v4 (fun x0 x1=>G0s x0 x1 b1)).bind fun v5=>
 some v5)
def R0u (b0:A0b)(b1:Int)(b2:Int)(b3:Int):Option Int:=
 (N0x b0 b1).bind fun v1=>
 Option.bind
 ((bif (!v1) then
 some true
 else
 (E0c b0).bind fun v4=>
 (bif (!v4) then
 some true
 else
 (B0t b0 b2).bind fun v6=>
 (bif (!v6) then
 some true
 else
 (B0t b0 b3).bind fun v8=>
 some (!v8))))) fun e2=>
 (bif e2 then
 some 0
 else
 (idxL b0.Resources b1).bind fun v10=>
 (idxL b0.Activities b2).bind fun v11=>
 (idxL v10.Setup v11.Family).bind fun v12=>
 (idxL b0.Activities b3).bind fun v13=>
 (idxL v12 v13.Family).bind fun v14=>
 some v14)
def H0h (b0:A0b)(b1:A0r)(b2:Int):Option Int:=
 (idxL b0.Activities b2).bind fun v1=>
 (idxL b1.Modes b2).bind fun v2=>
 (H0l v1 v2).bind fun v3=>
 some v3
def B0q (b0:A0b)(b2:Int)(x15:Int):List Int→Int→Int→Bool→Option Int
 | [],z25,a26,a27=>
  some a26
 | x28::xs29,z25,a26,a27=>
  (R0u b0 b2 x28 x15).bind fun v31=>
  Option.bind
  ((bif (x28 != x15) then
  (bif (!a27) then
  some true
  else
  some (decide (v31<a26)))
  else
  some false)) fun e32=>
  (bif e32 then
  B0q b0 b2 x15 xs29 (z25+1) v31 true
  else
  B0q b0 b2 x15 xs29 (z25+1) a26 a27)
def E0z (b0:A0b)(b1:A0r)(b2:Int)(v1:List Int):List Int→Int→Int→Int→Option (Int×Int)
 | [],z12,a13,a14=>
  some (a13,a14)
 | x15::xs16,z12,a13,a14=>
  Option.bind
  (B0q b0 b2 x15 v1 0 0 false) fun p36=>
  (H0h b0 b1 x15).bind fun v37=>
  E0z b0 b1 b2 v1 xs16 (z12+1) (W (a13+(W (v37+p36)))) (max a14 p36)
def L0x (b0:A0b)(b1:A0r)(b2:Int):Option Int:=
 (L0z b0 b1 b2).bind fun v1=>
 (bif ((v1.length:Int) == 0) then
 some 0
 else
 (idxL v1 0).bind fun v3=>
 (idxL b1.MinStart v3).bind fun v4=>
 Option.bind
 (E0z b0 b1 b2 v1 v1 0 v4 0) fun p38=>
 some (W (p38.1 - p38.2)))
def C0i (b0:A0b):List A0q→Int→Int→Option Int
 | [],z10,a11=>
  some a11
 | x12::xs13,z10,a11=>
  (J0i b0).bind fun v15=>
  (L0x b0 v15 z10).bind fun v16=>
  C0i b0 xs13 (z10+1) (max a11 v16)
def E0v (b0:A0b):Option Int:=
 (E0c b0).bind fun v1=>
 (bif (!v1) then
 some 0
 else
 Option.bind
 (C0i b0 b0.Resources 0 0) fun p17=>
 some p17)
def P0j (b0:A0b):Option Int:=
 (E0c b0).bind fun v1=>
 (bif (!v1) then
 some 0
 else
 (K0z b0).bind fun v3=>
 (N0t b0).bind fun v4=>
 (E0v b0).bind fun v5=>
 some (max (max (max v3 v4) v5) 1))
def strconv_Itoa (b0:Int):Option ByteArray:=itoaL b0
def K0v (b0:Int):Option ByteArray:=
 (E0r b0 (-100000) 100000).bind fun v1=>
 (bif (!v1) then
 some ByteArray.empty
 else
 (strconv_Itoa b0).bind fun v3=>
 some v3)
def strings_Join (b0:List ByteArray)(b1:ByteArray):Option ByteArray:=joinL b0 b1
def E0y  : List Int→Int→(List ByteArray)→Option (List ByteArray)
 | [],z14,a15=>
  some a15
 | x16::xs17,z14,a15=>
  (K0v x16).bind fun v19=>
  (appL a15 ([v19]:List ByteArray)).bind fun v20=>
  E0y xs17 (z14+1) v20
def L0u (b0:A0b):Option ByteArray:=
 (E0c b0).bind fun v1=>
 (bif (!v1) then
 some ByteArray.empty
 else
 (K0z b0).bind fun v3=>
 (N0t b0).bind fun v4=>
 (E0v b0).bind fun v5=>
 (P0j b0).bind fun v6=>
 Option.bind
 (E0y ([v3,v4,v5,v6]:List Int) 0 ([]:List ByteArray)) fun p21=>
 (strings_Join p21 (⟨#[32]⟩:ByteArray)).bind fun v22=>
 some v22)
def M0n (b1:List Int):List Int→Int→Option (Unit ⊕ Bool)
 | [],z9=>
  some (Sum.inl ())
 | x10::xs11,z9=>
  (idxL b1 z9).bind fun v13=>
  (bif (x10 != v13) then
  some (Sum.inr false)
  else
  M0n b1 xs11 (z9+1))
def U0e (b0:List Int)(b1:List Int):Option Bool:=
 (bif ((b0.length:Int) != (b1.length:Int)) then
 some false
 else
 A0m
 (M0n b1 b0 0)
 (fun q16=>some q16) fun p15=>
 some true)
def Y0e (b0:TMode)(b1:TMode):Option Bool:=
 (bif (b0.Duration != b1.Duration) then
 some false
 else
 (U0e b0.Usage b1.Usage).bind fun v2=>
 (bif (!v2) then
 some false
 else
 (U0e b0.Consumption b1.Consumption).bind fun v4=>
 (bif (!v4) then
 some false
 else
 some true)))
def L0a (b1:List TMode):List TMode→Int→Option (Unit ⊕ Bool)
 | [],z9=>
  some (Sum.inl ())
 | x10::xs11,z9=>
  (idxL b1 z9).bind fun v13=>
  (Y0e x10 v13).bind fun v14=>
  (bif (!v14) then
  some (Sum.inr false)
  else
  L0a b1 xs11 (z9+1))
def X0l (b0:List TMode)(b1:List TMode):Option Bool:=
 (bif ((b0.length:Int) != (b1.length:Int)) then
 some false
 else
 A0m
 (L0a b1 b0 0)
 (fun q17=>some q17) fun p16=>
 some true)
def P0o (b0:A0f)(b1:A0f):Option Bool:=
 (bif (b0.Name != b1.Name) then
 some false
 else
 (bif (b0.Family != b1.Family) then
 some false
 else
 (X0l b0.Modes b1.Modes).bind fun v3=>
 (bif (!v3) then
 some false
 else
 some true)))
def F0y (b1:List A0f):List A0f→Int→Option (Unit ⊕ Bool)
 | [],z9=>
  some (Sum.inl ())
 | x10::xs11,z9=>
  (idxL b1 z9).bind fun v13=>
  (P0o x10 v13).bind fun v14=>
  (bif (!v14) then
  some (Sum.inr false)
  else
  F0y b1 xs11 (z9+1))
def Q0o (b0:List A0f)(b1:List A0f):Option Bool:=
 (bif ((b0.length:Int) != (b1.length:Int)) then
 some false
 else
 A0m
 (F0y b1 b0 0)
 (fun q17=>some q17) fun p16=>
 some true)
def Z0b (b0:TLink)(b1:TLink):Option Bool:=
 (bif (b0.From != b1.From) then
 some false
 else
 (bif (b0.To != b1.To) then
 some false
 else
 (bif (b0.FromEnd != b1.FromEnd) then
 some false
 else
 (bif (b0.Lag != b1.Lag) then
 some false
 else
 some true))))
def K0x (b1:List TLink):List TLink→Int→Option (Unit ⊕ Bool)
 | [],z9=>
  some (Sum.inl ())
 | x10::xs11,z9=>
  (idxL b1 z9).bind fun v13=>
  (Z0b x10 v13).bind fun v14=>
  (bif (!v14) then
  some (Sum.inr false)
  else
  K0x b1 xs11 (z9+1))
def Y0r (b0:List TLink)(b1:List TLink):Option Bool:=
 (bif ((b0.length:Int) != (b1.length:Int)) then
 some false
 else
 A0m
 (K0x b1 b0 0)
 (fun q17=>some q17) fun p16=>
 some true)
def Y0a (b0:TStep)(b1:TStep):Option Bool:=
 (bif (b0.At != b1.At) then
 some false
 else
 (bif (b0.Capacity != b1.Capacity) then
 some false
 else
 some true))
def L0k (b1:List TStep):List TStep→Int→Option (Unit ⊕ Bool)
 | [],z9=>
  some (Sum.inl ())
 | x10::xs11,z9=>
  (idxL b1 z9).bind fun v13=>
  (Y0a x10 v13).bind fun v14=>
  (bif (!v14) then
  some (Sum.inr false)
  else
  L0k b1 xs11 (z9+1))
def X0m (b0:List TStep)(b1:List TStep):Option Bool:=
 (bif ((b0.length:Int) != (b1.length:Int)) then
 some false
 else
 A0m
 (L0k b1 b0 0)
 (fun q17=>some q17) fun p16=>
 some true)
def L0j (b1:List (List Int)):List (List Int)→Int→Option (Unit ⊕ Bool)
 | [],z9=>
  some (Sum.inl ())
 | x10::xs11,z9=>
  (idxL b1 z9).bind fun v13=>
  (U0e x10 v13).bind fun v14=>
  (bif (!v14) then
  some (Sum.inr false)
  else
  L0j b1 xs11 (z9+1))
def Z0c (b0:List (List Int))(b1:List (List Int)):Option Bool:=
 (bif ((b0.length:Int) != (b1.length:Int)) then
 some false
 else
 A0m
 (L0j b1 b0 0)
 (fun q17=>some q17) fun p16=>
 some true)
def P0t (b0:A0q)(b1:A0q):Option Bool:=
 (X0m b0.Steps b1.Steps).bind fun v1=>
 (bif (!v1) then
 some false
 else
 (Z0c b0.Setup b1.Setup).bind fun v3=>
 (bif (!v3) then
 some false
 else
 some true))
def G0c (b1:List A0q):List A0q→Int→Option (Unit ⊕ Bool)
 | [],z9=>
  some (Sum.inl ())
 | x10::xs11,z9=>
  (idxL b1 z9).bind fun v13=>
  (P0t x10 v13).bind fun v14=>
  (bif (!v14) then
  some (Sum.inr false)
  else
  G0c b1 xs11 (z9+1))
def Q0i (b0:List A0q)(b1:List A0q):Option Bool:=
 (bif ((b0.length:Int) != (b1.length:Int)) then
 some false
 else
 A0m
 (G0c b1 b0 0)
 (fun q17=>some q17) fun p16=>
 some true)
def R0l (b0:A0b)(b1:A0b):Option Bool:=
 (bif (b0.Deadline != b1.Deadline) then
 some false
 else
 (Q0o b0.Activities b1.Activities).bind fun v2=>
 (bif (!v2) then
 some false
 else
 (Y0r b0.Links b1.Links).bind fun v4=>
 (bif (!v4) then
 some false
 else
 (Q0i b0.Resources b1.Resources).bind fun v6=>
 (bif (!v6) then
 some false
 else
 (U0e b0.Stocks b1.Stocks).bind fun v8=>
 (bif (!v8) then
 some false
 else
 some true)))))
def w_FnExactFormatBounds (b0:A0b):Option Bool:=
 (R0g b0 1048576).bind fun v1=>
 (bif (decide (v1<0)) then
 some true
 else
 (M0r b0).bind fun v3=>
 (M0d v3).bind fun v4=>
 (M0r b0).bind fun v5=>
 (L0u v5).bind fun v6=>
 (bif (v6 != v4) then
 some false
 else
 (M0r b0).bind fun v8=>
 (R0l v5 v8).bind fun v9=>
 (bif (!v9) then
 some false
 else
 some true)))
def R0i (b0:A0b)(b1:A0r)(b2:Int)(b3:Int):Option Int:=
 (N0d b0 b1).bind fun v1=>
 Option.bind
 ((bif (!v1) then
 some true
 else
 (C0v b3 0 (W ((b0.Activities.length:Int) - 1))).bind fun v4=>
 (bif (!v4) then
 some true
 else
 (C0v b2 0 (W ((b0.Resources.length:Int) - 1))).bind fun v6=>
 some (!v6)))) fun e2=>
 (bif e2 then
 some 0
 else
 (E0j b0 b1 b2 b3).bind fun v8=>
 some v8)
def Q0c (M:Nat)(l:List Int):Prop:=l.length≤M
theorem T0y (x:List Int)(h:Q0c 9223372036854775807 x):SzOk S0h (Q0c 1048576) x:=Q1e x (fun _=>rfl) h
def b_str (M:Nat)(x:ByteArray):Prop:=x.size≤M
def W0i (M:Nat)(x:TMode):Prop:=Q0c M x.Usage∧Q0c M x.Consumption ∧  True
theorem L1t (x:TMode)(h:W0i 9223372036854775807 x):SzOk V0x (W0i 1048576) x:=fun n m0 hn=>by
 unfold V0x W0i
 unfold W0i at h
 exact X0j (T0y _ h.1) m0 (by omega) (fun n1 m1 _ _=>X0j (T0y _ h.2.1) m1 (by omega) (fun n2 m2 _ _=>szEnd m2))
def Q0v (M:Nat)(l:List TMode):Prop:=l.length≤M∧∀ x∈l,W0i M x
theorem J1w (x:List TMode)(h:Q0v 9223372036854775807 x):SzOk Y0d (Q0v 1048576) x:=M1i (F:=M0w) (sz:=V0x) (Q:=W0i 1048576) x (fun _ _=>rfl) (fun _ _ _ _=>rfl) (fun _=>rfl) h.1 (fun y hy=>L1t y (h.2 y hy))
def H0b (M:Nat)(x:A0f):Prop:=b_str M x.Name∧Q0v M x.Modes ∧  True
theorem D1z (x:A0f)(h:H0b 9223372036854775807 x):SzOk N0b (H0b 1048576) x:=fun n m0 hn=>by
 unfold N0b H0b
 unfold H0b at h
 exact szStr h.1 m0 (by omega) (fun n1 m1 _ _=>X0j (J1w _ h.2.1) m1 (by omega) (fun n2 m2 _ _=>szEnd m2))
def J0d (M:Nat)(l:List A0f):Prop:=l.length≤M∧∀ x∈l,H0b M x
theorem B1n (x:List A0f)(h:J0d 9223372036854775807 x):SzOk Q0t (J0d 1048576) x:=M1i (F:=H0d) (sz:=N0b) (Q:=H0b 1048576) x (fun _ _=>rfl) (fun _ _ _ _=>rfl) (fun _=>rfl) h.1 (fun y hy=>D1z y (h.2 y hy))
def S0w (M:Nat)(l:List TLink):Prop:=l.length≤M
theorem H1q (x:List TLink)(h:S0w 9223372036854775807 x):SzOk Z0l (S0w 1048576) x:=Q1e x (fun _=>rfl) h
def T0e (M:Nat)(l:List TStep):Prop:=l.length≤M
theorem J1p (x:List TStep)(h:T0e 9223372036854775807 x):SzOk Y0b (T0e 1048576) x:=Q1e x (fun _=>rfl) h
def R0p (M:Nat)(l:List (List Int)):Prop:=l.length≤M∧∀ x∈l,Q0c M x
theorem J1f (x:List (List Int))(h:R0p 9223372036854775807 x):SzOk Y0j (R0p 1048576) x:=M1i (F:=M0v) (sz:=S0h) (Q:=Q0c 1048576) x (fun _ _=>rfl) (fun _ _ _ _=>rfl) (fun _=>rfl) h.1 (fun y hy=>T0y y (h.2 y hy))
def K0l (M:Nat)(x:A0q):Prop:=T0e M x.Steps∧R0p M x.Setup ∧  True
theorem C1y (x:A0q)(h:K0l 9223372036854775807 x):SzOk M0z (K0l 1048576) x:=fun n m0 hn=>by
 unfold M0z K0l
 unfold K0l at h
 exact X0j (J1p _ h.1) m0 (by omega) (fun n1 m1 _ _=>X0j (J1f _ h.2.1) m1 (by omega) (fun n2 m2 _ _=>szEnd m2))
def L0v (M:Nat)(l:List A0q):Prop:=l.length≤M∧∀ x∈l,K0l M x
theorem B1m (x:List A0q)(h:L0v 9223372036854775807 x):SzOk Q0s (L0v 1048576) x:=M1i (F:=H0c) (sz:=M0z) (Q:=K0l 1048576) x (fun _ _=>rfl) (fun _ _ _ _=>rfl) (fun _=>rfl) h.1 (fun y hy=>C1y y (h.2 y hy))
def D0a (M:Nat)(x:A0b):Prop:=J0d M x.Activities∧S0w M x.Links∧L0v M x.Resources∧Q0c M x.Stocks ∧  True
theorem F1g (x:A0b)(h:D0a 9223372036854775807 x):SzOk R0g (D0a 1048576) x:=fun n m0 hn=>by
 unfold R0g D0a
 unfold D0a at h
 exact X0j (B1n _ h.1) m0 (by omega) (fun n1 m1 _ _=>X0j (H1q _ h.2.1) m1 (by omega) (fun n2 m2 _ _=>X0j (B1m _ h.2.2.1) m2 (by omega) (fun n3 m3 _ _=>X0j (T0y _ h.2.2.2.1) m3 (by omega) (fun n4 m4 _ _=>szEnd m4))))
theorem T0t (x:List Int)(h:Q0c 1048576 x):T0v x=some x:=T0s (F:=M0t) (Q:=fun _=>True) (fun _ _=>rfl) (fun x xs z a y hq hy=>by simp only [M0t,hy,Option.bind_some]) h (fun _ _=>trivial) rfl
theorem L1e (x:TMode)(h:W0i 1048576 x):Y0k x=some x:=by
 unfold W0i at h
 unfold Y0k
 try simp only [T0t _ (h.1),T0t _ (h.2.1),Option.bind_some]
theorem J1b (x:List TMode)(h:Q0v 1048576 x):Z0d x=some x:=T0s (F:=K0q) (Q:=W0i 1048576) (fun _ _=>rfl) (fun x xs z a y hq hy=>by simp only [K0q,L1e x hq,hy,Option.bind_some]) h.1 h.2 rfl
theorem E1s (x:A0f)(h:H0b 1048576 x):P0i x=some x:=by
 unfold H0b at h
 unfold P0i
 try simp only [J1b _ (h.2.1),Option.bind_some]
theorem B1v (x:List A0f)(h:J0d 1048576 x):Q0p x=some x:=T0s (F:=G0d) (Q:=H0b 1048576) (fun _ _=>rfl) (fun x xs z a y hq hy=>by simp only [G0d,E1s x hq,hy,Option.bind_some]) h.1 h.2 rfl
theorem K1r (x:TLink):Y0f x=some x:=by
 unfold Y0f
 try simp only [Option.bind_some]
theorem H1n (x:List TLink)(h:S0w 1048576 x):X0u x=some x:=T0s (F:=K0s) (Q:=fun _=>True) (fun _ _=>rfl) (fun x xs z a y hq hy=>by simp only [K0s,K1r,hy,Option.bind_some]) h (fun _ _=>trivial) rfl
theorem L1k (x:TStep):Z0t x=some x:=by
 unfold Z0t
 try simp only [Option.bind_some]
theorem J1c (x:List TStep)(h:T0e 1048576 x):X0s x=some x:=T0s (F:=K0t) (Q:=fun _=>True) (fun _ _=>rfl) (fun x xs z a y hq hy=>by simp only [K0t,L1k,hy,Option.bind_some]) h (fun _ _=>trivial) rfl
theorem H1u (x:List (List Int))(h:R0p 1048576 x):X0q x=some x:=T0s (F:=L0f) (Q:=Q0c 1048576) (fun _ _=>rfl) (fun x xs z a y hq hy=>by simp only [L0f,T0t x hq,hy,Option.bind_some]) h.1 h.2 rfl
theorem D1j (x:A0q)(h:K0l 1048576 x):P0k x=some x:=by
 unfold K0l at h
 unfold P0k
 try simp only [J1c _ (h.1),H1u _ (h.2.1),Option.bind_some]
theorem B1t (x:List A0q)(h:L0v 1048576 x):Q0r x=some x:=T0s (F:=F0z) (Q:=K0l 1048576) (fun _ _=>rfl) (fun x xs z a y hq hy=>by simp only [F0z,D1j x hq,hy,Option.bind_some]) h.1 h.2 rfl
theorem F1j (x:A0b)(h:D0a 1048576 x):M0r x=some x:=by
 unfold D0a at h
 unfold M0r
 try simp only [B1v _ (h.1),H1n _ (h.2.1),B1t _ (h.2.2.1),T0t _ (h.2.2.2.1),Option.bind_some]
theorem T0x (a b:List Int):U0e a b=some (decide (a=b)):=D1v (F:=M0n b) (fun _=>rfl) (fun x xs z y h=>by simp only [M0n,h,Option.bind_some,L0q];by_cases hxy:x=y <;> simp [hxy]) rfl
theorem M1a (a b:TMode):Y0e a b=some (decide (a=b)):=by
 obtain ⟨a0,a1,a2⟩:=a
 obtain ⟨b0,b1,b2⟩:=b
 simp only [Y0e,T0x,T0x,TMode.mk.injEq,Option.bind_some,L0q,V0u,E1d]
 by_cases h0:a0=b0 <;> by_cases h1:a1=b1 <;> by_cases h2:a2=b2 <;> simp [h0,h1,h2]
theorem H1w (a b:List TMode):X0l a b=some (decide (a=b)):=D1v (F:=L0a b) (fun _=>rfl) (fun x xs z y h=>by simp only [L0a,h,Option.bind_some,L0q,M1a];by_cases hxy:x=y <;> simp [hxy]) rfl
theorem C1q (a b:A0f):P0o a b=some (decide (a=b)):=by
 obtain ⟨a0,a1,a2⟩:=a
 obtain ⟨b0,b1,b2⟩:=b
 simp only [P0o,H1w,A0f.mk.injEq,Option.bind_some,L0q,V0u,E1d]
 by_cases h0:a0=b0 <;> by_cases h1:a1=b1 <;> by_cases h2:a2=b2 <;> simp [h0,h1,h2]
theorem B1h (a b:List A0f):Q0o a b=some (decide (a=b)):=D1v (F:=F0y b) (fun _=>rfl) (fun x xs z y h=>by simp only [F0y,h,Option.bind_some,L0q,C1q];by_cases hxy:x=y <;> simp [hxy]) rfl
theorem L1u (a b:TLink):Z0b a b=some (decide (a=b)):=by
 obtain ⟨a0,a1,a2,a3⟩:=a
 obtain ⟨b0,b1,b2,b3⟩:=b
 simp only [Z0b,TLink.mk.injEq,Option.bind_some,L0q,V0u,E1d]
 by_cases h0:a0=b0 <;> by_cases h1:a1=b1 <;> by_cases h2:a2=b2 <;> by_cases h3:a3=b3 <;> simp [h0,h1,h2,h3]
theorem H1l (a b:List TLink):Y0r a b=some (decide (a=b)):=D1v (F:=K0x b) (fun _=>rfl) (fun x xs z y h=>by simp only [K0x,h,Option.bind_some,L0q,L1u];by_cases hxy:x=y <;> simp [hxy]) rfl
theorem L1s (a b:TStep):Y0a a b=some (decide (a=b)):=by
 obtain ⟨a0,a1⟩:=a
 obtain ⟨b0,b1⟩:=b
 simp only [Y0a,TStep.mk.injEq,Option.bind_some,L0q,V0u,E1d]
 by_cases h0:a0=b0 <;> by_cases h1:a1=b1 <;> simp [h0,h1]
theorem J1j (a b:List TStep):X0m a b=some (decide (a=b)):=D1v (F:=L0k b) (fun _=>rfl) (fun x xs z y h=>by simp only [L0k,h,Option.bind_some,L0q,L1s];by_cases hxy:x=y <;> simp [hxy]) rfl
theorem H1s (a b:List (List Int)):Z0c a b=some (decide (a=b)):=D1v (F:=L0j b) (fun _=>rfl) (fun x xs z y h=>by simp only [L0j,h,Option.bind_some,L0q,T0x];by_cases hxy:x=y <;> simp [hxy]) rfl
theorem D1r (a b:A0q):P0t a b=some (decide (a=b)):=by
 obtain ⟨a0,a1⟩:=a
 obtain ⟨b0,b1⟩:=b
 simp only [P0t,J1j,H1s,A0q.mk.injEq,Option.bind_some,L0q,V0u,E1d]
 by_cases h0:a0=b0 <;> by_cases h1:a1=b1 <;> simp [h0,h1]
theorem B1p (a b:List A0q):Q0i a b=some (decide (a=b)):=D1v (F:=G0c b) (fun _=>rfl) (fun x xs z y h=>by simp only [G0c,h,Option.bind_some,L0q,D1r];by_cases hxy:x=y <;> simp [hxy]) rfl
theorem F1k (a b:A0b):R0l a b=some (decide (a=b)):=by
 obtain ⟨a0,a1,a2,a3,a4⟩:=a
 obtain ⟨b0,b1,b2,b3,b4⟩:=b
 simp only [R0l,B1h,H1l,B1p,T0x,A0b.mk.injEq,Option.bind_some,L0q,V0u,E1d]
 by_cases h0:a0=b0 <;> by_cases h1:a1=b1 <;> by_cases h2:a2=b2 <;> by_cases h3:a3=b3 <;> by_cases h4:a4=b4 <;> simp [h0,h1,h2,h3,h4]
def S0a (M:Nat)(x:A0r):Prop:=Q0c M x.MinStart∧Q0c M x.MaxStart∧R0p M x.Modes ∧  True
theorem Q0f:∀ p,Val .int p→∃ x:Int,p=int x∧True:=fun p h=>by obtain ⟨n,e⟩:=S1o h;exact ⟨n,e,trivial⟩
theorem R1i:∀ p,Val .str p→∃ x:ByteArray,p=str x∧b_str 9223372036854775807 x:=fun p h=>S1s h
theorem V0t:∀ p,Val (.slice .int) p→∃ x:List Int,p=.slice (x.map int)∧Q0c 9223372036854775807 x:=fun p h=>by
 obtain ⟨l,e,h1,h2⟩:=R0z Q0f h
 exact ⟨l,e,h1⟩
theorem P1b:∀ p,Val (.agg [.int,.slice .int,.slice .int]) p→∃ x:TMode,p=B0f x∧W0i 9223372036854775807 x:=fun p h=>by
 obtain ⟨zs0,rfl,hv0⟩:=h
 obtain ⟨x0,zs1,rfl,h0,hv1⟩:=D0m hv0
 obtain ⟨y0,rfl,b0⟩:=Q0f _ h0
 obtain ⟨x1,zs2,rfl,h1,hv2⟩:=D0m hv1
 obtain ⟨y1,rfl,b1⟩:=V0t _ h1
 obtain ⟨x2,zs3,rfl,h2,hv3⟩:=D0m hv2
 obtain ⟨y2,rfl,b2⟩:=V0t _ h2
 obtain rfl:=U0a hv3
 exact ⟨⟨y0,y1,y2⟩,rfl,⟨b1,b2,trivial⟩⟩
theorem G1r:∀ p,Val (.slice (.agg [.int,.slice .int,.slice .int])) p→∃ x:List TMode,p=.slice (x.map B0f)∧Q0v 9223372036854775807 x:=fun p h=>by
 obtain ⟨l,e,h1,h2⟩:=R0z P1b h
 exact ⟨l,e,h1,h2⟩
theorem E1z:∀ p,Val (.agg [.str,.int,.slice (.agg [.int,.slice .int,.slice .int])]) p→∃ x:A0f,p=A0d x∧H0b 9223372036854775807 x:=fun p h=>by
 obtain ⟨zs0,rfl,hv0⟩:=h
 obtain ⟨x0,zs1,rfl,h0,hv1⟩:=D0m hv0
 obtain ⟨y0,rfl,b0⟩:=R1i _ h0
 obtain ⟨x1,zs2,rfl,h1,hv2⟩:=D0m hv1
 obtain ⟨y1,rfl,b1⟩:=Q0f _ h1
 obtain ⟨x2,zs3,rfl,h2,hv3⟩:=D0m hv2
 obtain ⟨y2,rfl,b2⟩:=G1r _ h2
 obtain rfl:=U0a hv3
 exact ⟨⟨y0,y1,y2⟩,rfl,⟨b0,b2,trivial⟩⟩
theorem A1f:∀ p,Val (.slice (.agg [.str,.int,.slice (.agg [.int,.slice .int,.slice .int])])) p→∃ x:List A0f,p=.slice (x.map A0d)∧J0d 9223372036854775807 x:=fun p h=>by
 obtain ⟨l,e,h1,h2⟩:=R0z E1z h
 exact ⟨l,e,h1,h2⟩
theorem P1i:∀ p,Val .bool p→∃ x:Bool,p=bool x∧True:=fun p h=>by obtain ⟨n,e⟩:=R1l h;exact ⟨n,e,trivial⟩
theorem N1y:∀ p,Val (.agg [.int,.int,.bool,.int]) p→∃ x:TLink,p=A0l x∧True:=fun p h=>by
 obtain ⟨zs0,rfl,hv0⟩:=h
 obtain ⟨x0,zs1,rfl,h0,hv1⟩:=D0m hv0
 obtain ⟨y0,rfl,b0⟩:=Q0f _ h0
 obtain ⟨x1,zs2,rfl,h1,hv2⟩:=D0m hv1
 obtain ⟨y1,rfl,b1⟩:=Q0f _ h1
 obtain ⟨x2,zs3,rfl,h2,hv3⟩:=D0m hv2
 obtain ⟨y2,rfl,b2⟩:=P1i _ h2
 obtain ⟨x3,zs4,rfl,h3,hv4⟩:=D0m hv3
 obtain ⟨y3,rfl,b3⟩:=Q0f _ h3
 obtain rfl:=U0a hv4
 exact ⟨⟨y0,y1,y2,y3⟩,rfl,trivial⟩
theorem G1t:∀ p,Val (.slice (.agg [.int,.int,.bool,.int])) p→∃ x:List TLink,p=.slice (x.map A0l)∧S0w 9223372036854775807 x:=fun p h=>by
 obtain ⟨l,e,h1,h2⟩:=R0z N1y h
 exact ⟨l,e,h1⟩
theorem N1n:∀ p,Val (.agg [.int,.int]) p→∃ x:TStep,p=B0e x∧True:=fun p h=>by
 obtain ⟨zs0,rfl,hv0⟩:=h
 obtain ⟨x0,zs1,rfl,h0,hv1⟩:=D0m hv0
 obtain ⟨y0,rfl,b0⟩:=Q0f _ h0
 obtain ⟨x1,zs2,rfl,h1,hv2⟩:=D0m hv1
 obtain ⟨y1,rfl,b1⟩:=Q0f _ h1
 obtain rfl:=U0a hv2
 exact ⟨⟨y0,y1⟩,rfl,trivial⟩
theorem G1g:∀ p,Val (.slice (.agg [.int,.int])) p→∃ x:List TStep,p=.slice (x.map B0e)∧T0e 9223372036854775807 x:=fun p h=>by
 obtain ⟨l,e,h1,h2⟩:=R0z N1n h
 exact ⟨l,e,h1⟩
theorem J1e:∀ p,Val (.slice (.slice .int)) p→∃ x:List (List Int),p=.slice (x.map l_int)∧R0p 9223372036854775807 x:=fun p h=>by
 obtain ⟨l,e,h1,h2⟩:=R0z V0t h
 exact ⟨l,e,h1,h2⟩
theorem F1n:∀ p,Val (.agg [.slice (.agg [.int,.int]),.slice (.slice .int)]) p→∃ x:A0q,p=A0e x∧K0l 9223372036854775807 x:=fun p h=>by
 obtain ⟨zs0,rfl,hv0⟩:=h
 obtain ⟨x0,zs1,rfl,h0,hv1⟩:=D0m hv0
 obtain ⟨y0,rfl,b0⟩:=G1g _ h0
 obtain ⟨x1,zs2,rfl,h1,hv2⟩:=D0m hv1
 obtain ⟨y1,rfl,b1⟩:=J1e _ h1
 obtain rfl:=U0a hv2
 exact ⟨⟨y0,y1⟩,rfl,⟨b0,b1,trivial⟩⟩
theorem A1i:∀ p,Val (.slice (.agg [.slice (.agg [.int,.int]),.slice (.slice .int)])) p→∃ x:List A0q,p=.slice (x.map A0e)∧L0v 9223372036854775807 x:=fun p h=>by
 obtain ⟨l,e,h1,h2⟩:=R0z F1n h
 exact ⟨l,e,h1,h2⟩
theorem H1e:∀ p,Val (.agg [.int,.slice (.agg [.str,.int,.slice (.agg [.int,.slice .int,.slice .int])]),.slice (.agg [.int,.int,.bool,.int]),.slice (.agg [.slice (.agg [.int,.int]),.slice (.slice .int)]),.slice .int]) p→∃ x:A0b,p=A0n x∧D0a 9223372036854775807 x:=fun p h=>by
 obtain ⟨zs0,rfl,hv0⟩:=h
 obtain ⟨x0,zs1,rfl,h0,hv1⟩:=D0m hv0
 obtain ⟨y0,rfl,b0⟩:=Q0f _ h0
 obtain ⟨x1,zs2,rfl,h1,hv2⟩:=D0m hv1
 obtain ⟨y1,rfl,b1⟩:=A1f _ h1
 obtain ⟨x2,zs3,rfl,h2,hv3⟩:=D0m hv2
 obtain ⟨y2,rfl,b2⟩:=G1t _ h2
 obtain ⟨x3,zs4,rfl,h3,hv4⟩:=D0m hv3
 obtain ⟨y3,rfl,b3⟩:=A1i _ h3
 obtain ⟨x4,zs5,rfl,h4,hv5⟩:=D0m hv4
 obtain ⟨y4,rfl,b4⟩:=V0t _ h4
 obtain rfl:=U0a hv5
 exact ⟨⟨y0,y1,y2,y3,y4⟩,rfl,⟨b1,b2,b3,b4,trivial⟩⟩
def inR (n lo hi:Int):Bool:=decide (lo≤n) && decide (n≤hi)
theorem G0b {n lo hi:Int}:inR n lo hi=true ↔ lo≤n∧n≤hi:=by simp [inR]
theorem A0v (n lo hi:Int):C0v n lo hi=some (inR n lo hi):=by
 unfold C0v inR;cases decide (lo≤n) <;> rfl
theorem C0r (n lo hi:Int):E0r n lo hi=some (inR n lo hi):=by
 unfold E0r inR;cases decide (lo≤n) <;> rfl
theorem U0b (n:Int):U0g n=some (inR n 0 60):=by simp only [U0g,C0r,Option.bind_some]
theorem Q0n (n:Int):R0c n=some (inR n 0 20):=by simp only [R0c,C0r,Option.bind_some]
theorem H1v (n:Int):T0d n=some (inR n (-2) 62):=by simp only [T0d,C0r,Option.bind_some]
theorem S0s (p:A0b)(n:Int):B0t p n=some (inR n 0 (W ((p.Activities.length:Int) - 1))):=by simp only [B0t,C0r,Option.bind_some]
theorem W0m (p:A0b)(n:Int):D0s p n=some (inR n 0 (W ((p.Resources.length:Int) - 1))):=by simp only [D0s,C0r,Option.bind_some]
theorem L0c (a b:Int):K0o a b=some (max a b):=by
 unfold K0o
 by_cases h:b<a
 ·rw [show decide (b<a)=true by simpa using h,cond_true,show max a b=a by omega]
 rw [show decide (b<a)=false by simpa using h,cond_false,show max a b=b by omega]
theorem D1w (a b:Int):X0v a b=some (min a b):=by
 unfold X0v
 by_cases h:a<b
 ·rw [show decide (a<b)=true by simpa using h,cond_true,show min a b=a by omega]
 rw [show decide (a<b)=false by simpa using h,cond_false,show min a b=b by omega]
theorem W_le {n:Int}(h:-9223372036854775808≤n):W n≤n:=by
 show IntKind.i64.wrap n≤n
 rw [IntKind.wrap_i64];omega
theorem N0v {α:Type}{l:List α}{i:Int}(h:inR i 0 (W ((l.length:Int) - 1))=true):∃ x,idxL l i=some x∧x∈l:=by
 have h:=G0b.1 h
 have:=W_le (n:=(l.length:Int) - 1) (by omega)
 exact K0g h.1 (by omega)
theorem Z0q:∀(xs:List Int)(z:Int),G0y xs z=H0k xs z
 | [],z=>rfl
 | x::xs,z=>by simp only [G0y,H0k,Q0n,A0v,Z0q xs]
theorem G1y (l:List Int)(n:Int):M0x l n=N0h l n:=by simp only [M0x,N0h,Z0q]
theorem P1t (m:TMode)(a b:Int):Z0h m a b=Q0l m a b:=by simp only [Z0h,Q0l,G1y,C0r,A0v]
theorem J1u (s:ByteArray):∀(n:Nat)(a:Int),M0q s n a=G0t s n a
 | 0,a=>rfl
 | n+1,a=>by simp only [M0q,G0t,J1u s n]
theorem Q1y (s:ByteArray):Y0w s=S0g s:=by simp only [Y0w,S0g,J1u,C0r,A0v]
theorem Y0h (a b:Int):∀(xs:List TMode)(z:Int),G0v a b xs z=E0f a b xs z
 | [],z=>rfl
 | x::xs,z=>by simp only [G0v,E0f,P1t,Y0h a b xs]
theorem G1o (x:A0f)(a b:Int):P0w x a b=F0q x a b:=by simp only [P0w,F0q,Y0h,Q1y,C0r,A0v]
theorem U0o (nm:ByteArray):∀(xs:List A0f)(z:Int),B0g (fun x=>H0f x nm) xs z=B0x nm xs z
 | [],z=>rfl
 | x::xs,z=>by rw [B0g,B0x,U0o nm xs];rfl
theorem B1l (p:A0b)(nm:ByteArray):L0h p nm=E0h p nm:=by
 simp only [L0h,F0e,E0h,U0o,Option.bind_some]
 cases h:B0x nm p.Activities 0 with
 | none=>rfl
 | some o=>cases o <;> rfl
theorem Y0n:∀(xs:List Int)(z:Int),G0u xs z=C0w xs z
 | [],z=>rfl
 | x::xs,z=>by simp only [G0u,C0w,C0r,A0v,Y0n xs]
theorem Z0k:∀(xs:List (List Int))(z:Int),G0w xs z=B0j xs z
 | [],z=>rfl
 | x::xs,z=>by simp only [G0w,B0j,Y0n,Z0k xs]
theorem Q1v {α:Type}{F:List α→Int→Option (Unit ⊕ Bool)}{b:List α}{Q:α→Prop}{c:α→Int→Option Bool}(h0:∀ z,F [] z=some (.inl ()))
  (h1:∀ x xs z,F (x::xs) z=(c x z).bind fun e=>bif e then some (.inr false) else F xs (z+1)) (hc:∀ x z,0≤z→idxL b z=some x→∃ e,c x z=some e∧(e=false→Q x)) :
  ∀(xs:List α)(z:Int),0≤z→b.drop z.toNat=xs→F xs z=some (.inr false)∨(F xs z=some (.inl ())∧∀ x∈xs,Q x)
 | [],z,hz,hd=>.inr ⟨h0 z,by simp⟩
 | x::xs,z,hz,hd=>by
  obtain ⟨h2,h3⟩:=M0a hz hd
  obtain ⟨e,he,hq⟩:=hc x z hz h2
  rw [h1,he,Option.bind_some]
  cases e with
  | true=>exact .inl rfl
  | false=>
   rw [cond_false]
   rcases Q1v h0 h1 hc xs (z+1) (by omega) h3 with h | ⟨h,hQ⟩
   ·exact .inl h
   ·exact .inr ⟨h,fun y hy=>by
     rcases List.mem_cons.1 hy with rfl | hy
     ·exact hq rfl
     exact hQ y hy⟩
theorem R0m {α:Type}{F:List α→Int→Option (Unit ⊕ Bool)}{Q:α→Prop}{c:α→Int→Option Bool}(b:List α)(h0:∀ z,F [] z=some (.inl ()))
  (h1:∀ x xs z,F (x::xs) z=(c x z).bind fun e=>bif e then some (.inr false) else F xs (z+1)) (hc:∀ x z,0≤z→idxL b z=some x→∃ e,c x z=some e∧(e=false→Q x)) :
  F b 0=some (.inr false)∨(F b 0=some (.inl ())∧∀ x∈b,Q x):=Q1v h0 h1 hc b 0 (Int.le_refl _) rfl
theorem C0u {α:Type}{l:List α}{z:Int}{x:α}(h:idxL l z=some x):z<l.length∧x∈l:=by
 have h1:=A0a h
 have h2:=A0t h
 exact ⟨by omega,List.mem_of_getElem? h1.2⟩
theorem E1f {α:Type}{l:List α}{z:Int}{x:α}(h:idxL l z=some x)(h0:0<z):∃ y,idxL l (z - 1)=some y:=by
 obtain ⟨y,hy,_⟩:=K0g (l:=l) (z:=z - 1) (by omega) (by have:=(C0u h).1;omega)
 exact ⟨y,hy⟩
def sC (b:List TStep)(x:TStep)(z:Int):Option Bool:=
 (C0v x.At 0 60).bind fun v12=>(bif (!v12) then some true else (C0v x.Capacity 0 20).bind fun v15=>(bif (!v15) then some true else (bif (decide (0<z)) then (idxL b (z - 1)).bind fun v18=>some (decide (x.At≤v18.At)) else some false)))
theorem Y0c (b:List TStep):D0i b b 0=some (.inr false)∨(D0i b b 0=some (.inl ())∧∀ x∈b,(0≤x.At∧x.At≤60)∧0≤x.Capacity∧x.Capacity≤20):=by
 refine R0m (F:=D0i b) (c:=sC b) b (fun _=>rfl) (fun x xs z=>?_) (fun x z hz hx=>?_)
 ·simp only [D0i,sC,A0v,Option.bind_some]
 simp only [sC,A0v,Option.bind_some]
 by_cases h1:inR x.At 0 60=true
 ·by_cases h2:inR x.Capacity 0 20=true
  ·rw [h1,h2]
   simp only [Bool.not_true,cond_false,Option.bind_some]
   have hq:=(⟨G0b.1 h1,G0b.1 h2⟩:(0≤x.At∧x.At≤60)∧0≤x.Capacity∧x.Capacity≤20)
   by_cases h0:0<z
   ·obtain ⟨y,hy⟩:=E1f hx h0
    rw [show decide (0<z)=true by simpa using h0,cond_true,hy]
    exact ⟨_,rfl,fun _=>hq⟩
   rw [show decide (0<z)=false by simpa using h0,cond_false]
   exact ⟨_,rfl,fun _=>hq⟩
  rw [h1,show inR x.Capacity 0 20=false by simpa using h2]
  exact ⟨true,rfl,fun h=>by cases h⟩
 rw [show inR x.At 0 60=false by simpa using h1]
 exact ⟨true,rfl,fun h=>by cases h⟩
theorem V0j (b:List TStep):∃ v,K0i b=some v∧(v=true→b≠[]∧∀ x∈b,(0≤x.At∧x.At≤60)∧0≤x.Capacity∧x.Capacity≤20):=by
 rcases Y0c b with h | ⟨h,hQ⟩
 ·exact ⟨false,by simp only [K0i,h,A0m,Option.bind_some,Sum.elim_inr],fun h=>by cases h⟩
 simp only [K0i,h,A0m,Option.bind_some,Sum.elim_inl,A0v]
 cases hl:inR (b.length:Int) 1 8 with
 | false=>exact ⟨false,rfl,fun h=>by cases h⟩
 | true=>
  have:=G0b.1 hl
  obtain ⟨x,hx,_⟩:=K0g (l:=b) (z:=0) (Int.le_refl _) (by omega)
  rw [cond_true,hx]
  exact ⟨_,rfl,fun _=>⟨fun e=>by subst e;simp at this,hQ⟩⟩
theorem F1v (b:List TStep):∀(xs:List TStep)(z:Int),0<z→F0m b xs z=D0i b xs z
 | [],z,_=>rfl
 | x::xs,z,hz=>by
  have h0:(z == 0)=false:=by simp;omega
  simp only [F0m,D0i,U0b,Q0n,A0v,h0,cond_false,F1v b xs (z+1) (by omega)]
theorem F1t (b:List TStep):P0g b=K0i b:=by
 have hs:=Y0c b
 match b with
 | []=>rfl
 | x::xs=>
  have hi0:idxL (x::xs) 0=some x:=rfl
  by_cases hA:x.At=0
  ·have e:F0m (x::xs) (x::xs) 0=D0i (x::xs) (x::xs) 0:=by
    have h1:(x.At != 0)=false:=by simp [hA]
    simp only [F0m,D0i,U0b,Q0n,A0v,h1,F1v (x::xs) xs (0+1) (by omega)]
    rfl
   simp only [P0g,K0i,e,C0r,A0v,hi0,Option.bind_some,hA]
   congr 1
   funext _
   cases inR ((x::xs).length:Int) 1 8 <;> rfl
  have h1:(x.At != 0)=true:=by simp [hA]
  have h2:(x.At == 0)=false:=by simp [hA]
  have e:F0m (x::xs) (x::xs) 0=some (.inr false):=by
   simp only [F0m,U0b,Q0n,Option.bind_some,h1]
   cases inR x.At 0 60 <;> cases inR x.Capacity 0 20 <;> rfl
  have hi:P0g (x::xs)=some false:=by simp only [P0g,e,A0m,Option.bind_some,Sum.elim_inr]
  rw [hi]
  rcases hs with h | ⟨h,_⟩
  ·simp only [K0i,h,A0m,Option.bind_some,Sum.elim_inr]
  simp only [K0i,h,A0m,Option.bind_some,Sum.elim_inl,A0v,hi0,h2]
  cases inR ((x::xs).length:Int) 1 8 <;> rfl
theorem G1i (r:A0q):P0r r=G0r r:=by simp only [P0r,G0r,Z0k,F1t]
def ResF (r:A0q):Prop:=(∀ x∈r.Steps,(0≤x.At∧x.At≤60)∧0≤x.Capacity∧x.Capacity≤20)∧K0i r.Steps=some true∧(r.Setup.length=0∨r.Setup.length=4)∧∀ row∈r.Setup,row.length=4∧∀ n∈row,0≤n∧n≤12
theorem Y0u (b:List Int):C0w b 0=some (.inr false)∨(C0w b 0=some (.inl ())∧∀ n∈b,0≤n∧n≤12):=
 R0m (F:=C0w) (c:=fun x _=>some (!inR x 0 12)) b (fun _=>rfl) (fun x xs z=>by simp only [C0w,A0v,Option.bind_some]) (fun x z _ _=>⟨_,rfl,fun h=>G0b.1 (by simpa using h)⟩)
theorem Z0p (b:List (List Int)):B0j b 0=some (.inr false)∨(B0j b 0=some (.inl ())∧∀ row∈b,row.length=4∧∀ n∈row,0≤n∧n≤12):=by
 have key:∀ row:List Int,∃ e,(∀ xs z,B0j (row::xs) z=bif e then some (.inr false) else B0j xs (z+1))∧(e=false→row.length=4∧∀ n∈row,0≤n∧n≤12):=by
  intro row
  by_cases hl:row.length=4
  ·have e:((row.length:Int) != 4)=false:=by simp [hl]
   rcases Y0u row with h | ⟨h,hQ⟩
   ·exact ⟨true,fun xs z=>by simp only [B0j,e,cond_false,h,A0m,Option.bind_some,Sum.elim_inr,cond_true],fun h=>by cases h⟩
   exact ⟨false,fun xs z=>by simp only [B0j,e,cond_false,h,A0m,Option.bind_some,Sum.elim_inl],fun _=>⟨hl,hQ⟩⟩
  have e:((row.length:Int) != 4)=true:=by simp;omega
  exact ⟨true,fun xs z=>by simp only [B0j,e,cond_true],fun h=>by cases h⟩
 exact R0m (F:=B0j) (c:=fun row _=>some (Classical.choose (key row))) b (fun _=>rfl) (fun x xs z=>(Classical.choose_spec (key x)).1 xs z) (fun x z _ _=>⟨_,rfl,(Classical.choose_spec (key x)).2⟩)
theorem D1p (r:A0q):∃ v,G0r r=some v∧(v=true→ResF r):=by
 rcases Z0p r.Setup with h | ⟨h,hQ⟩
 ·exact ⟨false,by simp only [G0r,h,A0m,Option.bind_some,Sum.elim_inr],fun h=>by cases h⟩
 obtain ⟨v,hv,hf⟩:=V0j r.Steps
 simp only [G0r,h,A0m,Option.bind_some,Sum.elim_inl,hv]
 cases v with
 | false=>exact ⟨false,rfl,fun h=>by cases h⟩
 | true=>
  refine ⟨_,by simp only [cond_true,H0e,Option.bind_some];rfl,fun he=>⟨(hf rfl).2,hv,?_,hQ⟩⟩
  by_cases h0:r.Setup.length=0
  ·exact .inl h0
  right
  rw [show ((r.Setup.length:Int) == 0)=false by rw [T0o];exact decide_eq_false (by omega),cond_false,T0o] at he
  have:=of_decide_eq_true he
  omega
def ModeF (m:TMode)(a b:Int):Prop:=(1≤m.Duration∧m.Duration≤12)∧((m.Usage.length:Int)=a∧∀ n∈m.Usage,0≤n∧n≤20)∧((m.Consumption.length:Int)=b∧∀ n∈m.Consumption,0≤n∧n≤20)
theorem B1d (l:List Int)(n:Int):∃ v,N0h l n=some v∧(v=true→(l.length:Int)=n∧∀ k∈l,0≤k∧k≤20):=by
 rcases R0m (F:=H0k) (c:=fun x _=>some (!inR x 0 20)) (Q:=fun k=>0≤k∧k≤20) l (fun _=>rfl) (fun x xs z=>by simp only [H0k,A0v,Option.bind_some]) (fun x z _ _=>⟨_,rfl,fun h=>G0b.1 (by simpa using h)⟩) with h | ⟨h,hQ⟩
 ·exact ⟨false,by simp only [N0h,h,A0m,Option.bind_some,Sum.elim_inr],fun h=>by cases h⟩
 exact ⟨_,by simp only [N0h,h,A0m,Option.bind_some,Sum.elim_inl];rfl,fun he=>⟨by simpa using he,hQ⟩⟩
theorem L1r (m:TMode)(a b:Int):∃ v,Q0l m a b=some v∧(v=true→ModeF m a b):=by
 obtain ⟨u,hu,fu⟩:=B1d m.Usage a
 obtain ⟨k,hk,fk⟩:=B1d m.Consumption b
 simp only [Q0l,A0v,Option.bind_some,hu,hk]
 cases hd:inR m.Duration 1 12 with
 | false=>exact ⟨false,rfl,fun h=>by cases h⟩
 | true=>cases u with
  | false=>exact ⟨false,rfl,fun h=>by cases h⟩
  | true=>cases k with
   | false=>exact ⟨false,rfl,fun h=>by cases h⟩
   | true=>exact ⟨true,rfl,fun _=>⟨G0b.1 hd,fu rfl,fk rfl⟩⟩
theorem M1k {α:Type}{c:Bool}{x y:α}{P:α→Prop}(hx:P x)(hy:P y):P (bif c then x else y):=by cases c <;> assumption
theorem Q1o {s:ByteArray}{z:Int}(h0:0≤z)(h:z<s.size):∃ v,idxS s z=some v:=by
 have hlt:z.toNat<s.size:=by omega
 exact ⟨_,by unfold idxS;rw [if_pos h0,getElem?_pos s z.toNat hlt];rfl⟩
theorem W0d (s:ByteArray)(hs:s.size≤9223372036854775807):∀(n:Nat)(a:Int),0≤a→a≤s.size→(s.size:Int)<a+n→G0t s n a=some (.inr false)∨G0t s n a=some (.inl ())
 | 0,a,h0,h1,h2=>by omega
 | n+1,a,h0,h1,h2=>by
  by_cases hlt:a<s.size
  ·obtain ⟨v,hv⟩:=Q1o h0 hlt
   have ih:=W0d s hs n (a+1) (by omega) (by omega) (by omega)
   rw [← W_of (n:=a+1) (by omega)] at ih
   simp only [G0t,show decide (a<(s.size:Int))=true by simpa using hlt,cond_true,hv,Option.bind_some,H0e]
   exact M1k (P:=fun (o:Option (Unit ⊕ Bool))=>o=some (.inr false)∨o=some (.inl ())) (.inl rfl) ih
  right
  simp only [G0t,show decide (a<(s.size:Int))=false by simpa using hlt,cond_false]
theorem L1q (s:ByteArray)(hs:s.size≤9223372036854775807):∃ v,S0g s=some v:=by
 rcases W0d s hs F0 0 (Int.le_refl _) (by omega) (by have:=F0_gt;omega) with h | h
 ·exact ⟨false,by simp only [S0g,h,A0m,Option.bind_some,Sum.elim_inr]⟩
 exact ⟨_,by simp only [S0g,h,A0m,Option.bind_some,Sum.elim_inl,A0v];rfl⟩
def ActF (x:A0f)(a b:Int):Prop:=(0≤x.Family∧x.Family≤3)∧(1≤x.Modes.length∧x.Modes.length≤3)∧∀ m∈x.Modes,ModeF m a b
theorem C1z (x:A0f)(a b:Int)(hs:x.Name.size≤9223372036854775807):∃ v,F0q x a b=some v∧(v=true→ActF x a b):=by
 rcases R0m (F:=E0f a b) (c:=fun m _=>(Q0l m a b).bind fun v=>some (!v)) (Q:=fun m=>ModeF m a b) x.Modes (fun _=>rfl) (fun m xs z=>by
   simp only [E0f]
   cases Q0l m a b <;> rfl) (fun m z _ _=>by
   obtain ⟨v,hv,hf⟩:=L1r m a b
   rw [hv]
   exact ⟨_,rfl,fun h=>hf (by simpa using h)⟩) with h | ⟨h,hQ⟩
 ·exact ⟨false,by simp only [F0q,h,A0m,Option.bind_some,Sum.elim_inr],fun h=>by cases h⟩
 obtain ⟨v,hv⟩:=L1q x.Name hs
 simp only [F0q,h,A0m,Option.bind_some,Sum.elim_inl,hv,A0v]
 cases v with
 | false=>exact ⟨false,rfl,fun h=>by cases h⟩
 | true=>
  cases hf:inR x.Family 0 3 with
  | false=>exact ⟨false,rfl,fun h=>by cases h⟩
  | true=>exact ⟨_,rfl,fun he=>⟨G0b.1 hf,by have:=G0b.1 he;omega,hQ⟩⟩
theorem Y0i (p:A0b)(nm:ByteArray):∃ v,E0h p nm=some v:=by
 have:∀(xs:List A0f)(z:Int),∃ o,B0x nm xs z=some o:=by
  intro xs
  induction xs with
  | nil=>exact fun z=>⟨_,rfl⟩
  | cons x xs ih=>
   intro z
   obtain ⟨o,ho⟩:=ih (z+1)
   exact ⟨_,by rw [B0x,ho,H0e]⟩
 obtain ⟨o,ho⟩:=this p.Activities 0
 cases o with
 | inl u=>exact ⟨_,by simp only [E0h,ho,A0m,Option.bind_some,Sum.elim_inl];rfl⟩
 | inr u=>exact ⟨_,by simp only [E0h,ho,A0m,Option.bind_some,Sum.elim_inr];rfl⟩
theorem G1v (p:A0b)(k:TLink):B0y k p=some (!(inR k.From 0 (W ((p.Activities.length:Int) - 1)) && (inR k.To 0 (W ((p.Activities.length:Int) - 1)) && (k.From != k.To && inR k.Lag (-60) 60)))):=by
 simp only [B0y,M0e,S0s,C0r,Option.bind_some,H0e,R1r]
theorem M1u (p:A0b)(k:TLink):((C0v k.From 0 (W ((p.Activities.length:Int) - 1))).bind fun v68=>(bif (!v68) then some true else (C0v k.To 0 (W ((p.Activities.length:Int) - 1))).bind fun v71=>(bif (!v71) then some true else (bif (k.From == k.To) then some true else (C0v k.Lag (-60) 60).bind fun v74=>some (!v74)))))=B0y k p:=by
 rw [G1v]
 simp only [A0v,Option.bind_some,H0e,T0o,L0q]
 cases inR k.From 0 (W ((p.Activities.length:Int) - 1)) <;> cases inR k.To 0 (W ((p.Activities.length:Int) - 1)) <;> cases inR k.Lag (-60) 60 <;> cases decide (k.From=k.To) <;> rfl
theorem N1i (p:A0b):∀(xs:List TLink)(z:Int),0≤z→∃ o,B0k (fun x=>B0y x p) xs z=some o∧((o=.inl ()∧C0h p xs z=some (.inl ()))∨∃ k,o=.inr k∧0≤k∧C0h p xs z=some (.inr false))
 | [],z,hz=>⟨.inl (),rfl,.inl ⟨rfl,rfl⟩⟩
 | x::xs,z,hz=>by
  obtain ⟨o,ho,hc⟩:=N1i p xs (z+1) (by omega)
  have e1:C0h p (x::xs) z=(B0y x p).bind fun e=>bif e then some (.inr false) else C0h p xs (z+1):=by
   rw [← M1u]
   simp only [C0h,A0v,Option.bind_some]
  have e2:B0k (fun x=>B0y x p) (x::xs) z=(B0y x p).bind fun e=>bif e then some (.inr z) else B0k (fun x=>B0y x p) xs (z+1):=rfl
  rw [e1,e2,G1v,Option.bind_some,Option.bind_some]
  cases hb:(!(inR x.From 0 (W ((p.Activities.length:Int) - 1)) && (inR x.To 0 (W ((p.Activities.length:Int) - 1)) && (x.From != x.To && inR x.Lag (-60) 60)))) with
  | true=>exact ⟨_,rfl,.inr ⟨z,rfl,hz,rfl⟩⟩
  | false=>exact ⟨o,ho,hc⟩
theorem B1f (p:A0b):∀(xs:List A0f)(z:Int),H0u p xs z=F0c p xs z
 | [],z=>rfl
 | x::xs,z=>by simp only [H0u,F0c,G1o,B1l,B1f p xs]
theorem A1q:∀(xs:List A0q)(z:Int),H0v xs z=F0i xs z
 | [],z=>rfl
 | x::xs,z=>by simp only [H0v,F0i,G1i,A1q xs]
theorem A1x:∀(xs:List Int)(z:Int),J0c xs z=F0l xs z
 | [],z=>rfl
 | x::xs,z=>by simp only [J0c,F0l,C0r,A0v,A1x xs]
theorem F0r (p:A0b):E0c p=B0w p:=by
 obtain ⟨o,ho,hc⟩:=N1i p p.Links 0 (Int.le_refl _)
 have e:(C0o p.Links (fun x=>B0y x p)).bind (fun v=>some (!v))=A0m (C0h p p.Links 0) (fun q=>some q) fun _=>some true:=by
  rcases hc with ⟨rfl,h2⟩ | ⟨k,rfl,hk,h2⟩
  ·simp only [C0o,F0u,ho,h2,A0m,Option.bind_some,Sum.elim_inl];rfl
  simp only [C0o,F0u,ho,h2,A0m,Option.bind_some,Sum.elim_inr]
  simp [hk]
 simp only [E0c,B0w,B1f,A1q,A1x,C0r,A0v,e]
structure ProjF (p:A0b):Prop where
 deadline:1≤p.Deadline∧p.Deadline≤60
 nact:1≤p.Activities.length∧p.Activities.length≤6
 nres:p.Resources.length≤3
 nstk:p.Stocks.length≤2
 nlnk:p.Links.length≤12
 acts:∀ x∈p.Activities,ActF x p.Resources.length p.Stocks.length
 ress:∀ r∈p.Resources,ResF r
 stks:∀ n∈p.Stocks,0≤n∧n≤100
 lnks:∀ k∈p.Links,(0≤k.From∧k.From<p.Activities.length)∧(0≤k.To∧k.To<p.Activities.length)∧k.From≠k.To∧-60≤k.Lag∧k.Lag≤60
theorem G0m (p:A0b)(hs:∀ x∈p.Activities,x.Name.size≤9223372036854775807):∃ v,B0w p=some v∧(v=true→ProjF p):=by
 simp only [B0w,A0v,Option.bind_some,H0e]
 cases hd:inR p.Deadline 1 60 with
 | false=>exact ⟨false,rfl,fun h=>by cases h⟩
 | true=>
 cases ha:inR (p.Activities.length:Int) 1 6 with
 | false=>exact ⟨false,rfl,fun h=>by cases h⟩
 | true=>
 cases hr:decide (3<(p.Resources.length:Int)) with
 | true=>exact ⟨false,rfl,fun h=>by cases h⟩
 | false=>
 cases hk:decide (2<(p.Stocks.length:Int)) with
 | true=>exact ⟨false,rfl,fun h=>by cases h⟩
 | false=>
 cases hl:decide (12<(p.Links.length:Int)) with
 | true=>exact ⟨false,rfl,fun h=>by cases h⟩
 | false=>
 simp only [Bool.not_true,cond_false]
 have hd:=G0b.1 hd
 have ha:=G0b.1 ha
 have hr:=of_decide_eq_false hr
 have hk:=of_decide_eq_false hk
 have hl:=of_decide_eq_false hl
 have k1:∀ x,x∈p.Activities→∃ v,F0q x p.Resources.length p.Stocks.length=some v∧(v=true→ActF x p.Resources.length p.Stocks.length):=fun x hx=>C1z x _ _ (hs x hx)
 have l1:=R0m (F:=F0c p) (Q:=fun x=>ActF x p.Resources.length p.Stocks.length) (c:=fun x z=>(F0q x p.Resources.length p.Stocks.length).bind fun v20=>(bif (!v20) then some true else (E0h p x.Name).bind fun v23=>some (v23 != z))) p.Activities (fun _=>rfl) (fun x xs z=>by
   simp only [F0c]
   cases F0q x p.Resources.length p.Stocks.length <;> rfl) (fun x z _ hx=>by
   obtain ⟨v,hv,hf⟩:=k1 x (C0u hx).2
   obtain ⟨u,hu⟩:=Y0i p x.Name
   rw [hv,hu]
   cases v with
   | false=>exact ⟨true,rfl,fun h=>by cases h⟩
   | true=>exact ⟨_,rfl,fun _=>hf rfl⟩)
 have l2:=R0m (F:=F0i) (Q:=ResF) (c:=fun x _=>(G0r x).bind fun v=>some (!v)) p.Resources (fun _=>rfl) (fun x xs z=>by
   simp only [F0i]
   cases G0r x <;> rfl) (fun x z _ hx=>by
   obtain ⟨v,hv,hf⟩:=D1p x
   rw [hv]
   exact ⟨_,rfl,fun h=>hf (by simpa using h)⟩)
 have l3:=R0m (F:=F0l) (Q:=fun n=>0≤n∧n≤100) (c:=fun x _=>some (!inR x 0 100)) p.Stocks (fun _=>rfl) (fun x xs z=>by simp only [F0l,A0v,Option.bind_some]) (fun x z _ _=>⟨_,rfl,fun h=>G0b.1 (by simpa using h)⟩)
 have l4:=R0m (F:=C0h p) (Q:=fun k=>(0≤k.From∧k.From<p.Activities.length)∧(0≤k.To∧k.To<p.Activities.length)∧k.From≠k.To∧-60≤k.Lag∧k.Lag≤60) (c:=fun x _=>B0y x p) p.Links (fun _=>rfl) (fun x xs z=>by
   rw [← M1u]
   simp only [C0h,A0v,Option.bind_some]) (fun x z _ _=>⟨_,G1v p x,fun h=>by
   have h:(inR x.From 0 (W ((p.Activities.length:Int) - 1)) && (inR x.To 0 (W ((p.Activities.length:Int) - 1)) && (x.From != x.To && inR x.Lag (-60) 60)))=true:=by simpa using h
   simp only [Bool.and_eq_true] at h
   have h1:=G0b.1 h.1
   have h2:=G0b.1 h.2.1
   have h4:=G0b.1 h.2.2.2
   have h3:x.From≠x.To:=by simpa using h.2.2.1
   rw [W_of (by omega)] at h1 h2
   exact ⟨by omega,by omega,h3,h4⟩⟩)
 rcases l1 with h | ⟨h,q1⟩
 ·exact ⟨false,by simp only [h,A0m,Option.bind_some,Sum.elim_inr],fun h=>by cases h⟩
 simp only [h,A0m,Option.bind_some,Sum.elim_inl]
 rcases l2 with h | ⟨h,q2⟩
 ·exact ⟨false,by simp only [h,Option.bind_some,Sum.elim_inr],fun h=>by cases h⟩
 simp only [h,Option.bind_some,Sum.elim_inl]
 rcases l3 with h | ⟨h,q3⟩
 ·exact ⟨false,by simp only [h,Option.bind_some,Sum.elim_inr],fun h=>by cases h⟩
 simp only [h,Option.bind_some,Sum.elim_inl]
 rcases l4 with h | ⟨h,q4⟩
 ·exact ⟨false,by simp only [h,Option.bind_some,Sum.elim_inr],fun h=>by cases h⟩
 simp only [h,Option.bind_some,Sum.elim_inl]
 exact ⟨true,rfl,fun _=>⟨hd,by omega,by omega,by omega,by omega,q1,q2,q3,q4⟩⟩
theorem U0h {p:A0b}{M:Nat}(h:D0a M p)(hM:M≤9223372036854775807):∀ x∈p.Activities,x.Name.size≤9223372036854775807:=by
 unfold D0a J0d at h
 intro x hx
 have:=h.1.2 x hx
 unfold H0b b_str at this
 omega
theorem X0o (t:Int):∀(xs:List TStep)(z a:Int),F0o t xs z a=K0k t xs z a
 | [],z,a=>rfl
 | x::xs,z,a=>by simp only [F0o,K0k,X0o t xs]
theorem H1d (b:List TStep)(t:Int):P0f b t=W0w b t:=by simp only [P0f,W0w,X0o]
theorem U0m (t:Int):∀(xs:List TStep)(z a:Int),(∀ x∈xs,0≤x.Capacity∧x.Capacity≤20)→0≤a∧a≤20→∃ v,K0k t xs z a=some v∧0≤v∧v≤20
 | [],z,a,_,ha=>⟨a,rfl,ha⟩
 | x::xs,z,a,hx,ha=>by
  rw [K0k]
  have h1:=U0m t xs (z+1) x.Capacity (fun y hy=>hx y (List.mem_cons_of_mem _ hy)) (hx x (List.mem_cons_self ..))
  have h2:=U0m t xs (z+1) a (fun y hy=>hx y (List.mem_cons_of_mem _ hy)) ha
  exact M1k (P:=fun (o:Option Int)=>∃ v,o=some v∧0≤v∧v≤20) h1 h2
theorem N1l (b:List TStep)(t:Int)(hb:∀ x∈b,0≤x.Capacity∧x.Capacity≤20):∃ v,W0w b t=some v∧0≤v∧v≤20:=by
 obtain ⟨v,hv,h⟩:=U0m t b 0 0 hb (by omega)
 exact ⟨v,by simp only [W0w,hv,Option.bind_some],h⟩
theorem U0u (b:List TStep)(y:Int):∀(n:Nat)(a t:Int),E0e b y n a t=C0n b y n a t
 | 0,a,t=>rfl
 | n+1,a,t=>by simp only [E0e,C0n,H1d,U0u b y n]
theorem B1y (b:List TStep)(x y:Int):K0w b x y=F0n b x y:=by
 obtain ⟨v,hv,_⟩:=V0j b
 simp only [K0w,F0n,V0k,F1t,U0b,A0v,hv,Option.bind_some,U0u]
 cases v <;> cases inR x 0 60 <;> cases inR y 0 60 <;> rfl
theorem P0n (b:List TStep)(hb:∀ x∈b,0≤x.Capacity∧x.Capacity≤20)(y:Int)(hy:y≤60):∀(n:Nat)(a t:Int),0≤t→y - t<n→0<n→∃ v,C0n b y n a t=some v
 | 0,a,t,h0,h1,h2=>by omega
 | n+1,a,t,h0,h1,h2=>by
  rw [C0n]
  by_cases hlt:t<y
  ·obtain ⟨v,hv,_⟩:=N1l b t hb
   rw [show decide (t<y)=true by simpa using hlt,cond_true,hv,Option.bind_some,W_of (n:=t+1) (by omega)]
   exact P0n b hb y hy n _ (t+1) (by omega) (by omega) (by omega)
  rw [show decide (t<y)=false by simpa using hlt]
  exact ⟨a,rfl⟩
theorem S0b (b:List TStep)(x y:Int):∃ v,F0n b x y=some v:=by
 obtain ⟨v,hv,hf⟩:=V0j b
 simp only [F0n,V0k,A0v,hv,Option.bind_some]
 cases v with
 | false=>exact ⟨0,rfl⟩
 | true=>
  cases hx:inR x 0 60 with
  | false=>exact ⟨0,rfl⟩
  | true=>
   cases hy:inR y 0 60 with
   | false=>exact ⟨0,rfl⟩
   | true=>
    have hx:=G0b.1 hx
    have hy:=G0b.1 hy
    obtain ⟨u,hu⟩:=P0n b (fun z hz=>((hf rfl).2 z hz).2) y hy.2 F0 0 x hx.1 (by have:=F0_gt;omega) (by have:=F0_gt;omega)
    exact ⟨u,by simp only [cond_true,cond_false,Bool.not_true,Option.bind_some,hu]⟩
theorem V0i (n:Int):∀(xs:List Int)(z:Int),0≤z→(n∈xs→∃ k,C0b n xs z=some (.inr k)∧0≤k)∧(n∉xs→C0b n xs z=some (.inl ()))
 | [],z,hz=>⟨fun h=>(by cases h),fun _=>rfl⟩
 | x::xs,z,hz=>by
  by_cases hx:n=x
  ·have e:(n == x)=true:=by simp [hx]
   exact ⟨fun _=>⟨z,by simp only [C0b,e,cond_true],hz⟩,fun h=>absurd (by simp [hx]) h⟩
  have e:(n == x)=false:=by simp [hx]
  have ih:=V0i n xs (z+1) (by omega)
  simp only [C0b,e,cond_false,List.mem_cons,hx,false_or]
  exact ih
theorem X0f (l:List Int)(n:Int):S0f l n=some (decide (n∈l)):=by
 have h:=V0i n l 0 (Int.le_refl _)
 by_cases hn:n∈l
 ·obtain ⟨k,hk,h0⟩:=h.1 hn
  simp [S0f,D0f,K0b,hk,A0m,h0,hn]
 simp [S0f,D0f,K0b,h.2 hn,A0m,hn]
theorem W0e (n:Int):∀(xs:List Int)(z:Int),M0m n xs z=some (if n∈xs then .inr true else .inl ())
 | [],z=>rfl
 | x::xs,z=>by
  rw [M0m,W0e n xs,T0o]
  by_cases hx:x=n
  ·simp [hx]
  have:n≠x:=fun e=>hx e.symm
  simp [hx,this]
theorem T0p (l:List Int)(n:Int):U0l l n=some (decide (n∈l)):=by
 simp only [U0l,W0e,A0m,Option.bind_some]
 by_cases hn:n∈l <;> simp [hn]
theorem A1p (b:List Int):∀(xs:List Int)(z:Int),H0y b xs z=F0h b xs z
 | [],z=>rfl
 | x::xs,z=>by simp only [H0y,F0h,X0f,T0p,A1p b xs]
theorem J1s (a b:List Int):R0h a b=J0z a b:=by simp only [R0h,J0z,A1p]
theorem F1h (a b:List Int):∃ v,J0z a b=some v∧(v=true→∀ n∈a,n∈b):=by
 rcases R0m (F:=F0h b) (c:=fun x _=>some (!decide (x∈b))) (Q:=fun n=>n∈b) a (fun _=>rfl) (fun x xs z=>by simp only [F0h,T0p,Option.bind_some]) (fun x z _ _=>⟨_,rfl,fun h=>by simpa using h⟩) with h | ⟨h,hQ⟩
 ·exact ⟨false,by simp only [J0z,h,A0m,Option.bind_some,Sum.elim_inr],fun h=>by cases h⟩
 exact ⟨true,by simp only [J0z,h,A0m,Option.bind_some,Sum.elim_inl],fun _=>hQ⟩
theorem N1x (b:List Int):∃ v,R0o b=some v:=by
 rcases R0m (F:=K0n b) (Q:=fun _=>True) (c:=fun x z=>(bif (decide (0<z)) then (idxL b (z - 1)).bind fun v14=>some (decide (x≤v14)) else some false)) b (fun _=>rfl) (fun x xs z=>rfl) (fun x z hz hx=>by
   by_cases h0:0<z
   ·obtain ⟨y,hy⟩:=E1f hx h0
    rw [show decide (0<z)=true by simpa using h0,hy]
    exact ⟨_,rfl,fun _=>trivial⟩
   rw [show decide (0<z)=false by simpa using h0]
   exact ⟨_,rfl,fun _=>trivial⟩) with h | ⟨h,hQ⟩
 ·exact ⟨false,by simp only [R0o,h,A0m,Option.bind_some,Sum.elim_inr]⟩
 exact ⟨true,by simp only [R0o,h,A0m,Option.bind_some,Sum.elim_inl]⟩
theorem M1g (b:List Int)(hb:b.length≤1048576):∀(xs:List Int)(z:Int)(n:Nat),0<z→b.drop z.toNat=xs→xs.length<n→M0u b n z=K0n b xs z
 | [],z,n,hz,hd,hn=>by
  obtain _ | n:=n
  ·simp at hn
  have:(b.length:Int)≤z:=by
   have:=congrArg List.length hd
   simp at this;omega
  rw [M0u,show decide (z<(b.length:Int))=false by simpa using this];rfl
 | x::xs,z,n,hz,hd,hn=>by
  obtain _ | n:=n
  ·simp at hn
  obtain ⟨h1,h2⟩:=M0a (by omega) hd
  have h3:=(C0u h1).1
  obtain ⟨y,hy⟩:=E1f h1 hz
  have ih:=M1g b hb xs (z+1) n (by omega) h2 (by simp at hn;omega)
  rw [M0u,K0n,show decide (z<(b.length:Int))=true by simpa using h3,cond_true,h1,Option.bind_some,W_of (n:=z - 1) (by omega),hy,Option.bind_some,W_of (n:=z+1) (by omega),ih,show decide (0<z)=true by simpa using hz,cond_true]
  rfl
theorem R1t (b:List Int)(hb:b.length≤1048576):E1k b=R0o b:=by
 match b with
 | []=>rfl
 | x::xs=>
  have:=M1g (x::xs) hb xs 1 F0 (by omega) rfl (by have:=F0_gt;simp at hb;omega)
  have e:K0n (x::xs) (x::xs) 0=K0n (x::xs) xs 1:=rfl
  simp only [E1k,R0o,e,this]
theorem C1m (b:Int):∀(n:Nat)(a:Int)(l:List Int),K0a b n a l=G0k b n a l
 | 0,a,l=>rfl
 | n+1,a,l=>by simp only [K0a,G0k,C1m b n]
theorem D1y (b:Int):P0a b=N0r b:=by simp only [P0a,N0r,C0r,A0v,C1m]
def M0c (n:Nat):List Int:=(List.range n).map fun (i:Nat)=>(i:Int)
theorem U0s (m:Nat)(hm:m≤200):∀(n:Nat)(k:Nat),k≤m→m - k<n→G0k m n k (M0c k)=some (M0c m)
 | 0,k,h0,h1=>by omega
 | n+1,k,h0,h1=>by
  rw [G0k]
  by_cases hlt:k<m
  ·have e:M0c k ++ [(k:Int)]=M0c (k+1):=by simp [M0c,List.range_succ]
   have ha:appL (M0c k) [(k:Int)]=some (M0c (k+1)):=by
    unfold appL
    rw [if_pos (by simp [M0c];omega),e]
   rw [show decide ((k:Int)<(m:Int))=true by simpa using hlt,cond_true,ha,Option.bind_some,W_of (n:=(k:Int)+1) (by omega)]
   exact U0s m hm n (k+1) (by omega) (by omega)
  rw [show decide ((k:Int)<(m:Int))=false by simpa using hlt,show k=m by omega];rfl
theorem Z0g (n:Nat)(hn:n≤200):N0r n=some (M0c n):=by
 have:=U0s n hn F0 0 (by omega) (by have:=F0_gt;omega)
 have e:(M0c 0:List Int)=[]:=rfl
 rw [e] at this
 simp only [N0r,A0v,show inR (n:Int) 0 200=true from G0b.2 (by omega),Option.bind_some,Bool.not_true,cond_false]
 rw [show (0:Int)=((0:Nat):Int) from rfl,this];rfl
theorem M1d {α ρ:Type}{F:List α→Int→Option (Unit ⊕ ρ)}{b:List α}{Q:Int→α→Prop}{c:α→Int→Option Bool}{r:ρ}(h0:∀ z,F [] z=some (.inl ()))
  (h1:∀ x xs z,F (x::xs) z=(c x z).bind fun e=>bif e then some (.inr r) else F xs (z+1)) (hc:∀ x z,0≤z→idxL b z=some x→∃ e,c x z=some e∧(e=false→Q z x)) :
  ∀(xs:List α)(z:Int),0≤z→b.drop z.toNat=xs→F xs z=some (.inr r)∨(F xs z=some (.inl ())∧∀ y x,z≤y→idxL b y=some x→Q y x)
 | [],z,hz,hd=>.inr ⟨h0 z,fun y x hy hx=>by
   have:=(C0u hx).1
   have:=congrArg List.length hd
   simp at this;omega⟩
 | x::xs,z,hz,hd=>by
  obtain ⟨h2,h3⟩:=M0a hz hd
  obtain ⟨e,he,hq⟩:=hc x z hz h2
  rw [h1,he,Option.bind_some]
  cases e with
  | true=>exact .inl rfl
  | false=>
   rw [cond_false]
   rcases M1d h0 h1 hc xs (z+1) (by omega) h3 with h | ⟨h,hQ⟩
   ·exact .inl h
   ·exact .inr ⟨h,fun y x' hy hx=>by
     by_cases e:y=z
     ·subst e
      rw [h2] at hx;cases hx
      exact hq rfl
     exact hQ y x' (by omega) hx⟩
theorem M1w {α ρ:Type}{F:List α→Int→Option (Unit ⊕ ρ)}{Q:Int→α→Prop}{c:α→Int→Option Bool}{r:ρ}(b:List α)(h0:∀ z,F [] z=some (.inl ()))
  (h1:∀ x xs z,F (x::xs) z=(c x z).bind fun e=>bif e then some (.inr r) else F xs (z+1)) (hc:∀ x z,0≤z→idxL b z=some x→∃ e,c x z=some e∧(e=false→Q z x)) :
  F b 0=some (.inr r)∨(F b 0=some (.inl ())∧∀ y x,idxL b y=some x→Q y x):=
 (M1d h0 h1 hc b 0 (Int.le_refl _) rfl).imp id fun ⟨h,hQ⟩=>⟨h,fun y x hx=>hQ y x (A0a hx).1 hx⟩
theorem N1s {n:Int}{k:Nat}(h:n∈M0c k):0≤n∧n<k:=by
 simp only [M0c,List.mem_map,List.mem_range] at h
 obtain ⟨i,hi,rfl⟩:=h
 omega
theorem D1d {α β:Type}{l:List α}{k:List β}{z:Int}{x:α}(h:idxL l z=some x)(hl:l.length=k.length):∃ y,idxL k z=some y:=by
 obtain ⟨y,hy,_⟩:=K0g (l:=k) (A0a h).1 (by have:=(C0u h).1;omega)
 exact ⟨y,hy⟩
theorem K0h (x:A0f)(h:x.Modes.length≤200):C0x x=some (M0c x.Modes.length):=by simp only [C0x,Z0g _ h,Option.bind_some]
theorem K0m (x:A0f):G0h x=C0x x:=by simp only [G0h,C0x,D1y]
structure DomF (p:A0b)(b:A0r):Prop where
 proj:ProjF p
 l1:b.MinStart.length=p.Activities.length
 l2:b.MaxStart.length=p.Activities.length
 l3:b.Modes.length=p.Activities.length
 at_:∀ a x,idxL p.Activities a=some x→∃ m1 m2 ms,idxL b.MinStart a=some m1∧idxL b.MaxStart a=some m2∧idxL b.Modes a=some ms∧(-2≤m1∧m1≤62)∧(-2≤m2∧m2≤62)∧R0o ms=some true∧∀ n∈ms,0≤n∧n<x.Modes.length
def dfC (b:A0r)(x:A0f)(z:Int):Option Bool:=
 (idxL b.MinStart z).bind fun v18=>(bif (!inR v18 (-2) 62) then some true else (idxL b.MaxStart z).bind fun v22=>(bif (!inR v22 (-2) 62) then some true else (idxL b.Modes z).bind fun v25=>(R0o v25).bind fun v26=>(bif (!v26) then some true else (C0x x).bind fun v28=>(J0z v25 v28).bind fun v29=>some (!v29))))
theorem dfC_s (b:A0r)(x:A0f)(xs:List A0f)(z:Int):C0t b (x::xs) z=(dfC b x z).bind fun e=>bif e then some (.inr false) else C0t b xs (z+1):=by
 simp only [C0t,A0v,Option.bind_some,dfC]
 cases idxL b.MinStart z <;> rfl
theorem Z0n (p:A0b)(b:A0r)(hb:∀ ms∈b.Modes,ms.length≤1048576):∀(xs:List A0f)(ys:List (List Int))(z:Int),0≤z→p.Activities.drop z.toNat=xs→b.Modes.drop z.toNat=ys→xs.length=ys.length→G0x p b ys z=C0t b xs z
 | [],[],z,_,_,_,_=>rfl
 | [],_::_,z,_,_,_,h=>by simp at h
 | _::_,[],z,_,_,_,h=>by simp at h
 | x::xs,y::ys,z,hz,h1,h2,h3=>by
  obtain ⟨a1,a2⟩:=M0a hz h1
  obtain ⟨b1,b2⟩:=M0a hz h2
  have ih:=Z0n p b hb xs ys (z+1) (by omega) a2 b2 (by simpa using h3)
  simp only [G0x,C0t,H1v,A0v,Option.bind_some,a1,b1,ih,K0m,J1s,R1t y (hb y (C0u b1).2)]
theorem G1m (p:A0b)(b:A0r)(hb:∀ ms∈b.Modes,ms.length≤1048576):P0q p b=J0r p b:=by
 simp only [P0q,J0r,F0r,L0q]
 by_cases h:(b.Modes.length:Int)=p.Activities.length
 ·rw [Z0n p b hb p.Activities b.Modes 0 (Int.le_refl _) rfl rfl (by omega)]
 simp only [h,decide_false,Bool.not_false]
 cases B0w p with
 | none=>rfl
 | some v=>
  cases v
  ·rfl
  simp only [Option.bind_some,Bool.not_true,cond_false]
  cases decide ((b.MinStart.length:Int)=p.Activities.length) <;> cases decide ((b.MaxStart.length:Int)=p.Activities.length) <;> rfl
theorem T1y (p:A0b)(b:A0r)(hp:ProjF p)(l1:b.MinStart.length=p.Activities.length)(l2:b.MaxStart.length=p.Activities.length)(l3:b.Modes.length=p.Activities.length)(x:A0f)(z:Int)(hx:idxL p.Activities z=some x) :
  ∃ e,dfC b x z=some e∧(e=false→∃ m1 m2 ms,idxL b.MinStart z=some m1∧idxL b.MaxStart z=some m2∧idxL b.Modes z=some ms∧(-2≤m1∧m1≤62)∧(-2≤m2∧m2≤62)∧R0o ms=some true∧∀ n∈ms,0≤n∧n<x.Modes.length):=by
 obtain ⟨m1,h1⟩:=D1d hx l1.symm
 obtain ⟨m2,h2⟩:=D1d hx l2.symm
 obtain ⟨ms,h3⟩:=D1d hx l3.symm
 have hm:=(hp.acts x (C0u hx).2).2.1
 obtain ⟨v,hv⟩:=N1x ms
 obtain ⟨u,hu,fu⟩:=F1h ms (M0c x.Modes.length)
 simp only [dfC,h1,h2,h3,Option.bind_some,hv,K0h x (by omega),hu]
 cases e1:inR m1 (-2) 62 with
 | false=>exact ⟨true,rfl,fun h=>by cases h⟩
 | true=>cases e2:inR m2 (-2) 62 with
  | false=>exact ⟨true,rfl,fun h=>by cases h⟩
  | true=>cases v with
   | false=>exact ⟨true,rfl,fun h=>by cases h⟩
   | true=>exact ⟨_,rfl,fun h=>⟨m1,m2,ms,rfl,rfl,rfl,G0b.1 e1,G0b.1 e2,hv,fun n hn=>N1s (fu (by simpa using h) n hn)⟩⟩
theorem D1o (p:A0b)(hs:∀ x∈p.Activities,x.Name.size≤9223372036854775807)(b:A0r):∃ v,J0r p b=some v∧(v=true→DomF p b):=by
 obtain ⟨v,hv,hf⟩:=G0m p hs
 simp only [J0r,hv,Option.bind_some,H0e,L0q]
 cases v with
 | false=>exact ⟨false,rfl,fun h=>by cases h⟩
 | true=>
  by_cases h1:(b.MinStart.length:Int)=p.Activities.length
  ·by_cases h2:(b.MaxStart.length:Int)=p.Activities.length
   ·by_cases h3:(b.Modes.length:Int)=p.Activities.length
    ·rcases M1w (F:=C0t b) (c:=dfC b) p.Activities (fun _=>rfl) (dfC_s b) (fun x z hz hx=>T1y p b (hf rfl) (by omega) (by omega) (by omega) x z hx) with h | ⟨h,hQ⟩
     ·exact ⟨false,by simp [h1,h2,h3,h,A0m],fun h=>by cases h⟩
     exact ⟨true,by simp [h1,h2,h3,h,A0m],fun _=>⟨hf rfl,by omega,by omega,by omega,hQ⟩⟩
    exact ⟨false,by simp [h1,h2,h3],fun h=>by cases h⟩
   exact ⟨false,by simp [h1,h2],fun h=>by cases h⟩
  exact ⟨false,by simp [h1],fun h=>by cases h⟩
theorem W0n (b:A0r):∀(xs:List Int)(z:Int),F0x b xs z=E0p b xs z
 | [],z=>rfl
 | x::xs,z=>by simp only [F0x,E0p,W0n b xs]
theorem S0j:∀(xs:List (List Int))(z:Int),0≤z→(B0d (fun x=>E0o x) xs z=some (.inl ())∧E0n xs z=some (.inl ())∧∀ m∈xs,m≠[])∨∃ k,B0d (fun x=>E0o x) xs z=some (.inr k)∧0≤k∧E0n xs z=some (.inr true)
 | [],z,hz=>.inl ⟨rfl,rfl,by simp⟩
 | x::xs,z,hz=>by
  have e1:B0d (fun x=>E0o x) (x::xs) z=bif ((x.length:Int) == 0) then some (.inr z) else B0d (fun x=>E0o x) xs (z+1):=rfl
  rw [e1,E0n,T0o]
  by_cases hx:(x.length:Int)=0
  ·right;exact ⟨z,by simp [hx],hz,by simp [hx]⟩
  rw [show decide ((x.length:Int)=0)=false by simpa using hx,cond_false,cond_false]
  rcases S0j xs (z+1) (by omega) with ⟨h1,h2,h3⟩ | h
  ·left;exact ⟨h1,h2,fun m hm=>by
    rcases List.mem_cons.1 hm with rfl | hm
    ·intro e;subst e;simp at hx
    exact h3 m hm⟩
  exact .inr h
theorem E1y (b:A0r):N0i b=G0j b:=by
 simp only [N0i,G0j,W0n]
 congr 1
 funext _
 rcases S0j b.Modes 0 (Int.le_refl _) with ⟨h1,h2,_⟩ | ⟨k,h1,h0,h2⟩
 ·simp [D0q,F0s,h1,h2,A0m]
 simp [D0q,F0s,h1,h2,A0m,h0]
theorem B1q (b:A0r):∃ v,G0j b=some v∧(v=false→(∀ a m1 m2,idxL b.MinStart a=some m1→idxL b.MaxStart a=some m2→m1≤m2)∧∀ m∈b.Modes,m≠[]):=by
 rcases M1w (F:=E0p b) (Q:=fun a m1=>∀ m2,idxL b.MaxStart a=some m2→m1≤m2) (c:=fun x z=>(bif (decide (z<(b.MaxStart.length:Int))) then (idxL b.MaxStart z).bind fun v14=>some (decide (v14<x)) else some false)) b.MinStart (fun _=>rfl) (fun x xs z=>rfl) (fun x z hz hx=>by
   by_cases h:z<b.MaxStart.length
   ·obtain ⟨y,hy,_⟩:=K0g hz h
    rw [show decide (z<(b.MaxStart.length:Int))=true by simpa using h,cond_true,hy]
    exact ⟨_,rfl,fun h m2 hm=>by cases hm;simpa using h⟩
   rw [show decide (z<(b.MaxStart.length:Int))=false by simpa using h]
   exact ⟨_,rfl,fun _ m2 hm=>absurd (C0u hm).1 h⟩) with h | ⟨h,hQ⟩
 ·exact ⟨true,by simp only [G0j,h,A0m,Option.bind_some,Sum.elim_inr],fun h=>by cases h⟩
 rcases S0j b.Modes 0 (Int.le_refl _) with ⟨h1,h2,h3⟩ | ⟨k,h1,h0,h2⟩
 ·exact ⟨false,by simp only [G0j,h,h2,A0m,Option.bind_some,Sum.elim_inl],fun _=>⟨fun a m1 m2 a1 a2=>hQ a m1 a1 m2 a2,h3⟩⟩
 exact ⟨true,by simp only [G0j,h,h2,A0m,Option.bind_some,Sum.elim_inl,Sum.elim_inr],fun h=>by cases h⟩
structure UseF (p:A0b)(b:A0r):Prop where
 dom:DomF p b
 le:∀ a m1 m2,idxL b.MinStart a=some m1→idxL b.MaxStart a=some m2→m1≤m2
 ne:∀ m∈b.Modes,m≠[]
theorem M1f (p:A0b)(b:A0r)(hb:∀ ms∈b.Modes,ms.length≤1048576):Q0y p b=N0d p b:=by simp only [Q0y,N0d,G1m p b hb,E1y]
theorem N1r (p:A0b)(hs:∀ x∈p.Activities,x.Name.size≤9223372036854775807)(b:A0r):∃ v,N0d p b=some v∧(v=true→UseF p b):=by
 obtain ⟨v,hv,hf⟩:=D1o p hs b
 obtain ⟨u,hu,fu⟩:=B1q b
 simp only [N0d,hv,hu,Option.bind_some]
 cases v with
 | false=>exact ⟨false,rfl,fun h=>by cases h⟩
 | true=>
  cases u with
  | true=>exact ⟨false,rfl,fun h=>by cases h⟩
  | false=>exact ⟨true,rfl,fun _=>⟨hf rfl,(fu rfl).1,(fu rfl).2⟩⟩
theorem N1e {b:A0r}(h:S0a 1048576 b):∀ ms∈b.Modes,ms.length≤1048576:=by
 unfold S0a R0p at h
 exact fun ms hm=>h.2.2.1.2 ms hm
def J0x (ms:List Int):List TMode→Int→List TMode
 | [],_=>[]
 | x::xs,z=>if z∈ms then x::J0x ms xs (z+1) else J0x ms xs (z+1)
theorem U0c (ms:List Int):∀(xs:List TMode)(z:Int)(m:TMode),m∈J0x ms xs z→m∈xs
 | [],z,m,h=>by cases h
 | x::xs,z,m,h=>by
  unfold J0x at h
  split at h
  ·rcases List.mem_cons.1 h with rfl | h
   ·exact List.mem_cons_self ..
   exact List.mem_cons_of_mem _ (U0c ms xs (z+1) m h)
  exact List.mem_cons_of_mem _ (U0c ms xs (z+1) m h)
theorem S0r (ms:List Int):∀(xs:List TMode)(z:Int)(acc:List TMode),acc.length+xs.length≤1048576→J0u ms xs z acc=some (acc ++ J0x ms xs z)
 | [],z,acc,_=>by simp [J0u,J0x]
 | x::xs,z,acc,h=>by
  simp at h
  rw [J0u,X0f,Option.bind_some]
  by_cases hz:z∈ms
  ·have ha:appL acc [x]=some (acc ++ [x]):=by unfold appL;rw [if_pos (by simp;omega)]
   rw [show decide (z∈ms)=true by simpa using hz,cond_true,ha,Option.bind_some,S0r ms xs (z+1) _ (by simp;omega)]
   simp [J0x,hz]
  rw [show decide (z∈ms)=false by simpa using hz,cond_false,S0r ms xs (z+1) _ (by omega)]
  simp [J0x,hz]
theorem X0d (x:A0f)(ms:List Int)(h:x.Modes.length≤1048576):U0d x ms=some (J0x ms x.Modes 0):=by
 simp only [U0d,S0r ms x.Modes 0 [] (by simpa using h),Option.bind_some,List.nil_append]
def V0g (f:TMode→Int):List TMode→Int→Bool→Int
 | [],a,_=>a
 | x::xs,a,has=>bif (!has || decide (f x<a)) then V0g f xs (f x) true else V0g f xs a has
theorem M0k (ms:List Int):∀(xs:List TMode)(z a:Int)(has:Bool),E0q ms xs z a has=some (V0g TMode.Duration (J0x ms xs z) a has)
 | [],z,a,has=>rfl
 | x::xs,z,a,has=>by
  rw [E0q,T0p,Option.bind_some,M0k ms xs,M0k ms xs]
  by_cases hz:z∈ms
  ·simp only [hz,decide_true,cond_true,H0e,T1i,Option.bind_some,J0x,if_true,V0g]
  simp only [hz,decide_false,cond_false,H0e,Option.bind_some,J0x,if_false]
theorem M0f (x:A0f)(ms:List Int):G0i x ms=some (V0g TMode.Duration (J0x ms x.Modes 0) 0 false):=by
 simp only [G0i,M0k,Option.bind_some]
theorem M0p:∀(xs:List TMode)(z a:Int),0<z→D0d xs z a=some (V0g TMode.Duration xs a true)
 | [],z,a,_=>rfl
 | x::xs,z,a,hz=>by
  rw [D0d,M0p xs (z+1) _ (by omega),M0p xs (z+1) _ (by omega),show (z == 0)=false by rw [T0o];exact decide_eq_false (by omega)]
  simp only [cond_false,Option.bind_some,H0e,V0g,Bool.not_true,Bool.false_or]
theorem U0r (x:A0f)(ms:List Int)(h:x.Modes.length≤1048576):H0l x ms=G0i x ms:=by
 rw [M0f]
 simp only [H0l,X0d x ms h,Option.bind_some]
 match J0x ms x.Modes 0 with
 | []=>rfl
 | y::ys=>
  simp only [D0d,M0p ys (0+1) _ (by omega)]
  simp [V0g]
theorem L1y (p:A0b)(b:A0r)(a:Int)(hm:∀ x∈p.Activities,x.Modes.length≤1048576):H0h p b a=N0q p b a:=by
 unfold H0h N0q
 cases h:idxL p.Activities a with
 | none=>rfl
 | some x=>simp only [Option.bind_some,U0r x _ (hm x (C0u h).2)]
theorem G1z {p:A0b}{b:A0r}(h:DomF p b){a:Int}{x:A0f}(hx:idxL p.Activities a=some x):∃ v,N0q p b a=some v:=by
 obtain ⟨m1,m2,ms,h1,h2,h3,_⟩:=h.at_ a x hx
 exact ⟨_,by simp only [N0q,hx,h3,Option.bind_some,M0f];rfl⟩
theorem P1m {p:A0b}(h:D0a 1048576 p):∀ x∈p.Activities,x.Modes.length≤1048576:=by
 unfold D0a J0d at h
 intro x hx
 have:=h.1.2 x hx
 unfold H0b Q0v at this
 exact this.2.1.1
def eltO (l:List Int)(k:Int):Option Int:=bif inR k 0 (W ((l.length:Int) - 1)) then idxL l k else none
theorem B1b (l:List Int)(k:Int):S0u l k=some (match eltO l k with | some v=>(v,true) | none=>(0,false)):=by
 simp only [S0u,C0r,Option.bind_some,eltO]
 cases h:inR k 0 (W ((l.length:Int) - 1)) with
 | false=>rfl
 | true=>
  obtain ⟨x,hx,_⟩:=N0v h
  simp [hx]
def S0i (f:TMode→Option Int):List TMode→Int→Bool→Int ⊕ Int
 | [],a,_=>.inl a
 | x::xs,a,has=>match f x with
  | none=>.inr 0
  | some v=>bif (!has || decide (v<a)) then S0i f xs v true else S0i f xs a true
def amtO (k:Int)(cons work:Bool)(x:TMode):Option Int:=(eltO (bif cons then x.Consumption else x.Usage) k).map fun v=>bif work then W (v*x.Duration) else v
theorem Q0a (ms:List Int)(k:Int)(b3 b4:Bool):∀(xs:List TMode)(z a:Int)(has:Bool),G0g ms k b3 b4 xs z a has=some (S0i (amtO k b3 b4) (J0x ms xs z) a has)
 | [],z,a,has=>rfl
 | x::xs,z,a,has=>by
  rw [G0g,T0p,Option.bind_some]
  by_cases hz:z∈ms
  ·simp only [hz,decide_true,Bool.not_true,cond_false,H0e,Option.bind_some,A0v,J0x,if_true,S0i,amtO,eltO,Q0a ms k b3 b4 xs]
   cases h:inR k 0 (W (((bif b3 then x.Consumption else x.Usage).length:Int) - 1)) with
   | false=>rfl
   | true=>
    obtain ⟨v,hv,_⟩:=N0v h
    simp only [hv,Bool.not_true,cond_false,cond_true,Option.bind_some,Option.map_some]
    cases has <;> simp only [Bool.not_false,Bool.not_true,cond_true,cond_false,Bool.true_or,Bool.false_or,Option.bind_some] <;> first | rfl | exact H0e _ _ _
  simp only [hz,decide_false,Bool.not_false,cond_true,J0x,if_false,Q0a ms k b3 b4 xs]
theorem Q0m (x:A0f)(ms:List Int)(k:Int)(b3 b4:Bool):R0a x ms k b3 b4=some (Sum.elim id id (S0i (amtO k b3 b4) (J0x ms x.Modes 0) 0 false)):=by
 simp only [R0a,Q0a,A0m,Option.bind_some]
 cases S0i (amtO k b3 b4) (J0x ms x.Modes 0) 0 false <;> rfl
theorem R0j {g:TMode→Option (Int×Bool)}{f:TMode→Option Int}(hg:∀ x,∃ w,g x=some (match f x with | some v=>(v,true) | none=>(w,false))):∀(xs:List TMode)(z a:Int),0≤z→J0l g xs z a=some (S0i f xs a (decide (0<z)))
 | [],z,a,_=>rfl
 | x::xs,z,a,hz=>by
  obtain ⟨w,hw⟩:=hg x
  rw [J0l,hw,Option.bind_some,R0j hg xs (z+1) _ (by omega),R0j hg xs (z+1) _ (by omega),S0i]
  cases hf:f x with
  | none=>rfl
  | some v=>
   simp only [Bool.not_true,cond_false,H0e,Option.bind_some,T0o,show decide (0<z+1)=true from decide_eq_true (by omega)]
   by_cases h0:z=0
   ·subst h0;rfl
   rw [show decide (z=0)=false by simpa using h0,show decide (0<z)=true from decide_eq_true (by omega)]
   simp only [cond_false,Bool.not_true,Bool.false_or,Option.bind_some]
theorem A1s {g:TMode→Option (Int×Bool)}{f:TMode→Option Int}(hg:∀ x,∃ w,g x=some (match f x with | some v=>(v,true) | none=>(w,false)))(xs:List TMode):S0y xs g=some (Sum.elim id id (S0i f xs 0 false)):=by
 simp only [S0y,R0j hg xs 0 0 (Int.le_refl _),A0m,Option.bind_some]
 rw [show decide ((0:Int)<0)=false from rfl]
 cases S0i f xs 0 false <;> rfl
theorem L1o (x:A0f)(ms:List Int)(k:Int)(h:x.Modes.length≤1048576):Q0z x ms k=R0b x ms k:=by
 simp only [Q0z,R0b,Q0m,X0d x ms h,Option.bind_some]
 rw [A1s (f:=amtO k false false)]
 ·rfl
 intro m
 refine ⟨0,?_⟩
 simp only [N0g,B1b,amtO,Option.bind_some,cond_false]
 cases eltO m.Usage k <;> rfl
theorem N1z (x:A0f)(ms:List Int)(k:Int)(h:x.Modes.length≤1048576):V0c x ms k=R0y x ms k:=by
 simp only [V0c,R0y,Q0m,X0d x ms h,Option.bind_some]
 rw [A1s (f:=amtO k false true)]
 ·rfl
 intro m
 refine ⟨W (m.Duration*0),?_⟩
 simp only [P0h,B1b,amtO,Option.bind_some,cond_false,cond_true]
 cases eltO m.Usage k with
 | none=>rfl
 | some v=>simp only [Option.map_some,Int.mul_comm]
theorem S1u (p:A0b)(b:A0r)(res a:Int)(hm:∀ x∈p.Activities,x.Modes.length≤1048576) :
  ((idxL p.Activities a).bind fun v8=>(idxL b.Modes a).bind fun v9=>(Q0z v8 v9 res).bind fun v10=>some v10)=E0j p b res a:=by
 unfold E0j
 cases h:idxL p.Activities a with
 | none=>rfl
 | some x=>simp only [Option.bind_some,L1o x _ res (hm x (C0u h).2)]
theorem B1k (p:A0b)(b:A0r)(res a:Int)(hp:D0a 1048576 p)(hb:S0a 1048576 b):J0f p b res a=R0i p b res a:=by
 have e:=S1u p b res a (P1m hp)
 simp only [J0f,R0i,e,M1f p b (N1e hb),S0s,W0m,A0v]
 cases E0j p b res a <;> rfl
theorem K1u {p:A0b}{b:A0r}(hs:∀ x∈p.Activities,x.Name.size≤9223372036854775807)(h:N0d p b=some true):B0w p=some true:=by
 obtain ⟨v,hv,_⟩:=G0m p hs
 cases v with
 | true=>exact hv
 | false=>simp [N0d,J0r,hv] at h
theorem B1e (p:A0b)(r:Int):N0x p r=G0e p r:=by simp only [N0x,G0e,W0m,A0v]
theorem W0o (p:A0b)(r:Int):∃ v,G0e p r=some v∧(v=true→∃ rs,idxL p.Resources r=some rs∧0<rs.Setup.length):=by
 simp only [G0e,A0v,Option.bind_some]
 cases hq:inR r 0 (W ((p.Resources.length:Int) - 1)) with
 | false=>exact ⟨false,rfl,fun h=>by cases h⟩
 | true=>
  obtain ⟨rs,hr,_⟩:=N0v hq
  simp only [hr,Option.bind_some,cond_true]
  exact ⟨_,rfl,fun h=>⟨rs,rfl,by simpa using h⟩⟩
theorem R1v {p:A0b}{b:A0r}{r x:Int}(hp:D0a 1048576 p)(hb:S0a 1048576 b)(h:N0d p b=some true)(hm:G0e p r=some true)(hx:inR x 0 (W ((p.Activities.length:Int) - 1))=true):J0f p b r x=E0j p b r x:=by
 have hr:inR r 0 (W ((p.Resources.length:Int) - 1))=true:=by
  cases hr:inR r 0 (W ((p.Resources.length:Int) - 1)) with
  | true=>rfl
  | false=>simp [G0e,A0v,hr] at hm
 rw [B1k p b r x hp hb]
 simp only [R0i,h,A0v,hx,hr,Option.bind_some,Bool.not_true,cond_false]
 cases E0j p b r x <;> rfl
def Wk (E:Nat→Nat→Prop):List Nat→Nat→Nat→Prop
 | [],i,k=>E i k
 | x::l,i,k=>E i x∧Wk E l x k
theorem Wk.join {E:Nat→Nat→Prop}{m k:Nat}{b:List Nat}(hb:Wk E b m k):∀{a:List Nat}{i:Nat},Wk E a i m→Wk E (a ++ m::b) i k
 | [],i,h=>⟨h,hb⟩
 | x::a,i,h=>⟨h.1,Wk.join hb (a:=a) h.2⟩
theorem Wk.left {E:Nat→Nat→Prop}{m k:Nat}{b:List Nat}:∀{a:List Nat}{i:Nat},Wk E (a ++ m::b) i k→Wk E a i m
 | [],i,h=>h.1
 | x::a,i,h=>⟨h.1,Wk.left (a:=a) h.2⟩
theorem Wk.right {E:Nat→Nat→Prop}{m k:Nat}{b:List Nat}:∀{a:List Nat}{i:Nat},Wk E (a ++ m::b) i k→Wk E b m k
 | [],i,h=>h.2
 | x::a,i,h=>Wk.right (a:=a) h.2
theorem V0o {x:Nat}:∀{l:List Nat},x∈l→∃ a b,l=a ++ x::b
 | y::l,h=>by
  rcases List.mem_cons.1 h with h | h
  ·exact ⟨[],l,by rw [h];rfl⟩
  obtain ⟨a,b,e⟩:=V0o h
  exact ⟨y::a,b,by rw [e];rfl⟩
theorem Wk.short {E:Nat→Nat→Prop}{k:Nat}:∀{l:List Nat}{i:Nat},Wk E l i k→∃ l',Wk E l' i k∧l'.Nodup∧∀ x∈l',x∈l
 | [],i,h=>⟨[],h,List.nodup_nil,fun x hx=>hx⟩
 | y::l,i,h=>by
  obtain ⟨t,h1,h2,h3⟩:=Wk.short (l:=l) h.2
  by_cases hy:y∈t
  ·obtain ⟨a,b,e⟩:=V0o hy
   subst e
   refine ⟨y::b,⟨h.1,h1.right⟩,(List.nodup_append.1 h2).2.1,fun x hx=>?_⟩
   rcases List.mem_cons.1 hx with hx | hx
   ·rw [hx];exact List.mem_cons_self ..
   exact List.mem_cons_of_mem _ (h3 x (List.mem_append.2 (.inr (List.mem_cons_of_mem _ hx))))
  ·exact ⟨y::t,⟨h.1,h1⟩,List.nodup_cons.2 ⟨hy,h2⟩,fun x hx=>by
    rcases List.mem_cons.1 hx with hx | hx
    ·rw [hx];exact List.mem_cons_self ..
    exact List.mem_cons_of_mem _ (h3 x hx)⟩
theorem T0m:∀(m:Nat)(l:List Nat),l.Nodup→(∀ x∈l,x<m)→l.length≤m
 | 0,[],_,_=>Nat.le_refl _
 | 0,x::l,_,h=>absurd (h x (List.mem_cons_self ..)) (by omega)
 | m+1,l,hn,h=>by
  by_cases hm:m∈l
  ·obtain ⟨a,b,e⟩:=V0o hm
   subst e
   have h1:=List.nodup_append.1 hn
   have h2:=List.nodup_cons.1 h1.2.1
   have h3:(a ++ b).Nodup:=List.nodup_append.2 ⟨h1.1,h2.2,fun x hx y hy e=>h1.2.2 x hx y (List.mem_cons_of_mem _ hy) e⟩
   have h4:=T0m m (a ++ b) h3 (fun x hx=>by
    have hx2:x∈a ++ m::b:=by
     rcases List.mem_append.1 hx with h | h
     ·exact List.mem_append.2 (.inl h)
     exact List.mem_append.2 (.inr (List.mem_cons_of_mem _ h))
    have hlt:=h x hx2
    have hne:x≠m:=fun e=>by
     subst e
     rcases List.mem_append.1 hx with h | h
     ·exact h1.2.2 x h x (List.mem_cons_self ..) rfl
     exact h2.1 h
    omega)
   simp only [List.length_append,List.length_cons] at h4 ⊢
   omega
  ·have:=T0m m l hn (fun x hx=>by
    have:=h x hx
    have hne:x≠m:=fun e=>hm (e ▸ hx)
    omega)
   omega
abbrev Dm:=Nat→Nat→Option Int
def updD (c:Dm)(i k:Nat)(a:Int):Dm:=fun i' k'=>if i'=i∧k'=k then some a else c i' k'
theorem Y0y (c:Dm)(i k:Nat)(a:Int):updD c i k a i k=some a:=by simp [updD]
theorem A1g (c:Dm){i k i' k':Nat}(a:Int)(h:¬(i'=i∧k'=k)):updD c i k a i' k'=c i' k':=by simp only [updD,if_neg h]
def addD (c:Dm)(i k:Nat)(v:Int):Dm:=updD c i k (match c i k with | none=>v | some a=>max a v)
theorem E1h (c:Dm)(i k:Nat)(v:Int):∃ e,addD c i k v i k=some e∧v≤e∧(∀ a,c i k=some a→a≤e)∧(∀ U,v≤U→(∀ a,c i k=some a→a≤U)→e≤U):=by
 refine ⟨_,Y0y _ _ _ _,?_,?_,?_⟩
 ·cases c i k with
  | none=>exact Int.le_refl _
  | some a=>exact Int.le_max_right ..
 ·intro a ha
  rw [ha]
  exact Int.le_max_left ..
 intro U h1 h2
 cases hc:c i k with
 | none=>exact h1
 | some a=>exact Int.max_le.2 ⟨h2 a hc,h1⟩
theorem H1i (c:Dm){i k i' k':Nat}(v:Int)(h:¬(i'=i∧k'=k)):addD c i k v i' k'=c i' k':=A1g _ _ h
theorem Z0e (c:Dm)(i k:Nat)(v:Int){i' k':Nat}{a:Int}(h:c i' k'=some a):∃ b,addD c i k v i' k'=some b∧a≤b:=by
 by_cases e:i'=i∧k'=k
 ·obtain ⟨rfl,rfl⟩:=e
  obtain ⟨e,h1,_,h2,_⟩:=E1h c i' k' v
  exact ⟨e,h1,h2 a h⟩
 exact ⟨a,by rw [H1i c v e];exact h,Int.le_refl _⟩
structure GoodD (E:Nat→Nat→Prop)(n m:Nat)(U:Int)(c:Dm):Prop where
 pos:0≤U
 diag:∀ i,i<n→∃ a,c i i=some a∧0≤a
 up:∀ i k a,c i k=some a→a≤U
 ex:∀ i k,i<n→k<n→i≠k→(c i k).isSome=true→∃ l,Wk E l i k∧∀ x∈l,x<m
 lo:∀ i k l,i<n→k<n→Wk E l i k→l.Nodup→(∀ x∈l,x<m)→∃ a,c i k=some a∧-60*((l.length:Int)+1)≤a
def ahead (i k i' k':Nat):Prop:=i'<i∨(i'=i∧k'<k)
structure MidD (E:Nat→Nat→Prop)(n m:Nat)(U:Int)(d:Dm)(i k:Nat)(c:Dm):Prop where
 old:∀ i' k',¬ ahead i k i' k'→c i' k'=d i' k'
 mono:∀ i' k' a,d i' k'=some a→∃ b,c i' k'=some b∧a≤b
 done:∀ i' k',i'<n→k'<n→ahead i k i' k'→∀ a b,d i' m=some a→d m k'=some b→∃ e,c i' k'=some e∧a+b≤e
 ex:∀ i' k',i'<n→k'<n→i'≠k'→(c i' k').isSome=true→∃ l,Wk E l i' k'∧∀ x∈l,x<m+1
 mm:∀ a,c m m=some a→a≤2*U
 row:∀ k' a,c m k'=some a→a≤3*U
 col:∀ i' a,c i' m=some a→a≤3*U
 all:∀ i' k' a,c i' k'=some a→a≤6*U
theorem MidD.start {E:Nat→Nat→Prop}{n m:Nat}{U:Int}{d:Dm}(h:GoodD E n m U d):MidD E n m U d 0 0 d:=
 ⟨fun _ _ _=>rfl,fun _ _ a ha=>⟨a,ha,Int.le_refl _⟩,fun i' k' _ _ hA=>absurd hA (by unfold ahead;omega),fun i' k' h1 h2 h3 h4=>by
  obtain ⟨l,h5,h6⟩:=h.ex i' k' h1 h2 h3 h4
  exact ⟨l,h5,fun x hx=>by have:=h6 x hx;omega⟩,
 fun a ha=>by have:=h.up _ _ a ha;have:=h.pos;omega,fun k' a ha=>by have:=h.up _ _ a ha;have:=h.pos;omega,fun k' a ha=>by have:=h.up _ _ a ha;have:=h.pos;omega,fun i' k' a ha=>by have:=h.up _ _ a ha;have:=h.pos;omega⟩
theorem MidD.low {E:Nat→Nat→Prop}{n m:Nat}{U:Int}{d c:Dm}{i k:Nat}(G:GoodD E n m U d)(M:MidD E n m U d i k c)(hm:m<n){i' k':Nat}(hi:i'<n)(hk:k'<n)(hmm:i'=m∨k'=m){a:Int}(ha:c i' k'=some a):-60*((m:Int)+1)≤a:=by
 by_cases e:i'=k'
 ·subst e
  have:i'=m:=by omega
  subst this
  obtain ⟨b,h1,h2⟩:=G.diag i' hm
  obtain ⟨b',h3,h4⟩:=M.mono _ _ _ h1
  rw [ha] at h3;cases h3
  omega
 obtain ⟨l,h1,h2⟩:=M.ex i' k' hi hk e (by rw [ha];rfl)
 obtain ⟨l2,h3,h4,h5⟩:=h1.short
 have key:∃ l3,Wk E l3 i' k'∧l3.Nodup∧∀ x∈l3,x<m:=by
  by_cases hin:m∈l2
  ·obtain ⟨p,q,hq⟩:=V0o hin
   subst hq
   have n1:=List.nodup_append.1 h4
   have n2:=List.nodup_cons.1 n1.2.1
   rcases hmm with rfl | rfl
   ·refine ⟨q,h3.right,n2.2,fun x hx=>?_⟩
    have:=h2 x (h5 x (List.mem_append.2 (.inr (List.mem_cons_of_mem _ hx))))
    have hne:x≠i':=fun e=>n2.1 (e ▸ hx)
    omega
   refine ⟨p,h3.left,n1.1,fun x hx=>?_⟩
   have:=h2 x (h5 x (List.mem_append.2 (.inl hx)))
   have hne:x≠k':=fun e=>n1.2.2 x hx k' (List.mem_cons_self ..) e
   omega
  refine ⟨l2,h3,h4,fun x hx=>?_⟩
  have:=h2 x (h5 x hx)
  have hne:x≠m:=fun e=>hin (e ▸ hx)
  omega
 obtain ⟨l3,k1,k2,k3⟩:=key
 obtain ⟨b,k4,k5⟩:=G.lo i' k' l3 hi hk k1 k2 k3
 obtain ⟨b',k6,k7⟩:=M.mono _ _ _ k4
 rw [ha] at k6;cases k6
 have:=T0m m l3 k2 k3
 omega
theorem N0w {i k i' k':Nat}:ahead i (k+1) i' k' ↔ ahead i k i' k'∨(i'=i∧k'=k):=by unfold ahead;omega
theorem MidD.step {E:Nat→Nat→Prop}{n m:Nat}{U:Int}{d c:Dm}{i k:Nat}(G:GoodD E n m U d)(M:MidD E n m U d i k c)(hm:m<n)(hi:i<n)(hk:k<n){a b:Int}(ha:c i m=some a)(hb:c m k=some b) :
  (-60*((m:Int)+1)≤a∧-60*((m:Int)+1)≤b∧a≤3*U∧b≤3*U)∧MidD E n m U d i (k+1) (addD c i k (a+b)):=by
 have la:=M.low G hm hi hm (.inr rfl) ha
 have lb:=M.low G hm hm hk (.inl rfl) hb
 have ua:=M.col i a ha
 have ub:=M.row k b hb
 have hU:=G.pos
 have hself:¬ ahead i k i k:=by unfold ahead;omega
 have hcur:c i k=d i k:=M.old i k hself
 obtain ⟨e,he,he1,he2,he3⟩:=E1h c i k (a+b)
 have oth:∀{i' k':Nat},¬(i'=i∧k'=k)→addD c i k (a+b) i' k'=c i' k':=fun {i' k'} h=>H1i c _ h
 -- what is below in row and column m
 have um:i=m→a≤2*U:=fun h=>by subst h;exact M.mm a ha
 have um2:k=m→b≤2*U:=fun h=>by subst h;exact M.mm b hb
 have ur:i=m→b≤U:=fun h=>by
  subst h
  rw [hcur] at hb
  exact G.up _ _ b hb
 have uc:k=m→a≤U:=fun h=>by
  subst h
  rw [hcur] at ha
  exact G.up _ _ a ha
 have uo:∀ x,c i k=some x→x≤U:=fun x hx=>by rw [hcur] at hx;exact G.up _ _ x hx
 refine ⟨⟨la,lb,ua,ub⟩,?_,?_,?_,?_,?_,?_,?_,?_⟩
 ·intro i' k' hA
  rw [N0w] at hA
  rw [oth (fun h=>hA (.inr h))]
  exact M.old i' k' (fun h=>hA (.inl h))
 ·intro i' k' x hx
  obtain ⟨y,h1,h2⟩:=M.mono i' k' x hx
  obtain ⟨z,h3,h4⟩:=Z0e c i k (a+b) h1
  exact ⟨z,h3,by omega⟩
 ·intro i' k' hi' hk' hA x y hx hy
  rw [N0w] at hA
  rcases hA with hA | ⟨rfl,rfl⟩
  ·obtain ⟨z,h1,h2⟩:=M.done i' k' hi' hk' hA x y hx hy
   obtain ⟨z',h3,h4⟩:=Z0e c i k (a+b) h1
   exact ⟨z',h3,by omega⟩
  obtain ⟨x',h1,h2⟩:=M.mono _ _ _ hx
  obtain ⟨y',h3,h4⟩:=M.mono _ _ _ hy
  rw [ha] at h1;cases h1
  rw [hb] at h3;cases h3
  exact ⟨e,he,by omega⟩
 ·intro i' k' hi' hk' hne hs
  by_cases hp:i'=i∧k'=k
  ·obtain ⟨rfl,rfl⟩:=hp
   by_cases h1:i'=m
   ·subst h1
    exact M.ex i' k' hi' hk' hne (by rw [hb];rfl)
   by_cases h2:k'=m
   ·subst h2
    exact M.ex i' k' hi' hk' hne (by rw [ha];rfl)
   obtain ⟨p,p1,p2⟩:=M.ex i' m hi' hm h1 (by rw [ha];rfl)
   obtain ⟨q,q1,q2⟩:=M.ex m k' hm hk' (fun e=>h2 e.symm) (by rw [hb];rfl)
   refine ⟨p ++ m::q,Wk.join q1 p1,fun x hx=>?_⟩
   rcases List.mem_append.1 hx with h | h
   ·exact p2 x h
   rcases List.mem_cons.1 h with h | h
   ·omega
   exact q2 x h
  rw [oth hp] at hs
  exact M.ex i' k' hi' hk' hne hs
 ·intro x hx
  by_cases hp:m=i∧m=k
  ·obtain ⟨h1,h2⟩:=hp
   have e1:=ur h1.symm
   have e2:=uc h2.symm
   rw [← h1,← h2] at hx he
   have hh:addD c i k (a+b) m m=some e:=by rw [← h1,← h2];exact he
   rw [← h1,← h2] at hh
   rw [hx] at hh;cases hh
   exact he3 _ (by omega) (fun z hz=>by have:=uo z hz;omega)
  rw [oth hp] at hx
  exact M.mm x hx
 ·intro k' x hx
  by_cases hp:m=i∧k'=k
  ·obtain ⟨h1,rfl⟩:=hp
   subst h1
   rw [he] at hx;cases hx
   have e1:=um rfl
   have e2:=ur rfl
   exact he3 _ (by omega) (fun z hz=>by have:=uo z hz;omega)
  rw [oth hp] at hx
  exact M.row k' x hx
 ·intro i' x hx
  by_cases hp:i'=i∧m=k
  ·obtain ⟨rfl,h1⟩:=hp
   subst h1
   rw [he] at hx;cases hx
   have e1:=um2 rfl
   have e2:=uc rfl
   exact he3 _ (by omega) (fun z hz=>by have:=uo z hz;omega)
  rw [oth hp] at hx
  exact M.col i' x hx
 intro i' k' x hx
 by_cases hp:i'=i∧k'=k
 ·obtain ⟨rfl,rfl⟩:=hp
  rw [he] at hx;cases hx
  exact he3 _ (by omega) (fun z hz=>by have:=uo z hz;omega)
 rw [oth hp] at hx
 exact M.all i' k' x hx
theorem MidD.skip {E:Nat→Nat→Prop}{n m:Nat}{U:Int}{d c:Dm}{i k:Nat}(M:MidD E n m U d i k c)(h:c i m=none∨c m k=none):MidD E n m U d i (k+1) c:=by
 refine ⟨fun i' k' hA=>M.old i' k' (fun hh=>hA (N0w.2 (.inl hh))),M.mono,fun i' k' hi' hk' hA x y hx hy=>?_,M.ex,M.mm,M.row,M.col,M.all⟩
 rcases N0w.1 hA with hA | ⟨rfl,rfl⟩
 ·exact M.done i' k' hi' hk' hA x y hx hy
 obtain ⟨x',h1,_⟩:=M.mono _ _ _ hx
 obtain ⟨y',h2,_⟩:=M.mono _ _ _ hy
 rcases h with h | h
 ·rw [h] at h1;cases h1
 rw [h] at h2;cases h2
theorem MidD.line {E:Nat→Nat→Prop}{n m:Nat}{U:Int}{d c:Dm}{i:Nat}(M:MidD E n m U d i n c):MidD E n m U d (i+1) 0 c:=
 ⟨fun i' k' hA=>M.old i' k' (fun hh=>hA (by unfold ahead at *;omega)),M.mono,fun i' k' hi' hk' hA=>M.done i' k' hi' hk' (by unfold ahead at *;omega),M.ex,M.mm,M.row,M.col,M.all⟩
theorem MidD.end_ {E:Nat→Nat→Prop}{n m:Nat}{U:Int}{d c:Dm}(G:GoodD E n m U d)(hm:m<n)(M:MidD E n m U d n 0 c):GoodD E n (m+1) (6*U) c:=by
 refine ⟨by have:=G.pos;omega,fun i hi=>?_,fun i k a h=>M.all i k a h,fun i k hi hk hne hs=>M.ex i k hi hk hne hs,fun i k l hi hk hw hn hl=>?_⟩
 ·obtain ⟨a,h1,h2⟩:=G.diag i hi
  obtain ⟨b,h3,h4⟩:=M.mono _ _ _ h1
  exact ⟨b,h3,by omega⟩
 by_cases hin:m∈l
 ·obtain ⟨p,q,hq⟩:=V0o hin
  subst hq
  have n1:=List.nodup_append.1 hn
  have n2:=List.nodup_cons.1 n1.2.1
  obtain ⟨a,a1,a2⟩:=G.lo i m p hi hm hw.left n1.1 (fun x hx=>by
   have:=hl x (List.mem_append.2 (.inl hx))
   have hne:x≠m:=fun e=>n1.2.2 x hx m (List.mem_cons_self ..) e
   omega)
  obtain ⟨b,b1,b2⟩:=G.lo m k q hm hk hw.right n2.2 (fun x hx=>by
   have:=hl x (List.mem_append.2 (.inr (List.mem_cons_of_mem _ hx)))
   have hne:x≠m:=fun e=>n2.1 (e ▸ hx)
   omega)
  obtain ⟨e,e1,e2⟩:=M.done i k hi hk (.inl hi) a b a1 b1
  refine ⟨e,e1,?_⟩
  simp only [List.length_append,List.length_cons]
  omega
 ·obtain ⟨a,a1,a2⟩:=G.lo i k l hi hk hw hn (fun x hx=>by
   have:=hl x hx
   have hne:x≠m:=fun e=>hin (e ▸ hx)
   omega)
  obtain ⟨b,h3,h4⟩:=M.mono _ _ _ a1
  exact ⟨b,h3,by omega⟩
structure EncS (n:Nat)(d:List (List Int))(c:Dm):Prop where
 len:d.length=n
 row:∀ i,i<n→∃ row,d[i]? = some row∧row.length=n∧∀ k,k<n→row[k]? = some ((c i k).getD (-1000))
structure EncI (n:Nat)(far:List (List Int))(met:List (List Bool))(c:Dm):Prop where
 lf:far.length=n
 lm:met.length=n
 row:∀ i,i<n→∃ fr mr,far[i]? = some fr∧met[i]? = some mr∧fr.length=n∧mr.length=n∧∀ k,k<n→mr[k]? = some (c i k).isSome∧∃ v,fr[k]? = some v∧∀ a,c i k=some a→v=a
theorem L0n {α:Type}(l:List α)(i:Nat):idxL l (i:Int)=l[i]?:=by simp [idxL]
theorem P0e {α:Type}(l:List α)(i:Nat)(v:α):setL l (i:Int) v=l.set i v:=by simp [setL]
theorem J0s {α:Type}{l:List α}{i:Nat}{v:α}(h:i<l.length)(j:Nat):(l.set i v)[j]? = if i=j then some v else l[j]?:=by
 rw [List.getElem?_set]
 by_cases e:i=j
 ·rw [if_pos e,if_pos h,if_pos e]
 rw [if_neg e,if_neg e]
theorem R0k {α:Type}{l:List α}(h:l≠[]):neL l=some l:=by
 unfold neL
 cases l with
 | nil=>exact absurd rfl h
 | cons x l=>rfl
theorem P0l {α:Type}{l:List α}{n:Nat}(h:l.length=n)(hn:0<n):l≠[]:=fun e=>by subst e;simp at h;omega
theorem M1y {α:Type}:∀{a b:List (List α)},a.length=b.length→(∀ x∈a,x≠[])→(∀ x∈b,x≠[])→sameN a b=some ():=by
 have key:∀{a b:List (List α)},a.length=b.length→(∀ x∈a,x≠[])→(∀ x∈b,x≠[])→a.map List.isEmpty=b.map List.isEmpty:=by
  intro a
  induction a with
  | nil=>intro b h _ _;cases b with
   | nil=>rfl
   | cons y b=>simp at h
  | cons x a ih=>
   intro b h h1 h2
   cases b with
   | nil=>simp at h
   | cons y b=>
    have e1:x.isEmpty=false:=by
     have:=h1 x (List.mem_cons_self ..)
     cases x with
     | nil=>exact absurd rfl this
     | cons _ _=>rfl
    have e2:y.isEmpty=false:=by
     have:=h2 y (List.mem_cons_self ..)
     cases y with
     | nil=>exact absurd rfl this
     | cons _ _=>rfl
    rw [List.map_cons,List.map_cons,e1,e2,ih (by simpa using h) (fun z hz=>h1 z (List.mem_cons_of_mem _ hz)) (fun z hz=>h2 z (List.mem_cons_of_mem _ hz))]
 intro a b h h1 h2
 unfold sameN
 rw [key h h1 h2,beq_self_eq_true];rfl
theorem EncI.nef {n:Nat}{far:List (List Int)}{met:List (List Bool)}{c:Dm}(h:EncI n far met c)(hn:0<n):∀ x∈far,x≠[]:=fun x hx=>by
 obtain ⟨i,hi,rfl⟩:=List.mem_iff_getElem.1 hx
 obtain ⟨fr,mr,h1,h2,h3,h4,_⟩:=h.row i (by rw [← h.lf];exact hi)
 rw [List.getElem?_eq_getElem hi] at h1;cases h1
 exact P0l h3 hn
theorem EncI.nem {n:Nat}{far:List (List Int)}{met:List (List Bool)}{c:Dm}(h:EncI n far met c)(hn:0<n):∀ x∈met,x≠[]:=fun x hx=>by
 obtain ⟨i,hi,rfl⟩:=List.mem_iff_getElem.1 hx
 obtain ⟨fr,mr,h1,h2,h3,h4,_⟩:=h.row i (by rw [← h.lm];exact hi)
 rw [List.getElem?_eq_getElem hi] at h2;cases h2
 exact P0l h4 hn
theorem EncS.upd {n:Nat}{d:List (List Int)}{c:Dm}(h:EncS n d c){i k:Nat}(hi:i<n)(hk:k<n){row:List Int}(hr:d[i]? = some row)(v:Int):EncS n (setL d i (setL row k v)) (updD c i k v):=by
 rw [P0e,P0e]
 refine ⟨by rw [List.length_set];exact h.len,fun j hj=>?_⟩
 rw [J0s (by rw [h.len];exact hi)]
 by_cases e:i=j
 ·subst e
  rw [if_pos rfl]
  obtain ⟨row',h1,h2,h3⟩:=h.row i hi
  rw [hr] at h1;cases h1
  refine ⟨_,rfl,by rw [List.length_set];exact h2,fun q hq=>?_⟩
  rw [J0s (by rw [h2];exact hk)]
  by_cases e2:k=q
  ·subst e2;rw [if_pos rfl,Y0y];rfl
  rw [if_neg e2,A1g _ _ (fun hh=>e2 hh.2.symm)];exact h3 q hq
 rw [if_neg e]
 obtain ⟨row',h1,h2,h3⟩:=h.row j hj
 exact ⟨row',h1,h2,fun q hq=>by rw [A1g _ _ (fun hh=>e hh.1.symm)];exact h3 q hq⟩
theorem EncS.add {n:Nat}{d:List (List Int)}{c:Dm}(h:EncS n d c){i k:Nat}(hi:i<n)(hk:k<n){row:List Int}(hr:d[i]? = some row){v:Int}(hv:-1000≤v):EncS n (setL d i (setL row k (max ((c i k).getD (-1000)) v))) (addD c i k v):=by
 have e:max ((c i k).getD (-1000)) v=(match c i k with | none=>v | some a=>max a v):=by
  cases c i k with
  | none=>show max (-1000) v=v;omega
  | some a=>rfl
 rw [e]
 exact h.upd hi hk hr _
theorem EncI.upd {n:Nat}{far:List (List Int)}{met:List (List Bool)}{c:Dm}(h:EncI n far met c){i k:Nat}(hi:i<n)(hk:k<n){fr:List Int}{mr:List Bool}(hf:far[i]? = some fr)(hm:met[i]? = some mr)(v:Int):EncI n (setL far i (setL fr k v)) (setL met i (setL mr k true)) (updD c i k v):=by
 rw [P0e,P0e,P0e,P0e]
 refine ⟨by rw [List.length_set];exact h.lf,by rw [List.length_set];exact h.lm,fun j hj=>?_⟩
 rw [J0s (by rw [h.lf];exact hi),J0s (by rw [h.lm];exact hi)]
 obtain ⟨fr',mr',h1,h2,h3,h4,h5⟩:=h.row j hj
 by_cases e:i=j
 ·subst e
  rw [if_pos rfl,if_pos rfl]
  rw [hf] at h1;cases h1
  rw [hm] at h2;cases h2
  refine ⟨_,_,rfl,rfl,by rw [List.length_set];exact h3,by rw [List.length_set];exact h4,fun q hq=>?_⟩
  rw [J0s (by rw [h4];exact hk),J0s (by rw [h3];exact hk)]
  by_cases e2:k=q
  ·subst e2
   rw [if_pos rfl,if_pos rfl,Y0y]
   exact ⟨rfl,v,rfl,fun a ha=>Option.some.inj ha⟩
  rw [if_neg e2,if_neg e2,A1g _ _ (fun hh=>e2 hh.2.symm)];exact h5 q hq
 rw [if_neg e,if_neg e]
 exact ⟨fr',mr',h1,h2,h3,h4,fun q hq=>by rw [A1g _ _ (fun hh=>e hh.1.symm)];exact h5 q hq⟩
theorem EncI.add {n:Nat}{far:List (List Int)}{met:List (List Bool)}{c:Dm}(h:EncI n far met c)(hn:0<n){i k:Nat}(hi:i<n)(hk:k<n)(v:Int) :
  ∃ r,D0y i k v met far=some r∧EncI n r.2 r.1 (addD c i k v)∧sameN met r.1=some ()∧sameN far r.2=some ():=by
 obtain ⟨fr,mr,h1,h2,h3,h4,h5⟩:=h.row i hi
 obtain ⟨h6,x,h7,h8⟩:=h5 k hk
 have key:∀ r,(EncI n r.2 r.1 (addD c i k v))→D0y i k v met far=some r→∃ r,D0y i k v met far=some r∧EncI n r.2 r.1 (addD c i k v)∧sameN met r.1=some ()∧sameN far r.2=some ():=fun r hr he=>
  ⟨r,he,hr,M1y (by rw [h.lm,hr.lm]) (h.nem hn) (hr.nem hn),M1y (by rw [h.lf,hr.lf]) (h.nef hn) (hr.nef hn)⟩
 have hup:=h.upd hi hk h1 h2
 cases hc:c i k with
 | none=>
  refine key (setL met i (setL mr k true),setL far i (setL fr k v)) ?_ ?_
  ·have e:addD c i k v=updD c i k v:=by unfold addD;rw [hc]
   rw [e];exact hup v
  unfold D0y
  simp only [L0n,h2,Option.bind_some,R0k (P0l h4 hn),h6,hc,Option.isSome_none,Bool.not_false,cond_true,h1,R0k (P0l h3 hn),h7]
 | some a=>
  have hx:=h8 a hc
  subst hx
  by_cases hlt:x<v
  ·refine key (setL met i (setL mr k true),setL far i (setL fr k v)) ?_ ?_
   ·have e:addD c i k v=updD c i k v:=by
     unfold addD;rw [hc]
     have:max x v=v:=by omega
     simp only [this]
    rw [e];exact hup v
   unfold D0y
   simp only [L0n,h2,Option.bind_some,R0k (P0l h4 hn),h6,hc,Option.isSome_some,Bool.not_true,cond_false,cond_true,h1,R0k (P0l h3 hn),h7,hlt,decide_true]
  refine key (met,far) ?_ ?_
  ·have e:addD c i k v=c:=by
    unfold addD;rw [hc]
    have:max x v=x:=by omega
    simp only [this]
    funext i' k'
    by_cases hp:i'=i∧k'=k
    ·obtain ⟨rfl,rfl⟩:=hp;rw [Y0y,hc]
    rw [A1g _ _ hp]
   rw [e];exact h
  unfold D0y
  simp only [L0n,h2,Option.bind_some,R0k (P0l h4 hn),h6,hc,Option.isSome_some,Bool.not_true,cond_false,cond_true,h1,R0k (P0l h3 hn),h7,hlt,decide_false]
theorem W_nat {k:Nat}(h:k≤1000):W ((k:Int)+1)=((k+1:Nat):Int):=by rw [W_of (by omega)];omega
section
variable {p:A0b}{E:Nat→Nat→Prop}{n m:Nat}{U:Int}{d0:Dm}
theorem Q1c (hn:p.Activities.length=n)(h6:n≤6)(hm:m<n)(hU:U≤1000000000000)(G:GoodD E n m U d0){i:Nat}(hi:i<n):∀(r k:Nat)(xs:List A0f)(fuel:Nat)(c:Dm)(d far:List (List Int))(met:List (List Bool)),k+r=n→xs.length=r→r<fuel→EncS n d c→EncI n far met c→MidD E n m U d0 i k c →
  ∃ c' d' far' met',H0g m i xs k d=some d'∧D0x p m i fuel k far met=some (far',met')∧EncS n d' c'∧EncI n far' met' c'∧MidD E n m U d0 i n c'
 | 0,k,[],fuel+1,c,d,far,met,hk,_,_,hS,hI,M=>by
  have e:k=n:=by omega
  subst e
  refine ⟨c,d,far,met,rfl,?_,hS,hI,M⟩
  rw [D0x,hn]
  simp
 | r+1,k,x::xs,fuel+1,c,d,far,met,hk,hx,hf,hS,hI,M=>by
  have hkn:k<n:=by omega
  have hn0:0<n:=by omega
  have ih:=Q1c hn h6 hm hU G hi r (k+1) xs fuel
  obtain ⟨row,s1,s2,s3⟩:=hS.row i hi
  obtain ⟨rowm,t1,t2,t3⟩:=hS.row m hm
  obtain ⟨fr,mr,a1,a2,a3,a4,a5⟩:=hI.row i hi
  obtain ⟨frm,mrm,b1,b2,b3,b4,b5⟩:=hI.row m hm
  have hz:(k:Int)+1=((k+1:Nat):Int):=by omega
  rw [H0g,D0x,W_nat (by omega),hn,hz]
  simp only [L0n,s1,Option.bind_some,s3 m hm,a2,R0k (P0l a4 hn0),(a5 m hm).1,show decide ((k:Int)<(n:Int))=true from decide_eq_true (by omega),cond_true]
  cases hA:c i m with
  | none=>
   simp only [Option.getD_none,Option.isSome_none,bne_self_eq_false,cond_false,Option.bind_some]
   exact ih c d far met (by omega) (by simpa using hx) (by omega) hS hI (M.skip (.inl hA))
  | some a=>
   have la:=M.low G hm hi hm (.inr rfl) hA
   have e1:(a != (-1000:Int))=true:=by
    have:a≠-1000:=by omega
    simpa using this
   simp only [Option.getD_some,Option.isSome_some,e1,cond_true,t1,Option.bind_some,t3 k hkn,b2,R0k (P0l b4 hn0),(b5 k hkn).1]
   cases hB:c m k with
   | none=>
    simp only [Option.getD_none,Option.isSome_none,bne_self_eq_false,cond_false]
    exact ih c d far met (by omega) (by simpa using hx) (by omega) hS hI (M.skip (.inr hB))
   | some b=>
    obtain ⟨⟨l1,l2,l3,l4⟩,M'⟩:=M.step G hm hi hkn hA hB
    have hU0:=G.pos
    have e2:(b != (-1000:Int))=true:=by
     have:b≠-1000:=by omega
     simpa using this
    obtain ⟨va,c1,c2⟩:=(a5 m hm).2
    obtain ⟨vb,c3,c4⟩:=(b5 k hkn).2
    have c2:=c2 a hA
    have c4:=c4 b hB
    subst c2;subst c4
    have hW:W (va+vb)=va+vb:=W_of (by omega)
    obtain ⟨q,q1,q2,q3,q4⟩:=hI.add hn0 hi hkn (va+vb)
    simp only [Option.getD_some,Option.isSome_some,e2,cond_true,s3 k hkn,Option.bind_some,L0c,hW,a1,R0k (P0l a3 hn0),c1,b1,R0k (P0l b3 hn0),c3,q1,q3,q4]
    exact ih _ _ _ _ (by omega) (by simpa using hx) (by omega) (hS.add hi hkn s1 (by omega)) q2 M'
 | 0,_,_::_,_,_,_,_,_,_,h,_,_,_,_=>by simp at h
 | _+1,_,[],_,_,_,_,_,_,h,_,_,_,_=>by simp at h
 | _,_,_,0,_,_,_,_,_,_,h,_,_,_=>by omega
theorem H1o (hn:p.Activities.length=n)(h6:n≤6)(hm:m<n)(hU:U≤1000000000000)(G:GoodD E n m U d0):∀(r i:Nat)(xs:List A0f)(fuel:Nat)(c:Dm)(d far:List (List Int))(met:List (List Bool)),i+r=n→xs.length=r→r<fuel→EncS n d c→EncI n far met c→MidD E n m U d0 i 0 c →
  ∃ c' d' far' met',J0n p m xs i d=some d'∧F0g p m fuel i far met=some (far',met')∧EncS n d' c'∧EncI n far' met' c'∧MidD E n m U d0 n 0 c'
 | 0,i,[],fuel+1,c,d,far,met,hk,_,_,hS,hI,M=>by
  have e:i=n:=by omega
  subst e
  refine ⟨c,d,far,met,rfl,?_,hS,hI,M⟩
  rw [F0g,hn]
  simp
 | r+1,i,x::xs,fuel+1,c,d,far,met,hk,hx,hf,hS,hI,M=>by
  have hin:i<n:=by omega
  obtain ⟨c1,d1,f1,m1,h1,h2,h3,h4,h5⟩:=Q1c hn h6 hm hU G hin n 0 p.Activities F0 c d far met (by omega) hn (by unfold F0;omega) hS hI M
  have hz:(i:Int)+1=((i+1:Nat):Int):=by omega
  rw [J0n,F0g,W_nat (by omega),hn,hz]
  have h1':H0g (m:Int) (i:Int) p.Activities 0 d=some d1:=h1
  have h2':D0x p (m:Int) (i:Int) F0 0 far met=some (f1,m1):=h2
  simp only [h1',h2',Option.bind_some,show decide ((i:Int)<(n:Int))=true from decide_eq_true (by omega),cond_true]
  exact H1o hn h6 hm hU G r (i+1) xs fuel _ _ _ _ (by omega) (by simpa using hx) (by omega) h3 h4 h5.line
 | 0,_,_::_,_,_,_,_,_,_,h,_,_,_,_=>by simp at h
 | _+1,_,[],_,_,_,_,_,_,h,_,_,_,_=>by simp at h
 | _,_,_,0,_,_,_,_,_,_,h,_,_,_=>by omega
end
theorem S1n {p:A0b}{E:Nat→Nat→Prop}{n:Nat}(hn:p.Activities.length=n)(h6:n≤6):∀(r m:Nat)(U:Int)(xs:List A0f)(fuel:Nat)(c:Dm)(d far:List (List Int))(met:List (List Bool)),m+r=n→xs.length=r→r<fuel→U*6 ^ r≤1000000000000→EncS n d c→EncI n far met c→GoodD E n m U c →
  ∃ c' U' d' far' met',J0p p xs m d=some d'∧F0j p fuel m far met=some (far',met')∧EncS n d' c'∧EncI n far' met' c'∧GoodD E n n U' c'∧U'≤1000000000000
 | 0,m,U,[],fuel+1,c,d,far,met,hk,_,_,hu,hS,hI,G=>by
  have e:m=n:=by omega
  subst e
  refine ⟨c,U,d,far,met,rfl,?_,hS,hI,G,by simpa using hu⟩
  rw [F0j,hn]
  simp
 | r+1,m,U,x::xs,fuel+1,c,d,far,met,hk,hx,hf,hu,hS,hI,G=>by
  have hmn:m<n:=by omega
  have h1r:(1:Int)≤6 ^ r:=by
   have:(0:Int)<6 ^ r:=Int.pow_pos (by omega)
   omega
  have hU0:=G.pos
  have hpow:U*6 ^ (r+1)=6*U*6 ^ r:=by rw [Int.pow_succ];rw [Int.mul_comm (6 ^ r) 6,← Int.mul_assoc,Int.mul_comm U 6]
  have hUb:U≤1000000000000:=by
   have:U*1≤6*U*6 ^ r:=by
    have h1:6*U*1≤6*U*6 ^ r:=Int.mul_le_mul_of_nonneg_left h1r (by omega)
    omega
   omega
  obtain ⟨c1,d1,f1,m1,h1,h2,h3,h4,h5⟩:=H1o hn h6 hmn hUb G n 0 p.Activities F0 c d far met (by omega) hn (by unfold F0;omega) hS hI (MidD.start G)
  have hz:(m:Int)+1=((m+1:Nat):Int):=by omega
  rw [J0p,F0j,W_nat (by omega),hn,hz]
  have h1':J0n p (m:Int) p.Activities 0 d=some d1:=h1
  have h2':F0g p (m:Int) F0 0 far met=some (f1,m1):=h2
  simp only [h1',h2',Option.bind_some,show decide ((m:Int)<(n:Int))=true from decide_eq_true (by omega),cond_true]
  exact S1n hn h6 r (m+1) (6*U) xs fuel _ _ _ _ (by omega) (by simpa using hx) (by omega) (by rw [← hpow];exact hu) h3 h4 (h5.end_ G hmn)
 | 0,_,_,_::_,_,_,_,_,_,_,h,_,_,_,_,_=>by simp at h
 | _+1,_,_,[],_,_,_,_,_,_,h,_,_,_,_,_=>by simp at h
 | _,_,_,_,0,_,_,_,_,_,_,h,_,_,_,_=>by omega
theorem H1y {f:TMode→Int}{lo hi:Int}:∀{l:List TMode}{a:Int}{has:Bool},(∀ x∈l,lo≤f x∧f x≤hi)→lo≤a∧a≤hi→lo≤V0g f l a has∧V0g f l a has≤hi
 | [],a,has,_,h=>h
 | x::l,a,has,hl,h=>by
  rw [V0g]
  have ih:=fun a has h=>H1y (l:=l) (a:=a) (has:=has) (fun y hy=>hl y (List.mem_cons_of_mem _ hy)) h
  cases (!has || decide (f x<a))
  ·exact ih a has h
  exact ih (f x) true (hl x (List.mem_cons_self ..))
theorem K1f {p:A0b}(F:ProjF p){a:Int}{x:A0f}(hx:idxL p.Activities a=some x):∃ v,C0x x=some (M0c x.Modes.length)∧G0i x (M0c x.Modes.length)=some v∧H0l x (M0c x.Modes.length)=some v∧0≤v∧v≤12:=by
 have hA:=F.acts x (C0u hx).2
 have hm:x.Modes.length≤200:=by have:=hA.2.1;omega
 refine ⟨_,K0h x hm,M0f x _,by rw [U0r x _ (by omega)];exact M0f x _,?_⟩
 exact H1y (fun y hy=>by
  have:=hA.2.2 y (U0c _ _ _ _ hy)
  have h1:=this.1
  omega) (by omega)
theorem M1e {p:A0b}(F:ProjF p){z:Int}{x:TLink}(hx:idxL p.Links z=some x):∃ g,P0c p z=some g∧D0h p x=some g∧-60≤g∧g≤200:=by
 have hl:=F.lnks x (C0u hx).2
 obtain ⟨y,hy,_⟩:=K0g (l:=p.Activities) (z:=x.From) hl.1.1 hl.1.2
 obtain ⟨v,h1,h2,h3,h4,h5⟩:=K1f F hy
 cases hf:x.FromEnd with
 | false=>
  refine ⟨x.Lag,?_,?_,by omega,by omega⟩
  ·simp only [P0c,X0x,hx,hy,Option.bind_some,h1,hf,cond_false]
  simp only [D0h,N0c,hy,Option.bind_some,K0m,h1,hf,cond_false]
 | true=>
  have hW:W (x.Lag+v)=x.Lag+v:=W_of (by omega)
  refine ⟨x.Lag+v,?_,?_,by omega,by omega⟩
  ·simp only [P0c,X0x,hx,hy,Option.bind_some,h1,hf,cond_true,h2,hW]
  simp only [D0h,N0c,hy,Option.bind_some,K0m,h1,hf,cond_true,h3,hW]
def c0:Dm:=fun i k=>if i=k then some 0 else none
def row0 (i n:Nat):List Int:=(List.range n).map fun k=>if i=k then 0 else -1000
theorem N1a (i:Nat):∀(xs:List A0f)(k:Nat),k+xs.length≤1000→J0o i xs k (row0 i k)=some (row0 i (k+xs.length))
 | [],k,_=>rfl
 | x::xs,k,h=>by
  have hz:(k:Int)+1=((k+1:Nat):Int):=by omega
  have hl:(row0 i k).length=k:=by simp [row0]
  simp only [List.length_cons] at h
  have hap:∀ v:Int,appL (row0 i k) [v]=some (row0 i k ++ [v]):=fun v=>by
   unfold appL
   rw [if_pos (by rw [hl,List.length_singleton];omega)]
  have hr:row0 i (k+1)=row0 i k ++ [if i=k then 0 else -1000]:=by simp [row0,List.range_succ]
  rw [J0o]
  have hb:((i:Int) == (k:Int))=decide (i=k):=by
   rw [T0o]
   by_cases e:i=k
   ·subst e;simp
   rw [decide_eq_false (by omega),decide_eq_false e]
  simp only [hb,hz,H0e,Option.bind_some,hap]
  have hc:(bif decide (i=k) then (0:Int) else -1000)=if i=k then 0 else -1000:=by
   by_cases e:i=k <;> simp [e]
  rw [hc,← hr,N1a i xs (k+1) (by omega),List.length_cons]
  congr 2
  omega
theorem M1t {p:A0b}{n:Nat}(hn:p.Activities.length=n)(h6:n≤6):∀(xs:List A0f)(i:Nat),i+xs.length≤100→J0m p xs i ((List.range i).map fun j=>row0 j n)=some ((List.range (i+xs.length)).map fun j=>row0 j n)
 | [],i,_=>rfl
 | x::xs,i,h=>by
  have hz:(i:Int)+1=((i+1:Nat):Int):=by omega
  simp only [List.length_cons] at h
  have h2:=N1a i p.Activities 0 (by omega)
  rw [Nat.zero_add,hn] at h2
  have h2':J0o (i:Int) p.Activities 0 []=some (row0 i n):=h2
  have hap:appL ((List.range i).map fun j=>row0 j n) [row0 i n]=some (((List.range i).map fun j=>row0 j n) ++ [row0 i n]):=by
   unfold appL
   rw [if_pos (by simp;omega)]
  have hr:((List.range (i+1)).map fun j=>row0 j n)=((List.range i).map fun j=>row0 j n) ++ [row0 i n]:=by simp [List.range_succ]
  rw [J0m]
  simp only [h2',hap,Option.bind_some,hz]
  rw [← hr,M1t hn h6 xs (i+1) (by omega),List.length_cons]
  congr 3
  omega
theorem enc0 (n:Nat):EncS n ((List.range n).map fun j=>row0 j n) c0:=by
 refine ⟨by simp,fun i hi=>⟨row0 i n,by simp [hi],by simp [row0],fun k hk=>?_⟩⟩
 simp only [row0,c0,List.getElem?_map,List.getElem?_range hk,Option.map_some]
 by_cases e:i=k <;> simp [e]
structure PreI (n i:Nat)(far:List (List Int))(met:List (List Bool)):Prop where
 lf:far.length=n
 lm:met.length=n
 done:∀ j,j<i→j<n→∃ fr mr,far[j]? = some fr∧met[j]? = some mr∧fr.length=n∧mr.length=n∧∀ k,k<n→mr[k]? = some (c0 j k).isSome∧∃ v,fr[k]? = some v∧∀ a,c0 j k=some a→v=a
 todo:∀ j,i≤j→j<n→far[j]? = some []∧met[j]? = some []
theorem Z0u {α:Type}(z:α)(n:Nat)(h:n≤1000):makeL z (n:Int)=some (List.replicate n z):=by
 unfold makeL
 rw [if_pos (by omega)]
 simp
theorem R1c {α:Type}:nilL ([]:List α)=some ():=rfl
theorem P1w {p:A0b}{n:Nat}(hn:p.Activities.length=n)(h6:n≤6)(hn0:0<n):∀(xs:List A0f)(i:Nat)(far:List (List Int))(met:List (List Bool)),i+xs.length=n→PreI n i far met→∃ far' met',G0n p xs i far met=some (far',met')∧EncI n far' met' c0
 | [],i,far,met,h,I=>by
  have e:i=n:=by simpa using h
  subst e
  exact ⟨far,met,rfl,I.lf,I.lm,fun j hj=>I.done j hj hj⟩
 | x::xs,i,far,met,h,I=>by
  simp only [List.length_cons] at h
  have hin:i<n:=by omega
  have hz:(i:Int)+1=((i+1:Nat):Int):=by omega
  obtain ⟨t1,t2⟩:=I.todo i (Nat.le_refl _) hin
  have r1:(List.replicate n (0:Int))≠[]:=P0l (n:=n) (by simp) hn0
  have r2:(List.replicate n false)≠[]:=P0l (n:=n) (by simp) hn0
  have g1:(met.set i (List.replicate n false))[i]? = some (List.replicate n false):=by rw [J0s (by rw [I.lm];exact hin),if_pos rfl]
  have g2:(List.replicate n false)[i]? = some false:=by simp [hin]
  rw [G0n]
  simp only [hn,Z0u _ n (by omega),Option.bind_some,L0n,P0e,t1,t2,R1c,R0k r1,R0k r2,g1,g2,hz]
  refine P1w hn h6 hn0 xs (i+1) _ _ (by omega) ⟨by rw [List.length_set];exact I.lf,by rw [List.length_set,List.length_set];exact I.lm,fun j hj hjn=>?_,fun j hj hjn=>?_⟩
  ·by_cases e:i=j
   ·subst e
    refine ⟨List.replicate n 0,(List.replicate n false).set i true,by rw [J0s (by rw [I.lf];exact hin),if_pos rfl],by rw [J0s (by rw [List.length_set,I.lm];exact hin),if_pos rfl],by simp,by simp,fun k hk=>⟨?_,0,by simp [hk],fun a ha=>?_⟩⟩
    ·rw [J0s (by simpa using hin)]
     by_cases e2:i=k
     ·subst e2;simp [c0]
     rw [if_neg e2];simp [c0,e2,hk]
    unfold c0 at ha
    split at ha
    ·exact Option.some.inj ha
    cases ha
   obtain ⟨fr,mr,h1,h2,h3⟩:=I.done j (by omega) hjn
   exact ⟨fr,mr,by rw [J0s (by rw [I.lf];exact hin),if_neg e];exact h1,by rw [J0s (by rw [List.length_set,I.lm];exact hin),if_neg e,J0s (by rw [I.lm];exact hin),if_neg e];exact h2,h3⟩
  have e:i≠j:=by omega
  rw [J0s (by rw [I.lf];exact hin),if_neg e,J0s (by rw [List.length_set,I.lm];exact hin),if_neg e,J0s (by rw [I.lm];exact hin),if_neg e]
  exact I.todo j (by omega) hjn
def linkE (p:A0b)(i k:Nat):Prop:=∃ x∈p.Links,x.From=(i:Int)∧x.To=(k:Int)
structure LnkI (p:A0b)(n:Nat)(pre:List TLink)(c:Dm):Prop where
 diag:∀ i,i<n→∃ a,c i i=some a∧0≤a
 up:∀ i k a,c i k=some a→a≤200
 ex:∀ i k,i≠k→(c i k).isSome=true→linkE p i k
 lo:∀ x∈pre,∃ a,c x.From.toNat x.To.toNat=some a∧-60≤a
theorem F1w {p:A0b}{n:Nat}(F:ProjF p)(hn:p.Activities.length=n)(hn0:0<n):∀(xs pre:List TLink)(c:Dm)(d far:List (List Int))(met:List (List Bool)),p.Links=pre ++ xs→EncS n d c→EncI n far met c→LnkI p n pre c →
  ∃ c' d' far' met',J0q p xs pre.length d=some d'∧G0q p xs pre.length far met=some (far',met')∧EncS n d' c'∧EncI n far' met' c'∧LnkI p n p.Links c'
 | [],pre,c,d,far,met,hp,hS,hI,L=>⟨c,d,far,met,rfl,rfl,hS,hI,by rw [hp,List.append_nil];exact L⟩
 | x::xs,pre,c,d,far,met,hp,hS,hI,L=>by
  have hx:idxL p.Links (pre.length:Int)=some x:=by rw [L0n,hp,List.getElem?_append_right (Nat.le_refl _)];simp
  have hmem:x∈p.Links:=(C0u hx).2
  obtain ⟨g,g1,g2,g3,g4⟩:=M1e F hx
  obtain ⟨⟨f0,f1⟩,⟨f2,f3⟩,f4,_⟩:=F.lnks x hmem
  obtain ⟨i,hi⟩:∃ i:Nat,x.From=(i:Int):=⟨x.From.toNat,by omega⟩
  obtain ⟨k,hk⟩:∃ k:Nat,x.To=(k:Int):=⟨x.To.toNat,by omega⟩
  have hin:i<n:=by omega
  have hkn:k<n:=by omega
  obtain ⟨row,s1,s2,s3⟩:=hS.row i hin
  obtain ⟨q,q1,q2,q3,q4⟩:=hI.add hn0 hin hkn g
  have hz:(pre.length:Int)+1=((pre ++ [x]).length:Int):=by simp
  rw [J0q,G0q]
  simp only [hi,hk,L0n,s1,Option.bind_some,s3 k hkn,g1,g2,L0c,q1,q3,q4,hz]
  obtain ⟨e,e1,e2,e3,e4⟩:=E1h c i k g
  refine F1w F hn hn0 xs (pre ++ [x]) _ _ _ _ (by rw [hp];simp) (hS.add hin hkn s1 (by omega)) q2 ⟨fun j hj=>?_,fun i' k' a ha=>?_,fun i' k' hne hs=>?_,fun y hy=>?_⟩
  ·obtain ⟨a,h1,h2⟩:=L.diag j hj
   obtain ⟨b,h3,h4⟩:=Z0e c i k g h1
   exact ⟨b,h3,by omega⟩
  ·by_cases hpq:i'=i∧k'=k
   ·obtain ⟨rfl,rfl⟩:=hpq
    rw [e1] at ha;cases ha
    exact e4 200 g4 (fun z hz=>L.up _ _ z hz)
   rw [H1i c g hpq] at ha
   exact L.up _ _ a ha
  ·by_cases hpq:i'=i∧k'=k
   ·obtain ⟨rfl,rfl⟩:=hpq
    exact ⟨x,hmem,hi,hk⟩
   rw [H1i c g hpq] at hs
   exact L.ex _ _ hne hs
  rcases List.mem_append.1 hy with hy | hy
  ·obtain ⟨a,h1,h2⟩:=L.lo y hy
   obtain ⟨b,h3,h4⟩:=Z0e c i k g h1
   exact ⟨b,h3,by omega⟩
  rw [List.mem_singleton.1 hy,hi,hk]
  exact ⟨e,e1,by omega⟩
theorem N1o {p:A0b}{n:Nat}(F:ProjF p){c:Dm}(L:LnkI p n p.Links c):GoodD (linkE p) n 0 200 c:=by
 refine ⟨by omega,L.diag,L.up,fun i k hi hk hne hs=>⟨[],L.ex i k hne hs,fun x hx=>by cases hx⟩,fun i k l hi hk hw hnd hl=>?_⟩
 match l,hw,hl with
 | [],hw,_=>
  obtain ⟨x,hx,h1,h2⟩:=hw
  obtain ⟨a,h3,h4⟩:=L.lo x hx
  rw [h1,h2] at h3
  exact ⟨a,by simpa using h3,by simp;omega⟩
 | y::l,_,hl=>exact absurd (hl y (List.mem_cons_self ..)) (by omega)
structure FinI (n i k:Nat)(far:List (List Int))(c:Dm):Prop where
 len:far.length=n
 row:∀ j,j<n→∃ row,far[j]? = some row∧row.length=n∧∀ q,q<n→∃ v,row[q]? = some v∧(∀ a,c j q=some a→v=a)∧(ahead i k j q→c j q=none→v = -1000)
theorem FinI.next {n i k:Nat}{far:List (List Int)}{c:Dm}(h:FinI n i k far c)(hs:(c i k).isSome=true):FinI n i (k+1) far c:=by
 refine ⟨h.len,fun j hj=>?_⟩
 obtain ⟨row,h1,h2,h3⟩:=h.row j hj
 refine ⟨row,h1,h2,fun q hq=>?_⟩
 obtain ⟨v,h4,h5,h6⟩:=h3 q hq
 refine ⟨v,h4,h5,fun hA hc=>?_⟩
 rcases N0w.1 hA with hA | ⟨rfl,rfl⟩
 ·exact h6 hA hc
 rw [hc] at hs;cases hs
theorem FinI.put {n i k:Nat}{far:List (List Int)}{c:Dm}(h:FinI n i k far c)(hi:i<n)(hk:k<n)(hc0:c i k=none){row:List Int}(hr:far[i]? = some row):FinI n i (k+1) (setL far i (setL row k (-1000))) c:=by
 rw [P0e,P0e]
 refine ⟨by rw [List.length_set];exact h.len,fun j hj=>?_⟩
 rw [J0s (by rw [h.len];exact hi)]
 obtain ⟨row',h1,h2,h3⟩:=h.row j hj
 by_cases e:i=j
 ·subst e
  rw [if_pos rfl]
  rw [hr] at h1;cases h1
  refine ⟨_,rfl,by rw [List.length_set];exact h2,fun q hq=>?_⟩
  rw [J0s (by rw [h2];exact hk)]
  by_cases e2:k=q
  ·subst e2
   rw [if_pos rfl]
   exact ⟨-1000,rfl,(fun a ha=>by rw [hc0] at ha;cases ha),fun _ _=>rfl⟩
  rw [if_neg e2]
  obtain ⟨v,h4,h5,h6⟩:=h3 q hq
  exact ⟨v,h4,h5,fun hA hc=>h6 ((N0w.1 hA).resolve_right (fun hh=>e2 hh.2.symm)) hc⟩
 rw [if_neg e]
 refine ⟨row',h1,h2,fun q hq=>?_⟩
 obtain ⟨v,h4,h5,h6⟩:=h3 q hq
 exact ⟨v,h4,h5,fun hA hc=>h6 ((N0w.1 hA).resolve_right (fun hh=>e hh.1.symm)) hc⟩
theorem FinI.line {n i:Nat}{far:List (List Int)}{c:Dm}(h:FinI n i n far c):FinI n (i+1) 0 far c:=by
 refine ⟨h.len,fun j hj=>?_⟩
 obtain ⟨row,h1,h2,h3⟩:=h.row j hj
 refine ⟨row,h1,h2,fun q hq=>?_⟩
 obtain ⟨v,h4,h5,h6⟩:=h3 q hq
 exact ⟨v,h4,h5,fun hA hc=>h6 (by unfold ahead at *;omega) hc⟩
theorem Q1r {p:A0b}{n:Nat}(hn:p.Activities.length=n)(h6:n≤6){P:List (List Int)×List (List Bool)}{c:Dm}(hI:EncI n P.1 P.2 c){i:Nat}(hi:i<n):∀(r k:Nat)(fuel:Nat)(far:List (List Int)),k+r=n→r<fuel→FinI n i k far c→∃ far',D0w p P i fuel k far=some far'∧FinI n i n far' c
 | 0,k,fuel+1,far,hk,_,h=>by
  have e:k=n:=by omega
  subst e
  refine ⟨far,?_,h⟩
  rw [D0w,hn]
  simp
 | r+1,k,fuel+1,far,hk,hf,h=>by
  have hkn:k<n:=by omega
  have hn0:0<n:=by omega
  obtain ⟨fr,mr,a1,a2,a3,a4,a5⟩:=hI.row i hi
  obtain ⟨row,b1,b2,b3⟩:=h.row i hi
  obtain ⟨v,b4,_⟩:=b3 k hkn
  rw [D0w,W_nat (by omega),hn]
  simp only [L0n,a2,Option.bind_some,R0k (P0l a4 hn0),(a5 k hkn).1,show decide ((k:Int)<(n:Int))=true from decide_eq_true (by omega),cond_true,b1,R0k (P0l b2 hn0),b4]
  cases hc:c i k with
  | none=>
   simp only [Option.isSome_none,Bool.not_false,cond_true]
   exact Q1r hn h6 hI hi r (k+1) fuel _ (by omega) (by omega) (h.put hi hkn hc b1)
  | some a=>
   simp only [Option.isSome_some,Bool.not_true,cond_false]
   exact Q1r hn h6 hI hi r (k+1) fuel _ (by omega) (by omega) (h.next (by rw [hc];rfl))
 | _,_,0,_,_,h,_=>by omega
theorem S1i {p:A0b}{n:Nat}(hn:p.Activities.length=n)(h6:n≤6){P:List (List Int)×List (List Bool)}{c:Dm}(hI:EncI n P.1 P.2 c):∀(r i:Nat)(fuel:Nat)(far:List (List Int)),i+r=n→r<fuel→FinI n i 0 far c→∃ far',F0f p P fuel i far=some far'∧FinI n n 0 far' c
 | 0,i,fuel+1,far,hk,_,h=>by
  have e:i=n:=by omega
  subst e
  refine ⟨far,?_,h⟩
  rw [F0f,hn]
  simp
 | r+1,i,fuel+1,far,hk,hf,h=>by
  have hin:i<n:=by omega
  obtain ⟨f1,h1,h2⟩:=Q1r hn h6 hI hin n 0 F0 far (by omega) (by unfold F0;omega) h
  have h1':D0w p P (i:Int) F0 0 far=some f1:=h1
  rw [F0f,W_nat (by omega),hn]
  simp only [h1',Option.bind_some,show decide ((i:Int)<(n:Int))=true from decide_eq_true (by omega),cond_true]
  exact S1i hn h6 hI r (i+1) fuel _ (by omega) (by omega) h2.line
 | _,_,0,_,_,h,_=>by omega
theorem FinI.enc {n:Nat}{far:List (List Int)}{c:Dm}(h:FinI n n 0 far c):EncS n far c:=by
 refine ⟨h.len,fun i hi=>?_⟩
 obtain ⟨row,h1,h2,h3⟩:=h.row i hi
 refine ⟨row,h1,h2,fun k hk=>?_⟩
 obtain ⟨v,h4,h5,h6⟩:=h3 k hk
 rw [h4]
 cases hc:c i k with
 | none=>rw [h6 (.inl hi) hc];rfl
 | some a=>rw [h5 a hc];rfl
theorem EncS.same {n:Nat}{d e:List (List Int)}{c:Dm}(h:EncS n d c)(k:EncS n e c):d=e:=by
 apply List.ext_getElem?
 intro i
 by_cases hi:i<n
 ·obtain ⟨r,h1,h2,h3⟩:=h.row i hi
  obtain ⟨s,k1,k2,k3⟩:=k.row i hi
  rw [h1,k1]
  congr 1
  apply List.ext_getElem?
  intro j
  by_cases hj:j<n
  ·rw [h3 j hj,k3 j hj]
  rw [List.getElem?_eq_none (by omega),List.getElem?_eq_none (by omega)]
 rw [List.getElem?_eq_none (by have:=h.len;omega),List.getElem?_eq_none (by have:=k.len;omega)]
theorem R1h {α:Type}{l:List (List α)}(h:∀ x∈l,x≠[]):allNe l=some l:=by
 unfold allNe
 have:l.any List.isEmpty=false:=by
  rw [List.any_eq_false]
  intro x hx
  have:=h x hx
  cases x with
  | nil=>exact absurd rfl this
  | cons _ _=>simp
 rw [this];rfl
structure MatF (n:Nat)(d:List (List Int)):Prop where
 len:d.length=n
 row:∀ r∈d,r.length=n∧∀ x∈r,-1000≤x∧x≤1000000000000
theorem S1y {p:A0b}(F:ProjF p):∃ d,V0m p=some d∧MatF p.Activities.length d∧(E0c p=some true→J0g p=some []→J0t p=some d):=by
 obtain ⟨n,hn⟩:∃ n,p.Activities.length=n:=⟨_,rfl⟩
 have hn0:0<n:=by have:=F.nact.1;omega
 have h6:n≤6:=by have:=F.nact.2;omega
 have a1:=M1t hn h6 p.Activities 0 (by omega)
 rw [Nat.zero_add,hn] at a1
 have a1':J0m p p.Activities 0 []=some ((List.range n).map fun j=>row0 j n):=a1
 obtain ⟨far,met,b1,b2⟩:=P1w hn h6 hn0 p.Activities 0 (List.replicate n []) (List.replicate n []) (by omega) ⟨by simp,by simp,fun j h _=>by omega,fun j _ hj=>by simp [hj]⟩
 have b1':G0n p p.Activities 0 (List.replicate n []) (List.replicate n [])=some (far,met):=b1
 have L0:LnkI p n [] c0:=by
  refine ⟨fun i hi=>⟨0,by simp [c0],Int.le_refl _⟩,fun i k a ha=>?_,fun i k hne hs=>?_,fun x hx=>by cases hx⟩
  ·unfold c0 at ha
   split at ha
   ·cases ha;omega
   cases ha
  simp [c0,hne] at hs
 obtain ⟨c1,d1,f1,m1,l1,l2,l3,l4,l5⟩:=F1w F hn hn0 p.Links [] c0 _ far met rfl (enc0 n) b2 L0
 have l1':J0q p p.Links 0 ((List.range n).map fun j=>row0 j n)=some d1:=l1
 have l2':G0q p p.Links 0 far met=some (f1,m1):=l2
 have hp6:(200:Int)*6 ^ n≤1000000000000:=by
  have:n=1∨n=2∨n=3∨n=4∨n=5∨n=6:=by omega
  rcases this with h | h | h | h | h | h <;> rw [h] <;> decide
 obtain ⟨c2,U2,d2,f2,m2,s1,s2,s3,s4,s5,s6⟩:=S1n hn h6 n 0 200 p.Activities F0 c1 d1 f1 m1 (by omega) hn (by unfold F0;omega) hp6 l3 l4 (N1o F l5)
 have s1':J0p p p.Activities 0 d1=some d2:=s1
 have s2':F0j p F0 0 f1 m1=some (f2,m2):=s2
 obtain ⟨f3,e1,e2⟩:=S1i (P:=(f2,m2)) hn h6 s4 n 0 F0 f2 (by omega) (by unfold F0;omega) ⟨s4.lf,fun j hj=>by
  obtain ⟨fr,mr,h1,_,h3,_,h5⟩:=s4.row j hj
  refine ⟨fr,h1,h3,fun q hq=>?_⟩
  obtain ⟨v,h6,h7⟩:=(h5 q hq).2
  exact ⟨v,h6,h7,fun hA=>by unfold ahead at hA;omega⟩⟩
 have e1':F0f p (f2,m2) F0 0 f2=some f3:=e1
 have he:=e2.enc.same s3
 refine ⟨d2,?_,⟨s3.len.trans hn.symm,fun r hr=>?_⟩,fun hP hC=>?_⟩
 ·simp only [V0m,a1',Option.bind_some,l1',s1']
 ·obtain ⟨i,hi,rfl⟩:=List.mem_iff_getElem.1 hr
  have hin:i<n:=by rw [← s3.len];exact hi
  obtain ⟨row,h1,h2,h3⟩:=s3.row i hin
  rw [List.getElem?_eq_getElem hi] at h1;cases h1
  refine ⟨by rw [h2,hn],fun x hx=>?_⟩
  obtain ⟨k,hk,rfl⟩:=List.mem_iff_getElem.1 hx
  have hkn:k<n:=by rw [← h2];exact hk
  have h4:=h3 k hkn
  rw [List.getElem?_eq_getElem hk] at h4
  cases hc:c2 i k with
  | none=>
   rw [hc] at h4
   have h4:=Option.some.inj h4
   have h5:d2[i][k] = -1000:=h4
   rw [h5];omega
  | some a=>
   rw [hc] at h4
   have h4:=Option.some.inj h4
   have h5:d2[i][k]=a:=h4
   rw [h5]
   have u:=s5.up i k a hc
   have lo:-1000≤a:=by
    by_cases e:i=k
    ·subst e
     obtain ⟨b,q1,q2⟩:=s5.diag i hin
     rw [hc] at q1;cases q1;omega
    obtain ⟨l,w1,w2⟩:=s5.ex i k hin hkn e (by rw [hc];rfl)
    obtain ⟨l2,w3,w4,w5⟩:=w1.short
    obtain ⟨b,q1,q2⟩:=s5.lo i k l2 hin hkn w3 w4 (fun x hx=>w2 x (w5 x hx))
    rw [hc] at q1;cases q1
    have:=T0m n l2 w4 (fun x hx=>w2 x (w5 x hx))
    omega
   omega
 ·have hne:allNe f3=some f3:=R1h fun x hx=>by
   rw [he] at hx
   obtain ⟨i,hi,rfl⟩:=List.mem_iff_getElem.1 hx
   obtain ⟨row,h1,h2,_⟩:=s3.row i (by rw [← s3.len];exact hi)
   rw [List.getElem?_eq_getElem hi] at h1;cases h1
   exact P0l h2 hn0
  unfold J0t
  rw [he] at hne e1'
  have hz:decide ((0:Int)<((([]:List Int).length:Nat):Int))=false:=rfl
  simp only [hP,hC,Option.bind_some,Bool.not_true,cond_false,hz,hn,Z0u _ n (by omega),b1',l2',s2',e1',hne]
def toL (p:A0b)(z:Int):Int:=((idxL p.Links z).map TLink.To).getD 0
theorem L1v (l:List Int)(n:Int):D0f l n=some (decide (n∈l)):=by
 have h:=X0f l n
 unfold S0f at h
 obtain ⟨v,h1,h2⟩:=bindE h
 rw [h1];exact h2
theorem G1u {l:List Int}(h:l.length≤1000):G0a l=some l:=by
 unfold G0a appL
 rw [if_pos (by simp;omega)];rfl
theorem X0p {α:Type}{l:List α}(x:α)(h:l.length≤1000):appL l [x]=some (l ++ [x]):=by
 unfold appL
 rw [if_pos (by simp;omega)]
theorem E1r {p:A0b}{y g:Int}(hg:P0c p y=some g):∀(xs:List Int)(i a s:Int),D0k p xs i a=some s→D0k p (xs ++ [y]) i a=some (W (s+g))
 | [],i,a,s,h=>by
  cases h
  simp only [List.nil_append,D0k,hg,Option.bind_some]
 | x::xs,i,a,s,h=>by
  rw [List.cons_append,D0k]
  rw [D0k] at h
  obtain ⟨v,h1,h2⟩:=bindE h
  rw [h1,Option.bind_some]
  exact E1r hg xs _ _ _ h2
theorem F1q {p:A0b}{xl:TLink}:∀(xs:List Int)(i:Int),(∀ z∈xs,∃ x,idxL p.Links z=some x)→L0b p xl xs i=some (if xl.To∈xs.map (toL p) then .inr [] else .inl ())
 | [],i,_=>rfl
 | z::xs,i,h=>by
  obtain ⟨x,hx⟩:=h z (List.mem_cons_self ..)
  have ht:toL p z=x.To:=by unfold toL;rw [hx];rfl
  rw [L0b,hx,Option.bind_some,F1q xs _ (fun y hy=>h y (List.mem_cons_of_mem _ hy)),List.map_cons,ht]
  by_cases e:x.To=xl.To
  ·rw [show (x.To == xl.To)=true by simp [e],cond_true,if_pos (by rw [e];exact List.mem_cons_self ..)]
  rw [show (x.To == xl.To)=false by simp [e],cond_false]
  congr 1
  by_cases e2:xl.To∈xs.map (toL p)
  ·rw [if_pos e2,if_pos (List.mem_cons_of_mem _ e2)]
  ·rw [if_neg e2,if_neg (fun h=>by
    rcases List.mem_cons.1 h with h | h
    ·exact e h.symm
    exact e2 h)]
theorem E1e {α:Type}(l:List α):decide (0<(l.length:Int)) = !l.isEmpty:=by cases l <;> simp <;> omega
theorem loop3 {p:A0b}{way vis:List Int}{sum most w0:Int}{xl:TLink}{fi:A0b→List Int→List Int→Int→Int→Option (List Int)}{fs:A0b→List Int→Int→Option (List Int)}
  (hw:way.length≤900) (hv:vis.length≤900) (F:ProjF p) (hrec:∀ z x g,idxL p.Links z=some x→P0c p z=some g→∃ v,fs p (way ++ [z]) most=some v∧fi p (way ++ [z]) (vis ++ [xl.To]) (W (sum+g)) most=some v) :
  ∀(xs:List TLink)(z:Int),0≤z→p.Links.drop z.toNat=xs→∃ v,G0l p way most fs w0 xl xs z=some v∧C0z p way vis sum most fi w0 xl xs z=some v
 | [],z,_,_=>⟨_,rfl,rfl⟩
 | x::xs,z,h0,hd=>by
  obtain ⟨hx,hd2⟩:=M0a h0 hd
  obtain ⟨v0,ih1,ih2⟩:=loop3 (w0:=w0) hw hv F hrec xs (z+1) (by omega) hd2
  obtain ⟨g,g1,g2,_⟩:=M1e F hx
  obtain ⟨v,r1,r2⟩:=hrec z x g hx g1
  have hap:appL ([]:List Int) way=some way:=by
   unfold appL
   rw [if_pos (by simp;omega)];rfl
  rw [G0l,C0z,ih1,ih2]
  simp only [hap,X0p z (by omega:way.length≤1000),X0p xl.To (by omega:vis.length≤1000),G1u (by omega:way.length≤1000),G1u (by omega:vis.length≤1000),g2,Option.bind_some,r1,r2,E1e]
  by_cases e1:x.From=xl.To
  ·have b1:(x.From == xl.To)=true:=by simp [e1]
   have b2:(x.From != xl.To)=false:=by simp [e1]
   by_cases e2:w0<z
   ·rw [b1,b2,decide_eq_true e2,decide_eq_false (by omega:¬ z≤w0)]
    simp only [cond_true,cond_false,Option.bind_some]
    cases hE:v.isEmpty
    ·exact ⟨_,rfl,rfl⟩
    exact ⟨_,rfl,rfl⟩
   rw [b2,decide_eq_false e2,decide_eq_true (by omega:z≤w0)]
   exact ⟨_,rfl,rfl⟩
  have b1:(x.From == xl.To)=false:=by simp [e1]
  have b2:(x.From != xl.To)=true:=by simp [e1]
  rw [b1,b2]
  by_cases e2:w0<z
  ·rw [decide_eq_true e2];exact ⟨_,rfl,rfl⟩
  rw [decide_eq_false e2];exact ⟨_,rfl,rfl⟩
theorem Q1g {p:A0b}(F:ProjF p):∀(r:Nat)(fuel:Nat)(ini:List Int)(wl:Int)(x0:TLink)(w0 sum:Int)(most:Nat),(ini ++ [wl]).length+r=most→most≤200→r<fuel→(∀ z∈ini ++ [wl],∃ x,idxL p.Links z=some x)→idxL (ini ++ [wl]) 0=some w0→idxL p.Links w0=some x0→D0k p (ini ++ [wl]) 0 0=some sum →
  ∃ v,K0y fuel p (ini ++ [wl]) most=some v∧E0w fuel p (ini ++ [wl]) (x0.From::ini.map (toL p)) sum most=some v∧(v=[]∨v.length=most)
 | r,fuel+1,ini,wl,x0,w0,sum,most,hr,hm,hf,hz,h0,hx0,hs=>by
  have hlen:(ini ++ [wl]).length=ini.length+1:=by simp
  obtain ⟨xl,hxl⟩:=hz wl (by simp)
  have hW:W (((ini ++ [wl]).length:Int) - 1)=(ini.length:Int):=by rw [hlen,W_of (by omega)];omega
  have hlast:idxL (ini ++ [wl]) (ini.length:Int)=some wl:=by rw [L0n,List.getElem?_append_right (Nat.le_refl _)];simp
  have hsub:subL (ini ++ [wl]) 0 (ini.length:Int)=some ini:=by
   unfold subL
   rw [if_pos (by simp;omega)]
   simp
  have htl:∀ y,idxL p.Links wl=some y→toL p wl=y.To:=fun y hy=>by unfold toL;rw [hy];rfl
  show ∃ v,R0e (K0y fuel) p (ini ++ [wl]) most=some v∧J0k (E0w fuel) p (ini ++ [wl]) (x0.From::ini.map (toL p)) sum most=some v∧(v=[]∨v.length=most)
  unfold R0e J0k
  simp only [h0,hx0,hW,hlast,hxl,Option.bind_some,hs,hsub,L1v,F1q ini 0 (fun z hzz=>hz z (List.mem_append.2 (.inl hzz))),G1u (by omega:(ini ++ [wl]).length≤1000),R0k (show ini ++ [wl]≠[] by simp)]
  by_cases e1:(ini ++ [wl]).length=most
  ·have b1:(((ini ++ [wl]).length:Int) == (most:Int))=true:=by rw [e1];exact beq_self_eq_true _
   rw [b1]
   by_cases e2:xl.To=x0.From
   ·rw [show (xl.To == x0.From)=true by simp [e2]]
    by_cases e3:0<sum
    ·rw [decide_eq_true e3];exact ⟨_,rfl,rfl,.inr e1⟩
    rw [decide_eq_false e3];exact ⟨_,rfl,rfl,.inl rfl⟩
   rw [show (xl.To == x0.From)=false by simp [e2]]
   exact ⟨_,rfl,rfl,.inl rfl⟩
  ·have b1:(((ini ++ [wl]).length:Int) == (most:Int))=false:=by
    rw [T0o];exact decide_eq_false (by omega)
   rw [b1]
   by_cases e2:xl.To=x0.From
   ·rw [show (xl.To == x0.From)=true by simp [e2],show decide (xl.To∈x0.From::ini.map (toL p))=true by simp [e2]]
    refine ⟨[],?_,rfl,.inl rfl⟩
    cases decide (0<sum) <;> rfl
   rw [show (xl.To == x0.From)=false by simp [e2]]
   by_cases e3:xl.To∈ini.map (toL p)
   ·rw [if_pos e3,show decide (xl.To∈x0.From::ini.map (toL p))=true from decide_eq_true (List.mem_cons_of_mem _ e3)]
    exact ⟨_,rfl,rfl,.inl rfl⟩
   ·rw [if_neg e3,show decide (xl.To∈x0.From::ini.map (toL p))=false from decide_eq_false (fun h=>by
     rcases List.mem_cons.1 h with h | h
     ·exact e2 h
     exact e3 h)]
    have hvis:x0.From::ini.map (toL p) ++ [xl.To]=x0.From::(ini ++ [wl]).map (toL p):=by
     rw [List.map_append,List.map_cons,List.map_nil,htl xl hxl];rfl
    have hrec:∀ z x g,idxL p.Links z=some x→P0c p z=some g→∃ v,K0y fuel p (ini ++ [wl] ++ [z]) most=some v∧E0w fuel p (ini ++ [wl] ++ [z]) (x0.From::ini.map (toL p) ++ [xl.To]) (W (sum+g)) most=some v∧(v=[]∨v.length=most):=fun z x g hx hg=>by
     have hi0:idxL (ini ++ [wl] ++ [z]) 0=some w0:=by
      have h2:(ini ++ [wl])[0]? = some w0:=by
       have:=(A0a h0).2
       simpa using this
      show idxL (ini ++ [wl] ++ [z]) ((0:Nat):Int)=some w0
      rw [L0n,List.getElem?_append_left (by rw [hlen];omega)]
      exact h2
     have hzz:∀ y∈ini ++ [wl] ++ [z],∃ x,idxL p.Links y=some x:=fun y hy=>by
      rcases List.mem_append.1 hy with h | h
      ·exact hz y h
      rw [List.mem_singleton.1 h];exact ⟨x,hx⟩
     rw [hvis]
     exact Q1g F (r - 1) fuel (ini ++ [wl]) z x0 w0 (W (sum+g)) most (by simp only [List.length_append,List.length_singleton] at hr e1 ⊢;omega) hm (by simp only [List.length_append,List.length_singleton] at hr e1;omega) hzz hi0 hx0 (E1r hg _ _ _ _ hs)
    obtain ⟨v,l1,l2⟩:=loop3 (w0:=w0) (xl:=xl) (vis:=x0.From::ini.map (toL p)) (sum:=sum) (most:=(most:Int)) (by rw [hlen];omega) (by simp;omega) F (fun z x g hx hg=>by
     obtain ⟨v,q1,q2,_⟩:=hrec z x g hx hg
     exact ⟨v,q1,q2⟩) p.Links 0 (Int.le_refl _) rfl
    have l3:∀(xs:List TLink)(z:Int),0≤z→p.Links.drop z.toNat=xs→∀ q,G0l p (ini ++ [wl]) most (K0y fuel) w0 xl xs z=some (.inr q)→q=[]∨q.length=most:=by
     intro xs
     induction xs with
     | nil=>intro z _ _ q h;cases h
     | cons x xs ih=>
      intro z hz0 hd q h
      obtain ⟨hx,hd2⟩:=M0a hz0 hd
      obtain ⟨g,g1,_⟩:=M1e F hx
      obtain ⟨v,q1,_,q3⟩:=hrec z x g hx g1
      have hap:appL ([]:List Int) (ini ++ [wl])=some (ini ++ [wl]):=by
       unfold appL
       rw [if_pos (by simp;omega)];rfl
      rw [G0l] at h
      simp only [hap,X0p z (by omega:(ini ++ [wl]).length≤1000),Option.bind_some,q1] at h
      obtain ⟨e,he,h⟩:=bindE h
      cases e
      ·simp only [cond_false] at h
       cases hc:decide (0<(v.length:Int))
       ·rw [hc] at h;exact ih (z+1) (by omega) hd2 q h
       rw [hc] at h;cases h;exact q3
      exact ih (z+1) (by omega) hd2 q h
    cases v with
    | inl u=>
     refine ⟨[],?_,?_,.inl rfl⟩
     ·simp only [A0m,Option.bind_some,Sum.elim_inl,l1,cond_false]
     simp only [A0m,Option.bind_some,Sum.elim_inl,l2,cond_false]
    | inr q=>
     refine ⟨q,?_,?_,l3 p.Links 0 (Int.le_refl _) rfl q l1⟩
     ·simp only [A0m,Option.bind_some,Sum.elim_inl,l1,cond_false,Sum.elim_inr]
     simp only [A0m,Option.bind_some,Sum.elim_inl,l2,cond_false,Sum.elim_inr]
 | _,0,_,_,_,_,_,_,_,_,h,_,_,_,_=>by omega
theorem S1m {p:A0b}(F:ProjF p)(most:Nat)(h1:1≤most)(hm:most≤200):∀(xs:List TLink)(z:Int),0≤z→p.Links.drop z.toNat=xs→∃ v,E0d p most xs z=some v∧E0b p most xs z=some v∧∀ q,v=.inr q→q.length≤200
 | [],z,_,_=>⟨_,rfl,rfl,fun q h=>by cases h⟩
 | x::xs,z,h0,hd=>by
  obtain ⟨hx,hd2⟩:=M0a h0 hd
  obtain ⟨v0,ih1,ih2,ih3⟩:=S1m F most h1 hm xs (z+1) (by omega) hd2
  obtain ⟨g,g1,g2,g3,g4⟩:=M1e F hx
  have hW:W (0+g)=g:=by rw [W_of (by omega)];omega
  obtain ⟨v,r1,r2,r3⟩:=Q1g F (most - 1) F0 [] z x z g most (by simp;omega) hm (by unfold F0;omega) (fun y hy=>by
   rw [List.mem_singleton.1 hy];exact ⟨x,hx⟩) rfl hx (by
   show D0k p [z] 0 0=some g
   simp only [D0k,g1,Option.bind_some,hW])
  have r1':E1n p [z] most=some v:=r1
  have r2':R0w p [z] [x.From] g most=some v:=r2
  rw [E0d,E0b,ih1,ih2]
  simp only [r1',r2',g2,Option.bind_some,E1e]
  cases hE:v.isEmpty
  ·exact ⟨_,rfl,rfl,fun q h=>by
    cases h
    rcases r3 with h | h
    ·rw [h];simp
    omega⟩
  exact ⟨_,rfl,rfl,ih3⟩
theorem S1j {p:A0b}(F:ProjF p):∀(r:Nat)(fuel:Nat)(most:Nat),1≤most→most+r=200→r<fuel→∃ v,C0l p fuel most=some v∧C0m p fuel most=some v∧∀ q,v=.inr q→q.length≤200
 | 0,fuel+1,most,h1,hr,_=>by
  have h6:=F.nact.2
  refine ⟨.inl (),?_,?_,fun q h=>by cases h⟩
  ·rw [C0l,decide_eq_false (by omega)];rfl
  rw [C0m,decide_eq_false (by omega)];rfl
 | r+1,fuel+1,most,h1,hr,hf=>by
  obtain ⟨v0,ih1,ih2,ih3⟩:=S1j F r fuel (most+1) (by omega) (by omega) (by omega)
  obtain ⟨v,a1,a2,a3⟩:=S1m F most h1 (by omega) p.Links 0 (Int.le_refl _) rfl
  rw [C0l,C0m,W_nat (by omega),ih1,ih2,a1,a2]
  cases decide ((most:Int)≤(p.Activities.length:Int))
  ·exact ⟨_,rfl,rfl,fun q h=>by cases h⟩
  cases v with
  | inl u=>exact ⟨_,rfl,rfl,ih3⟩
  | inr q=>exact ⟨_,rfl,rfl,fun q' h=>by cases h;exact a3 q rfl⟩
 | _,0,_,_,_,h=>by omega
theorem T1l {p:A0b}(hs:∀ x∈p.Activities,x.Name.size≤9223372036854775807):∃ v,L0d p=some v∧J0g p=some v∧v.length≤1048576:=by
 obtain ⟨b,hb,hF⟩:=G0m p hs
 unfold L0d J0g
 rw [F0r,hb]
 cases b with
 | false=>exact ⟨_,rfl,rfl,by simp⟩
 | true=>
  obtain ⟨v,h1,h2,h3⟩:=S1j (hF rfl) 198 F0 2 (by omega) (by omega) (by unfold F0;omega)
  have h1':C0l p F0 2=some v:=h1
  have h2':C0m p F0 2=some v:=h2
  simp only [Option.bind_some,Bool.not_true,cond_false,h1',h2',A0m]
  cases v with
  | inl u=>exact ⟨_,rfl,rfl,by simp⟩
  | inr q=>exact ⟨_,rfl,rfl,by have:=h3 q rfl;omega⟩
theorem H1m {p:A0b}(hs:∀ x∈p.Activities,x.Name.size≤9223372036854775807):∃ d,K0r p=some d∧J0t p=some d∧(d=[]∨(ProjF p∧B0w p=some true∧MatF p.Activities.length d)):=by
 obtain ⟨b,hb,hF⟩:=G0m p hs
 obtain ⟨v,h1,h2,_⟩:=T1l hs
 cases b with
 | false=>
  refine ⟨[],?_,?_,.inl rfl⟩
  ·simp only [K0r,hb,Option.bind_some,Bool.not_false,cond_true]
  simp only [J0t,F0r,hb,Option.bind_some,Bool.not_false,cond_true]
 | true=>
  have F:=hF rfl
  cases v with
  | cons y ys=>
   have hc:decide (0<(((y::ys).length:Nat):Int))=true:=decide_eq_true (by simp)
   refine ⟨[],?_,?_,.inl rfl⟩
   ·simp only [K0r,hb,Option.bind_some,Bool.not_true,cond_false,h1,hc,cond_true]
   simp only [J0t,F0r,hb,Option.bind_some,Bool.not_true,cond_false,h2,hc,cond_true]
  | nil=>
   obtain ⟨d,d1,d2,d3⟩:=S1y F
   refine ⟨d,?_,d3 (by rw [F0r];exact hb) h2,.inr ⟨F,hb,d2⟩⟩
   have hz:decide ((0:Int)<((([]:List Int).length:Nat):Int))=false:=rfl
   simp only [K0r,hb,Option.bind_some,Bool.not_true,cond_false,h1,hz,d1]
def colM (rows:List (List Int))(k:Nat):Int:=rows.foldl (fun m r=>max m (r.getD k 0)) 0
theorem J1x (rows:List (List Int))(r:List Int)(k:Nat):colM (rows ++ [r]) k=max (colM rows k) (r.getD k 0):=by simp [colM]
structure SqF (n:Nat)(d:List (List Int)):Prop where
 len:d.length=n
 row:∀ r∈d,r.length=n
theorem SqF.at {n:Nat}{d:List (List Int)}(h:SqF n d){i:Nat}(hi:i<n):∃ row,d[i]? = some row∧row.length=n∧d.take (i+1)=d.take i ++ [row]∧∀ k,k<n→row[k]? = some (row.getD k 0):=by
 have hl:i<d.length:=by rw [h.len];exact hi
 refine ⟨d[i],List.getElem?_eq_getElem hl,h.row _ (List.getElem_mem hl),by rw [List.take_add_one,List.getElem?_eq_getElem hl];rfl,fun k hk=>?_⟩
 have hk2:k<d[i].length:=by rw [h.row _ (List.getElem_mem hl)];exact hk
 rw [List.getElem?_eq_getElem hk2,List.getD_eq_getElem?_getD,List.getElem?_eq_getElem hk2];rfl
theorem Q1k {n:Nat}{d:List (List Int)}(h:SqF n d)(hn:n≤100){k:Nat}(hk:k<n):∀(r i fuel:Nat),i+r=n→r<fuel→C0d d k fuel (colM (d.take i) k) i=some (colM d k)
 | 0,i,fuel+1,hi,_=>by
  rw [C0d,h.len,decide_eq_false (by omega),cond_false,List.take_of_length_le (by rw [h.len];omega)]
 | r+1,i,fuel+1,hi,hf=>by
  obtain ⟨row,h1,h2,h3,h4⟩:=h.at (show i<n by omega)
  rw [C0d,h.len,decide_eq_true (by omega),W_nat (by omega)]
  simp only [cond_true,L0n,h1,Option.bind_some,h4 k hk,L0c]
  rw [← J1x,← h3]
  exact Q1k h hn hk r (i+1) fuel (by omega) (by omega)
 | _,_,0,_,h=>by omega
theorem Q1b {n:Nat}{d:List (List Int)}(h:SqF n d)(hn:n≤100):∀(r k fuel:Nat),k+r=n→r<fuel→C0c d fuel k ((List.range k).map (colM d))=some ((List.range n).map (colM d))
 | 0,k,fuel+1,hk,_=>by
  rw [C0c,h.len,decide_eq_false (by omega),cond_false]
  have:k=n:=by omega
  rw [this]
 | r+1,k,fuel+1,hk,hf=>by
  have h2:=Q1k h hn (show k<n by omega) n 0 F0 (by omega) (by unfold F0;omega)
  have h2':C0d d (k:Int) F0 0 0=some (colM d k):=h2
  have hr:(List.range (k+1)).map (colM d)=(List.range k).map (colM d) ++ [colM d k]:=by simp [List.range_succ]
  rw [C0c,h.len,decide_eq_true (by omega),W_nat (by omega)]
  simp only [cond_true,h2',Option.bind_some,X0p (colM d k) (show ((List.range k).map (colM d)).length≤1000 by simp;omega)]
  rw [← hr]
  exact Q1b h hn r (k+1) fuel (by omega) (by omega)
 | _,_,0,_,h=>by omega
theorem P1g {n k:Nat}(hk:k<n)(g:Nat→Int)(v:Int):((List.range n).map g).set k v=(List.range n).map fun q=>if q=k then v else g q:=by
 apply List.ext_getElem?
 intro j
 rw [J0s (by simpa using hk),List.getElem?_map,List.getElem?_map]
 by_cases hj:j<n
 ·rw [List.getElem?_range hj]
  by_cases e:k=j
  ·subst e;simp
  rw [if_neg e];simp [Ne.symm e]
 have:(List.range n)[j]? = none:=List.getElem?_eq_none (by simp;omega)
 rw [this,if_neg (by omega)];rfl
theorem Q1x {n:Nat}{row:List Int}(hl:row.length=n)(hn:n≤100)(f:Nat→Int):∀(r k fuel:Nat),k+r=n→r<fuel→C0e row fuel k ((List.range n).map fun q=>if q<k then max (f q) (row.getD q 0) else f q)=some ((List.range n).map fun q=>max (f q) (row.getD q 0))
 | 0,k,fuel+1,hk,_=>by
  rw [C0e,hl,decide_eq_false (by omega),cond_false]
  congr 1
  refine List.map_congr_left fun q hq=>?_
  have:=List.mem_range.1 hq
  rw [if_pos (by omega)]
 | r+1,k,fuel+1,hk,hf=>by
  have hkn:k<n:=by omega
  have h1:row[k]? = some (row.getD k 0):=by
   have hk2:k<row.length:=by omega
   rw [List.getElem?_eq_getElem hk2,List.getD_eq_getElem?_getD,List.getElem?_eq_getElem hk2];rfl
  have h2:((List.range n).map fun q=>if q<k then max (f q) (row.getD q 0) else f q)[k]? = some (f k):=by
   rw [List.getElem?_map,List.getElem?_range hkn];simp
  rw [C0e,hl,decide_eq_true (by omega),W_nat (by omega)]
  simp only [cond_true,L0n,P0e,h1,h2,Option.bind_some]
  rw [P1g hkn]
  have hq:((List.range n).map fun q=>if q=k then max (f k) (row.getD k 0) else if q<k then max (f q) (row.getD q 0) else f q)=(List.range n).map fun q=>if q<k+1 then max (f q) (row.getD q 0) else f q:=by
   refine List.map_congr_left fun q hq=>?_
   by_cases e:q=k
   ·subst e;rw [if_pos rfl,if_pos (by omega)]
   rw [if_neg e]
   by_cases e2:q<k
   ·rw [if_pos e2,if_pos (by omega)]
   rw [if_neg e2,if_neg (by omega)]
  rw [hq]
  exact Q1x hl hn f r (k+1) fuel (by omega) (by omega)
 | _,_,0,_,h=>by omega
theorem Q1p {n:Nat}{d:List (List Int)}(h:SqF n d)(hn:n≤100):∀(r i fuel:Nat),i+r=n→r<fuel→C0a d fuel i ((List.range n).map (colM (d.take i)))=some ((List.range n).map (colM d))
 | 0,i,fuel+1,hk,_=>by
  rw [C0a,h.len,decide_eq_false (by omega),cond_false,List.take_of_length_le (by rw [h.len];omega)]
 | r+1,i,fuel+1,hk,hf=>by
  obtain ⟨row,h1,h2,h3,h4⟩:=h.at (show i<n by omega)
  have h5:=Q1x h2 hn (colM (d.take i)) n 0 F0 (by omega) (by unfold F0;omega)
  have h5':C0e row F0 0 ((List.range n).map (colM (d.take i)))=some ((List.range n).map fun q=>max (colM (d.take i) q) (row.getD q 0)):=by
   rw [← h5]
   congr 1
  have h6:((List.range n).map fun q=>max (colM (d.take i) q) (row.getD q 0))=(List.range n).map (colM (d.take (i+1))):=by
   refine List.map_congr_left fun q _=>?_
   rw [h3,J1x]
  rw [C0a,h.len,decide_eq_true (by omega),W_nat (by omega)]
  simp only [cond_true,L0n,h1,Option.bind_some,h5',h6]
  exact Q1p h hn r (i+1) fuel (by omega) (by omega)
 | _,_,0,_,h=>by omega
theorem Q1a {p:A0b}{d:List (List Int)}{n:Nat}(h1:K0r p=some d)(h2:J0t p=some d)(h:SqF n d)(hn:n≤100):K0j p=some ((List.range n).map (colM d))∧K0c p=some ((List.range n).map (colM d)):=by
 have a1:=Q1b h hn n 0 F0 (by omega) (by unfold F0;omega)
 have a1':C0c d F0 0 []=some ((List.range n).map (colM d)):=a1
 have a2:=Q1p h hn n 0 F0 (by omega) (by unfold F0;omega)
 have a3:(List.range n).map (colM (d.take 0))=List.replicate n 0:=by
  rw [List.take_zero]
  apply List.ext_getElem?
  intro j
  rw [List.getElem?_map,List.getElem?_replicate]
  by_cases hj:j<n
  ·rw [List.getElem?_range hj,if_pos hj];rfl
  have:(List.range n)[j]? = none:=List.getElem?_eq_none (by simp;omega)
  rw [this,if_neg hj];rfl
 rw [a3] at a2
 have a2':C0a d F0 0 (List.replicate n 0)=some ((List.range n).map (colM d)):=a2
 constructor
 ·simp only [K0j,h1,Option.bind_some,a1']
 simp only [K0c,h2,Option.bind_some,h.len,Z0u _ n (by omega),a2']
theorem R1u {p:A0b}(F:ProjF p){z:Int}(h0:0≤z)(h:z<p.Activities.length):∃ v,S0z p z=some v∧H0n p z=some v∧0≤v∧v≤12:=by
 obtain ⟨x,hx,_⟩:=K0g h0 h
 obtain ⟨v,h1,h2,h3,h4,h5⟩:=K1f F hx
 exact ⟨v,by simp only [S0z,hx,Option.bind_some,h1,h2],by simp only [H0n,hx,Option.bind_some,K0m,h1,h3],h4,h5⟩
theorem P1f {p:A0b}(F:ProjF p):∀(xs:List Int)(z a:Int),0≤z→z+xs.length≤p.Activities.length→∃ v,H0t p xs z a=some v∧J0b p xs z a=some v
 | [],z,a,_,_=>⟨_,rfl,rfl⟩
 | x::xs,z,a,h0,h=>by
  simp only [List.length_cons] at h
  obtain ⟨v,h1,h2,_⟩:=R1u F h0 (show z<p.Activities.length by omega)
  obtain ⟨w,h3,h4⟩:=P1f F xs (z+1) (max a (W (x+v))) (by omega) (by omega)
  exact ⟨w,by simp only [H0t,h1,Option.bind_some,L0c,h3],by simp only [J0b,h2,Option.bind_some,h4]⟩
theorem U0z {p:A0b}(hs:∀ x∈p.Activities,x.Name.size≤9223372036854775807):∃ v,L0i p=some v∧K0z p=some v:=by
 obtain ⟨d,d1,d2,d3⟩:=H1m hs
 rcases d3 with rfl | ⟨F,_,d3⟩
 ·obtain ⟨e1,e2⟩:=Q1a (n:=0) d1 d2 ⟨rfl,fun r hr=>by cases hr⟩ (by omega)
  exact ⟨0,by simp only [L0i,e1,Option.bind_some];rfl,by simp only [K0z,e2,Option.bind_some];rfl⟩
 obtain ⟨e1,e2⟩:=Q1a d1 d2 ⟨d3.len,fun r hr=>(d3.row r hr).1⟩ (by have:=F.nact.2;omega)
 obtain ⟨v,h1,h2⟩:=P1f F ((List.range p.Activities.length).map (colM d)) 0 0 (Int.le_refl _) (by simp)
 exact ⟨v,by simp only [L0i,e1,Option.bind_some,h1],by simp only [K0z,e2,Option.bind_some,h2]⟩
theorem P1e {k:Int}:∀(xs:List A0f)(z a:Int),(∀ x∈xs,x.Modes.length≤200)→∃ v,J0a k xs z a=some v∧H0z k xs z a=some v
 | [],z,a,_=>⟨_,rfl,rfl⟩
 | x::xs,z,a,h=>by
  have hx:=h x (List.mem_cons_self ..)
  obtain ⟨g,hg⟩:∃ g,R0y x (M0c x.Modes.length) k=some g:=⟨_,by simp only [R0y,Q0m,Option.bind_some];rfl⟩
  obtain ⟨v,h1,h2⟩:=P1e (k:=k) xs (z+1) (W (a+g)) (fun y hy=>h y (List.mem_cons_of_mem _ hy))
  exact ⟨v,by simp only [J0a,K0h x hx,Option.bind_some,hg,h1],by simp only [H0z,K0m,K0h x hx,Option.bind_some,N1z x _ k (by omega:x.Modes.length≤1048576),hg,h2]⟩
theorem T1n {p:A0b}(F:ProjF p)(hp:B0w p=some true){z t:Int}{x:A0q}(hx:idxL p.Resources z=some x):P0m p z 0 t=F0n x.Steps 0 t:=by
 have h1:=C0u hx
 have h0:=(A0a hx).1
 have h3:=F.nres
 have hin:inR z 0 (W ((p.Resources.length:Int) - 1))=true:=by rw [G0b,W_of (by omega)];omega
 obtain ⟨v,hv⟩:=S0b x.Steps 0 t
 simp only [P0m,hp,A0v,hin,Option.bind_some,Bool.not_true,cond_false,hx,hv]
theorem M1b {p:A0b}(F:ProjF p)(hp:B0w p=some true)(t:Int):∀(xs:List A0q)(z:Int)(e:Bool),0≤z→p.Resources.drop z.toNat=xs→∃ v,H0s p t xs z e=some v∧H0p p t xs z e=some v
 | [],z,e,_,_=>⟨_,rfl,rfl⟩
 | x::xs,z,e,h0,hd=>by
  obtain ⟨hx,hd2⟩:=M0a h0 hd
  obtain ⟨g,g1,g2⟩:=P1e (k:=z) p.Activities 0 0 (fun y hy=>by have:=(F.acts y hy).2.1;omega)
  obtain ⟨c,hc⟩:=S0b x.Steps 0 t
  rw [H0s,H0p]
  simp only [g1,g2,T1n F hp hx,B1y,hc,Option.bind_some]
  cases e
  ·exact M1b F hp t xs (z+1) _ (by omega) hd2
  exact M1b F hp t xs (z+1) _ (by omega) hd2
theorem Q1f {p:A0b}(F:ProjF p)(hp:B0w p=some true):∀(r fuel:Nat)(t:Int),1≤t→61 - t≤r→r<fuel→∃ v,J0e p fuel t=some v∧H0q p fuel t=some v
 | r,fuel+1,t,h1,hr,hf=>by
  rw [J0e,H0q]
  by_cases ht:t≤60
  ·rw [decide_eq_true ht]
   obtain ⟨b,b1,b2⟩:=M1b F hp t p.Resources 0 true (Int.le_refl _) rfl
   have hW:W (t+1)=t+1:=W_of (by omega)
   simp only [b1,b2,hW,cond_true,Option.bind_some]
   cases b
   ·exact Q1f F hp (r - 1) fuel (t+1) (by omega) (by omega) (by omega)
   exact ⟨_,rfl,rfl⟩
  rw [decide_eq_false ht]
  exact ⟨_,rfl,rfl⟩
 | _,0,_,_,_,h=>by omega
theorem A1o {p:A0b}(hs:∀ x∈p.Activities,x.Name.size≤9223372036854775807):∃ v,N0u p=some v∧N0t p=some v:=by
 obtain ⟨b,hb,hF⟩:=G0m p hs
 obtain ⟨v,v1,v2⟩:=U0z hs
 simp only [N0u,N0t,F0r,hb,v1,v2,L0c,Option.bind_some]
 cases b with
 | false=>exact ⟨_,rfl,rfl⟩
 | true=>
  have e:max v 1=max 1 v:=by omega
  have h1:1≤max 1 v:=by omega
  obtain ⟨w,w1,w2⟩:=Q1f (hF rfl) hb 60 F0 (max 1 v) h1 (by omega) (by unfold F0;omega)
  rw [e]
  simp only [Bool.not_true,cond_false,w1,w2,A0m,Option.bind_some]
  cases w with
  | inl u=>exact ⟨_,rfl,rfl⟩
  | inr q=>exact ⟨_,rfl,rfl⟩
def insB (K:Int→Int)(z:Int):List Int→List Int→List Int
 | [],T=>z::T
 | y::R,T=>if K z<K y then insB K z R (y::T) else R.reverse ++ y::z::T
def posB (K:Int→Int)(z:Int):List Int→Nat
 | []=>0
 | y::R=>if K z<K y then posB K z R else R.length+1
theorem M1n (K:Int→Int)(z:Int):∀(R T U:List Int),insB K z R (T ++ U)=insB K z R T ++ U
 | [],T,U=>rfl
 | y::R,T,U=>by
  unfold insB
  split
  ·exact M1n K z R (y::T) U
  simp
theorem R1m (K:Int→Int)(z:Int)(R T:List Int):insB K z R T=insB K z R [] ++ T:=by
 have:=M1n K z R [] T
 simpa using this
theorem Y0z (K:Int→Int)(z:Int):∀(R T:List Int),(insB K z R T).Perm (z::(R ++ T))
 | [],T=>List.Perm.refl _
 | y::R,T=>by
  unfold insB
  split
  ·refine (Y0z K z R (y::T)).trans (List.Perm.cons z ?_)
   exact List.perm_middle
  refine (List.perm_middle (a:=y)).trans ?_
  refine (List.Perm.cons y (List.perm_middle (a:=z))).trans ?_
  refine (List.Perm.swap z y _).trans (List.Perm.cons z ?_)
  exact List.Perm.cons y (List.Perm.append_right T (List.reverse_perm R))
theorem P1r (K:Int→Int)(z:Int):∀ R:List Int,posB K z R≤R.length
 | []=>Nat.le_refl _
 | y::R=>by
  unfold posB
  split
  ·have:=P1r K z R;simp;omega
  simp
theorem M1o (K:Int→Int)(z:Int):∀(R T:List Int),(R.reverse ++ T).take (posB K z R) ++ z::(R.reverse ++ T).drop (posB K z R)=insB K z R T
 | [],T=>rfl
 | y::R,T=>by
  unfold posB insB
  have e:(y::R).reverse ++ T=R.reverse ++ y::T:=by simp
  rw [e]
  split
  ·exact M1o K z R (y::T)
  have e2:R.reverse ++ y::T=(R.reverse ++ [y]) ++ T:=by simp
  rw [e2,List.take_left' (by simp),List.drop_left' (by simp)]
  simp
def W0g (K:Int→Int)(P S:List Int):List Int:=S.foldl (fun a z=>insB K z a.reverse []) P
theorem C1g (K:Int→Int):∀(S P:List Int),(W0g K P S).Perm (P ++ S)
 | [],P=>by simp [W0g]
 | z::S,P=>by
  have h1:=C1g K S (insB K z P.reverse [])
  refine h1.trans ?_
  have h2:=Y0z K z P.reverse []
  rw [List.append_nil] at h2
  refine (List.Perm.append_right S (h2.trans (List.Perm.cons z (List.reverse_perm P)))).trans ?_
  exact List.perm_middle.symm
theorem G1j {α:Type}(A:List α)(x:α)(B:List α){i:Int}(hi:i=A.length):idxL (A ++ x::B) i=some x:=by
 subst hi
 unfold idxL
 rw [if_pos (by omega)]
 simp
theorem P1s {α:Type}(A:List α)(x y:α)(B:List α){i:Int}(hi:i=A.length):setL (A ++ x::B) i y=A ++ y::B:=by
 subst hi
 unfold setL
 simp
theorem S1b {g:Int→Int→Option Int}{K:Int→Int}{V:Int→Prop}(hg:∀ x y,V x→V y→∃ c,g x y=some c∧(c<0 ↔ K x<K y))(z:Int)(hz:V z) :
  ∀(R T:List Int)(fuel:Nat),(∀ x∈R,V x)→R.length<1000→R.length<fuel→A0w 0 g fuel (R.length:Int) (R.reverse ++ z::T)=some (insB K z R T)
 | [],T,0,_,_,h=>by simp at h
 | [],T,fuel+1,_,_,_=>by
  simp only [A0w,List.length_nil]
  rw [show decide ((0:Int)<((0:Nat):Int))=false from rfl]
  rfl
 | y::R,T,0,_,_,h=>by simp at h
 | y::R,T,fuel+1,hV,hn,hf=>by
  simp only [List.length_cons] at hn hf
  have ew:W ((((y::R).length:Nat):Int) - 1)=(R.length:Int):=by rw [W_of ⟨by simp only [List.length_cons];omega,by simp only [List.length_cons];omega⟩];simp
  have el:(y::R).reverse ++ z::T=(R.reverse ++ [y]) ++ z::T:=by simp
  have el2:(y::R).reverse ++ z::T=R.reverse ++ y::(z::T):=by simp
  have i1:idxL ((y::R).reverse ++ z::T) (((y::R).length:Nat):Int)=some z:=by rw [el];exact G1j _ _ _ (by simp)
  have i2:idxL ((y::R).reverse ++ z::T) (R.length:Int)=some y:=by rw [el2];exact G1j _ _ _ (by simp)
  have s1:setL ((y::R).reverse ++ z::T) (((y::R).length:Nat):Int) y=R.reverse ++ y::(y::T):=by rw [el,P1s _ _ _ _ (by simp)];simp
  have i3:idxL (R.reverse ++ y::(y::T)) (R.length:Int)=some y:=G1j _ _ _ (by simp)
  have s2:setL (R.reverse ++ y::(y::T)) (R.length:Int) z=R.reverse ++ z::(y::T):=P1s _ _ _ _ (by simp)
  obtain ⟨c,hc,hk⟩:=hg z y hz (hV y (List.mem_cons_self ..))
  simp only [A0w,ew,i1,i2,hc,Option.bind_some]
  rw [show decide ((0:Int)<(((y::R).length:Nat):Int))=true from decide_eq_true (by simp only [List.length_cons];omega)]
  simp only [cond_true,Option.bind_some,s1,i3,s2]
  unfold insB
  by_cases h:K z<K y
  ·rw [if_pos h,decide_eq_true (hk.2 h),cond_true]
   exact S1b hg z hz R (y::T) fuel (fun x hx=>hV x (List.mem_cons_of_mem _ hx)) (by omega) (by omega)
  rw [if_neg h,decide_eq_false (fun e=>h (hk.1 e)),cond_false,el2]
theorem S1d {g:Int→Int→Option Int}{K:Int→Int}{V:Int→Prop}(hg:∀ x y,V x→V y→∃ c,g x y=some c∧(c<0 ↔ K x<K y))(n:Nat)(hn:n<1000) :
  ∀(S P:List Int)(fuel:Nat),(∀ x∈P ++ S,V x)→P.length+S.length=n→S.length<fuel→A0s 0 n g fuel (P.length:Int) (P ++ S)=some (W0g K P S)
 | [],P,0,_,_,h=>by simp at h
 | [],P,fuel+1,_,hl,_=>by
  simp only [A0s]
  rw [show decide ((P.length:Int)<(n:Int))=false from decide_eq_false (by simp at hl;omega)]
  simp [W0g]
 | z::S,P,0,_,_,h=>by simp at h
 | z::S,P,fuel+1,hV,hl,hf=>by
  simp only [List.length_cons] at hl hf
  simp only [A0s]
  rw [show decide ((P.length:Int)<(n:Int))=true from decide_eq_true (by omega),cond_true]
  have h1:=S1b hg z (hV z (by simp)) P.reverse S F0 (fun x hx=>hV x (by simp at hx;simp [hx])) (by simp;omega) (by have:=F0_gt;simp;omega)
  rw [List.length_reverse,List.reverse_reverse] at h1
  rw [h1,Option.bind_some,R1m]
  have hp:=Y0z K z P.reverse []
  have hlen:(insB K z P.reverse []).length=P.length+1:=by rw [hp.length_eq];simp
  have ew:W ((P.length:Int)+1)=((insB K z P.reverse []).length:Int):=by rw [W_of ⟨by omega,by omega⟩,hlen];simp
  rw [ew]
  exact S1d hg n hn S _ fuel (fun x hx=>by
   rcases List.mem_append.1 hx with h | h
   ·have:=hp.mem_iff.1 h
    simp at this
    exact hV x (by simp;rcases this with e | e <;> simp [e])
   exact hV x (by simp [h])) (by omega) (by omega)
theorem N1u {g:Int→Int→Option Int}{K:Int→Int}{V:Int→Prop}(hg:∀ x y,V x→V y→∃ c,g x y=some c∧(c<0 ↔ K x<K y))(l:List Int)(hV:∀ x∈l,V x)(hl:l.length<20):D0b l g=some (W0g K [] l):=by
 have hF:=F0_gt
 obtain ⟨f,hf⟩:∃ f,F0=f+1:=⟨F0 - 1,by omega⟩
 have e1:B0i (l.length:Int) g F0 0 20 l=some (0,l):=by
  rw [hf,B0i,show decide ((20:Int)≤(l.length:Int))=false from decide_eq_false (by omega)];rfl
 have e2:B0h l 0 (l.length:Int) g=some (W0g K [] l):=by
  unfold B0h
  rw [show W (0+1)=1 from by rw [W_of ⟨by omega,by omega⟩];rfl]
  cases l with
  | nil=>
   rw [hf,A0s]
   rfl
  | cons x S=>
   have:=S1d hg (x::S).length (by simp at hl ⊢;omega) S [x] F0 (by simpa using hV) (by simp;omega) (by simp at hl;omega)
   have e:((List.length [x]:Nat):Int)=1:=rfl
   rw [e] at this
   rw [show (x::S).length=([x] ++ S).length from rfl] at this
   show (A0s 0 ((([x] ++ S).length:Nat):Int) g F0 1 ([x] ++ S)).bind _=_
   rw [this]
   rfl
 have e3:B0c (l.length:Int) g F0 20 (W0g K [] l)=some (W0g K [] l):=by
  rw [hf,B0c,show decide ((20:Int)<(l.length:Int))=false from decide_eq_false (by omega)];rfl
 simp only [D0b,F0w,e1,e2,e3,Option.bind_some]
theorem W0x {α:Type}{a b:List α}(h:a.length+b.length≤1099511627776):appL a b=some (a ++ b):=by
 unfold appL;rw [if_pos h]
theorem Q1j {α:Type}(l:List α)(lo hi:Nat)(h1:lo≤hi)(h2:hi≤l.length):subL l (lo:Int) (hi:Int)=some ((l.take hi).drop lo):=by
 unfold subL;rw [if_pos ⟨by omega,by omega,by omega⟩];simp
def idxs {α:Type}:List α→Int→List Int
 | [],_=>[]
 | _::xs,z=>z::idxs xs (z+1)
theorem F1o {α:Type}:∀(l:List α)(k:Nat),idxs l (k:Int)=(List.range' k l.length).map fun (i:Nat)=>(i:Int)
 | [],k=>rfl
 | x::xs,k=>by
  have:=F1o xs (k+1)
  simp only [idxs,List.length_cons,List.range'_succ,List.map_cons]
  rw [show (k:Int)+1=((k+1:Nat):Int) by omega,this]
theorem L1g {α:Type}(l:List α):M0c l.length=idxs l 0:=by
 have:=F1o l 0
 rw [show ((0:Nat):Int)=0 from rfl] at this
 rw [this]
 unfold M0c
 rw [List.range_eq_range']
theorem G1q {α:Type}:∀(l:List α)(z:Int),0≤z→∀ a∈idxs l z,z≤a∧a<z+l.length
 | [],z,_,a,h=>by cases h
 | x::xs,z,hz,a,h=>by
  simp only [idxs,List.mem_cons] at h
  rcases h with rfl | h
  ·simp;omega
  have:=G1q xs (z+1) (by omega) a h
  simp;omega
theorem H1g {α:Type}:∀(l:List α)(z:Int),(idxs l z).length=l.length
 | [],z=>rfl
 | x::xs,z=>by simp [idxs,H1g xs]
theorem K1n {g:Int→Option Bool}{q:Int→Bool}:∀(l:List Int)(z:Int)(a:List Int),(∀ x∈l,g x=some (q x))→a.length+l.length≤1000→N0l g l z a=some (a ++ l.filter q)
 | [],z,a,_,_=>by simp [N0l]
 | x::xs,z,a,h,hl=>by
  simp only [List.length_cons] at hl
  simp only [N0l,h x (List.mem_cons_self ..),Option.bind_some]
  cases hq:q x with
  | true=>
   rw [cond_true,W0x (by simp;omega),Option.bind_some,K1n xs (z+1) _ (fun y hy=>h y (List.mem_cons_of_mem _ hy)) (by simp;omega)]
   simp [List.filter_cons,hq]
  | false=>
   rw [cond_false,K1n xs (z+1) _ (fun y hy=>h y (List.mem_cons_of_mem _ hy)) (by omega)]
   simp [List.filter_cons,hq]
theorem M1p {b:A0r}{K:Int→Int}{z:Int}(hz:idxL b.MinStart z=some (K z)):∀(R T:List Int)(fuel:Nat),(∀ x∈R,idxL b.MinStart x=some (K x))→R.length<1000→R.length<fuel→D0o b (R.reverse ++ T) z fuel (R.length:Int)=some (posB K z R:Int)
 | [],T,0,_,_,h=>by simp at h
 | [],T,fuel+1,_,_,_=>by
  simp only [D0o,List.length_nil]
  rw [show decide ((0:Int)<((0:Nat):Int))=false from rfl]
  rfl
 | y::R,T,0,_,_,h=>by simp at h
 | y::R,T,fuel+1,hV,hn,hf=>by
  simp only [List.length_cons] at hn hf
  have ew:W ((((y::R).length:Nat):Int) - 1)=(R.length:Int):=by rw [W_of ⟨by simp only [List.length_cons];omega,by simp only [List.length_cons];omega⟩];simp
  have el2:(y::R).reverse ++ T=R.reverse ++ y::T:=by simp
  have i2:idxL (R.reverse ++ y::T) (R.length:Int)=some y:=G1j _ _ _ (by simp)
  rw [el2]
  simp only [D0o,ew,i2,hV y (List.mem_cons_self ..),hz,Option.bind_some]
  rw [show decide ((0:Int)<(((y::R).length:Nat):Int))=true from decide_eq_true (by simp only [List.length_cons];omega)]
  simp only [cond_true,Option.bind_some]
  unfold posB
  by_cases h:K z<K y
  ·rw [if_pos h,decide_eq_true h,cond_true]
   exact M1p hz R (y::T) fuel (fun x hx=>hV x (List.mem_cons_of_mem _ hx)) (by omega) (by omega)
  rw [if_neg h,decide_eq_false h,cond_false]
  simp
end Go.Px.YthmahbejodhanaaGreatDoor
