/-
  PROVED: definitions that say what functions of the program compute. No condition.
-/
import Derived.Test.YtimegoembedagaaGreatQ4
namespace Go.Px.YtimegoembedagaaGreat
set_option linter.unusedSimpArgs false
set_option linter.unusedVariables false
open Go.Px
structure TMode where
 Duration:Int
 Usage:List Int
 Consumption:List Int
 deriving DecidableEq
structure A0g where
 Name:ByteArray
 Family:Int
 Modes:List TMode
 deriving DecidableEq
structure TLink where
 From:Int
 To:Int
 FromEnd:Bool
 Lag:Int
 deriving DecidableEq
structure TStep where
 At:Int
 Capacity:Int
 deriving DecidableEq
structure A0n where
 Steps:List TStep
 Setup:List (List Int)
 deriving DecidableEq
structure A0d where
 Deadline:Int
 Activities:List A0g
 Links:List TLink
 Resources:List A0n
 Stocks:List Int
 deriving DecidableEq
abbrev B0l (x:TMode):PV:=.agg [int x.Duration,.slice (x.Usage.map int),.slice (x.Consumption.map int)]
abbrev A0c (x:A0g):PV:=.agg [str x.Name,int x.Family,.slice (x.Modes.map B0l)]
abbrev A0k (x:TLink):PV:=.agg [int x.From,int x.To,bool x.FromEnd,int x.Lag]
abbrev B0m (x:TStep):PV:=.agg [int x.At,int x.Capacity]
abbrev l_int (x:List Int):PV:=.slice (x.map int)
abbrev A0e (x:A0n):PV:=.agg [.slice (x.Steps.map B0m),.slice (x.Setup.map l_int)]
abbrev A0v (x:A0d):PV:=.agg [int x.Deadline,.slice (x.Activities.map A0c),.slice (x.Links.map A0k),.slice (x.Resources.map A0e),.slice (x.Stocks.map int)]
abbrev t_int (x:List Int):PV:=.obj true 3 1 (x.map int)
def P0d (b0:List Int)(b1:Int):Option Int:=
 (bif (decide ((W (b1 - (b0.length:Int)))<0)) then
 some (-1)
 else
 some (W (b1 - (b0.length:Int))))
def S0b (b0:TMode)(b1:Int):Option Int:=
 (P0d b0.Usage b1).bind fun v1=>
 (bif (decide (v1<0)) then
 some (-1)
 else
 (P0d b0.Consumption v1).bind fun v3=>
 (bif (decide (v3<0)) then
 some (-1)
 else
 some v3))
def K0r  : List TMode→Int→Int→Option (Int ⊕ Int)
 | [],z9,a10=>
  some (Sum.inl a10)
 | x11::xs12,z9,a10=>
  (S0b x11 a10).bind fun v14=>
  (bif (decide (v14<0)) then
  some (Sum.inr (-1))
  else
  K0r xs12 (z9+1) v14)
def U0r (b0:List TMode)(b1:Int):Option Int:=
 (bif (decide ((W (b1 - (b0.length:Int)))<0)) then
 some (-1)
 else
 A0r
 (K0r b0 0 (W (b1 - (b0.length:Int))))
 (fun q17=>some q17) fun p16=>
 some p16)
def K0v (b0:A0g)(b1:Int):Option Int:=
 (bif (decide ((W (b1 - (b0.Name.size:Int)))<0)) then
 some (-1)
 else
 (U0r b0.Modes (W (b1 - (b0.Name.size:Int)))).bind fun v2=>
 (bif (decide (v2<0)) then
 some (-1)
 else
 some v2))
def F0x  : List A0g→Int→Int→Option (Int ⊕ Int)
 | [],z9,a10=>
  some (Sum.inl a10)
 | x11::xs12,z9,a10=>
  (K0v x11 a10).bind fun v14=>
  (bif (decide (v14<0)) then
  some (Sum.inr (-1))
  else
  F0x xs12 (z9+1) v14)
def M0z (b0:List A0g)(b1:Int):Option Int:=
 (bif (decide ((W (b1 - (b0.length:Int)))<0)) then
 some (-1)
 else
 A0r
 (F0x b0 0 (W (b1 - (b0.length:Int))))
 (fun q17=>some q17) fun p16=>
 some p16)
def T0w (b0:List TLink)(b1:Int):Option Int:=
 (bif (decide ((W (b1 - (b0.length:Int)))<0)) then
 some (-1)
 else
 some (W (b1 - (b0.length:Int))))
def V0h (b0:List TStep)(b1:Int):Option Int:=
 (bif (decide ((W (b1 - (b0.length:Int)))<0)) then
 some (-1)
 else
 some (W (b1 - (b0.length:Int))))
def K0u  : List (List Int)→Int→Int→Option (Int ⊕ Int)
 | [],z9,a10=>
  some (Sum.inl a10)
 | x11::xs12,z9,a10=>
  (P0d x11 a10).bind fun v14=>
  (bif (decide (v14<0)) then
  some (Sum.inr (-1))
  else
  K0u xs12 (z9+1) v14)
def U0j (b0:List (List Int))(b1:Int):Option Int:=
 (bif (decide ((W (b1 - (b0.length:Int)))<0)) then
 some (-1)
 else
 A0r
 (K0u b0 0 (W (b1 - (b0.length:Int))))
 (fun q17=>some q17) fun p16=>
 some p16)
def K0t (b0:A0n)(b1:Int):Option Int:=
 (V0h b0.Steps b1).bind fun v1=>
 (bif (decide (v1<0)) then
 some (-1)
 else
 (U0j b0.Setup v1).bind fun v3=>
 (bif (decide (v3<0)) then
 some (-1)
 else
 some v3))
def F0y  : List A0n→Int→Int→Option (Int ⊕ Int)
 | [],z9,a10=>
  some (Sum.inl a10)
 | x11::xs12,z9,a10=>
  (K0t x11 a10).bind fun v14=>
  (bif (decide (v14<0)) then
  some (Sum.inr (-1))
  else
  F0y xs12 (z9+1) v14)
def M0u (b0:List A0n)(b1:Int):Option Int:=
 (bif (decide ((W (b1 - (b0.length:Int)))<0)) then
 some (-1)
 else
 A0r
 (F0y b0 0 (W (b1 - (b0.length:Int))))
 (fun q17=>some q17) fun p16=>
 some p16)
def N0q (b0:A0d)(b1:Int):Option Int:=
 (M0z b0.Activities b1).bind fun v1=>
 (bif (decide (v1<0)) then
 some (-1)
 else
 (T0w b0.Links v1).bind fun v3=>
 (bif (decide (v3<0)) then
 some (-1)
 else
 (M0u b0.Resources v3).bind fun v5=>
 (bif (decide (v5<0)) then
 some (-1)
 else
 (P0d b0.Stocks v5).bind fun v7=>
 (bif (decide (v7<0)) then
 some (-1)
 else
 some v7))))
def K0k  : List Int→Int→(List Int)→Option (List Int)
 | [],z9,a10=>
  some a10
 | x11::xs12,z9,a10=>
  (idxL a10 z9).bind fun v14=>
  K0k xs12 (z9+1) (setL a10 z9 x11)
def Q0g (b0:List Int):Option (List Int):=
 (makeL 0 (b0.length:Int)).bind fun v1=>
 Option.bind
 (K0k b0 0 v1) fun p15=>
 some p15
def V0t (b0:TMode):Option TMode:=
 (Q0g b0.Usage).bind fun v1=>
 (Q0g b0.Consumption).bind fun v2=>
 some (TMode.mk b0.Duration v1 v2)
def J0l  : List TMode→Int→(List TMode)→Option (List TMode)
 | [],z9,a10=>
  some a10
 | x11::xs12,z9,a10=>
  (V0t x11).bind fun v14=>
  (idxL a10 z9).bind fun v15=>
  J0l xs12 (z9+1) (setL a10 z9 v14)
def V0k (b0:List TMode):Option (List TMode):=
 (makeL (TMode.mk 0 [] []) (b0.length:Int)).bind fun v1=>
 Option.bind
 (J0l b0 0 v1) fun p16=>
 some p16
def M0a (b0:A0g):Option A0g:=
 (V0k b0.Modes).bind fun v1=>
 some (A0g.mk b0.Name b0.Family v1)
def F0b  : List A0g→Int→(List A0g)→Option (List A0g)
 | [],z9,a10=>
  some a10
 | x11::xs12,z9,a10=>
  (M0a x11).bind fun v14=>
  (idxL a10 z9).bind fun v15=>
  F0b xs12 (z9+1) (setL a10 z9 v14)
def N0c (b0:List A0g):Option (List A0g):=
 (makeL (A0g.mk ByteArray.empty 0 []) (b0.length:Int)).bind fun v1=>
 Option.bind
 (F0b b0 0 v1) fun p16=>
 some p16
def T0t (b0:TLink):Option TLink:=
 some b0
def J0i  : List TLink→Int→(List TLink)→Option (List TLink)
 | [],z9,a10=>
  some a10
 | x11::xs12,z9,a10=>
  (T0t x11).bind fun v14=>
  (idxL a10 z9).bind fun v15=>
  J0i xs12 (z9+1) (setL a10 z9 v14)
def V0c (b0:List TLink):Option (List TLink):=
 (makeL (TLink.mk 0 0 false 0) (b0.length:Int)).bind fun v1=>
 Option.bind
 (J0i b0 0 v1) fun p16=>
 some p16
def U0a (b0:TStep):Option TStep:=
 some b0
def J0g  : List TStep→Int→(List TStep)→Option (List TStep)
 | [],z9,a10=>
  some a10
 | x11::xs12,z9,a10=>
  (U0a x11).bind fun v14=>
  (idxL a10 z9).bind fun v15=>
  J0g xs12 (z9+1) (setL a10 z9 v14)
def T0q (b0:List TStep):Option (List TStep):=
 (makeL (TStep.mk 0 0) (b0.length:Int)).bind fun v1=>
 Option.bind
 (J0g b0 0 v1) fun p16=>
 some p16
def J0f  : List (List Int)→Int→(List (List Int))→Option (List (List Int))
 | [],z9,a10=>
  some a10
 | x11::xs12,z9,a10=>
  (Q0g x11).bind fun v14=>
  (idxL a10 z9).bind fun v15=>
  J0f xs12 (z9+1) (setL a10 z9 v14)
def T0y (b0:List (List Int)):Option (List (List Int)):=
 (makeL ([]:List Int) (b0.length:Int)).bind fun v1=>
 Option.bind
 (J0f b0 0 v1) fun p16=>
 some p16
def M0b (b0:A0n):Option A0n:=
 (T0q b0.Steps).bind fun v1=>
 (T0y b0.Setup).bind fun v2=>
 some (A0n.mk v1 v2)
def E0x  : List A0n→Int→(List A0n)→Option (List A0n)
 | [],z9,a10=>
  some a10
 | x11::xs12,z9,a10=>
  (M0b x11).bind fun v14=>
  (idxL a10 z9).bind fun v15=>
  E0x xs12 (z9+1) (setL a10 z9 v14)
def M0o (b0:List A0n):Option (List A0n):=
 (makeL (A0n.mk [] []) (b0.length:Int)).bind fun v1=>
 Option.bind
 (E0x b0 0 v1) fun p16=>
 some p16
def J0e (b0:A0d):Option A0d:=
 (N0c b0.Activities).bind fun v1=>
 (V0c b0.Links).bind fun v2=>
 (M0o b0.Resources).bind fun v3=>
 (Q0g b0.Stocks).bind fun v4=>
 some (A0d.mk b0.Deadline v1 v2 v3 v4)
def E0c (b0:Int)(b1:Int)(b2:Int):Option Bool:=
 Option.bind
 ((bif (decide (b1≤b0)) then
 some (decide (b0≤b2))
 else
 some false)) fun e1=>
 some e1
def G0h  : List Int→Int→Option (Unit ⊕ Bool)
 | [],z8=>
  some (Sum.inl ())
 | x9::xs10,z8=>
  (E0c x9 0 20).bind fun v12=>
  (bif (!v12) then
  some (Sum.inr false)
  else
  G0h xs10 (z8+1))
def K0z (b0:List Int)(b1:Int):Option Bool:=
 A0r
 (G0h b0 0)
 (fun q15=>some q15) fun p14=>
 some ((b0.length:Int) == b1)
def M0q (b0:TMode)(b1:Int)(b2:Int):Option Bool:=
 (E0c b0.Duration 1 12).bind fun v1=>
 Option.bind
 ((bif v1 then
 (K0z b0.Usage b1).bind fun v4=>
 (bif v4 then
 (K0z b0.Consumption b2).bind fun v6=>
 some v6
 else
 some false)
 else
 some false)) fun e2=>
 some e2
def F0t (b0:ByteArray):Nat→Int→Option (Unit ⊕ Bool)
 | 0,_=>none
 | fuel+1,a7=>
  (bif (decide (a7<(b0.size:Int))) then
  (idxS b0 a7).bind fun v11=>
  Option.bind
  ((bif (decide (97≤v11)) then
  some (decide (v11≤122))
  else
  some false)) fun e12=>
  Option.bind
  ((bif (!e12) then
  (bif (a7 == 0) then
  some true
  else
  (bif (decide (v11<48)) then
  some true
  else
  some (decide (57<v11))))
  else
  some false)) fun e14=>
  (bif e14 then
  some (Sum.inr false)
  else
  F0t b0 fuel (W (a7+1)))
  else
  some (Sum.inl ()))
def P0h (b0:ByteArray):Option Bool:=
 A0r
 (F0t b0 F0 0)
 (fun q20=>some q20) fun p19=>
 (E0c (b0.size:Int) 1 8).bind fun v21=>
 some v21
def D0o (b1:Int)(b2:Int):List TMode→Int→Option (Unit ⊕ Bool)
 | [],z8=>
  some (Sum.inl ())
 | x9::xs10,z8=>
  (M0q x9 b1 b2).bind fun v12=>
  (bif (!v12) then
  some (Sum.inr false)
  else
  D0o b1 b2 xs10 (z8+1))
def E0l (b0:A0g)(b1:Int)(b2:Int):Option Bool:=
 A0r
 (D0o b1 b2 b0.Modes 0)
 (fun q15=>some q15) fun p14=>
 (P0h b0.Name).bind fun v16=>
 Option.bind
 ((bif v16 then
 (E0c b0.Family 0 3).bind fun v19=>
 (bif v19 then
 (E0c (b0.Modes.length:Int) 1 3).bind fun v21=>
 some v21
 else
 some false)
 else
 some false)) fun e17=>
 some e17
def B0p (b1:ByteArray):List A0g→Int→Option (Unit ⊕ Int)
 | [],z8=>
  some (Sum.inl ())
 | x9::xs10,z8=>
  (bif (x9.Name == b1) then
  some (Sum.inr z8)
  else
  B0p b1 xs10 (z8+1))
def D0k (b0:A0d)(b1:ByteArray):Option Int:=
 A0r
 (B0p b1 b0.Activities 0)
 (fun q14=>some q14) fun p13=>
 some (-1)
def D0d (b0:List TStep):List TStep→Int→Option (Unit ⊕ Bool)
 | [],z8=>
  some (Sum.inl ())
 | x9::xs10,z8=>
  (E0c x9.At 0 60).bind fun v12=>
  Option.bind
  ((bif (!v12) then
  some true
  else
  (E0c x9.Capacity 0 20).bind fun v15=>
  (bif (!v15) then
  some true
  else
  (bif (decide (0<z8)) then
  (idxL b0 (z8 - 1)).bind fun v18=>
  some (decide (x9.At≤v18.At))
  else
  some false)))) fun e13=>
  (bif e13 then
  some (Sum.inr false)
  else
  D0d b0 xs10 (z8+1))
def J0o (b0:List TStep):Option Bool:=
 A0r
 (D0d b0 b0 0)
 (fun q21=>some q21) fun p20=>
 (E0c (b0.length:Int) 1 8).bind fun v22=>
 Option.bind
 ((bif v22 then
 (idxL b0 0).bind fun v25=>
 some (v25.At == 0)
 else
 some false)) fun e23=>
 some e23
def C0d  : List Int→Int→Option (Unit ⊕ Bool)
 | [],z20=>
  some (Sum.inl ())
 | x21::xs22,z20=>
  (E0c x21 0 12).bind fun v24=>
  (bif (!v24) then
  some (Sum.inr false)
  else
  C0d xs22 (z20+1))
def B0f  : List (List Int)→Int→Option (Unit ⊕ Bool)
 | [],z8=>
  some (Sum.inl ())
 | x9::xs10,z8=>
  (bif ((x9.length:Int) != 4) then
  some (Sum.inr false)
  else
  A0r
  (C0d x9 0)
  (fun q27=>some (Sum.inr q27)) fun p26=>
  B0f xs10 (z8+1))
def F0j (b0:A0n):Option Bool:=
 A0r
 (B0f b0.Setup 0)
 (fun q29=>some q29) fun p28=>
 (J0o b0.Steps).bind fun v30=>
 Option.bind
 ((bif v30 then
 (bif ((b0.Setup.length:Int) == 0) then
 some true
 else
 some ((b0.Setup.length:Int) == 4))
 else
 some false)) fun e31=>
 some e31
def E0e (b0:A0d):List A0g→Int→Option (Unit ⊕ Bool)
 | [],z16=>
  some (Sum.inl ())
 | x17::xs18,z16=>
  (E0l x17 (b0.Resources.length:Int) (b0.Stocks.length:Int)).bind fun v20=>
  Option.bind
  ((bif (!v20) then
  some true
  else
  (D0k b0 x17.Name).bind fun v23=>
  some (v23 != z16))) fun e21=>
  (bif e21 then
  some (Sum.inr false)
  else
  E0e b0 xs18 (z16+1))
def E0g  : List A0n→Int→Option (Unit ⊕ Bool)
 | [],z34=>
  some (Sum.inl ())
 | x35::xs36,z34=>
  (F0j x35).bind fun v38=>
  (bif (!v38) then
  some (Sum.inr false)
  else
  E0g xs36 (z34+1))
def E0d  : List Int→Int→Option (Unit ⊕ Bool)
 | [],z49=>
  some (Sum.inl ())
 | x50::xs51,z49=>
  (E0c x50 0 100).bind fun v53=>
  (bif (!v53) then
  some (Sum.inr false)
  else
  E0d xs51 (z49+1))
def B0w (b0:A0d):List TLink→Int→Option (Unit ⊕ Bool)
 | [],z64=>
  some (Sum.inl ())
 | x65::xs66,z64=>
  (E0c x65.From 0 (W ((b0.Activities.length:Int) - 1))).bind fun v68=>
  Option.bind
  ((bif (!v68) then
  some true
  else
  (E0c x65.To 0 (W ((b0.Activities.length:Int) - 1))).bind fun v71=>
  (bif (!v71) then
  some true
  else
  (bif (x65.From == x65.To) then
  some true
  else
  (E0c x65.Lag (-60) 60).bind fun v74=>
  some (!v74))))) fun e69=>
  (bif e69 then
  some (Sum.inr false)
  else
  B0w b0 xs66 (z64+1))
def H0o (b0:A0d):Option Bool:=
 (E0c b0.Deadline 1 60).bind fun v1=>
 Option.bind
 ((bif (!v1) then
 some true
 else
 (E0c (b0.Activities.length:Int) 1 6).bind fun v4=>
 (bif (!v4) then
 some true
 else
 (bif (decide (3<(b0.Resources.length:Int))) then
 some true
 else
 (bif (decide (2<(b0.Stocks.length:Int))) then
 some true
 else
 some (decide (12<(b0.Links.length:Int)))))))) fun e2=>
 (bif e2 then
 some false
 else
 A0r
 (E0e b0 b0.Activities 0)
 (fun q26=>some q26) fun p25=>
 A0r
 (E0g b0.Resources 0)
 (fun q41=>some q41) fun p40=>
 A0r
 (E0d b0.Stocks 0)
 (fun q56=>some q56) fun p55=>
 A0r
 (B0w b0 b0.Links 0)
 (fun q77=>some q77) fun p76=>
 some true)
def F0f (b0:Int):Nat→Int→(List Int)→Option (List Int)
 | 0,_,_=>none
 | fuel+1,a9,a10=>
  (bif (decide (a9<b0)) then
  (appL a10 ([a9]:List Int)).bind fun v14=>
  F0f b0 fuel (W (a9+1)) v14
  else
  some a10)
def L0m (b0:Int):Option (List Int):=
 (E0c b0 0 200).bind fun v1=>
 (bif (!v1) then
 some ([]:List Int)
 else
 Option.bind
 (F0f b0 F0 0 ([]:List Int)) fun p15=>
 some p15)
def F0e (b0:A0g):Option (List Int):=
 (L0m (b0.Modes.length:Int)).bind fun v1=>
 some v1
def K0d (b1:Int):List Int→Int→Option (Unit ⊕ Bool)
 | [],z8=>
  some (Sum.inl ())
 | x9::xs10,z8=>
  (bif (x9 == b1) then
  some (Sum.inr true)
  else
  K0d b1 xs10 (z8+1))
def V0p (b0:List Int)(b1:Int):Option Bool:=
 A0r
 (K0d b1 b0 0)
 (fun q14=>some q14) fun p13=>
 some false
def D0u (b1:List Int):List TMode→Int→Int→Bool→Option Int
 | [],z8,a9,a10=>
  some a9
 | x11::xs12,z8,a9,a10=>
  (V0p b1 z8).bind fun v14=>
  Option.bind
  ((bif v14 then
  (bif (!a10) then
  some true
  else
  some (decide (x11.Duration<a9)))
  else
  some false)) fun e15=>
  (bif e15 then
  D0u b1 xs12 (z8+1) x11.Duration true
  else
  D0u b1 xs12 (z8+1) a9 a10)
def G0c (b0:A0g)(b1:List Int):Option Int:=
 Option.bind
 (D0u b1 b0.Modes 0 0 false) fun p19=>
 some p19
def U0o (b0:A0d)(b1:Int)(b2:List Int):Option Int:=
 (idxL b0.Links b1).bind fun v1=>
 (bif v1.FromEnd then
 (idxL b0.Activities v1.From).bind fun v3=>
 (G0c v3 b2).bind fun v4=>
 some (W (v1.Lag+v4))
 else
 some v1.Lag)
def L0v (b0:A0d)(b1:Int):Option Int:=
 (idxL b0.Links b1).bind fun v1=>
 (idxL b0.Activities v1.From).bind fun v2=>
 (F0e v2).bind fun v3=>
 (U0o b0 b1 v3).bind fun v4=>
 some v4
def D0c (b0:A0d):List Int→Int→Int→Option Int
 | [],z13,a14=>
  some a14
 | x15::xs16,z13,a14=>
  (L0v b0 x15).bind fun v18=>
  D0c b0 xs16 (z13+1) (W (a14+v18))
def J0n (b0:A0d)(v4:TLink):List Int→Int→Option (Unit ⊕ (List Int))
 | [],z32=>
  some (Sum.inl ())
 | x33::xs34,z32=>
  (idxL b0.Links x33).bind fun v36=>
  (bif (v36.To == v4.To) then
  some (Sum.inr ([]:List Int))
  else
  J0n b0 v4 xs34 (z32+1))
def F0l (b0:A0d)(b1:List Int)(b2:Int)(rec:A0d→(List Int)→Int→Option (List Int))(v1:Int)(v4:TLink):List TLink→Int→Option (Unit ⊕ (List Int))
 | [],z47=>
  some (Sum.inl ())
 | x48::xs49,z47=>
  Option.bind
  ((bif (x48.From != v4.To) then
  some true
  else
  some (decide (z47≤v1)))) fun e51=>
  (bif e51 then
  F0l b0 b1 b2 rec v1 v4 xs49 (z47+1)
  else
  (appL ([]:List Int) b1).bind fun v54=>
  (appL v54 ([z47]:List Int)).bind fun v55=>
  (rec b0 v55 b2).bind fun v56=>
  (bif (decide (0<(v56.length:Int))) then
  some (Sum.inr v56)
  else
  F0l b0 b1 b2 rec v1 v4 xs49 (z47+1)))
def N0n (rec:A0d→(List Int)→Int→Option (List Int))(b0:A0d)(b1:List Int)(b2:Int):Option (List Int):=
 (idxL b1 0).bind fun v1=>
 (idxL b0.Links v1).bind fun v2=>
 (idxL b1 (W ((b1.length:Int) - 1))).bind fun v3=>
 (idxL b0.Links v3).bind fun v4=>
 (bif (v4.To == v2.From) then
 Option.bind
 (D0c b0 b1 0 0) fun p19=>
 Option.bind
 ((bif (decide (0<p19)) then
 some ((b1.length:Int) == b2)
 else
 some false)) fun e20=>
 (bif e20 then
 some b1
 else
 some ([]:List Int))
 else
 (bif ((b1.length:Int) == b2) then
 some ([]:List Int)
 else
 (subL b1 0 (W ((b1.length:Int) - 1))).bind fun v24=>
 A0r
 (J0n b0 v4 v24 0)
 (fun q39=>some q39) fun p38=>
 A0r
 (F0l b0 b1 b2 rec v1 v4 b0.Links 0)
 (fun q59=>some q59) fun p58=>
 some ([]:List Int)))
def J0j:Nat→A0d→(List Int)→Int→Option (List Int)
 | 0=>fun _ _ _=>none
 | fuel+1=>N0n (J0j fuel)
def Z0w (b0:A0d)(b1:List Int)(b2:Int):Option (List Int):=J0j F0 b0 b1 b2
def D0s (b0:A0d)(a8:Int):List TLink→Int→Option (Unit ⊕ (List Int))
 | [],z19=>
  some (Sum.inl ())
 | x20::xs21,z19=>
  (Z0w b0 ([z19]:List Int) a8).bind fun v23=>
  (bif (decide (0<(v23.length:Int))) then
  some (Sum.inr v23)
  else
  D0s b0 a8 xs21 (z19+1))
def C0b (b0:A0d):Nat→Int→Option (Unit ⊕ (List Int))
 | 0,_=>none
 | fuel+1,a8=>
  (bif (decide (a8≤(b0.Activities.length:Int))) then
  A0r
  (D0s b0 a8 b0.Links 0)
  (fun q26=>some (Sum.inr q26)) fun p25=>
  C0b b0 fuel (W (a8+1))
  else
  some (Sum.inl ()))
def J0q (b0:A0d):Option (List Int):=
 (H0o b0).bind fun v1=>
 (bif (!v1) then
 some ([]:List Int)
 else
 A0r
 (C0b b0 F0 2)
 (fun q28=>some q28) fun p27=>
 some ([]:List Int))
def Q0t (b0:Int)(b1:Int):Option Int:=
 (bif (decide (b1<b0)) then
 some b0
 else
 some b1)
def H0i (z8:Int):List A0g→Int→(List Int)→Option (List Int)
 | [],z20,a21=>
  some a21
 | x22::xs23,z20,a21=>
  Option.bind
  ((bif (z8 == z20) then
  some 0
  else
  some (-1000))) fun p30=>
  (appL a21 ([p30]:List Int)).bind fun v31=>
  H0i z8 xs23 (z20+1) v31
def H0k (b0:A0d):List A0g→Int→(List (List Int))→Option (List (List Int))
 | [],z8,a9=>
  some a9
 | x10::xs11,z8,a9=>
  Option.bind
  (H0i z8 b0.Activities 0 ([]:List Int)) fun p32=>
  (appL a9 ([p32]:List (List Int))).bind fun v33=>
  H0k b0 xs11 (z8+1) v33
def H0j (b0:A0d):List TLink→Int→(List (List Int))→Option (List (List Int))
 | [],z42,a43=>
  some a43
 | x44::xs45,z42,a43=>
  (idxL a43 x44.From).bind fun v47=>
  (idxL v47 x44.To).bind fun v48=>
  (L0v b0 z42).bind fun v49=>
  (Q0t v48 v49).bind fun v50=>
  H0j b0 xs45 (z42+1) (setL a43 x44.From (setL v47 x44.To v50))
def G0b (z59:Int)(z71:Int):List A0g→Int→(List (List Int))→Option (List (List Int))
 | [],z83,a84=>
  some a84
 | x85::xs86,z83,a84=>
  (idxL a84 z71).bind fun v88=>
  (idxL v88 z59).bind fun v89=>
  Option.bind
  ((bif (v89 != (-1000)) then
  (idxL a84 z59).bind fun v92=>
  (idxL v92 z83).bind fun v93=>
  some (v93 != (-1000))
  else
  some false)) fun e90=>
  (bif e90 then
  (idxL v88 z83).bind fun v95=>
  (idxL a84 z59).bind fun v96=>
  (idxL v96 z83).bind fun v97=>
  (Q0t v95 (W (v89+v97))).bind fun v98=>
  G0b z59 z71 xs86 (z83+1) (setL a84 z71 (setL v88 z83 v98))
  else
  G0b z59 z71 xs86 (z83+1) a84)
def H0h (b0:A0d)(z59:Int):List A0g→Int→(List (List Int))→Option (List (List Int))
 | [],z71,a72=>
  some a72
 | x73::xs74,z71,a72=>
  Option.bind
  (G0b z59 z71 b0.Activities 0 a72) fun p99=>
  H0h b0 z59 xs74 (z71+1) p99
def H0g (b0:A0d):List A0g→Int→(List (List Int))→Option (List (List Int))
 | [],z59,a60=>
  some a60
 | x61::xs62,z59,a60=>
  Option.bind
  (H0h b0 z59 b0.Activities 0 a60) fun p100=>
  H0g b0 xs62 (z59+1) p100
def R0r (b0:A0d):Option (List (List Int)):=
 Option.bind
 (H0k b0 b0.Activities 0 ([]:List (List Int))) fun p34=>
 Option.bind
 (H0j b0 b0.Links 0 p34) fun p51=>
 Option.bind
 (H0g b0 b0.Activities 0 p51) fun p101=>
 some p101
def G0l (b0:A0d):Option (List (List Int)):=
 (H0o b0).bind fun v1=>
 Option.bind
 ((bif (!v1) then
 some true
 else
 (J0q b0).bind fun v4=>
 some (decide (0<(v4.length:Int))))) fun e2=>
 (bif e2 then
 some ([]:List (List Int))
 else
 (R0r b0).bind fun v6=>
 some v6)
def H0c (b0:A0d)(b1:Int):Option Int:=
 (idxL b0.Activities b1).bind fun v1=>
 (F0e v1).bind fun v2=>
 (G0c v1 v2).bind fun v3=>
 some v3
def F0u (b0:Int)(b1:Int)(b2:Int):Option Bool:=
 Option.bind
 ((bif (decide (b1≤b0)) then
 some (decide (b0≤b2))
 else
 some false)) fun e1=>
 some e1
def N0h (b0:Int):Option Bool:=
 (F0u b0 0 20).bind fun v1=>
 some v1
def F0s  : List Int→Int→Option (Unit ⊕ Bool)
 | [],z8=>
  some (Sum.inl ())
 | x9::xs10,z8=>
  (N0h x9).bind fun v12=>
  (bif (!v12) then
  some (Sum.inr false)
  else
  F0s xs10 (z8+1))
def K0w (b0:List Int)(b1:Int):Option Bool:=
 A0r
 (F0s b0 0)
 (fun q15=>some q15) fun p14=>
 some ((b0.length:Int) == b1)
def U0t (b0:TMode)(b1:Int)(b2:Int):Option Bool:=
 (F0u b0.Duration 1 12).bind fun v1=>
 Option.bind
 ((bif v1 then
 (K0w b0.Usage b1).bind fun v4=>
 (bif v4 then
 (K0w b0.Consumption b2).bind fun v6=>
 some v6
 else
 some false)
 else
 some false)) fun e2=>
 some e2
def K0j (b0:ByteArray):Nat→Int→Option (Unit ⊕ Bool)
 | 0,_=>none
 | fuel+1,a7=>
  (bif (decide (a7<(b0.size:Int))) then
  (idxS b0 a7).bind fun v11=>
  Option.bind
  ((bif (decide (97≤v11)) then
  some (decide (v11≤122))
  else
  some false)) fun e12=>
  Option.bind
  ((bif (!e12) then
  (bif (a7 == 0) then
  some true
  else
  (bif (decide (v11<48)) then
  some true
  else
  some (decide (57<v11))))
  else
  some false)) fun e14=>
  (bif e14 then
  some (Sum.inr false)
  else
  K0j b0 fuel (W (a7+1)))
  else
  some (Sum.inl ()))
def T0p (b0:ByteArray):Option Bool:=
 A0r
 (K0j b0 F0 0)
 (fun q20=>some q20) fun p19=>
 (F0u (b0.size:Int) 1 8).bind fun v21=>
 some v21
def F0q (b1:Int)(b2:Int):List TMode→Int→Option (Unit ⊕ Bool)
 | [],z8=>
  some (Sum.inl ())
 | x9::xs10,z8=>
  (U0t x9 b1 b2).bind fun v12=>
  (bif (!v12) then
  some (Sum.inr false)
  else
  F0q b1 b2 xs10 (z8+1))
def M0d (b0:A0g)(b1:Int)(b2:Int):Option Bool:=
 A0r
 (F0q b1 b2 b0.Modes 0)
 (fun q15=>some q15) fun p14=>
 (T0p b0.Name).bind fun v16=>
 Option.bind
 ((bif v16 then
 (F0u b0.Family 0 3).bind fun v19=>
 (bif v19 then
 (F0u (b0.Modes.length:Int) 1 3).bind fun v21=>
 some v21
 else
 some false)
 else
 some false)) fun e17=>
 some e17
def G0e (b0:A0g)(c1:ByteArray):Option Bool:=
 some (b0.Name == c1)
def B0d (g1:A0g→Option Bool):List A0g→Int→Option (Unit ⊕ Int)
 | [],z8=>
  some (Sum.inl ())
 | x9::xs10,z8=>
  (g1 x9).bind fun v12=>
  (bif v12 then
  some (Sum.inr z8)
  else
  B0d g1 xs10 (z8+1))
def E0i (b0:List A0g)(g1:A0g→Option Bool):Option Int:=
 A0r
 (B0d g1 b0 0)
 (fun q15=>some q15) fun p14=>
 some (-1)
def J0m (b0:A0d)(b1:ByteArray):Option Int:=
 (E0i b0.Activities (fun x0=>G0e x0 b1)).bind fun v1=>
 some v1
def V0z (b0:Int):Option Bool:=
 (F0u b0 0 60).bind fun v1=>
 some v1
def E0k (b0:List TStep):List TStep→Int→Option (Unit ⊕ Bool)
 | [],z8=>
  some (Sum.inl ())
 | x9::xs10,z8=>
  (V0z x9.At).bind fun v12=>
  Option.bind
  ((bif (!v12) then
  some true
  else
  (N0h x9.Capacity).bind fun v15=>
  (bif (!v15) then
  some true
  else
  (bif (z8 == 0) then
  (bif (x9.At != 0) then
  some true
  else
  (bif (decide (0<z8)) then
  (idxL b0 (z8 - 1)).bind fun v20=>
  some (decide (x9.At≤v20.At))
  else
  some false))
  else
  (bif (decide (0<z8)) then
  (idxL b0 (z8 - 1)).bind fun v22=>
  some (decide (x9.At≤v22.At))
  else
  some false))))) fun e13=>
  (bif e13 then
  some (Sum.inr false)
  else
  E0k b0 xs10 (z8+1))
def N0w (b0:List TStep):Option Bool:=
 A0r
 (E0k b0 b0 0)
 (fun q25=>some q25) fun p24=>
 (F0u (b0.length:Int) 1 8).bind fun v26=>
 some v26
def F0p  : List Int→Int→Option (Unit ⊕ Bool)
 | [],z20=>
  some (Sum.inl ())
 | x21::xs22,z20=>
  (F0u x21 0 12).bind fun v24=>
  (bif (!v24) then
  some (Sum.inr false)
  else
  F0p xs22 (z20+1))
def F0r  : List (List Int)→Int→Option (Unit ⊕ Bool)
 | [],z8=>
  some (Sum.inl ())
 | x9::xs10,z8=>
  (bif ((x9.length:Int) != 4) then
  some (Sum.inr false)
  else
  A0r
  (F0p x9 0)
  (fun q27=>some (Sum.inr q27)) fun p26=>
  F0r xs10 (z8+1))
def M0c (b0:A0n):Option Bool:=
 A0r
 (F0r b0.Setup 0)
 (fun q29=>some q29) fun p28=>
 (N0w b0.Steps).bind fun v30=>
 Option.bind
 ((bif v30 then
 (bif ((b0.Setup.length:Int) == 0) then
 some true
 else
 some ((b0.Setup.length:Int) == 4))
 else
 some false)) fun e31=>
 some e31
def C0f (b0:A0d)(b1:Int):Option Bool:=
 (F0u b1 0 (W ((b0.Activities.length:Int) - 1))).bind fun v1=>
 some v1
def K0c (b0:A0d)(b1:TLink):Option Bool:=
 (C0f b0 b1.From).bind fun v1=>
 Option.bind
 ((bif v1 then
 (C0f b0 b1.To).bind fun v4=>
 (bif v4 then
 (bif (b1.From != b1.To) then
 (F0u b1.Lag (-60) 60).bind fun v7=>
 some v7
 else
 some false)
 else
 some false)
 else
 some false)) fun e2=>
 some e2
def B0q (b0:TLink)(c1:A0d):Option Bool:=
 (K0c c1 b0).bind fun v1=>
 some (!v1)
def B0h (g1:TLink→Option Bool):List TLink→Int→Option (Unit ⊕ Int)
 | [],z8=>
  some (Sum.inl ())
 | x9::xs10,z8=>
  (g1 x9).bind fun v12=>
  (bif v12 then
  some (Sum.inr z8)
  else
  B0h g1 xs10 (z8+1))
def E0m (b0:List TLink)(g1:TLink→Option Bool):Option Int:=
 A0r
 (B0h g1 b0 0)
 (fun q15=>some q15) fun p14=>
 some (-1)
def C0c (b0:List TLink)(g1:TLink→Option Bool):Option Bool:=
 (E0m b0 g1).bind fun v1=>
 some (decide (0≤v1))
def G0m (b0:A0d):List A0g→Int→Option (Unit ⊕ Bool)
 | [],z16=>
  some (Sum.inl ())
 | x17::xs18,z16=>
  (M0d x17 (b0.Resources.length:Int) (b0.Stocks.length:Int)).bind fun v20=>
  Option.bind
  ((bif (!v20) then
  some true
  else
  (J0m b0 x17.Name).bind fun v23=>
  some (v23 != z16))) fun e21=>
  (bif e21 then
  some (Sum.inr false)
  else
  G0m b0 xs18 (z16+1))
def G0r  : List A0n→Int→Option (Unit ⊕ Bool)
 | [],z34=>
  some (Sum.inl ())
 | x35::xs36,z34=>
  (M0c x35).bind fun v38=>
  (bif (!v38) then
  some (Sum.inr false)
  else
  G0r xs36 (z34+1))
def G0p  : List Int→Int→Option (Unit ⊕ Bool)
 | [],z49=>
  some (Sum.inl ())
 | x50::xs51,z49=>
  (F0u x50 0 100).bind fun v53=>
  (bif (!v53) then
  some (Sum.inr false)
  else
  G0p xs51 (z49+1))
def K0o (b0:A0d):Option Bool:=
 (F0u b0.Deadline 1 60).bind fun v1=>
 Option.bind
 ((bif (!v1) then
 some true
 else
 (F0u (b0.Activities.length:Int) 1 6).bind fun v4=>
 (bif (!v4) then
 some true
 else
 (bif (decide (3<(b0.Resources.length:Int))) then
 some true
 else
 (bif (decide (2<(b0.Stocks.length:Int))) then
 some true
 else
 some (decide (12<(b0.Links.length:Int)))))))) fun e2=>
 (bif e2 then
 some false
 else
 A0r
 (G0m b0 b0.Activities 0)
 (fun q26=>some q26) fun p25=>
 A0r
 (G0r b0.Resources 0)
 (fun q41=>some q41) fun p40=>
 A0r
 (G0p b0.Stocks 0)
 (fun q56=>some q56) fun p55=>
 (C0c b0.Links (fun x0=>B0q x0 b0)).bind fun v57=>
 some (!v57))
def H0s (b0:Int):Nat→Int→(List Int)→Option (List Int)
 | 0,_,_=>none
 | fuel+1,a9,a10=>
  (bif (decide (a9<b0)) then
  (appL a10 ([a9]:List Int)).bind fun v14=>
  H0s b0 fuel (W (a9+1)) v14
  else
  some a10)
def N0f (b0:Int):Option (List Int):=
 (F0u b0 0 200).bind fun v1=>
 (bif (!v1) then
 some ([]:List Int)
 else
 Option.bind
 (H0s b0 F0 0 ([]:List Int)) fun p15=>
 some p15)
def J0u (b0:A0g):Option (List Int):=
 (N0f (b0.Modes.length:Int)).bind fun v1=>
 some v1
def B0s (b1:Int):List Int→Int→Option (Unit ⊕ Int)
 | [],z8=>
  some (Sum.inl ())
 | x9::xs10,z8=>
  (bif (b1 == x9) then
  some (Sum.inr z8)
  else
  B0s b1 xs10 (z8+1))
def H0v (b0:List Int)(b1:Int):Option Int:=
 A0r
 (B0s b1 b0 0)
 (fun q14=>some q14) fun p13=>
 some (-1)
def D0b (b0:List Int)(b1:Int):Option Bool:=
 (H0v b0 b1).bind fun v1=>
 some (decide (0≤v1))
def Q0f (b0:List Int)(b1:Int):Option Bool:=
 (D0b b0 b1).bind fun v1=>
 some v1
def H0p (b1:List Int):List TMode→Int→(List TMode)→Option (List TMode)
 | [],z8,a9=>
  some a9
 | x10::xs11,z8,a9=>
  (Q0f b1 z8).bind fun v13=>
  (bif v13 then
  (appL a9 ([x10]:List TMode)).bind fun v15=>
  H0p b1 xs11 (z8+1) v15
  else
  H0p b1 xs11 (z8+1) a9)
def V0o (b0:A0g)(b1:List Int):Option (List TMode):=
 Option.bind
 (H0p b1 b0.Modes 0 ([]:List TMode)) fun p16=>
 some p16
def C0x  : List TMode→Int→Int→Option Int
 | [],z9,a10=>
  some a10
 | x11::xs12,z9,a10=>
  Option.bind
  ((bif (z9 == 0) then
  some true
  else
  some (decide (x11.Duration<a10)))) fun e14=>
  (bif e14 then
  C0x xs12 (z9+1) x11.Duration
  else
  C0x xs12 (z9+1) a10)
def H0n (b0:A0g)(b1:List Int):Option Int:=
 (V0o b0 b1).bind fun v1=>
 Option.bind
 (C0x v1 0 0) fun p17=>
 some p17
def L0b (b0:A0d)(b1:TLink)(b2:List Int):Option Int:=
 (bif b1.FromEnd then
 (idxL b0.Activities b1.From).bind fun v2=>
 (H0n v2 b2).bind fun v3=>
 some (W (b1.Lag+v3))
 else
 some b1.Lag)
def D0e (b0:A0d)(b1:TLink):Option Int:=
 (idxL b0.Activities b1.From).bind fun v1=>
 (J0u v1).bind fun v2=>
 (L0b b0 b1 v2).bind fun v3=>
 some v3
def F0a (b0:List Int):Option (List Int):=
 (appL ([]:List Int) b0).bind fun v1=>
 some v1
def C0m (b0:A0d)(b1:List Int)(b2:List Int)(b3:Int)(b4:Int)(rec:A0d→(List Int)→(List Int)→Int→Int→Option (List Int))(v1:Int)(v4:TLink):List TLink→Int→Option (Unit ⊕ (List Int))
 | [],z20=>
  some (Sum.inl ())
 | x21::xs22,z20=>
  Option.bind
  ((bif (decide (v1<z20)) then
  some (x21.From == v4.To)
  else
  some false)) fun e24=>
  (bif e24 then
  (F0a b1).bind fun v27=>
  (appL v27 ([z20]:List Int)).bind fun v28=>
  (F0a b2).bind fun v29=>
  (appL v29 ([v4.To]:List Int)).bind fun v30=>
  (D0e b0 x21).bind fun v31=>
  (rec b0 v28 v30 (W (b3+v31)) b4).bind fun v32=>
  (bif (!(v32.isEmpty)) then
  some (Sum.inr v32)
  else
  C0m b0 b1 b2 b3 b4 rec v1 v4 xs22 (z20+1))
  else
  C0m b0 b1 b2 b3 b4 rec v1 v4 xs22 (z20+1))
def G0v (rec:A0d→(List Int)→(List Int)→Int→Int→Option (List Int))(b0:A0d)(b1:List Int)(b2:List Int)(b3:Int)(b4:Int):Option (List Int):=
 (idxL b1 0).bind fun v1=>
 (idxL b0.Links v1).bind fun v2=>
 (idxL b1 (W ((b1.length:Int) - 1))).bind fun v3=>
 (idxL b0.Links v3).bind fun v4=>
 (bif ((b1.length:Int) == b4) then
 Option.bind
 ((bif (v4.To == v2.From) then
 some (decide (0<b3))
 else
 some false)) fun e6=>
 (bif e6 then
 (F0a b1).bind fun v9=>
 (neL v9).bind fun v10=>
 some v10
 else
 some ([]:List Int))
 else
 (D0b b2 v4.To).bind fun v11=>
 (bif v11 then
 some ([]:List Int)
 else
 A0r
 (C0m b0 b1 b2 b3 b4 rec v1 v4 b0.Links 0)
 (fun q35=>some q35) fun p34=>
 some ([]:List Int)))
def E0a:Nat→A0d→(List Int)→(List Int)→Int→Int→Option (List Int)
 | 0=>fun _ _ _ _ _=>none
 | fuel+1=>G0v (E0a fuel)
def P0a (b0:A0d)(b1:List Int)(b2:List Int)(b3:Int)(b4:Int):Option (List Int):=E0a F0 b0 b1 b2 b3 b4
def D0l (b0:A0d)(a8:Int):List TLink→Int→Option (Unit ⊕ (List Int))
 | [],z19=>
  some (Sum.inl ())
 | x20::xs21,z19=>
  (D0e b0 x20).bind fun v23=>
  (P0a b0 ([z19]:List Int) ([x20.From]:List Int) v23 a8).bind fun v24=>
  (bif (!(v24.isEmpty)) then
  some (Sum.inr v24)
  else
  D0l b0 a8 xs21 (z19+1))
def C0a (b0:A0d):Nat→Int→Option (Unit ⊕ (List Int))
 | 0,_=>none
 | fuel+1,a8=>
  (bif (decide (a8≤(b0.Activities.length:Int))) then
  A0r
  (D0l b0 a8 b0.Links 0)
  (fun q27=>some (Sum.inr q27)) fun p26=>
  C0a b0 fuel (W (a8+1))
  else
  some (Sum.inl ()))
def H0e (b0:A0d):Option (List Int):=
 (K0o b0).bind fun v1=>
 (bif (!v1) then
 some ([]:List Int)
 else
 A0r
 (C0a b0 F0 2)
 (fun q29=>some q29) fun p28=>
 some ([]:List Int))
def D0i (b0:Int)(b1:Int)(b2:Int)(c3:List (List Bool))(c4:List (List Int)):Option ((List (List Bool))×(List (List Int))):=
 (idxL c3 b0).bind fun v1=>
 (neL v1).bind fun v2=>
 (idxL v1 b1).bind fun v3=>
 Option.bind
 ((bif (!v3) then
 some true
 else
 (idxL c4 b0).bind fun v6=>
 (neL v6).bind fun v7=>
 (idxL v6 b1).bind fun v8=>
 some (decide (v8<b2)))) fun e4=>
 (bif e4 then
 (idxL c4 b0).bind fun v10=>
 (neL v10).bind fun v11=>
 (idxL v10 b1).bind fun v12=>
 some ((setL c3 b0 (setL v1 b1 true)),(setL c4 b0 (setL v10 b1 b2)))
 else
 some (c3,c4))
def F0k (b0:A0d):List A0g→Int→(List (List Int))→(List (List Bool))→Option ((List (List Int))×(List (List Bool)))
 | [],z15,a16,a17=>
  some (a16,a17)
 | x18::xs19,z15,a16,a17=>
  (makeL 0 (b0.Activities.length:Int)).bind fun v21=>
  (makeL false (b0.Activities.length:Int)).bind fun v22=>
  (idxL a16 z15).bind fun v23=>
  (nilL v23).bind fun v24=>
  (neL v21).bind fun v25=>
  (idxL a17 z15).bind fun v26=>
  (nilL v26).bind fun v27=>
  (neL v22).bind fun v28=>
  (idxL (setL a17 z15 v22) z15).bind fun v29=>
  (neL v29).bind fun v30=>
  (idxL v29 z15).bind fun v31=>
  F0k b0 xs19 (z15+1) (setL a16 z15 v21) (setL (setL a17 z15 v22) z15 (setL v29 z15 true))
def F0h (b0:A0d):List TLink→Int→(List (List Int))→(List (List Bool))→Option ((List (List Int))×(List (List Bool)))
 | [],z40,a41,a42=>
  some (a41,a42)
 | x43::xs44,z40,a41,a42=>
  (D0e b0 x43).bind fun v46=>
  (D0i x43.From x43.To v46 a42 a41).bind fun v47=>
  (sameN a42 v47.1).bind fun v48=>
  (sameN a41 v47.2).bind fun v49=>
  F0h b0 xs44 (z40+1) v47.2 v47.1
def D0h (b0:A0d)(a57:Int)(a69:Int):Nat→Int→(List (List Int))→(List (List Bool))→Option ((List (List Int))×(List (List Bool)))
 | 0,_,_,_=>none
 | fuel+1,a81,a82,a83=>
  (bif (decide (a81<(b0.Activities.length:Int))) then
  (idxL a83 a69).bind fun v87=>
  (neL v87).bind fun v88=>
  (idxL v87 a57).bind fun v89=>
  Option.bind
  ((bif v89 then
  (idxL a83 a57).bind fun v92=>
  (neL v92).bind fun v93=>
  (idxL v92 a81).bind fun v94=>
  some v94
  else
  some false)) fun e90=>
  (bif e90 then
  (idxL a82 a69).bind fun v96=>
  (neL v96).bind fun v97=>
  (idxL v96 a57).bind fun v98=>
  (idxL a82 a57).bind fun v99=>
  (neL v99).bind fun v100=>
  (idxL v99 a81).bind fun v101=>
  (D0i a69 a81 (W (v98+v101)) a83 a82).bind fun v102=>
  (sameN a83 v102.1).bind fun v103=>
  (sameN a82 v102.2).bind fun v104=>
  D0h b0 a57 a69 fuel (W (a81+1)) v102.2 v102.1
  else
  D0h b0 a57 a69 fuel (W (a81+1)) a82 a83)
  else
  some (a82,a83))
def E0f (b0:A0d)(a57:Int):Nat→Int→(List (List Int))→(List (List Bool))→Option ((List (List Int))×(List (List Bool)))
 | 0,_,_,_=>none
 | fuel+1,a69,a70,a71=>
  (bif (decide (a69<(b0.Activities.length:Int))) then
  Option.bind
  (D0h b0 a57 a69 F0 0 a70 a71) fun p105=>
  E0f b0 a57 fuel (W (a69+1)) p105.1 p105.2
  else
  some (a70,a71))
def E0j (b0:A0d):Nat→Int→(List (List Int))→(List (List Bool))→Option ((List (List Int))×(List (List Bool)))
 | 0,_,_,_=>none
 | fuel+1,a57,a58,a59=>
  (bif (decide (a57<(b0.Activities.length:Int))) then
  Option.bind
  (E0f b0 a57 F0 0 a58 a59) fun p106=>
  E0j b0 fuel (W (a57+1)) p106.1 p106.2
  else
  some (a58,a59))
def D0g (b0:A0d)(p107:(List (List Int))×(List (List Bool)))(a114:Int):Nat→Int→(List (List Int))→Option (List (List Int))
 | 0,_,_=>none
 | fuel+1,a125,a126=>
  (bif (decide (a125<(b0.Activities.length:Int))) then
  (idxL p107.2 a114).bind fun v130=>
  (neL v130).bind fun v131=>
  (idxL v130 a125).bind fun v132=>
  (bif (!v132) then
  (idxL a126 a114).bind fun v134=>
  (neL v134).bind fun v135=>
  (idxL v134 a125).bind fun v136=>
  D0g b0 p107 a114 fuel (W (a125+1)) (setL a126 a114 (setL v134 a125 (-1000)))
  else
  D0g b0 p107 a114 fuel (W (a125+1)) a126)
  else
  some a126)
def E0h (b0:A0d)(p107:(List (List Int))×(List (List Bool))):Nat→Int→(List (List Int))→Option (List (List Int))
 | 0,_,_=>none
 | fuel+1,a114,a115=>
  (bif (decide (a114<(b0.Activities.length:Int))) then
  Option.bind
  (D0g b0 p107 a114 F0 0 a115) fun p137=>
  E0h b0 p107 fuel (W (a114+1)) p137
  else
  some a115)
def E0z (b0:A0d):Option (List (List Int)):=
 (K0o b0).bind fun v1=>
 Option.bind
 ((bif (!v1) then
 some true
 else
 (H0e b0).bind fun v4=>
 some (decide (0<(v4.length:Int))))) fun e2=>
 (bif e2 then
 some ([]:List (List Int))
 else
 (makeL ([]:List Int) (b0.Activities.length:Int)).bind fun v6=>
 (makeL ([]:List Bool) (b0.Activities.length:Int)).bind fun v7=>
 Option.bind
 (F0k b0 b0.Activities 0 v6 v7) fun p32=>
 Option.bind
 (F0h b0 b0.Links 0 p32.1 p32.2) fun p50=>
 Option.bind
 (E0j b0 F0 0 p50.1 p50.2) fun p107=>
 Option.bind
 (E0h b0 p107 F0 0 p107.1) fun p138=>
 (allNe p138).bind fun v139=>
 some v139)
def B0o (b0:A0d)(b1:Int):Option Int:=
 (idxL b0.Activities b1).bind fun v1=>
 (J0u v1).bind fun v2=>
 (H0n v1 v2).bind fun v3=>
 some v3
def K0f (b1:List Int):List Int→Int→Option (Unit ⊕ Bool)
 | [],z9=>
  some (Sum.inl ())
 | x10::xs11,z9=>
  (idxL b1 z9).bind fun v13=>
  (bif (x10 != v13) then
  some (Sum.inr false)
  else
  K0f b1 xs11 (z9+1))
def L0w (b0:List Int)(b1:List Int):Option Bool:=
 (bif ((b0.length:Int) != (b1.length:Int)) then
 some false
 else
 A0r
 (K0f b1 b0 0)
 (fun q16=>some q16) fun p15=>
 some true)
def T0u (b0:TMode)(b1:TMode):Option Bool:=
 (bif (b0.Duration != b1.Duration) then
 some false
 else
 (L0w b0.Usage b1.Usage).bind fun v2=>
 (bif (!v2) then
 some false
 else
 (L0w b0.Consumption b1.Consumption).bind fun v4=>
 (bif (!v4) then
 some false
 else
 some true)))
def J0d (b1:List TMode):List TMode→Int→Option (Unit ⊕ Bool)
 | [],z9=>
  some (Sum.inl ())
 | x10::xs11,z9=>
  (idxL b1 z9).bind fun v13=>
  (T0u x10 v13).bind fun v14=>
  (bif (!v14) then
  some (Sum.inr false)
  else
  J0d b1 xs11 (z9+1))
def V0x (b0:List TMode)(b1:List TMode):Option Bool:=
 (bif ((b0.length:Int) != (b1.length:Int)) then
 some false
 else
 A0r
 (J0d b1 b0 0)
 (fun q17=>some q17) fun p16=>
 some true)
def M0g (b0:A0g)(b1:A0g):Option Bool:=
 (bif (b0.Name != b1.Name) then
 some false
 else
 (bif (b0.Family != b1.Family) then
 some false
 else
 (V0x b0.Modes b1.Modes).bind fun v3=>
 (bif (!v3) then
 some false
 else
 some true)))
def E0y (b1:List A0g):List A0g→Int→Option (Unit ⊕ Bool)
 | [],z9=>
  some (Sum.inl ())
 | x10::xs11,z9=>
  (idxL b1 z9).bind fun v13=>
  (M0g x10 v13).bind fun v14=>
  (bif (!v14) then
  some (Sum.inr false)
  else
  E0y b1 xs11 (z9+1))
def N0a (b0:List A0g)(b1:List A0g):Option Bool:=
 (bif ((b0.length:Int) != (b1.length:Int)) then
 some false
 else
 A0r
 (E0y b1 b0 0)
 (fun q17=>some q17) fun p16=>
 some true)
def U0h (b0:TLink)(b1:TLink):Option Bool:=
 (bif (b0.From != b1.From) then
 some false
 else
 (bif (b0.To != b1.To) then
 some false
 else
 (bif (b0.FromEnd != b1.FromEnd) then
 some false
 else
 (bif (b0.Lag != b1.Lag) then
 some false
 else
 some true))))
def J0s (b1:List TLink):List TLink→Int→Option (Unit ⊕ Bool)
 | [],z9=>
  some (Sum.inl ())
 | x10::xs11,z9=>
  (idxL b1 z9).bind fun v13=>
  (U0h x10 v13).bind fun v14=>
  (bif (!v14) then
  some (Sum.inr false)
  else
  J0s b1 xs11 (z9+1))
def U0u (b0:List TLink)(b1:List TLink):Option Bool:=
 (bif ((b0.length:Int) != (b1.length:Int)) then
 some false
 else
 A0r
 (J0s b1 b0 0)
 (fun q17=>some q17) fun p16=>
 some true)
def V0e (b0:TStep)(b1:TStep):Option Bool:=
 (bif (b0.At != b1.At) then
 some false
 else
 (bif (b0.Capacity != b1.Capacity) then
 some false
 else
 some true))
def J0r (b1:List TStep):List TStep→Int→Option (Unit ⊕ Bool)
 | [],z9=>
  some (Sum.inl ())
 | x10::xs11,z9=>
  (idxL b1 z9).bind fun v13=>
  (V0e x10 v13).bind fun v14=>
  (bif (!v14) then
  some (Sum.inr false)
  else
  J0r b1 xs11 (z9+1))
def U0s (b0:List TStep)(b1:List TStep):Option Bool:=
 (bif ((b0.length:Int) != (b1.length:Int)) then
 some false
 else
 A0r
 (J0r b1 b0 0)
 (fun q17=>some q17) fun p16=>
 some true)
def J0p (b1:List (List Int)):List (List Int)→Int→Option (Unit ⊕ Bool)
 | [],z9=>
  some (Sum.inl ())
 | x10::xs11,z9=>
  (idxL b1 z9).bind fun v13=>
  (L0w x10 v13).bind fun v14=>
  (bif (!v14) then
  some (Sum.inr false)
  else
  J0p b1 xs11 (z9+1))
def U0d (b0:List (List Int))(b1:List (List Int)):Option Bool:=
 (bif ((b0.length:Int) != (b1.length:Int)) then
 some false
 else
 A0r
 (J0p b1 b0 0)
 (fun q17=>some q17) fun p16=>
 some true)
def M0h (b0:A0n)(b1:A0n):Option Bool:=
 (U0s b0.Steps b1.Steps).bind fun v1=>
 (bif (!v1) then
 some false
 else
 (U0d b0.Setup b1.Setup).bind fun v3=>
 (bif (!v3) then
 some false
 else
 some true))
def F0c (b1:List A0n):List A0n→Int→Option (Unit ⊕ Bool)
 | [],z9=>
  some (Sum.inl ())
 | x10::xs11,z9=>
  (idxL b1 z9).bind fun v13=>
  (M0h x10 v13).bind fun v14=>
  (bif (!v14) then
  some (Sum.inr false)
  else
  F0c b1 xs11 (z9+1))
def M0v (b0:List A0n)(b1:List A0n):Option Bool:=
 (bif ((b0.length:Int) != (b1.length:Int)) then
 some false
 else
 A0r
 (F0c b1 b0 0)
 (fun q17=>some q17) fun p16=>
 some true)
def N0s (b0:A0d)(b1:A0d):Option Bool:=
 (bif (b0.Deadline != b1.Deadline) then
 some false
 else
 (N0a b0.Activities b1.Activities).bind fun v2=>
 (bif (!v2) then
 some false
 else
 (U0u b0.Links b1.Links).bind fun v4=>
 (bif (!v4) then
 some false
 else
 (M0v b0.Resources b1.Resources).bind fun v6=>
 (bif (!v6) then
 some false
 else
 (L0w b0.Stocks b1.Stocks).bind fun v8=>
 (bif (!v8) then
 some false
 else
 some true)))))
def V0s (b0:Int)(b1:Int):Option Int:=
 (bif (decide (b0<b1)) then
 some b0
 else
 some b1)
def B0v (b0:A0d)(b1:Int)(v1:List (List Int))(a8:Int):Nat→Int→Int→Option Int
 | 0,_,_=>none
 | fuel+1,a20,a21=>
  (bif (decide (a21<(v1.length:Int))) then
  (idxL v1 a8).bind fun v25=>
  (idxL v25 a21).bind fun v26=>
  (bif (v26 != (-1000)) then
  (H0c b0 a21).bind fun v28=>
  (V0s a20 (W ((W (b1 - v28)) - v26))).bind fun v29=>
  B0v b0 b1 v1 a8 fuel v29 (W (a21+1))
  else
  B0v b0 b1 v1 a8 fuel a20 (W (a21+1)))
  else
  some a20)
def C0j (b0:A0d)(b1:Int)(v1:List (List Int)):Nat→Int→(List Int)→Option (List Int)
 | 0,_,_=>none
 | fuel+1,a8,a9=>
  (bif (decide (a8<(v1.length:Int))) then
  (H0c b0 a8).bind fun v13=>
  Option.bind
  (B0v b0 b1 v1 a8 F0 (W (b1 - v13)) 0) fun p30=>
  (appL a9 ([p30]:List Int)).bind fun v31=>
  C0j b0 b1 v1 fuel (W (a8+1)) v31
  else
  some a9)
def G0n (b0:A0d)(b1:Int):Option (List Int):=
 (G0l b0).bind fun v1=>
 Option.bind
 (C0j b0 b1 v1 F0 0 ([]:List Int)) fun p32=>
 some p32
def J0y (b0:Int):Option ByteArray:=
 (E0c b0 1 4).bind fun v1=>
 (bif (!v1) then
 some ByteArray.empty
 else
 (idxL ([ByteArray.empty,(⟨#[110,117,109,98,101,114]⟩:ByteArray),(⟨#[108,97,116,101,115,116]⟩:ByteArray),(⟨#[116,97,105,108]⟩:ByteArray),(⟨#[115,104,111,114,116,101,115,116]⟩:ByteArray)]:List ByteArray) b0).bind fun v3=>
 some v3)
def C0t (b0:A0d)(b1:Int)(v1:List (List Int)):Nat→Int→Int→Option Int
 | 0,_,_=>none
 | fuel+1,a10,a11=>
  (bif (decide (a11<(v1.length:Int))) then
  (idxL v1 b1).bind fun v15=>
  (idxL v15 a11).bind fun v16=>
  (bif (v16 != (-1000)) then
  (H0c b0 a11).bind fun v18=>
  (Q0t a10 (W (v16+v18))).bind fun v19=>
  C0t b0 b1 v1 fuel v19 (W (a11+1))
  else
  C0t b0 b1 v1 fuel a10 (W (a11+1)))
  else
  some a10)
def K0s (b0:A0d)(b1:Int):Option Int:=
 (G0l b0).bind fun v1=>
 (E0c b1 0 (W ((v1.length:Int) - 1))).bind fun v2=>
 (bif (!v2) then
 some 0
 else
 Option.bind
 (C0t b0 b1 v1 F0 0 0) fun p20=>
 some p20)
def K0a (b0:A0d)(b1:Int)(b2:List Int)(b3:Int):Option Int:=
 (bif (b1 == 2) then
 (idxL b2 b3).bind fun v2=>
 some v2
 else
 (bif (b1 == 3) then
 (K0s b0 b3).bind fun v4=>
 some (W (0 - v4))
 else
 (bif (b1 == 4) then
 (H0c b0 b3).bind fun v6=>
 some v6
 else
 some b3)))
def C0n (b0:A0d)(b1:Int)(v1:List Int)(a14:List Int)(z13:Int):Nat→Int→Option Int
 | 0,_=>none
 | fuel+1,a23=>
  Option.bind
  ((bif (decide (0<a23)) then
  (idxL a14 (W (a23 - 1))).bind fun v28=>
  (K0a b0 b1 v1 v28).bind fun v29=>
  (K0a b0 b1 v1 z13).bind fun v30=>
  some (decide (v30<v29))
  else
  some false)) fun e26=>
  (bif e26 then
  C0n b0 b1 v1 a14 z13 fuel (W (a23 - 1))
  else
  some a23)
def C0o (b0:A0d)(b1:Int)(v1:List Int):List A0g→Int→(List Int)→Option (List Int)
 | [],z13,a14=>
  some a14
 | x15::xs16,z13,a14=>
  Option.bind
  (C0n b0 b1 v1 a14 z13 F0 (a14.length:Int)) fun p32=>
  (subL a14 0 p32).bind fun v33=>
  (appL ([]:List Int) v33).bind fun v34=>
  (appL v34 ([z13]:List Int)).bind fun v35=>
  (subL a14 p32 (a14.length:Int)).bind fun v36=>
  (appL v35 v36).bind fun v37=>
  C0o b0 b1 v1 xs16 (z13+1) v37
def H0f (b0:A0d)(b1:Int):Option (List Int):=
 (G0n b0 b0.Deadline).bind fun v1=>
 (J0y b1).bind fun v2=>
 Option.bind
 ((bif (v2 == ByteArray.empty) then
 some true
 else
 some ((v1.length:Int) == 0))) fun e3=>
 (bif e3 then
 some ([]:List Int)
 else
 Option.bind
 (C0o b0 b1 v1 b0.Activities 0 ([]:List Int)) fun p38=>
 some p38)
def L0e (b0:Int):Option Bool:=
 some (b0 != b0)
def J0k (b0:Int)(b1:Int):Option Int:=
 (L0e b0).bind fun v1=>
 (L0e b1).bind fun v2=>
 (bif v1 then
 (bif v2 then
 some 0
 else
 some (-1))
 else
 (bif v2 then
 some 1
 else
 (bif (decide (b0<b1)) then
 some (-1)
 else
 (bif (decide (b1<b0)) then
 some 1
 else
 some 0))))
def E0v (b0:Int)(b1:Int)(g2:Int→Option Int):Option Int:=
 (g2 b0).bind fun v1=>
 (g2 b1).bind fun v2=>
 (J0k v1 v2).bind fun v3=>
 some v3
def A0t (b1:Int)(g3:Int→Int→Option Int):Nat→Int→(List Int)→Option (List Int)
 | 0,_,_=>none
 | fuel+1,a16,a17=>
  Option.bind
  ((bif (decide (b1<a16)) then
  (idxL a17 a16).bind fun v22=>
  (idxL a17 (W (a16 - 1))).bind fun v23=>
  (g3 v22 v23).bind fun v24=>
  some (decide (v24<0))
  else
  some false)) fun e20=>
  (bif e20 then
  (idxL a17 (W (a16 - 1))).bind fun v26=>
  (idxL a17 a16).bind fun v27=>
  (idxL (setL a17 a16 v26) (W (a16 - 1))).bind fun v28=>
  A0t b1 g3 fuel (W (a16 - 1)) (setL (setL a17 a16 v26) (W (a16 - 1)) v27)
  else
  some a17)
def A0p (b1:Int)(b2:Int)(g3:Int→Int→Option Int):Nat→Int→(List Int)→Option (List Int)
 | 0,_,_=>none
 | fuel+1,a6,a7=>
  (bif (decide (a6<b2)) then
  Option.bind
  (A0t b1 g3 F0 a6 a7) fun p29=>
  A0p b1 b2 g3 fuel (W (a6+1)) p29
  else
  some a7)
def B0e (b0:List Int)(b1:Int)(b2:Int)(g3:Int→Int→Option Int):Option (List Int):=
 Option.bind
 (A0p b1 b2 g3 F0 (W (b1+1)) b0) fun p30=>
 some p30
def B0r (b1:Int)(b2:Int)(b3:Int):Nat→Int→(List Int)→Option (List Int)
 | 0,_,_=>none
 | fuel+1,a7,a8=>
  (bif (decide (a7<b3)) then
  (idxL a8 (W (b2+a7))).bind fun v12=>
  (idxL a8 (W (b1+a7))).bind fun v13=>
  (idxL (setL a8 (W (b1+a7)) v12) (W (b2+a7))).bind fun v14=>
  B0r b1 b2 b3 fuel (W (a7+1)) (setL (setL a8 (W (b1+a7)) v12) (W (b2+a7)) v13)
  else
  some a8)
def C0e (b0:List Int)(b1:Int)(b2:Int)(b3:Int)(g4:Int→Int→Option Int):Option (List Int):=
 Option.bind
 (B0r b1 b2 b3 F0 0 b0) fun p15=>
 some p15
def B0n (b2:Int)(g4:Int→Int→Option Int):Nat→Int→Int→(List Int)→Option (Int×(List Int))
 | 0,_,_,_=>none
 | fuel+1,a6,a7,a8=>
  (bif (a6 != a7) then
  (bif (decide (a7<a6)) then
  (C0e a8 (W (b2 - a6)) b2 a7 g4).bind fun v13=>
  B0n b2 g4 fuel (W (a6 - a7)) a7 v13
  else
  (C0e a8 (W (b2 - a6)) (W ((W (b2+a7)) - a6)) a6 g4).bind fun v14=>
  B0n b2 g4 fuel a6 (W (a7 - a6)) v14)
  else
  some (a6,a8))
def G0z (b0:List Int)(b1:Int)(b2:Int)(b3:Int)(g4:Int→Int→Option Int):Option (List Int):=
 Option.bind
 (B0n b2 g4 F0 (W (b2 - b1)) (W (b3 - b2)) b0) fun p15=>
 (C0e p15.2 (W (b2 - p15.1)) b2 p15.1 g4).bind fun v16=>
 some v16
def B0i (b0:List Int)(b1:Int)(g4:Int→Int→Option Int):Nat→Int→Int→Option Int
 | 0,_,_=>none
 | fuel+1,a7,a8=>
  (bif (decide (a7<a8)) then
  (idxL b0 (IntKind.i64.wrap (Int.fdiv (IntKind.u64.wrap (W (a7+a8))) (2 ^ min (Int.toNat 1) (IntKind.bits .u64))))).bind fun v12=>
  (idxL b0 b1).bind fun v13=>
  (g4 v12 v13).bind fun v14=>
  (bif (decide (v14<0)) then
  B0i b0 b1 g4 fuel (W ((IntKind.i64.wrap (Int.fdiv (IntKind.u64.wrap (W (a7+a8))) (2 ^ min (Int.toNat 1) (IntKind.bits .u64))))+1)) a8
  else
  B0i b0 b1 g4 fuel a7 (IntKind.i64.wrap (Int.fdiv (IntKind.u64.wrap (W (a7+a8))) (2 ^ min (Int.toNat 1) (IntKind.bits .u64)))))
  else
  some a7)
def B0t (p16:Int):Nat→Int→(List Int)→Option (List Int)
 | 0,_,_=>none
 | fuel+1,a22,a23=>
  (bif (decide (a22<(W (p16 - 1)))) then
  (idxL a23 (W (a22+1))).bind fun v27=>
  (idxL a23 a22).bind fun v28=>
  (idxL (setL a23 a22 v27) (W (a22+1))).bind fun v29=>
  B0t p16 fuel (W (a22+1)) (setL (setL a23 a22 v27) (W (a22+1)) v28)
  else
  some a23)
def B0j (b0:List Int)(b2:Int)(g4:Int→Int→Option Int):Nat→Int→Int→Option Int
 | 0,_,_=>none
 | fuel+1,a37,a38=>
  (bif (decide (a37<a38)) then
  (idxL b0 b2).bind fun v42=>
  (idxL b0 (IntKind.i64.wrap (Int.fdiv (IntKind.u64.wrap (W (a37+a38))) (2 ^ min (Int.toNat 1) (IntKind.bits .u64))))).bind fun v43=>
  (g4 v42 v43).bind fun v44=>
  (bif (!(decide (v44<0))) then
  B0j b0 b2 g4 fuel (W ((IntKind.i64.wrap (Int.fdiv (IntKind.u64.wrap (W (a37+a38))) (2 ^ min (Int.toNat 1) (IntKind.bits .u64))))+1)) a38
  else
  B0j b0 b2 g4 fuel a37 (IntKind.i64.wrap (Int.fdiv (IntKind.u64.wrap (W (a37+a38))) (2 ^ min (Int.toNat 1) (IntKind.bits .u64)))))
  else
  some a37)
def B0u (p46:Int):Nat→Int→(List Int)→Option (List Int)
 | 0,_,_=>none
 | fuel+1,a52,a53=>
  (bif (decide (p46<a52)) then
  (idxL a53 (W (a52 - 1))).bind fun v57=>
  (idxL a53 a52).bind fun v58=>
  (idxL (setL a53 a52 v57) (W (a52 - 1))).bind fun v59=>
  B0u p46 fuel (W (a52 - 1)) (setL (setL a53 a52 v57) (W (a52 - 1)) v58)
  else
  some a53)
def B0k (b0:List Int)(b1:Int)(b2:Int)(b3:Int)(g4:Int→Int→Option Int):Nat→Int→Int→Option Int
 | 0,_,_=>none
 | fuel+1,a72,a73=>
  (bif (decide (a72<a73)) then
  (idxL b0 (W ((W ((W ((IntKind.i64.wrap (Int.fdiv (IntKind.u64.wrap (W (b1+b3))) (2 ^ min (Int.toNat 1) (IntKind.bits .u64))))+b2)) - 1)) - (IntKind.i64.wrap (Int.fdiv (IntKind.u64.wrap (W (a72+a73))) (2 ^ min (Int.toNat 1) (IntKind.bits .u64))))))).bind fun v77=>
  (idxL b0 (IntKind.i64.wrap (Int.fdiv (IntKind.u64.wrap (W (a72+a73))) (2 ^ min (Int.toNat 1) (IntKind.bits .u64))))).bind fun v78=>
  (g4 v77 v78).bind fun v79=>
  (bif (!(decide (v79<0))) then
  B0k b0 b1 b2 b3 g4 fuel (W ((IntKind.i64.wrap (Int.fdiv (IntKind.u64.wrap (W (a72+a73))) (2 ^ min (Int.toNat 1) (IntKind.bits .u64))))+1)) a73
  else
  B0k b0 b1 b2 b3 g4 fuel a72 (IntKind.i64.wrap (Int.fdiv (IntKind.u64.wrap (W (a72+a73))) (2 ^ min (Int.toNat 1) (IntKind.bits .u64)))))
  else
  some a72)
def D0z (b0:List Int)(b1:Int)(b2:Int)(b3:Int)(g4:Int→Int→Option Int):Option (List Int):=
 (bif ((W (b2 - b1)) == 1) then
 Option.bind
 (B0i b0 b1 g4 F0 b2 b3) fun p16=>
 Option.bind
 (B0t p16 F0 b1 b0) fun p30=>
 some p30
 else
 (bif ((W (b3 - b2)) == 1) then
 Option.bind
 (B0j b0 b2 g4 F0 b1 b2) fun p46=>
 Option.bind
 (B0u p46 F0 b2 b0) fun p60=>
 some p60
 else
 Option.bind
 ((bif (decide ((IntKind.i64.wrap (Int.fdiv (IntKind.u64.wrap (W (b1+b3))) (2 ^ min (Int.toNat 1) (IntKind.bits .u64))))<b2)) then
 some ((W ((W ((IntKind.i64.wrap (Int.fdiv (IntKind.u64.wrap (W (b1+b3))) (2 ^ min (Int.toNat 1) (IntKind.bits .u64))))+b2)) - b3)),(IntKind.i64.wrap (Int.fdiv (IntKind.u64.wrap (W (b1+b3))) (2 ^ min (Int.toNat 1) (IntKind.bits .u64)))))
 else
 some (b1,b2))) fun p66=>
 Option.bind
 (B0k b0 b1 b2 b3 g4 F0 p66.1 p66.2) fun p81=>
 Option.bind
 ((bif (decide (p81<b2)) then
 some (decide (b2<(W ((W ((IntKind.i64.wrap (Int.fdiv (IntKind.u64.wrap (W (b1+b3))) (2 ^ min (Int.toNat 1) (IntKind.bits .u64))))+b2)) - p81))))
 else
 some false)) fun e82=>
 Option.bind
 ((bif e82 then
 (G0z b0 p81 b2 (W ((W ((IntKind.i64.wrap (Int.fdiv (IntKind.u64.wrap (W (b1+b3))) (2 ^ min (Int.toNat 1) (IntKind.bits .u64))))+b2)) - p81)) g4).bind fun v89=>
 some v89
 else
 some b0)) fun p90=>
 Option.bind
 ((bif (decide (b1<p81)) then
 some (decide (p81<(IntKind.i64.wrap (Int.fdiv (IntKind.u64.wrap (W (b1+b3))) (2 ^ min (Int.toNat 1) (IntKind.bits .u64))))))
 else
 some false)) fun e91=>
 Option.bind
 ((bif e91 then
 none
 else
 some ())) fun p98=>
 Option.bind
 ((bif (decide ((IntKind.i64.wrap (Int.fdiv (IntKind.u64.wrap (W (b1+b3))) (2 ^ min (Int.toNat 1) (IntKind.bits .u64))))<(W ((W ((IntKind.i64.wrap (Int.fdiv (IntKind.u64.wrap (W (b1+b3))) (2 ^ min (Int.toNat 1) (IntKind.bits .u64))))+b2)) - p81)))) then
 some (decide ((W ((W ((IntKind.i64.wrap (Int.fdiv (IntKind.u64.wrap (W (b1+b3))) (2 ^ min (Int.toNat 1) (IntKind.bits .u64))))+b2)) - p81))<b3))
 else
 some false)) fun e99=>
 (bif e99 then
 none
 else
 some p90)))
def B0g (b1:Int)(g2:Int→Int→Option Int):Nat→Int→Int→(List Int)→Option (Int×(List Int))
 | 0,_,_,_=>none
 | fuel+1,a6,a7,a8=>
  (bif (decide (a7≤b1)) then
  (B0e a8 a6 a7 g2).bind fun v12=>
  B0g b1 g2 fuel a7 (W (a7+20)) v12
  else
  some (a6,a8))
def C0h (b1:Int)(g2:Int→Int→Option Int)(a20:Int):Nat→Int→Int→(List Int)→Option (Int×(List Int))
 | 0,_,_,_=>none
 | fuel+1,a30,a31,a32=>
  (bif (decide (a31≤b1)) then
  (D0z a32 a30 (W (a30+a20)) a31 g2).bind fun v36=>
  C0h b1 g2 a20 fuel a31 (W (a31+(W (2*a20)))) v36
  else
  some (a30,a32))
def B0b (b1:Int)(g2:Int→Int→Option Int):Nat→Int→(List Int)→Option (List Int)
 | 0,_,_=>none
 | fuel+1,a20,a21=>
  (bif (decide (a20<b1)) then
  Option.bind
  (C0h b1 g2 a20 F0 0 (W (2*a20)) a21) fun p37=>
  (bif (decide ((W (p37.1+a20))<b1)) then
  (D0z p37.2 p37.1 (W (p37.1+a20)) b1 g2).bind fun v39=>
  B0b b1 g2 fuel (W (a20*2)) v39
  else
  B0b b1 g2 fuel (W (a20*2)) p37.2)
  else
  some a21)
def E0r (b0:List Int)(b1:Int)(g2:Int→Int→Option Int):Option (List Int):=
 Option.bind
 (B0g b1 g2 F0 0 20 b0) fun p13=>
 (B0e p13.2 p13.1 b1 g2).bind fun v14=>
 Option.bind
 (B0b b1 g2 F0 20 v14) fun p40=>
 some p40
def C0s (b0:List Int)(g1:Int→Int→Option Int):Option (List Int):=
 (E0r b0 (b0.length:Int) g1).bind fun v1=>
 some v1
def D0m (b0:A0d)(g1:Int→Option Int):Option (List Int):=
 (N0f (b0.Activities.length:Int)).bind fun v1=>
 (C0s v1 (fun x0 x1=>E0v x0 x1 g1)).bind fun v2=>
 some v2
def G0j (b0:Int):Option Int:=
 some 0
def B0x (b0:A0d)(b1:Int)(v13:List Int):Nat→Int→Bool→Int→Option Int
 | 0,_,_,_=>none
 | fuel+1,a20,a21,a22=>
  (bif (decide (a22<(v13.length:Int))) then
  (idxL v13 a22).bind fun v26=>
  (B0o b0 a22).bind fun v27=>
  Option.bind
  ((bif (v26 != (-1000)) then
  (bif (!a21) then
  some true
  else
  some (decide ((W ((W (b1 - v27)) - v26))<a20)))
  else
  some false)) fun e28=>
  (bif e28 then
  B0x b0 b1 v13 fuel (W ((W (b1 - v27)) - v26)) true (W (a22+1))
  else
  B0x b0 b1 v13 fuel a20 a21 (W (a22+1)))
  else
  some a20)
def C0i (b0:A0d)(b1:Int)(v1:List (List Int)):Nat→Int→(List Int)→Option (List Int)
 | 0,_,_=>none
 | fuel+1,a8,a9=>
  (bif (decide (a8<(v1.length:Int))) then
  (idxL v1 a8).bind fun v13=>
  Option.bind
  (B0x b0 b1 v13 F0 0 false 0) fun p32=>
  (appL a9 ([p32]:List Int)).bind fun v33=>
  C0i b0 b1 v1 fuel (W (a8+1)) v33
  else
  some a9)
def J0x (b0:A0d)(b1:Int):Option (List Int):=
 (E0z b0).bind fun v1=>
 Option.bind
 (C0i b0 b1 v1 F0 0 ([]:List Int)) fun p34=>
 some p34
def E0s (b0:Int)(c1:List Int):Option Int:=
 (idxL c1 b0).bind fun v1=>
 some v1
def C0u (b0:A0d)(v7:List Int):Nat→Int→Int→Option Int
 | 0,_,_=>none
 | fuel+1,a14,a15=>
  (bif (decide (a15<(v7.length:Int))) then
  (idxL v7 a15).bind fun v19=>
  (bif (v19 != (-1000)) then
  (B0o b0 a15).bind fun v21=>
  C0u b0 v7 fuel (max a14 (W (v19+v21))) (W (a15+1))
  else
  C0u b0 v7 fuel a14 (W (a15+1)))
  else
  some a14)
def L0z (b0:A0d)(b1:Int):Option Int:=
 (E0z b0).bind fun v1=>
 Option.bind
 ((bif ((v1.length:Int) == 0) then
 some true
 else
 (C0f b0 b1).bind fun v4=>
 some (!v4))) fun e2=>
 (bif e2 then
 some 0
 else
 (B0o b0 b1).bind fun v6=>
 (idxL v1 b1).bind fun v7=>
 Option.bind
 (C0u b0 v7 F0 v6 0) fun p22=>
 some p22)
def E0t (b0:Int)(c1:A0d):Option Int:=
 (L0z c1 b0).bind fun v1=>
 some (W (0 - v1))
def F0o (b0:A0d)(b1:Int):Option (List Int):=
 (E0z b0).bind fun v1=>
 (bif ((v1.length:Int) == 0) then
 some ([]:List Int)
 else
 (bif (b1 == 1) then
 (D0m b0 (fun x0=>G0j x0)).bind fun v4=>
 some v4
 else
 (bif (b1 == 2) then
 (J0x b0 b0.Deadline).bind fun v6=>
 (D0m b0 (fun x0=>E0s x0 v6)).bind fun v7=>
 some v7
 else
 (bif (b1 == 3) then
 (D0m b0 (fun x0=>E0t x0 b0)).bind fun v9=>
 some v9
 else
 (bif (b1 == 4) then
 (D0m b0 (fun x0=>B0o b0 x0)).bind fun v11=>
 some v11
 else
 some ([]:List Int))))))
def G0g  : Nat→Int→ByteArray→Option ByteArray
 | 0,_,_=>none
 | fuel+1,a7,a8=>
  (bif (decide (0<a7)) then
  (catS (strB ([(IntKind.u8.wrap (W (48+(a7.tmod 10))))]:List Int)) a8).bind fun v12=>
  G0g fuel (W (a7.tdiv 10)) v12
  else
  some a8)
def N0i (b0:Int):Option ByteArray:=
 (bif (decide (b0≤0)) then
 some (⟨#[109,48]⟩:ByteArray)
 else
 Option.bind
 (G0g F0 b0 ByteArray.empty) fun p13=>
 (catS (⟨#[109]⟩:ByteArray) p13).bind fun v14=>
 some v14)
def E0q  : List Int→Int→Int→Option Int
 | [],z8,a9=>
  some a9
 | x10::xs11,z8,a9=>
  E0q xs11 (z8+1) (W (a9+1))
def H0m (b0:List Int)(b1:Int):Option Int:=
 Option.bind
 (E0q b0 0 b1) fun p13=>
 some p13
def D0x  : List TMode→Int→Int→Option Int
 | [],z8,a9=>
  some a9
 | x10::xs11,z8,a9=>
  (H0m x10.Usage (W (a9+1))).bind fun v13=>
  (H0m x10.Consumption v13).bind fun v14=>
  D0x xs11 (z8+1) v14
def L0j (b0:List TMode)(b1:Int):Option Int:=
 Option.bind
 (D0x b0 0 b1) fun p15=>
 some p15
def B0y  : List A0g→Int→Int→Option Int
 | [],z8,a9=>
  some a9
 | x10::xs11,z8,a9=>
  (N0i a9).bind fun v13=>
  (L0j x10.Modes (W ((W (a9+1))+1))).bind fun v14=>
  B0y xs11 (z8+1) v14
def G0y (b0:List A0g)(b1:Int):Option Int:=
 Option.bind
 (B0y b0 0 b1) fun p15=>
 some p15
def D0v  : List TLink→Int→Int→Option Int
 | [],z8,a9=>
  some a9
 | x10::xs11,z8,a9=>
  D0v xs11 (z8+1) (W ((W ((W ((W (a9+1))+1))+1))+1))
def L0i (b0:List TLink)(b1:Int):Option Int:=
 Option.bind
 (D0v b0 0 b1) fun p13=>
 some p13
def D0y  : List TStep→Int→Int→Option Int
 | [],z8,a9=>
  some a9
 | x10::xs11,z8,a9=>
  D0y xs11 (z8+1) (W ((W (a9+1))+1))
def L0d (b0:List TStep)(b1:Int):Option Int:=
 Option.bind
 (D0y b0 0 b1) fun p13=>
 some p13
def D0w  : List (List Int)→Int→Int→Option Int
 | [],z8,a9=>
  some a9
 | x10::xs11,z8,a9=>
  (H0m x10 a9).bind fun v13=>
  D0w xs11 (z8+1) v13
def K0x (b0:List (List Int))(b1:Int):Option Int:=
 Option.bind
 (D0w b0 0 b1) fun p14=>
 some p14
def B0z  : List A0n→Int→Int→Option Int
 | [],z8,a9=>
  some a9
 | x10::xs11,z8,a9=>
  (L0d x10.Steps a9).bind fun v13=>
  (K0x x10.Setup v13).bind fun v14=>
  B0z xs11 (z8+1) v14
def H0a (b0:List A0n)(b1:Int):Option Int:=
 Option.bind
 (B0z b0 0 b1) fun p15=>
 some p15
def J0t (b0:A0d)(b1:Int):Option Int:=
 (G0y b0.Activities b1).bind fun v1=>
 (L0i b0.Links v1).bind fun v2=>
 (H0a b0.Resources v2).bind fun v3=>
 (H0m b0.Stocks v3).bind fun v4=>
 some v4
def G0k  : Nat→Int→Int→(List Int)→Option (Int×(List Int))
 | 0,_,_,_=>none
 | fuel+1,a7,a8,a9=>
  (bif (decide (a8<(a9.length:Int))) then
  (idxL a9 a8).bind fun v13=>
  G0k fuel (W (a7+1)) (W (a8+1)) (setL a9 a8 a7)
  else
  some (a7,a9))
def Q0b (b0:List Int)(b1:Int):Option (Int×(List Int)):=
 Option.bind
 (G0k F0 b1 0 b0) fun p14=>
 some (p14.1,p14.2)
def H0r  : List Int→Int→Int→Option (Int ⊕ Int)
 | [],z8,a9=>
  some (Sum.inl a9)
 | x10::xs11,z8,a9=>
  (bif (x10 != a9) then
  some (Sum.inr (-1))
  else
  H0r xs11 (z8+1) (W (a9+1)))
def N0k (b0:List Int)(b1:Int):Option Int:=
 A0r
 (H0r b0 0 b1)
 (fun q15=>some q15) fun p14=>
 some p14
def w_FnExactPriorityOrder (b0:A0d)(b1:Int):Option Bool:=
 (N0q b0 1048576).bind fun v1=>
 (bif (decide (v1<0)) then
 some true
 else
 (J0e b0).bind fun v3=>
 (H0f v3 b1).bind fun v4=>
 (J0e b0).bind fun v5=>
 (F0o v5 b1).bind fun v6=>
 (L0w v6 v4).bind fun v7=>
 (bif (!v7) then
 some false
 else
 (J0e b0).bind fun v9=>
 (N0s v5 v9).bind fun v10=>
 (bif (!v10) then
 some false
 else
 (J0t v5 1).bind fun v12=>
 Option.bind
 ((bif (decide (v12<0)) then
 some true
 else
 (L0w v6 v4).bind fun v15=>
 some (!v15))) fun e13=>
 (bif e13 then
 some false
 else
 (Q0b v6 1).bind fun v17=>
 (N0k v17.2 1).bind fun v18=>
 (bif (decide (v18<0)) then
 some false
 else
 (bif (v18 != v17.1) then
 some false
 else
 (J0e b0).bind fun v21=>
 (F0o v21 b1).bind fun v22=>
 (L0w v22 v4).bind fun v23=>
 (bif (!v23) then
 some false
 else
 (N0k v17.2 1).bind fun v25=>
 (bif (decide (v25<0)) then
 some false
 else
 (bif (v25 != v17.1) then
 some false
 else
 some true)))))))))
def L0r (M:Nat)(l:List Int):Prop:=l.length≤M
theorem Q0k (x:List Int)(h:L0r 9223372036854775807 x):SzOk P0d (L0r 1048576) x:=J1v x (fun _=>rfl) h
def b_str (M:Nat)(x:ByteArray):Prop:=x.size≤M
def Q0u (M:Nat)(x:TMode):Prop:=L0r M x.Usage∧L0r M x.Consumption ∧  True
theorem F1d (x:TMode)(h:Q0u 9223372036854775807 x):SzOk S0b (Q0u 1048576) x:=fun n m0 hn=>by
 unfold S0b Q0u
 unfold Q0u at h
 exact U0z (Q0k _ h.1) m0 (by omega) (fun n1 m1 _ _=>U0z (Q0k _ h.2.1) m1 (by omega) (fun n2 m2 _ _=>szEnd m2))
def N0e (M:Nat)(l:List TMode):Prop:=l.length≤M∧∀ x∈l,Q0u M x
theorem C1j (x:List TMode)(h:N0e 9223372036854775807 x):SzOk U0r (N0e 1048576) x:=F1w (F:=K0r) (sz:=S0b) (Q:=Q0u 1048576) x (fun _ _=>rfl) (fun _ _ _ _=>rfl) (fun _=>rfl) h.1 (fun y hy=>F1d y (h.2 y hy))
def F0m (M:Nat)(x:A0g):Prop:=b_str M x.Name∧N0e M x.Modes ∧  True
theorem Y0z (x:A0g)(h:F0m 9223372036854775807 x):SzOk K0v (F0m 1048576) x:=fun n m0 hn=>by
 unfold K0v F0m
 unfold F0m at h
 exact szStr h.1 m0 (by omega) (fun n1 m1 _ _=>U0z (C1j _ h.2.1) m1 (by omega) (fun n2 m2 _ _=>szEnd m2))
def G0o (M:Nat)(l:List A0g):Prop:=l.length≤M∧∀ x∈l,F0m M x
theorem X0u (x:List A0g)(h:G0o 9223372036854775807 x):SzOk M0z (G0o 1048576) x:=F1w (F:=F0x) (sz:=K0v) (Q:=F0m 1048576) x (fun _ _=>rfl) (fun _ _ _ _=>rfl) (fun _=>rfl) h.1 (fun y hy=>Y0z y (h.2 y hy))
def N0j (M:Nat)(l:List TLink):Prop:=l.length≤M
theorem C1f (x:List TLink)(h:N0j 9223372036854775807 x):SzOk T0w (N0j 1048576) x:=J1v x (fun _=>rfl) h
def N0g (M:Nat)(l:List TStep):Prop:=l.length≤M
theorem D1k (x:List TStep)(h:N0g 9223372036854775807 x):SzOk V0h (N0g 1048576) x:=J1v x (fun _=>rfl) h
def Q0a (M:Nat)(l:List (List Int)):Prop:=l.length≤M∧∀ x∈l,L0r M x
theorem D1r (x:List (List Int))(h:Q0a 9223372036854775807 x):SzOk U0j (Q0a 1048576) x:=F1w (F:=K0u) (sz:=P0d) (Q:=L0r 1048576) x (fun _ _=>rfl) (fun _ _ _ _=>rfl) (fun _=>rfl) h.1 (fun y hy=>Q0k y (h.2 y hy))
def F0z (M:Nat)(x:A0n):Prop:=N0g M x.Steps∧Q0a M x.Setup ∧  True
theorem Z0r (x:A0n)(h:F0z 9223372036854775807 x):SzOk K0t (F0z 1048576) x:=fun n m0 hn=>by
 unfold K0t F0z
 unfold F0z at h
 exact U0z (D1k _ h.1) m0 (by omega) (fun n1 m1 _ _=>U0z (D1r _ h.2.1) m1 (by omega) (fun n2 m2 _ _=>szEnd m2))
def H0w (M:Nat)(l:List A0n):Prop:=l.length≤M∧∀ x∈l,F0z M x
theorem W0z (x:List A0n)(h:H0w 9223372036854775807 x):SzOk M0u (H0w 1048576) x:=F1w (F:=F0y) (sz:=K0t) (Q:=F0z 1048576) x (fun _ _=>rfl) (fun _ _ _ _=>rfl) (fun _=>rfl) h.1 (fun y hy=>Z0r y (h.2 y hy))
def H0b (M:Nat)(x:A0d):Prop:=G0o M x.Activities∧N0j M x.Links∧H0w M x.Resources∧L0r M x.Stocks ∧  True
theorem A1k (x:A0d)(h:H0b 9223372036854775807 x):SzOk N0q (H0b 1048576) x:=fun n m0 hn=>by
 unfold N0q H0b
 unfold H0b at h
 exact U0z (X0u _ h.1) m0 (by omega) (fun n1 m1 _ _=>U0z (C1f _ h.2.1) m1 (by omega) (fun n2 m2 _ _=>U0z (W0z _ h.2.2.1) m2 (by omega) (fun n3 m3 _ _=>U0z (Q0k _ h.2.2.2.1) m3 (by omega) (fun n4 m4 _ _=>szEnd m4))))
theorem Q0n (x:List Int)(h:L0r 1048576 x):Q0g x=some x:=Q0h (F:=K0k) (Q:=fun _=>True) (fun _ _=>rfl) (fun x xs z a y hq hy=>by simp only [K0k,hy,Option.bind_some]) h (fun _ _=>trivial) rfl
theorem F1i (x:TMode)(h:Q0u 1048576 x):V0t x=some x:=by
 unfold Q0u at h
 unfold V0t
 try simp only [Q0n _ (h.1),Q0n _ (h.2.1),Option.bind_some]
theorem D1q (x:List TMode)(h:N0e 1048576 x):V0k x=some x:=Q0h (F:=J0l) (Q:=Q0u 1048576) (fun _ _=>rfl) (fun x xs z a y hq hy=>by simp only [J0l,F1i x hq,hy,Option.bind_some]) h.1 h.2 rfl
theorem Z0i (x:A0g)(h:F0m 1048576 x):M0a x=some x:=by
 unfold F0m at h
 unfold M0a
 try simp only [D1q _ (h.2.1),Option.bind_some]
theorem X0g (x:List A0g)(h:G0o 1048576 x):N0c x=some x:=Q0h (F:=F0b) (Q:=F0m 1048576) (fun _ _=>rfl) (fun x xs z a y hq hy=>by simp only [F0b,Z0i x hq,hy,Option.bind_some]) h.1 h.2 rfl
theorem E1t (x:TLink):T0t x=some x:=by
 unfold T0t
 try simp only [Option.bind_some]
theorem C1g (x:List TLink)(h:N0j 1048576 x):V0c x=some x:=Q0h (F:=J0i) (Q:=fun _=>True) (fun _ _=>rfl) (fun x xs z a y hq hy=>by simp only [J0i,E1t,hy,Option.bind_some]) h (fun _ _=>trivial) rfl
theorem E1j (x:TStep):U0a x=some x:=by
 unfold U0a
 try simp only [Option.bind_some]
theorem C1h (x:List TStep)(h:N0g 1048576 x):T0q x=some x:=Q0h (F:=J0g) (Q:=fun _=>True) (fun _ _=>rfl) (fun x xs z a y hq hy=>by simp only [J0g,E1j,hy,Option.bind_some]) h (fun _ _=>trivial) rfl
theorem D1u (x:List (List Int))(h:Q0a 1048576 x):T0y x=some x:=Q0h (F:=J0f) (Q:=L0r 1048576) (fun _ _=>rfl) (fun x xs z a y hq hy=>by simp only [J0f,Q0n x hq,hy,Option.bind_some]) h.1 h.2 rfl
theorem Z0c (x:A0n)(h:F0z 1048576 x):M0b x=some x:=by
 unfold F0z at h
 unfold M0b
 try simp only [C1h _ (h.1),D1u _ (h.2.1),Option.bind_some]
theorem X0n (x:List A0n)(h:H0w 1048576 x):M0o x=some x:=Q0h (F:=E0x) (Q:=F0z 1048576) (fun _ _=>rfl) (fun x xs z a y hq hy=>by simp only [E0x,Z0c x hq,hy,Option.bind_some]) h.1 h.2 rfl
theorem A1h (x:A0d)(h:H0b 1048576 x):J0e x=some x:=by
 unfold H0b at h
 unfold J0e
 try simp only [X0g _ (h.1),C1g _ (h.2.1),X0n _ (h.2.2.1),Q0n _ (h.2.2.2.1),Option.bind_some]
theorem N0o (a b:List Int):L0w a b=some (decide (a=b)):=Z0v (F:=K0f b) (fun _=>rfl) (fun x xs z y h=>by simp only [K0f,h,Option.bind_some,K0i];by_cases hxy:x=y <;> simp [hxy]) rfl
theorem F1a (a b:TMode):T0u a b=some (decide (a=b)):=by
 obtain ⟨a0,a1,a2⟩:=a
 obtain ⟨b0,b1,b2⟩:=b
 simp only [T0u,N0o,N0o,TMode.mk.injEq,Option.bind_some,K0i,S0l,A1x]
 by_cases h0:a0=b0 <;> by_cases h1:a1=b1 <;> by_cases h2:a2=b2 <;> simp [h0,h1,h2]
theorem D1w (a b:List TMode):V0x a b=some (decide (a=b)):=Z0v (F:=J0d b) (fun _=>rfl) (fun x xs z y h=>by simp only [J0d,h,Option.bind_some,K0i,F1a];by_cases hxy:x=y <;> simp [hxy]) rfl
theorem Y0r (a b:A0g):M0g a b=some (decide (a=b)):=by
 obtain ⟨a0,a1,a2⟩:=a
 obtain ⟨b0,b1,b2⟩:=b
 simp only [M0g,D1w,A0g.mk.injEq,Option.bind_some,K0i,S0l,A1x]
 by_cases h0:a0=b0 <;> by_cases h1:a1=b1 <;> by_cases h2:a2=b2 <;> simp [h0,h1,h2]
theorem X0d (a b:List A0g):N0a a b=some (decide (a=b)):=Z0v (F:=E0y b) (fun _=>rfl) (fun x xs z y h=>by simp only [E0y,h,Option.bind_some,K0i,Y0r];by_cases hxy:x=y <;> simp [hxy]) rfl
theorem E1c (a b:TLink):U0h a b=some (decide (a=b)):=by
 obtain ⟨a0,a1,a2,a3⟩:=a
 obtain ⟨b0,b1,b2,b3⟩:=b
 simp only [U0h,TLink.mk.injEq,Option.bind_some,K0i,S0l,A1x]
 by_cases h0:a0=b0 <;> by_cases h1:a1=b1 <;> by_cases h2:a2=b2 <;> by_cases h3:a3=b3 <;> simp [h0,h1,h2,h3]
theorem D1l (a b:List TLink):U0u a b=some (decide (a=b)):=Z0v (F:=J0s b) (fun _=>rfl) (fun x xs z y h=>by simp only [J0s,h,Option.bind_some,K0i,E1c];by_cases hxy:x=y <;> simp [hxy]) rfl
theorem E1n (a b:TStep):V0e a b=some (decide (a=b)):=by
 obtain ⟨a0,a1⟩:=a
 obtain ⟨b0,b1⟩:=b
 simp only [V0e,TStep.mk.injEq,Option.bind_some,K0i,S0l,A1x]
 by_cases h0:a0=b0 <;> by_cases h1:a1=b1 <;> simp [h0,h1]
theorem C1r (a b:List TStep):U0s a b=some (decide (a=b)):=Z0v (F:=J0r b) (fun _=>rfl) (fun x xs z y h=>by simp only [J0r,h,Option.bind_some,K0i,E1n];by_cases hxy:x=y <;> simp [hxy]) rfl
theorem C1z (a b:List (List Int)):U0d a b=some (decide (a=b)):=Z0v (F:=J0p b) (fun _=>rfl) (fun x xs z y h=>by simp only [J0p,h,Option.bind_some,K0i,N0o];by_cases hxy:x=y <;> simp [hxy]) rfl
theorem Z0o (a b:A0n):M0h a b=some (decide (a=b)):=by
 obtain ⟨a0,a1⟩:=a
 obtain ⟨b0,b1⟩:=b
 simp only [M0h,C1r,C1z,A0n.mk.injEq,Option.bind_some,K0i,S0l,A1x]
 by_cases h0:a0=b0 <;> by_cases h1:a1=b1 <;> simp [h0,h1]
theorem X0f (a b:List A0n):M0v a b=some (decide (a=b)):=Z0v (F:=F0c b) (fun _=>rfl) (fun x xs z y h=>by simp only [F0c,h,Option.bind_some,K0i,Z0o];by_cases hxy:x=y <;> simp [hxy]) rfl
theorem A1d (a b:A0d):N0s a b=some (decide (a=b)):=by
 obtain ⟨a0,a1,a2,a3,a4⟩:=a
 obtain ⟨b0,b1,b2,b3,b4⟩:=b
 simp only [N0s,X0d,D1l,X0f,N0o,A0d.mk.injEq,Option.bind_some,K0i,S0l,A1x]
 by_cases h0:a0=b0 <;> by_cases h1:a1=b1 <;> by_cases h2:a2=b2 <;> by_cases h3:a3=b3 <;> by_cases h4:a4=b4 <;> simp [h0,h1,h2,h3,h4]
theorem L0k (x:List Int)(h:L0r 1048576 x):MkOk H0m 1048576 x:=
 MkOk.list (L1:=E0q) (e:=1) (Q:=fun _=>True) (fun _ _=>rfl) (fun x xs z k hx h0 hb=>by
  skip
  refine ⟨(k+1),by omega,by omega,?_⟩
  simp only [E0q]
  rw [W_of (n:=(k+1)) ⟨by omega,by omega⟩])
  (fun l k=>by unfold H0m;cases E0q l 0 k <;> rfl) h (fun _ _=>trivial) (by decide)
theorem X0r (x:List TMode)(h:N0e 1048576 x):MkOk L0j 2199024304128 x:=
 MkOk.list (L1:=D0x) (e:=2097153) (Q:=Q0u 1048576) (fun _ _=>rfl) (fun x xs z k hx h0 hb=>by
  unfold Q0u at hx
  obtain ⟨k0,e0,l0,u0⟩:=L0k x.Usage (hx.1) (k+1) (by omega) (by omega)
  obtain ⟨k1,e1,l1,u1⟩:=L0k x.Consumption (hx.2.1) k0 (by omega) (by omega)
  refine ⟨k1,by omega,by omega,?_⟩
  simp only [D0x]
  rw [W_of (n:=(k+1)) ⟨by omega,by omega⟩,e0,Option.bind_some,e1,Option.bind_some])
  (fun l k=>by unfold L0j;cases D0x l 0 k <;> rfl) h.1 h.2 (by decide)
theorem B1c (k:Int)(h0:0≤k)(h1:k≤9223372036854775807):∃ s,N0i k=some s:=by
 by_cases hk:k≤0
 ·exact ⟨_,by unfold N0i;rw [decide_eq_true hk,cond_true]⟩
 obtain ⟨s,e1,e2⟩:=G1o (L1:=G0g) (fun fuel k s hk hk3 hs=>by
  have hd:decide (0<k)=true:=decide_eq_true hk
  have hz:∀ n:Int,(strB [n]).size=1:=fun n=>rfl
  refine ⟨strB [IntKind.u8.wrap (W (48+k.tmod 10))] ++ s,by rw [ByteArray.size_append,hz];omega,?_⟩
  simp only [G0g,hd,cond_true]
  have hc:catS (strB [IntKind.u8.wrap (W (48+k.tmod 10))]) s=some (strB [IntKind.u8.wrap (W (48+k.tmod 10))] ++ s):=by
   unfold catS;rw [if_pos (by rw [hz];omega)]
  have hw:W (k.tdiv 10)=k.tdiv 10:=W_of ⟨by rw [Int.tdiv_eq_ediv_of_nonneg (by omega)];omega,by rw [Int.tdiv_eq_ediv_of_nonneg (by omega)];omega⟩
  rw [hc,Option.bind_some,hw]) (fun fuel k s hk=>by
  have hd:decide (0<k)=false:=decide_eq_false (by omega)
  simp only [G0g,hd,cond_false]) 19 F0 k ByteArray.empty (by have:=F0_gt;omega) (by omega) h1 (by decide)
 refine ⟨_,by unfold N0i;rw [decide_eq_false hk,cond_false,e1,Option.bind_some];unfold catS;rw [if_pos (by have:ByteArray.empty.size=0:=rfl;have:(⟨#[109]⟩:ByteArray).size=1:=rfl;omega),Option.bind_some]⟩
theorem S0n (x:List A0g)(h:G0o 1048576 x):MkOk G0y 2305844108727418880 x:=
 MkOk.list (L1:=B0y) (e:=2199024304130) (Q:=F0m 1048576) (fun _ _=>rfl) (fun x xs z k hx h0 hb=>by
  unfold F0m at hx
  obtain ⟨s0,es0⟩:=B1c k (by omega) (by omega)
  obtain ⟨k1,e1,l1,u1⟩:=X0r x.Modes (hx.2.1) ((k+1)+1) (by omega) (by omega)
  refine ⟨k1,by omega,by omega,?_⟩
  simp only [B0y]
  rw [es0,Option.bind_some,W_of (n:=(k+1)) ⟨by omega,by omega⟩,W_of (n:=((k+1)+1)) ⟨by omega,by omega⟩,e1,Option.bind_some])
  (fun l k=>by unfold G0y;cases B0y l 0 k <;> rfl) h.1 h.2 (by decide)
theorem X0p (x:List TLink)(h:N0j 1048576 x):MkOk L0i 4194304 x:=
 MkOk.list (L1:=D0v) (e:=4) (Q:=fun _=>True) (fun _ _=>rfl) (fun x xs z k hx h0 hb=>by
  skip
  refine ⟨((((k+1)+1)+1)+1),by omega,by omega,?_⟩
  simp only [D0v]
  rw [W_of (n:=(k+1)) ⟨by omega,by omega⟩,W_of (n:=((k+1)+1)) ⟨by omega,by omega⟩,W_of (n:=(((k+1)+1)+1)) ⟨by omega,by omega⟩,W_of (n:=((((k+1)+1)+1)+1)) ⟨by omega,by omega⟩])
  (fun l k=>by unfold L0i;cases D0v l 0 k <;> rfl) h (fun _ _=>trivial) (by decide)
theorem X0l (x:List TStep)(h:N0g 1048576 x):MkOk L0d 2097152 x:=
 MkOk.list (L1:=D0y) (e:=2) (Q:=fun _=>True) (fun _ _=>rfl) (fun x xs z k hx h0 hb=>by
  skip
  refine ⟨((k+1)+1),by omega,by omega,?_⟩
  simp only [D0y]
  rw [W_of (n:=(k+1)) ⟨by omega,by omega⟩,W_of (n:=((k+1)+1)) ⟨by omega,by omega⟩])
  (fun l k=>by unfold L0d;cases D0y l 0 k <;> rfl) h (fun _ _=>trivial) (by decide)
theorem X0b (x:List (List Int))(h:Q0a 1048576 x):MkOk K0x 1099511627776 x:=
 MkOk.list (L1:=D0w) (e:=1048576) (Q:=L0r 1048576) (fun _ _=>rfl) (fun x xs z k hx h0 hb=>by
  obtain ⟨k0,e0,l0,u0⟩:=L0k x hx k (by omega) (by omega)
  refine ⟨k0,by omega,by omega,?_⟩
  simp only [D0w]
  rw [e0,Option.bind_some])
  (fun l k=>by unfold K0x;cases D0w l 0 k <;> rfl) h.1 h.2 (by decide)
theorem S0m (x:List A0n)(h:H0w 1048576 x):MkOk H0a 1152923703630102528 x:=
 MkOk.list (L1:=B0z) (e:=1099513724928) (Q:=F0z 1048576) (fun _ _=>rfl) (fun x xs z k hx h0 hb=>by
  unfold F0z at hx
  obtain ⟨k0,e0,l0,u0⟩:=X0l x.Steps (hx.1) k (by omega) (by omega)
  obtain ⟨k1,e1,l1,u1⟩:=X0b x.Setup (hx.2.1) k0 (by omega) (by omega)
  refine ⟨k1,by omega,by omega,?_⟩
  simp only [B0z]
  rw [e0,Option.bind_some,e1,Option.bind_some])
  (fun l k=>by unfold H0a;cases B0z l 0 k <;> rfl) h.1 h.2 (by decide)
theorem U0m (x:A0d)(h:H0b 1048576 x):MkOk J0t 3458767812362764288 x:=fun k h0 hb=>by
 unfold H0b at h
 obtain ⟨k0,e0,l0,u0⟩:=S0n x.Activities (h.1) k (by omega) (by omega)
 obtain ⟨k1,e1,l1,u1⟩:=X0p x.Links (h.2.1) k0 (by omega) (by omega)
 obtain ⟨k2,e2,l2,u2⟩:=S0m x.Resources (h.2.2.1) k1 (by omega) (by omega)
 obtain ⟨k3,e3,l3,u3⟩:=L0k x.Stocks (h.2.2.2.1) k2 (by omega) (by omega)
 refine ⟨k3,?_,by omega,by omega⟩
 unfold J0t
 rw [e0,Option.bind_some,e1,Option.bind_some,e2,Option.bind_some,e3,Option.bind_some]
theorem A1f (x:List Int)(h:L0r 1048576 x)(k0:Int)(hk0:0≤k0)(hk1:k0+1048576≤1125899906842624):∃ k ys,Q0b x k0=some (k,ys)∧N0k ys k0=some k∧k0≤k∧k≤k0+1048576:=by
 replace h:x.length≤1048576:=h
 have e1:=J1y (G:=G0k) (c:=1) (up:=(fun k _=>k)) (by decide) (fun fuel k i l x hi hil hl h0 hb hx=>by
  have hd:decide (i<(l.length:Int))=true:=decide_eq_true hil
  have hlt:i.toNat<l.length:=by omega
  have hx2:∀ y,idxL (l.set i.toNat y) i=some y:=fun y=>by simp [idxL,hi,hlt]
  replace hx:idxL l i=some x:=by simp [idxL,hi,hx]
  simp only [G0k,hd,cond_true,hx,Option.bind_some,W_of (n:=k+1) ⟨by omega,by omega⟩,W_of (n:=i+1) ⟨by omega,by omega⟩,setL];rfl)
  (fun fuel k i l hi=>by
  have hd:decide (i<(l.length:Int))=false:=decide_eq_false (by omega)
  simp only [G0k,hd,cond_false]) (Nat.le_trans h (by decide)) hk0 (by omega)
 have hb:(1:Int)*(x.length:Int)≤1048576:=by omega
 have e2:=G1u (H:=H0r) (c:=1) (up:=(fun k _=>k)) (by decide) (fun x xs z k h0 hb=>by
  simp only [H0r,K0i,decide_true,Bool.not_true,cond_false,W_of (n:=k+1) ⟨by omega,by omega⟩];rfl) (fun _ _=>rfl) x 0 k0 hk0 (by omega)
 refine ⟨_,_,by unfold Q0b;rw [e1];rfl,by unfold N0k;rw [e2];rfl,by omega,by omega⟩
theorem L0u:∀ p,Val .int p→∃ x:Int,p=int x∧True:=fun p h=>by obtain ⟨n,e⟩:=L1k h;exact ⟨n,e,trivial⟩
theorem K1f:∀ p,Val .str p→∃ x:ByteArray,p=str x∧b_str 9223372036854775807 x:=fun p h=>L1t h
theorem R0z:∀ p,Val (.slice .int) p→∃ x:List Int,p=.slice (x.map int)∧L0r 9223372036854775807 x:=fun p h=>by
 obtain ⟨l,e,h1,h2⟩:=N0t L0u h
 exact ⟨l,e,h1⟩
theorem G1x:∀ p,Val (.agg [.int,.slice .int,.slice .int]) p→∃ x:TMode,p=B0l x∧Q0u 9223372036854775807 x:=fun p h=>by
 obtain ⟨zs0,rfl,hv0⟩:=h
 obtain ⟨x0,zs1,rfl,h0,hv1⟩:=C0q hv0
 obtain ⟨y0,rfl,b0⟩:=L0u _ h0
 obtain ⟨x1,zs2,rfl,h1,hv2⟩:=C0q hv1
 obtain ⟨y1,rfl,b1⟩:=R0z _ h1
 obtain ⟨x2,zs3,rfl,h2,hv3⟩:=C0q hv2
 obtain ⟨y2,rfl,b2⟩:=R0z _ h2
 obtain rfl:=Q0p hv3
 exact ⟨⟨y0,y1,y2⟩,rfl,⟨b1,b2,trivial⟩⟩
theorem B1r:∀ p,Val (.slice (.agg [.int,.slice .int,.slice .int])) p→∃ x:List TMode,p=.slice (x.map B0l)∧N0e 9223372036854775807 x:=fun p h=>by
 obtain ⟨l,e,h1,h2⟩:=N0t G1x h
 exact ⟨l,e,h1,h2⟩
theorem A1i:∀ p,Val (.agg [.str,.int,.slice (.agg [.int,.slice .int,.slice .int])]) p→∃ x:A0g,p=A0c x∧F0m 9223372036854775807 x:=fun p h=>by
 obtain ⟨zs0,rfl,hv0⟩:=h
 obtain ⟨x0,zs1,rfl,h0,hv1⟩:=C0q hv0
 obtain ⟨y0,rfl,b0⟩:=K1f _ h0
 obtain ⟨x1,zs2,rfl,h1,hv2⟩:=C0q hv1
 obtain ⟨y1,rfl,b1⟩:=L0u _ h1
 obtain ⟨x2,zs3,rfl,h2,hv3⟩:=C0q hv2
 obtain ⟨y2,rfl,b2⟩:=B1r _ h2
 obtain rfl:=Q0p hv3
 exact ⟨⟨y0,y1,y2⟩,rfl,⟨b0,b2,trivial⟩⟩
theorem W0c:∀ p,Val (.slice (.agg [.str,.int,.slice (.agg [.int,.slice .int,.slice .int])])) p→∃ x:List A0g,p=.slice (x.map A0c)∧G0o 9223372036854775807 x:=fun p h=>by
 obtain ⟨l,e,h1,h2⟩:=N0t A1i h
 exact ⟨l,e,h1,h2⟩
theorem H1u:∀ p,Val .bool p→∃ x:Bool,p=bool x∧True:=fun p h=>by obtain ⟨n,e⟩:=J1x h;exact ⟨n,e,trivial⟩
theorem H1f:∀ p,Val (.agg [.int,.int,.bool,.int]) p→∃ x:TLink,p=A0k x∧True:=fun p h=>by
 obtain ⟨zs0,rfl,hv0⟩:=h
 obtain ⟨x0,zs1,rfl,h0,hv1⟩:=C0q hv0
 obtain ⟨y0,rfl,b0⟩:=L0u _ h0
 obtain ⟨x1,zs2,rfl,h1,hv2⟩:=C0q hv1
 obtain ⟨y1,rfl,b1⟩:=L0u _ h1
 obtain ⟨x2,zs3,rfl,h2,hv3⟩:=C0q hv2
 obtain ⟨y2,rfl,b2⟩:=H1u _ h2
 obtain ⟨x3,zs4,rfl,h3,hv4⟩:=C0q hv3
 obtain ⟨y3,rfl,b3⟩:=L0u _ h3
 obtain rfl:=Q0p hv4
 exact ⟨⟨y0,y1,y2,y3⟩,rfl,trivial⟩
theorem B1n:∀ p,Val (.slice (.agg [.int,.int,.bool,.int])) p→∃ x:List TLink,p=.slice (x.map A0k)∧N0j 9223372036854775807 x:=fun p h=>by
 obtain ⟨l,e,h1,h2⟩:=N0t H1f h
 exact ⟨l,e,h1⟩
theorem G1z:∀ p,Val (.agg [.int,.int]) p→∃ x:TStep,p=B0m x∧True:=fun p h=>by
 obtain ⟨zs0,rfl,hv0⟩:=h
 obtain ⟨x0,zs1,rfl,h0,hv1⟩:=C0q hv0
 obtain ⟨y0,rfl,b0⟩:=L0u _ h0
 obtain ⟨x1,zs2,rfl,h1,hv2⟩:=C0q hv1
 obtain ⟨y1,rfl,b1⟩:=L0u _ h1
 obtain rfl:=Q0p hv2
 exact ⟨⟨y0,y1⟩,rfl,trivial⟩
theorem B1i:∀ p,Val (.slice (.agg [.int,.int])) p→∃ x:List TStep,p=.slice (x.map B0m)∧N0g 9223372036854775807 x:=fun p h=>by
 obtain ⟨l,e,h1,h2⟩:=N0t G1z h
 exact ⟨l,e,h1⟩
theorem C1t:∀ p,Val (.slice (.slice .int)) p→∃ x:List (List Int),p=.slice (x.map l_int)∧Q0a 9223372036854775807 x:=fun p h=>by
 obtain ⟨l,e,h1,h2⟩:=N0t R0z h
 exact ⟨l,e,h1,h2⟩
theorem A1b:∀ p,Val (.agg [.slice (.agg [.int,.int]),.slice (.slice .int)]) p→∃ x:A0n,p=A0e x∧F0z 9223372036854775807 x:=fun p h=>by
 obtain ⟨zs0,rfl,hv0⟩:=h
 obtain ⟨x0,zs1,rfl,h0,hv1⟩:=C0q hv0
 obtain ⟨y0,rfl,b0⟩:=B1i _ h0
 obtain ⟨x1,zs2,rfl,h1,hv2⟩:=C0q hv1
 obtain ⟨y1,rfl,b1⟩:=C1t _ h1
 obtain rfl:=Q0p hv2
 exact ⟨⟨y0,y1⟩,rfl,⟨b0,b1,trivial⟩⟩
theorem W0f:∀ p,Val (.slice (.agg [.slice (.agg [.int,.int]),.slice (.slice .int)])) p→∃ x:List A0n,p=.slice (x.map A0e)∧H0w 9223372036854775807 x:=fun p h=>by
 obtain ⟨l,e,h1,h2⟩:=N0t A1b h
 exact ⟨l,e,h1,h2⟩
theorem B1o:∀ p,Val (.agg [.int,.slice (.agg [.str,.int,.slice (.agg [.int,.slice .int,.slice .int])]),.slice (.agg [.int,.int,.bool,.int]),.slice (.agg [.slice (.agg [.int,.int]),.slice (.slice .int)]),.slice .int]) p→∃ x:A0d,p=A0v x∧H0b 9223372036854775807 x:=fun p h=>by
 obtain ⟨zs0,rfl,hv0⟩:=h
 obtain ⟨x0,zs1,rfl,h0,hv1⟩:=C0q hv0
 obtain ⟨y0,rfl,b0⟩:=L0u _ h0
 obtain ⟨x1,zs2,rfl,h1,hv2⟩:=C0q hv1
 obtain ⟨y1,rfl,b1⟩:=W0c _ h1
 obtain ⟨x2,zs3,rfl,h2,hv3⟩:=C0q hv2
 obtain ⟨y2,rfl,b2⟩:=B1n _ h2
 obtain ⟨x3,zs4,rfl,h3,hv4⟩:=C0q hv3
 obtain ⟨y3,rfl,b3⟩:=W0f _ h3
 obtain ⟨x4,zs5,rfl,h4,hv5⟩:=C0q hv4
 obtain ⟨y4,rfl,b4⟩:=R0z _ h4
 obtain rfl:=Q0p hv5
 exact ⟨⟨y0,y1,y2,y3,y4⟩,rfl,⟨b1,b2,b3,b4,trivial⟩⟩
def inR (n lo hi:Int):Bool:=decide (lo≤n) && decide (n≤hi)
theorem H0q {n lo hi:Int}:inR n lo hi=true ↔ lo≤n∧n≤hi:=by simp [inR]
theorem inR_f {n lo hi:Int}:inR n lo hi=false ↔ ¬(lo≤n∧n≤hi):=by rw [← H0q];simp
theorem B0c (n lo hi:Int):E0c n lo hi=some (inR n lo hi):=by
 unfold E0c inR;cases decide (lo≤n) <;> rfl
theorem E0w (n lo hi:Int):F0u n lo hi=some (inR n lo hi):=by
 unfold F0u inR;cases decide (lo≤n) <;> rfl
theorem T0n (n:Int):V0z n=some (inR n 0 60):=by simp only [V0z,E0w,Option.bind_some]
theorem M0p (n:Int):N0h n=some (inR n 0 20):=by simp only [N0h,E0w,Option.bind_some]
theorem S0v (p:A0d)(n:Int):C0f p n=some (inR n 0 (W ((p.Activities.length:Int) - 1))):=by simp only [C0f,E0w,Option.bind_some]
theorem T0g (a b:Int):Q0t a b=some (max a b):=by
 unfold Q0t
 by_cases h:b<a
 ·rw [show decide (b<a)=true by simpa using h,cond_true,show max a b=a by omega]
 rw [show decide (b<a)=false by simpa using h,cond_false,show max a b=b by omega]
theorem E1k (a b:Int):V0s a b=some (min a b):=by
 unfold V0s
 by_cases h:a<b
 ·rw [show decide (a<b)=true by simpa using h,cond_true,show min a b=a by omega]
 rw [show decide (a<b)=false by simpa using h,cond_false,show min a b=b by omega]
theorem U0i:∀(xs:List Int)(z:Int),F0s xs z=G0h xs z
 | [],z=>rfl
 | x::xs,z=>by simp only [F0s,G0h,M0p,B0c,U0i xs]
theorem B1h (l:List Int)(n:Int):K0w l n=K0z l n:=by simp only [K0w,K0z,U0i]
theorem J1m (m:TMode)(a b:Int):U0t m a b=M0q m a b:=by simp only [U0t,M0q,B1h,E0w,B0c]
theorem C1x (s:ByteArray):∀(n:Nat)(a:Int),K0j s n a=F0t s n a
 | 0,a=>rfl
 | n+1,a=>by simp only [K0j,F0t,C1x s n]
theorem J1f (s:ByteArray):T0p s=P0h s:=by simp only [T0p,P0h,C1x,E0w,B0c]
theorem T0z (a b:Int):∀(xs:List TMode)(z:Int),F0q a b xs z=D0o a b xs z
 | [],z=>rfl
 | x::xs,z=>by simp only [F0q,D0o,J1m,T0z a b xs]
theorem B1f (x:A0g)(a b:Int):M0d x a b=E0l x a b:=by simp only [M0d,E0l,T0z,J1f,E0w,B0c]
theorem R0c (nm:ByteArray):∀(xs:List A0g)(z:Int),B0d (fun x=>G0e x nm) xs z=B0p nm xs z
 | [],z=>rfl
 | x::xs,z=>by rw [B0d,B0p,R0c nm xs];rfl
theorem X0s (p:A0d)(nm:ByteArray):J0m p nm=D0k p nm:=by
 simp only [J0m,E0i,D0k,R0c,Option.bind_some]
 cases h:B0p nm p.Activities 0 with
 | none=>rfl
 | some o=>cases o <;> rfl
theorem U0p:∀(xs:List Int)(z:Int),F0p xs z=C0d xs z
 | [],z=>rfl
 | x::xs,z=>by simp only [F0p,C0d,E0w,B0c,U0p xs]
theorem U0g:∀(xs:List (List Int))(z:Int),F0r xs z=B0f xs z
 | [],z=>rfl
 | x::xs,z=>by simp only [F0r,B0f,U0p,U0g xs]
theorem J1e {α:Type}{F:List α→Int→Option (Unit ⊕ Bool)}{b:List α}{Q:α→Prop}{c:α→Int→Option Bool}(h0:∀ z,F [] z=some (.inl ()))
  (h1:∀ x xs z,F (x::xs) z=(c x z).bind fun e=>bif e then some (.inr false) else F xs (z+1)) (hc:∀ x z,0≤z→idxL b z=some x→∃ e,c x z=some e∧(e=false→Q x)) :
  ∀(xs:List α)(z:Int),0≤z→b.drop z.toNat=xs→F xs z=some (.inr false)∨(F xs z=some (.inl ())∧∀ x∈xs,Q x)
 | [],z,hz,hd=>.inr ⟨h0 z,by simp⟩
 | x::xs,z,hz,hd=>by
  obtain ⟨h2,h3⟩:=R0n hz hd
  obtain ⟨e,he,hq⟩:=hc x z hz h2
  rw [h1,he,Option.bind_some]
  cases e with
  | true=>exact .inl rfl
  | false=>
   rw [cond_false]
   rcases J1e h0 h1 hc xs (z+1) (by omega) h3 with h | ⟨h,hQ⟩
   ·exact .inl h
   ·exact .inr ⟨h,fun y hy=>by
     rcases List.mem_cons.1 hy with rfl | hy
     ·exact hq rfl
     exact hQ y hy⟩
theorem Q0o {α:Type}{F:List α→Int→Option (Unit ⊕ Bool)}{Q:α→Prop}{c:α→Int→Option Bool}(b:List α)(h0:∀ z,F [] z=some (.inl ()))
  (h1:∀ x xs z,F (x::xs) z=(c x z).bind fun e=>bif e then some (.inr false) else F xs (z+1)) (hc:∀ x z,0≤z→idxL b z=some x→∃ e,c x z=some e∧(e=false→Q x)) :
  F b 0=some (.inr false)∨(F b 0=some (.inl ())∧∀ x∈b,Q x):=J1e h0 h1 hc b 0 (Int.le_refl _) rfl
theorem P0c {α:Type}{l:List α}{z:Int}{x:α}(h:idxL l z=some x):z<l.length∧x∈l:=by
 have h1:=A0a h
 have h2:=A0o h
 exact ⟨by omega,List.mem_of_getElem? h1.2⟩
theorem J1u {α:Type}{l:List α}{z:Int}{x:α}(h:idxL l z=some x)(h0:0<z):∃ y,idxL l (z - 1)=some y:=by
 obtain ⟨y,hy,_⟩:=P0z (l:=l) (z:=z - 1) (by omega) (by have:=(P0c h).1;omega)
 exact ⟨y,hy⟩
def sC (b:List TStep)(x:TStep)(z:Int):Option Bool:=
 (E0c x.At 0 60).bind fun v12=>(bif (!v12) then some true else (E0c x.Capacity 0 20).bind fun v15=>(bif (!v15) then some true else (bif (decide (0<z)) then (idxL b (z - 1)).bind fun v18=>some (decide (x.At≤v18.At)) else some false)))
theorem V0w (b:List TStep):D0d b b 0=some (.inr false)∨(D0d b b 0=some (.inl ())∧∀ x∈b,(0≤x.At∧x.At≤60)∧0≤x.Capacity∧x.Capacity≤20):=by
 refine Q0o (F:=D0d b) (c:=sC b) b (fun _=>rfl) (fun x xs z=>?_) (fun x z hz hx=>?_)
 ·simp only [D0d,sC,B0c,Option.bind_some]
 simp only [sC,B0c,Option.bind_some]
 by_cases h1:inR x.At 0 60=true
 ·by_cases h2:inR x.Capacity 0 20=true
  ·rw [h1,h2]
   simp only [Bool.not_true,cond_false,Option.bind_some]
   have hq:=(⟨H0q.1 h1,H0q.1 h2⟩:(0≤x.At∧x.At≤60)∧0≤x.Capacity∧x.Capacity≤20)
   by_cases h0:0<z
   ·obtain ⟨y,hy⟩:=J1u hx h0
    rw [show decide (0<z)=true by simpa using h0,cond_true,hy]
    exact ⟨_,rfl,fun _=>hq⟩
   rw [show decide (0<z)=false by simpa using h0,cond_false]
   exact ⟨_,rfl,fun _=>hq⟩
  rw [h1,show inR x.Capacity 0 20=false by simpa using h2]
  exact ⟨true,rfl,fun h=>by cases h⟩
 rw [show inR x.At 0 60=false by simpa using h1]
 exact ⟨true,rfl,fun h=>by cases h⟩
theorem C1m (b:List TStep):∃ v,J0o b=some v∧(v=true→b≠[]∧∀ x∈b,(0≤x.At∧x.At≤60)∧0≤x.Capacity∧x.Capacity≤20):=by
 rcases V0w b with h | ⟨h,hQ⟩
 ·exact ⟨false,by simp only [J0o,h,A0r,Option.bind_some,Sum.elim_inr],fun h=>by cases h⟩
 simp only [J0o,h,A0r,Option.bind_some,Sum.elim_inl,B0c]
 cases hl:inR (b.length:Int) 1 8 with
 | false=>exact ⟨false,rfl,fun h=>by cases h⟩
 | true=>
  have:=H0q.1 hl
  obtain ⟨x,hx,_⟩:=P0z (l:=b) (z:=0) (Int.le_refl _) (by omega)
  rw [cond_true,hx]
  exact ⟨_,rfl,fun _=>⟨fun e=>by subst e;simp at this,hQ⟩⟩
theorem A1q (b:List TStep):∀(xs:List TStep)(z:Int),0<z→E0k b xs z=D0d b xs z
 | [],z,_=>rfl
 | x::xs,z,hz=>by
  have h0:(z == 0)=false:=by simp;omega
  simp only [E0k,D0d,T0n,M0p,B0c,h0,cond_false,A1q b xs (z+1) (by omega)]
theorem G1y (b:List TStep):N0w b=J0o b:=by
 have hs:=V0w b
 match b with
 | []=>rfl
 | x::xs=>
  have hi0:idxL (x::xs) 0=some x:=rfl
  by_cases hA:x.At=0
  ·have e:E0k (x::xs) (x::xs) 0=D0d (x::xs) (x::xs) 0:=by
    have h1:(x.At != 0)=false:=by simp [hA]
    simp only [E0k,D0d,T0n,M0p,B0c,h1,A1q (x::xs) xs (0+1) (by omega)]
    rfl
   simp only [N0w,J0o,e,E0w,B0c,hi0,Option.bind_some,hA]
   congr 1
   funext _
   cases inR ((x::xs).length:Int) 1 8 <;> rfl
  have h1:(x.At != 0)=true:=by simp [hA]
  have h2:(x.At == 0)=false:=by simp [hA]
  have e:E0k (x::xs) (x::xs) 0=some (.inr false):=by
   simp only [E0k,T0n,M0p,Option.bind_some,h1]
   cases inR x.At 0 60 <;> cases inR x.Capacity 0 20 <;> rfl
  have hi:N0w (x::xs)=some false:=by simp only [N0w,e,A0r,Option.bind_some,Sum.elim_inr]
  rw [hi]
  rcases hs with h | ⟨h,_⟩
  ·simp only [J0o,h,A0r,Option.bind_some,Sum.elim_inr]
  simp only [J0o,h,A0r,Option.bind_some,Sum.elim_inl,B0c,hi0,h2]
  cases inR ((x::xs).length:Int) 1 8 <;> rfl
theorem B1l (r:A0n):M0c r=F0j r:=by simp only [M0c,F0j,U0g,G1y]
def ResF (r:A0n):Prop:=(∀ x∈r.Steps,(0≤x.At∧x.At≤60)∧0≤x.Capacity∧x.Capacity≤20)∧J0o r.Steps=some true∧(r.Setup.length=0∨r.Setup.length=4)∧∀ row∈r.Setup,row.length=4∧∀ n∈row,0≤n∧n≤12
theorem V0v (b:List Int):C0d b 0=some (.inr false)∨(C0d b 0=some (.inl ())∧∀ n∈b,0≤n∧n≤12):=
 Q0o (F:=C0d) (c:=fun x _=>some (!inR x 0 12)) b (fun _=>rfl) (fun x xs z=>by simp only [C0d,B0c,Option.bind_some]) (fun x z _ _=>⟨_,rfl,fun h=>H0q.1 (by simpa using h)⟩)
theorem V0y (b:List (List Int)):B0f b 0=some (.inr false)∨(B0f b 0=some (.inl ())∧∀ row∈b,row.length=4∧∀ n∈row,0≤n∧n≤12):=by
 have key:∀ row:List Int,∃ e,(∀ xs z,B0f (row::xs) z=bif e then some (.inr false) else B0f xs (z+1))∧(e=false→row.length=4∧∀ n∈row,0≤n∧n≤12):=by
  intro row
  by_cases hl:row.length=4
  ·have e:((row.length:Int) != 4)=false:=by simp [hl]
   rcases V0v row with h | ⟨h,hQ⟩
   ·exact ⟨true,fun xs z=>by simp only [B0f,e,cond_false,h,A0r,Option.bind_some,Sum.elim_inr,cond_true],fun h=>by cases h⟩
   exact ⟨false,fun xs z=>by simp only [B0f,e,cond_false,h,A0r,Option.bind_some,Sum.elim_inl],fun _=>⟨hl,hQ⟩⟩
  have e:((row.length:Int) != 4)=true:=by simp;omega
  exact ⟨true,fun xs z=>by simp only [B0f,e,cond_true],fun h=>by cases h⟩
 exact Q0o (F:=B0f) (c:=fun row _=>some (Classical.choose (key row))) b (fun _=>rfl) (fun x xs z=>(Classical.choose_spec (key x)).1 xs z) (fun x z _ _=>⟨_,rfl,(Classical.choose_spec (key x)).2⟩)
theorem Y0k (r:A0n):∃ v,F0j r=some v∧(v=true→ResF r):=by
 rcases V0y r.Setup with h | ⟨h,hQ⟩
 ·exact ⟨false,by simp only [F0j,h,A0r,Option.bind_some,Sum.elim_inr],fun h=>by cases h⟩
 obtain ⟨v,hv,hf⟩:=C1m r.Steps
 simp only [F0j,h,A0r,Option.bind_some,Sum.elim_inl,hv]
 cases v with
 | false=>exact ⟨false,rfl,fun h=>by cases h⟩
 | true=>
  refine ⟨_,by simp only [cond_true,J0w,Option.bind_some];rfl,fun he=>⟨(hf rfl).2,hv,?_,hQ⟩⟩
  by_cases h0:r.Setup.length=0
  ·exact .inl h0
  right
  rw [show ((r.Setup.length:Int) == 0)=false by rw [L0f];exact decide_eq_false (by omega),cond_false,L0f] at he
  have:=of_decide_eq_true he
  omega
def ModeF (m:TMode)(a b:Int):Prop:=(1≤m.Duration∧m.Duration≤12)∧((m.Usage.length:Int)=a∧∀ n∈m.Usage,0≤n∧n≤20)∧((m.Consumption.length:Int)=b∧∀ n∈m.Consumption,0≤n∧n≤20)
theorem W0r (l:List Int)(n:Int):∃ v,K0z l n=some v∧(v=true→(l.length:Int)=n∧∀ k∈l,0≤k∧k≤20):=by
 rcases Q0o (F:=G0h) (c:=fun x _=>some (!inR x 0 20)) (Q:=fun k=>0≤k∧k≤20) l (fun _=>rfl) (fun x xs z=>by simp only [G0h,B0c,Option.bind_some]) (fun x z _ _=>⟨_,rfl,fun h=>H0q.1 (by simpa using h)⟩) with h | ⟨h,hQ⟩
 ·exact ⟨false,by simp only [K0z,h,A0r,Option.bind_some,Sum.elim_inr],fun h=>by cases h⟩
 exact ⟨_,by simp only [K0z,h,A0r,Option.bind_some,Sum.elim_inl];rfl,fun he=>⟨by simpa using he,hQ⟩⟩
theorem E1x (m:TMode)(a b:Int):∃ v,M0q m a b=some v∧(v=true→ModeF m a b):=by
 obtain ⟨u,hu,fu⟩:=W0r m.Usage a
 obtain ⟨k,hk,fk⟩:=W0r m.Consumption b
 simp only [M0q,B0c,Option.bind_some,hu,hk]
 cases hd:inR m.Duration 1 12 with
 | false=>exact ⟨false,rfl,fun h=>by cases h⟩
 | true=>cases u with
  | false=>exact ⟨false,rfl,fun h=>by cases h⟩
  | true=>cases k with
   | false=>exact ⟨false,rfl,fun h=>by cases h⟩
   | true=>exact ⟨true,rfl,fun _=>⟨H0q.1 hd,fu rfl,fk rfl⟩⟩
theorem K1l {α:Type}{c:Bool}{x y:α}{P:α→Prop}(hx:P x)(hy:P y):P (bif c then x else y):=by cases c <;> assumption
theorem J1h {s:ByteArray}{z:Int}(h0:0≤z)(h:z<s.size):∃ v,idxS s z=some v:=by
 have hlt:z.toNat<s.size:=by omega
 exact ⟨_,by unfold idxS;rw [if_pos h0,getElem?_pos s z.toNat hlt];rfl⟩
theorem S0t (s:ByteArray)(hs:s.size≤9223372036854775807):∀(n:Nat)(a:Int),0≤a→a≤s.size→(s.size:Int)<a+n→F0t s n a=some (.inr false)∨F0t s n a=some (.inl ())
 | 0,a,h0,h1,h2=>by omega
 | n+1,a,h0,h1,h2=>by
  by_cases hlt:a<s.size
  ·obtain ⟨v,hv⟩:=J1h h0 hlt
   have ih:=S0t s hs n (a+1) (by omega) (by omega) (by omega)
   rw [← W_of (n:=a+1) (by omega)] at ih
   simp only [F0t,show decide (a<(s.size:Int))=true by simpa using hlt,cond_true,hv,Option.bind_some,J0w]
   exact K1l (P:=fun (o:Option (Unit ⊕ Bool))=>o=some (.inr false)∨o=some (.inl ())) (.inl rfl) ih
  right
  simp only [F0t,show decide (a<(s.size:Int))=false by simpa using hlt,cond_false]
theorem E1l (s:ByteArray)(hs:s.size≤9223372036854775807):∃ v,P0h s=some v:=by
 rcases S0t s hs F0 0 (Int.le_refl _) (by omega) (by have:=F0_gt;omega) with h | h
 ·exact ⟨false,by simp only [P0h,h,A0r,Option.bind_some,Sum.elim_inr]⟩
 exact ⟨_,by simp only [P0h,h,A0r,Option.bind_some,Sum.elim_inl,B0c];rfl⟩
def ActF (x:A0g)(a b:Int):Prop:=(0≤x.Family∧x.Family≤3)∧(1≤x.Modes.length∧x.Modes.length≤3)∧∀ m∈x.Modes,ModeF m a b
theorem Y0p (x:A0g)(a b:Int)(hs:x.Name.size≤9223372036854775807):∃ v,E0l x a b=some v∧(v=true→ActF x a b):=by
 rcases Q0o (F:=D0o a b) (c:=fun m _=>(M0q m a b).bind fun v=>some (!v)) (Q:=fun m=>ModeF m a b) x.Modes (fun _=>rfl) (fun m xs z=>by
   simp only [D0o]
   cases M0q m a b <;> rfl) (fun m z _ _=>by
   obtain ⟨v,hv,hf⟩:=E1x m a b
   rw [hv]
   exact ⟨_,rfl,fun h=>hf (by simpa using h)⟩) with h | ⟨h,hQ⟩
 ·exact ⟨false,by simp only [E0l,h,A0r,Option.bind_some,Sum.elim_inr],fun h=>by cases h⟩
 obtain ⟨v,hv⟩:=E1l x.Name hs
 simp only [E0l,h,A0r,Option.bind_some,Sum.elim_inl,hv,B0c]
 cases v with
 | false=>exact ⟨false,rfl,fun h=>by cases h⟩
 | true=>
  cases hf:inR x.Family 0 3 with
  | false=>exact ⟨false,rfl,fun h=>by cases h⟩
  | true=>exact ⟨_,rfl,fun he=>⟨H0q.1 hf,by have:=H0q.1 he;omega,hQ⟩⟩
theorem U0n (p:A0d)(nm:ByteArray):∃ v,D0k p nm=some v:=by
 have:∀(xs:List A0g)(z:Int),∃ o,B0p nm xs z=some o:=by
  intro xs
  induction xs with
  | nil=>exact fun z=>⟨_,rfl⟩
  | cons x xs ih=>
   intro z
   obtain ⟨o,ho⟩:=ih (z+1)
   exact ⟨_,by rw [B0p,ho,J0w]⟩
 obtain ⟨o,ho⟩:=this p.Activities 0
 cases o with
 | inl u=>exact ⟨_,by simp only [D0k,ho,A0r,Option.bind_some,Sum.elim_inl];rfl⟩
 | inr u=>exact ⟨_,by simp only [D0k,ho,A0r,Option.bind_some,Sum.elim_inr];rfl⟩
theorem A1z (p:A0d)(k:TLink):B0q k p=some (!(inR k.From 0 (W ((p.Activities.length:Int) - 1)) && (inR k.To 0 (W ((p.Activities.length:Int) - 1)) && (k.From != k.To && inR k.Lag (-60) 60)))):=by
 simp only [B0q,K0c,S0v,E0w,Option.bind_some,J0w,K1m]
theorem G1f (p:A0d)(k:TLink):((E0c k.From 0 (W ((p.Activities.length:Int) - 1))).bind fun v68=>(bif (!v68) then some true else (E0c k.To 0 (W ((p.Activities.length:Int) - 1))).bind fun v71=>(bif (!v71) then some true else (bif (k.From == k.To) then some true else (E0c k.Lag (-60) 60).bind fun v74=>some (!v74)))))=B0q k p:=by
 rw [A1z]
 simp only [B0c,Option.bind_some,J0w,L0f,K0i]
 cases inR k.From 0 (W ((p.Activities.length:Int) - 1)) <;> cases inR k.To 0 (W ((p.Activities.length:Int) - 1)) <;> cases inR k.Lag (-60) 60 <;> cases decide (k.From=k.To) <;> rfl
theorem G1d (p:A0d):∀(xs:List TLink)(z:Int),0≤z→∃ o,B0h (fun x=>B0q x p) xs z=some o∧((o=.inl ()∧B0w p xs z=some (.inl ()))∨∃ k,o=.inr k∧0≤k∧B0w p xs z=some (.inr false))
 | [],z,hz=>⟨.inl (),rfl,.inl ⟨rfl,rfl⟩⟩
 | x::xs,z,hz=>by
  obtain ⟨o,ho,hc⟩:=G1d p xs (z+1) (by omega)
  have e1:B0w p (x::xs) z=(B0q x p).bind fun e=>bif e then some (.inr false) else B0w p xs (z+1):=by
   rw [← G1f]
   simp only [B0w,B0c,Option.bind_some]
  have e2:B0h (fun x=>B0q x p) (x::xs) z=(B0q x p).bind fun e=>bif e then some (.inr z) else B0h (fun x=>B0q x p) xs (z+1):=rfl
  rw [e1,e2,A1z,Option.bind_some,Option.bind_some]
  cases hb:(!(inR x.From 0 (W ((p.Activities.length:Int) - 1)) && (inR x.To 0 (W ((p.Activities.length:Int) - 1)) && (x.From != x.To && inR x.Lag (-60) 60)))) with
  | true=>exact ⟨_,rfl,.inr ⟨z,rfl,hz,rfl⟩⟩
  | false=>exact ⟨o,ho,hc⟩
theorem W0v (p:A0d):∀(xs:List A0g)(z:Int),G0m p xs z=E0e p xs z
 | [],z=>rfl
 | x::xs,z=>by simp only [G0m,E0e,B1f,X0s,W0v p xs]
theorem W0y:∀(xs:List A0n)(z:Int),G0r xs z=E0g xs z
 | [],z=>rfl
 | x::xs,z=>by simp only [G0r,E0g,B1l,W0y xs]
theorem W0x:∀(xs:List Int)(z:Int),G0p xs z=E0d xs z
 | [],z=>rfl
 | x::xs,z=>by simp only [G0p,E0d,E0w,B0c,W0x xs]
theorem P0e (p:A0d):K0o p=H0o p:=by
 obtain ⟨o,ho,hc⟩:=G1d p p.Links 0 (Int.le_refl _)
 have e:(C0c p.Links (fun x=>B0q x p)).bind (fun v=>some (!v))=A0r (B0w p p.Links 0) (fun q=>some q) fun _=>some true:=by
  rcases hc with ⟨rfl,h2⟩ | ⟨k,rfl,hk,h2⟩
  ·simp only [C0c,E0m,ho,h2,A0r,Option.bind_some,Sum.elim_inl];rfl
  simp only [C0c,E0m,ho,h2,A0r,Option.bind_some,Sum.elim_inr]
  simp [hk]
 simp only [K0o,H0o,W0v,W0y,W0x,E0w,B0c,e]
structure ProjF (p:A0d):Prop where
 deadline:1≤p.Deadline∧p.Deadline≤60
 nact:1≤p.Activities.length∧p.Activities.length≤6
 nres:p.Resources.length≤3
 nstk:p.Stocks.length≤2
 nlnk:p.Links.length≤12
 acts:∀ x∈p.Activities,ActF x p.Resources.length p.Stocks.length
 ress:∀ r∈p.Resources,ResF r
 stks:∀ n∈p.Stocks,0≤n∧n≤100
 lnks:∀ k∈p.Links,(0≤k.From∧k.From<p.Activities.length)∧(0≤k.To∧k.To<p.Activities.length)∧k.From≠k.To∧-60≤k.Lag∧k.Lag≤60
theorem S0x (p:A0d)(hs:∀ x∈p.Activities,x.Name.size≤9223372036854775807):∃ v,H0o p=some v∧(v=true→ProjF p):=by
 simp only [H0o,B0c,Option.bind_some,J0w]
 cases hd:inR p.Deadline 1 60 with
 | false=>exact ⟨false,rfl,fun h=>by cases h⟩
 | true=>
 cases ha:inR (p.Activities.length:Int) 1 6 with
 | false=>exact ⟨false,rfl,fun h=>by cases h⟩
 | true=>
 cases hr:decide (3<(p.Resources.length:Int)) with
 | true=>exact ⟨false,rfl,fun h=>by cases h⟩
 | false=>
 cases hk:decide (2<(p.Stocks.length:Int)) with
 | true=>exact ⟨false,rfl,fun h=>by cases h⟩
 | false=>
 cases hl:decide (12<(p.Links.length:Int)) with
 | true=>exact ⟨false,rfl,fun h=>by cases h⟩
 | false=>
 simp only [Bool.not_true,cond_false]
 have hd:=H0q.1 hd
 have ha:=H0q.1 ha
 have hr:=of_decide_eq_false hr
 have hk:=of_decide_eq_false hk
 have hl:=of_decide_eq_false hl
 have k1:∀ x,x∈p.Activities→∃ v,E0l x p.Resources.length p.Stocks.length=some v∧(v=true→ActF x p.Resources.length p.Stocks.length):=fun x hx=>Y0p x _ _ (hs x hx)
 have l1:=Q0o (F:=E0e p) (Q:=fun x=>ActF x p.Resources.length p.Stocks.length) (c:=fun x z=>(E0l x p.Resources.length p.Stocks.length).bind fun v20=>(bif (!v20) then some true else (D0k p x.Name).bind fun v23=>some (v23 != z))) p.Activities (fun _=>rfl) (fun x xs z=>by
   simp only [E0e]
   cases E0l x p.Resources.length p.Stocks.length <;> rfl) (fun x z _ hx=>by
   obtain ⟨v,hv,hf⟩:=k1 x (P0c hx).2
   obtain ⟨u,hu⟩:=U0n p x.Name
   rw [hv,hu]
   cases v with
   | false=>exact ⟨true,rfl,fun h=>by cases h⟩
   | true=>exact ⟨_,rfl,fun _=>hf rfl⟩)
 have l2:=Q0o (F:=E0g) (Q:=ResF) (c:=fun x _=>(F0j x).bind fun v=>some (!v)) p.Resources (fun _=>rfl) (fun x xs z=>by
   simp only [E0g]
   cases F0j x <;> rfl) (fun x z _ hx=>by
   obtain ⟨v,hv,hf⟩:=Y0k x
   rw [hv]
   exact ⟨_,rfl,fun h=>hf (by simpa using h)⟩)
 have l3:=Q0o (F:=E0d) (Q:=fun n=>0≤n∧n≤100) (c:=fun x _=>some (!inR x 0 100)) p.Stocks (fun _=>rfl) (fun x xs z=>by simp only [E0d,B0c,Option.bind_some]) (fun x z _ _=>⟨_,rfl,fun h=>H0q.1 (by simpa using h)⟩)
 have l4:=Q0o (F:=B0w p) (Q:=fun k=>(0≤k.From∧k.From<p.Activities.length)∧(0≤k.To∧k.To<p.Activities.length)∧k.From≠k.To∧-60≤k.Lag∧k.Lag≤60) (c:=fun x _=>B0q x p) p.Links (fun _=>rfl) (fun x xs z=>by
   rw [← G1f]
   simp only [B0w,B0c,Option.bind_some]) (fun x z _ _=>⟨_,A1z p x,fun h=>by
   have h:(inR x.From 0 (W ((p.Activities.length:Int) - 1)) && (inR x.To 0 (W ((p.Activities.length:Int) - 1)) && (x.From != x.To && inR x.Lag (-60) 60)))=true:=by simpa using h
   simp only [Bool.and_eq_true] at h
   have h1:=H0q.1 h.1
   have h2:=H0q.1 h.2.1
   have h4:=H0q.1 h.2.2.2
   have h3:x.From≠x.To:=by simpa using h.2.2.1
   rw [W_of (by omega)] at h1 h2
   exact ⟨by omega,by omega,h3,h4⟩⟩)
 rcases l1 with h | ⟨h,q1⟩
 ·exact ⟨false,by simp only [h,A0r,Option.bind_some,Sum.elim_inr],fun h=>by cases h⟩
 simp only [h,A0r,Option.bind_some,Sum.elim_inl]
 rcases l2 with h | ⟨h,q2⟩
 ·exact ⟨false,by simp only [h,Option.bind_some,Sum.elim_inr],fun h=>by cases h⟩
 simp only [h,Option.bind_some,Sum.elim_inl]
 rcases l3 with h | ⟨h,q3⟩
 ·exact ⟨false,by simp only [h,Option.bind_some,Sum.elim_inr],fun h=>by cases h⟩
 simp only [h,Option.bind_some,Sum.elim_inl]
 rcases l4 with h | ⟨h,q4⟩
 ·exact ⟨false,by simp only [h,Option.bind_some,Sum.elim_inr],fun h=>by cases h⟩
 simp only [h,Option.bind_some,Sum.elim_inl]
 exact ⟨true,rfl,fun _=>⟨hd,by omega,by omega,by omega,by omega,q1,q2,q3,q4⟩⟩
theorem K1j {p:A0d}{M:Nat}(h:H0b M p)(hM:M≤9223372036854775807):∀ x∈p.Activities,x.Name.size≤9223372036854775807:=by
 unfold H0b G0o at h
 intro x hx
 have:=h.1.2 x hx
 unfold F0m b_str at this
 omega
theorem R0h (n:Int):∀(xs:List Int)(z:Int),0≤z→(n∈xs→∃ k,B0s n xs z=some (.inr k)∧0≤k)∧(n∉xs→B0s n xs z=some (.inl ()))
 | [],z,hz=>⟨fun h=>(by cases h),fun _=>rfl⟩
 | x::xs,z,hz=>by
  by_cases hx:n=x
  ·have e:(n == x)=true:=by simp [hx]
   exact ⟨fun _=>⟨z,by simp only [B0s,e,cond_true],hz⟩,fun h=>absurd (by simp [hx]) h⟩
  have e:(n == x)=false:=by simp [hx]
  have ih:=R0h n xs (z+1) (by omega)
  simp only [B0s,e,cond_false,List.mem_cons,hx,false_or]
  exact ih
theorem Z0p (l:List Int)(n:Int):Q0f l n=some (decide (n∈l)):=by
 have h:=R0h n l 0 (Int.le_refl _)
 by_cases hn:n∈l
 ·obtain ⟨k,hk,h0⟩:=h.1 hn
  simp [Q0f,D0b,H0v,hk,A0r,h0,hn]
 simp [Q0f,D0b,H0v,h.2 hn,A0r,hn]
theorem S0w (n:Int):∀(xs:List Int)(z:Int),K0d n xs z=some (if n∈xs then .inr true else .inl ())
 | [],z=>rfl
 | x::xs,z=>by
  rw [K0d,S0w n xs,L0f]
  by_cases hx:x=n
  ·simp [hx]
  have:n≠x:=fun e=>hx e.symm
  simp [hx,this]
theorem E1h (l:List Int)(n:Int):V0p l n=some (decide (n∈l)):=by
 simp only [V0p,S0w,A0r,Option.bind_some]
 by_cases hn:n∈l <;> simp [hn]
theorem Z0x (b:Int):∀(n:Nat)(a:Int)(l:List Int),H0s b n a l=F0f b n a l
 | 0,a,l=>rfl
 | n+1,a,l=>by simp only [H0s,F0f,Z0x b n]
theorem Y0s (b:Int):N0f b=L0m b:=by simp only [N0f,L0m,E0w,B0c,Z0x]
def H0l (n:Nat):List Int:=(List.range n).map fun (i:Nat)=>(i:Int)
theorem Q0z (m:Nat)(hm:m≤200):∀(n:Nat)(k:Nat),k≤m→m - k<n→F0f m n k (H0l k)=some (H0l m)
 | 0,k,h0,h1=>by omega
 | n+1,k,h0,h1=>by
  rw [F0f]
  by_cases hlt:k<m
  ·have e:H0l k ++ [(k:Int)]=H0l (k+1):=by simp [H0l,List.range_succ]
   have ha:appL (H0l k) [(k:Int)]=some (H0l (k+1)):=by
    unfold appL
    rw [if_pos (by simp [H0l];omega),e]
   rw [show decide ((k:Int)<(m:Int))=true by simpa using hlt,cond_true,ha,Option.bind_some,W_of (n:=(k:Int)+1) (by omega)]
   exact Q0z m hm n (k+1) (by omega) (by omega)
  rw [show decide ((k:Int)<(m:Int))=false by simpa using hlt,show k=m by omega];rfl
theorem U0k (n:Nat)(hn:n≤200):L0m n=some (H0l n):=by
 have:=Q0z n hn F0 0 (by omega) (by have:=F0_gt;omega)
 have e:(H0l 0:List Int)=[]:=rfl
 rw [e] at this
 simp only [L0m,B0c,show inR (n:Int) 0 200=true from H0q.2 (by omega),Option.bind_some,Bool.not_true,cond_false]
 rw [show (0:Int)=((0:Nat):Int) from rfl,this];rfl
theorem H1e {n:Int}{k:Nat}(h:n∈H0l k):0≤n∧n<k:=by
 simp only [H0l,List.mem_map,List.mem_range] at h
 obtain ⟨i,hi,rfl⟩:=h
 omega
theorem X0o (x:A0g)(h:x.Modes.length≤200):F0e x=some (H0l x.Modes.length):=by simp only [F0e,U0k _ h,Option.bind_some]
theorem P0t (x:A0g):J0u x=F0e x:=by simp only [J0u,F0e,Y0s]
def K0y (ms:List Int):List TMode→Int→List TMode
 | [],_=>[]
 | x::xs,z=>if z∈ms then x::K0y ms xs (z+1) else K0y ms xs (z+1)
theorem T0m (ms:List Int):∀(xs:List TMode)(z:Int)(m:TMode),m∈K0y ms xs z→m∈xs
 | [],z,m,h=>by cases h
 | x::xs,z,m,h=>by
  unfold K0y at h
  split at h
  ·rcases List.mem_cons.1 h with rfl | h
   ·exact List.mem_cons_self ..
   exact List.mem_cons_of_mem _ (T0m ms xs (z+1) m h)
  exact List.mem_cons_of_mem _ (T0m ms xs (z+1) m h)
theorem P0r (ms:List Int):∀(xs:List TMode)(z:Int)(acc:List TMode),acc.length+xs.length≤1048576→H0p ms xs z acc=some (acc ++ K0y ms xs z)
 | [],z,acc,_=>by simp [H0p,K0y]
 | x::xs,z,acc,h=>by
  simp at h
  rw [H0p,Z0p,Option.bind_some]
  by_cases hz:z∈ms
  ·have ha:appL acc [x]=some (acc ++ [x]):=by unfold appL;rw [if_pos (by simp;omega)]
   rw [show decide (z∈ms)=true by simpa using hz,cond_true,ha,Option.bind_some,P0r ms xs (z+1) _ (by simp;omega)]
   simp [K0y,hz]
  rw [show decide (z∈ms)=false by simpa using hz,cond_false,P0r ms xs (z+1) _ (by omega)]
  simp [K0y,hz]
theorem F1h (x:A0g)(ms:List Int)(h:x.Modes.length≤1048576):V0o x ms=some (K0y ms x.Modes 0):=by
 simp only [V0o,P0r ms x.Modes 0 [] (by simpa using h),Option.bind_some,List.nil_append]
def R0j (f:TMode→Int):List TMode→Int→Bool→Int
 | [],a,_=>a
 | x::xs,a,has=>bif (!has || decide (f x<a)) then R0j f xs (f x) true else R0j f xs a has
theorem K0g (ms:List Int):∀(xs:List TMode)(z a:Int)(has:Bool),D0u ms xs z a has=some (R0j TMode.Duration (K0y ms xs z) a has)
 | [],z,a,has=>rfl
 | x::xs,z,a,has=>by
  rw [D0u,E1h,Option.bind_some,K0g ms xs,K0g ms xs]
  by_cases hz:z∈ms
  ·simp only [hz,decide_true,cond_true,J0w,L1y,Option.bind_some,K0y,if_true,R0j]
  simp only [hz,decide_false,cond_false,J0w,Option.bind_some,K0y,if_false]
theorem M0l (x:A0g)(ms:List Int):G0c x ms=some (R0j TMode.Duration (K0y ms x.Modes 0) 0 false):=by
 simp only [G0c,K0g,Option.bind_some]
theorem K0h:∀(xs:List TMode)(z a:Int),0<z→C0x xs z a=some (R0j TMode.Duration xs a true)
 | [],z,a,_=>rfl
 | x::xs,z,a,hz=>by
  rw [C0x,K0h xs (z+1) _ (by omega),K0h xs (z+1) _ (by omega),show (z == 0)=false by rw [L0f];exact decide_eq_false (by omega)]
  simp only [cond_false,Option.bind_some,J0w,R0j,Bool.not_true,Bool.false_or]
theorem X0j (x:A0g)(ms:List Int)(h:x.Modes.length≤1048576):H0n x ms=G0c x ms:=by
 rw [M0l]
 simp only [H0n,F1h x ms h,Option.bind_some]
 match K0y ms x.Modes 0 with
 | []=>rfl
 | y::ys=>
  simp only [C0x,K0h ys (0+1) _ (by omega)]
  simp [R0j]
def Wk (E:Nat→Nat→Prop):List Nat→Nat→Nat→Prop
 | [],i,k=>E i k
 | x::l,i,k=>E i x∧Wk E l x k
theorem Wk.join {E:Nat→Nat→Prop}{m k:Nat}{b:List Nat}(hb:Wk E b m k):∀{a:List Nat}{i:Nat},Wk E a i m→Wk E (a ++ m::b) i k
 | [],i,h=>⟨h,hb⟩
 | x::a,i,h=>⟨h.1,Wk.join hb (a:=a) h.2⟩
theorem Wk.left {E:Nat→Nat→Prop}{m k:Nat}{b:List Nat}:∀{a:List Nat}{i:Nat},Wk E (a ++ m::b) i k→Wk E a i m
 | [],i,h=>h.1
 | x::a,i,h=>⟨h.1,Wk.left (a:=a) h.2⟩
theorem Wk.right {E:Nat→Nat→Prop}{m k:Nat}{b:List Nat}:∀{a:List Nat}{i:Nat},Wk E (a ++ m::b) i k→Wk E b m k
 | [],i,h=>h.2
 | x::a,i,h=>Wk.right (a:=a) h.2
theorem R0p {x:Nat}:∀{l:List Nat},x∈l→∃ a b,l=a ++ x::b
 | y::l,h=>by
  rcases List.mem_cons.1 h with h | h
  ·exact ⟨[],l,by rw [h];rfl⟩
  obtain ⟨a,b,e⟩:=R0p h
  exact ⟨y::a,b,by rw [e];rfl⟩
theorem Wk.short {E:Nat→Nat→Prop}{k:Nat}:∀{l:List Nat}{i:Nat},Wk E l i k→∃ l',Wk E l' i k∧l'.Nodup∧∀ x∈l',x∈l
 | [],i,h=>⟨[],h,List.nodup_nil,fun x hx=>hx⟩
 | y::l,i,h=>by
  obtain ⟨t,h1,h2,h3⟩:=Wk.short (l:=l) h.2
  by_cases hy:y∈t
  ·obtain ⟨a,b,e⟩:=R0p hy
   subst e
   refine ⟨y::b,⟨h.1,h1.right⟩,(List.nodup_append.1 h2).2.1,fun x hx=>?_⟩
   rcases List.mem_cons.1 hx with hx | hx
   ·rw [hx];exact List.mem_cons_self ..
   exact List.mem_cons_of_mem _ (h3 x (List.mem_append.2 (.inr (List.mem_cons_of_mem _ hx))))
  ·exact ⟨y::t,⟨h.1,h1⟩,List.nodup_cons.2 ⟨hy,h2⟩,fun x hx=>by
    rcases List.mem_cons.1 hx with hx | hx
    ·rw [hx];exact List.mem_cons_self ..
    exact List.mem_cons_of_mem _ (h3 x hx)⟩
theorem Q0m:∀(m:Nat)(l:List Nat),l.Nodup→(∀ x∈l,x<m)→l.length≤m
 | 0,[],_,_=>Nat.le_refl _
 | 0,x::l,_,h=>absurd (h x (List.mem_cons_self ..)) (by omega)
 | m+1,l,hn,h=>by
  by_cases hm:m∈l
  ·obtain ⟨a,b,e⟩:=R0p hm
   subst e
   have h1:=List.nodup_append.1 hn
   have h2:=List.nodup_cons.1 h1.2.1
   have h3:(a ++ b).Nodup:=List.nodup_append.2 ⟨h1.1,h2.2,fun x hx y hy e=>h1.2.2 x hx y (List.mem_cons_of_mem _ hy) e⟩
   have h4:=Q0m m (a ++ b) h3 (fun x hx=>by
    have hx2:x∈a ++ m::b:=by
     rcases List.mem_append.1 hx with h | h
     ·exact List.mem_append.2 (.inl h)
     exact List.mem_append.2 (.inr (List.mem_cons_of_mem _ h))
    have hlt:=h x hx2
    have hne:x≠m:=fun e=>by
     subst e
     rcases List.mem_append.1 hx with h | h
     ·exact h1.2.2 x h x (List.mem_cons_self ..) rfl
     exact h2.1 h
    omega)
   simp only [List.length_append,List.length_cons] at h4 ⊢
   omega
  ·have:=Q0m m l hn (fun x hx=>by
    have:=h x hx
    have hne:x≠m:=fun e=>hm (e ▸ hx)
    omega)
   omega
abbrev Dm:=Nat→Nat→Option Int
def updD (c:Dm)(i k:Nat)(a:Int):Dm:=fun i' k'=>if i'=i∧k'=k then some a else c i' k'
theorem U0b (c:Dm)(i k:Nat)(a:Int):updD c i k a i k=some a:=by simp [updD]
theorem W0q (c:Dm){i k i' k':Nat}(a:Int)(h:¬(i'=i∧k'=k)):updD c i k a i' k'=c i' k':=by simp only [updD,if_neg h]
def addD (c:Dm)(i k:Nat)(v:Int):Dm:=updD c i k (match c i k with | none=>v | some a=>max a v)
theorem Y0n (c:Dm)(i k:Nat)(v:Int):∃ e,addD c i k v i k=some e∧v≤e∧(∀ a,c i k=some a→a≤e)∧(∀ U,v≤U→(∀ a,c i k=some a→a≤U)→e≤U):=by
 refine ⟨_,U0b _ _ _ _,?_,?_,?_⟩
 ·cases c i k with
  | none=>exact Int.le_refl _
  | some a=>exact Int.le_max_right ..
 ·intro a ha
  rw [ha]
  exact Int.le_max_left ..
 intro U h1 h2
 cases hc:c i k with
 | none=>exact h1
 | some a=>exact Int.max_le.2 ⟨h2 a hc,h1⟩
theorem B1v (c:Dm){i k i' k':Nat}(v:Int)(h:¬(i'=i∧k'=k)):addD c i k v i' k'=c i' k':=W0q _ _ h
theorem T0r (c:Dm)(i k:Nat)(v:Int){i' k':Nat}{a:Int}(h:c i' k'=some a):∃ b,addD c i k v i' k'=some b∧a≤b:=by
 by_cases e:i'=i∧k'=k
 ·obtain ⟨rfl,rfl⟩:=e
  obtain ⟨e,h1,_,h2,_⟩:=Y0n c i' k' v
  exact ⟨e,h1,h2 a h⟩
 exact ⟨a,by rw [B1v c v e];exact h,Int.le_refl _⟩
structure GoodD (E:Nat→Nat→Prop)(n m:Nat)(U:Int)(c:Dm):Prop where
 pos:0≤U
 diag:∀ i,i<n→∃ a,c i i=some a∧0≤a
 up:∀ i k a,c i k=some a→a≤U
 ex:∀ i k,i<n→k<n→i≠k→(c i k).isSome=true→∃ l,Wk E l i k∧∀ x∈l,x<m
 lo:∀ i k l,i<n→k<n→Wk E l i k→l.Nodup→(∀ x∈l,x<m)→∃ a,c i k=some a∧-60*((l.length:Int)+1)≤a
def ahead (i k i' k':Nat):Prop:=i'<i∨(i'=i∧k'<k)
structure MidD (E:Nat→Nat→Prop)(n m:Nat)(U:Int)(d:Dm)(i k:Nat)(c:Dm):Prop where
 old:∀ i' k',¬ ahead i k i' k'→c i' k'=d i' k'
 mono:∀ i' k' a,d i' k'=some a→∃ b,c i' k'=some b∧a≤b
 done:∀ i' k',i'<n→k'<n→ahead i k i' k'→∀ a b,d i' m=some a→d m k'=some b→∃ e,c i' k'=some e∧a+b≤e
 ex:∀ i' k',i'<n→k'<n→i'≠k'→(c i' k').isSome=true→∃ l,Wk E l i' k'∧∀ x∈l,x<m+1
 mm:∀ a,c m m=some a→a≤2*U
 row:∀ k' a,c m k'=some a→a≤3*U
 col:∀ i' a,c i' m=some a→a≤3*U
 all:∀ i' k' a,c i' k'=some a→a≤6*U
theorem MidD.start {E:Nat→Nat→Prop}{n m:Nat}{U:Int}{d:Dm}(h:GoodD E n m U d):MidD E n m U d 0 0 d:=
 ⟨fun _ _ _=>rfl,fun _ _ a ha=>⟨a,ha,Int.le_refl _⟩,fun i' k' _ _ hA=>absurd hA (by unfold ahead;omega),fun i' k' h1 h2 h3 h4=>by
  obtain ⟨l,h5,h6⟩:=h.ex i' k' h1 h2 h3 h4
  exact ⟨l,h5,fun x hx=>by have:=h6 x hx;omega⟩,
 fun a ha=>by have:=h.up _ _ a ha;have:=h.pos;omega,fun k' a ha=>by have:=h.up _ _ a ha;have:=h.pos;omega,fun k' a ha=>by have:=h.up _ _ a ha;have:=h.pos;omega,fun i' k' a ha=>by have:=h.up _ _ a ha;have:=h.pos;omega⟩
theorem MidD.low {E:Nat→Nat→Prop}{n m:Nat}{U:Int}{d c:Dm}{i k:Nat}(G:GoodD E n m U d)(M:MidD E n m U d i k c)(hm:m<n){i' k':Nat}(hi:i'<n)(hk:k'<n)(hmm:i'=m∨k'=m){a:Int}(ha:c i' k'=some a):-60*((m:Int)+1)≤a:=by
 by_cases e:i'=k'
 ·subst e
  have:i'=m:=by omega
  subst this
  obtain ⟨b,h1,h2⟩:=G.diag i' hm
  obtain ⟨b',h3,h4⟩:=M.mono _ _ _ h1
  rw [ha] at h3;cases h3
  omega
 obtain ⟨l,h1,h2⟩:=M.ex i' k' hi hk e (by rw [ha];rfl)
 obtain ⟨l2,h3,h4,h5⟩:=h1.short
 have key:∃ l3,Wk E l3 i' k'∧l3.Nodup∧∀ x∈l3,x<m:=by
  by_cases hin:m∈l2
  ·obtain ⟨p,q,hq⟩:=R0p hin
   subst hq
   have n1:=List.nodup_append.1 h4
   have n2:=List.nodup_cons.1 n1.2.1
   rcases hmm with rfl | rfl
   ·refine ⟨q,h3.right,n2.2,fun x hx=>?_⟩
    have:=h2 x (h5 x (List.mem_append.2 (.inr (List.mem_cons_of_mem _ hx))))
    have hne:x≠i':=fun e=>n2.1 (e ▸ hx)
    omega
   refine ⟨p,h3.left,n1.1,fun x hx=>?_⟩
   have:=h2 x (h5 x (List.mem_append.2 (.inl hx)))
   have hne:x≠k':=fun e=>n1.2.2 x hx k' (List.mem_cons_self ..) e
   omega
  refine ⟨l2,h3,h4,fun x hx=>?_⟩
  have:=h2 x (h5 x hx)
  have hne:x≠m:=fun e=>hin (e ▸ hx)
  omega
 obtain ⟨l3,k1,k2,k3⟩:=key
 obtain ⟨b,k4,k5⟩:=G.lo i' k' l3 hi hk k1 k2 k3
 obtain ⟨b',k6,k7⟩:=M.mono _ _ _ k4
 rw [ha] at k6;cases k6
 have:=Q0m m l3 k2 k3
 omega
theorem L0q {i k i' k':Nat}:ahead i (k+1) i' k' ↔ ahead i k i' k'∨(i'=i∧k'=k):=by unfold ahead;omega
theorem MidD.step {E:Nat→Nat→Prop}{n m:Nat}{U:Int}{d c:Dm}{i k:Nat}(G:GoodD E n m U d)(M:MidD E n m U d i k c)(hm:m<n)(hi:i<n)(hk:k<n){a b:Int}(ha:c i m=some a)(hb:c m k=some b) :
  (-60*((m:Int)+1)≤a∧-60*((m:Int)+1)≤b∧a≤3*U∧b≤3*U)∧MidD E n m U d i (k+1) (addD c i k (a+b)):=by
 have la:=M.low G hm hi hm (.inr rfl) ha
 have lb:=M.low G hm hm hk (.inl rfl) hb
 have ua:=M.col i a ha
 have ub:=M.row k b hb
 have hU:=G.pos
 have hself:¬ ahead i k i k:=by unfold ahead;omega
 have hcur:c i k=d i k:=M.old i k hself
 obtain ⟨e,he,he1,he2,he3⟩:=Y0n c i k (a+b)
 have oth:∀{i' k':Nat},¬(i'=i∧k'=k)→addD c i k (a+b) i' k'=c i' k':=fun {i' k'} h=>B1v c _ h
 -- what is below in row and column m
 have um:i=m→a≤2*U:=fun h=>by subst h;exact M.mm a ha
 have um2:k=m→b≤2*U:=fun h=>by subst h;exact M.mm b hb
 have ur:i=m→b≤U:=fun h=>by
  subst h
  rw [hcur] at hb
  exact G.up _ _ b hb
 have uc:k=m→a≤U:=fun h=>by
  subst h
  rw [hcur] at ha
  exact G.up _ _ a ha
 have uo:∀ x,c i k=some x→x≤U:=fun x hx=>by rw [hcur] at hx;exact G.up _ _ x hx
 refine ⟨⟨la,lb,ua,ub⟩,?_,?_,?_,?_,?_,?_,?_,?_⟩
 ·intro i' k' hA
  rw [L0q] at hA
  rw [oth (fun h=>hA (.inr h))]
  exact M.old i' k' (fun h=>hA (.inl h))
 ·intro i' k' x hx
  obtain ⟨y,h1,h2⟩:=M.mono i' k' x hx
  obtain ⟨z,h3,h4⟩:=T0r c i k (a+b) h1
  exact ⟨z,h3,by omega⟩
 ·intro i' k' hi' hk' hA x y hx hy
  rw [L0q] at hA
  rcases hA with hA | ⟨rfl,rfl⟩
  ·obtain ⟨z,h1,h2⟩:=M.done i' k' hi' hk' hA x y hx hy
   obtain ⟨z',h3,h4⟩:=T0r c i k (a+b) h1
   exact ⟨z',h3,by omega⟩
  obtain ⟨x',h1,h2⟩:=M.mono _ _ _ hx
  obtain ⟨y',h3,h4⟩:=M.mono _ _ _ hy
  rw [ha] at h1;cases h1
  rw [hb] at h3;cases h3
  exact ⟨e,he,by omega⟩
 ·intro i' k' hi' hk' hne hs
  by_cases hp:i'=i∧k'=k
  ·obtain ⟨rfl,rfl⟩:=hp
   by_cases h1:i'=m
   ·subst h1
    exact M.ex i' k' hi' hk' hne (by rw [hb];rfl)
   by_cases h2:k'=m
   ·subst h2
    exact M.ex i' k' hi' hk' hne (by rw [ha];rfl)
   obtain ⟨p,p1,p2⟩:=M.ex i' m hi' hm h1 (by rw [ha];rfl)
   obtain ⟨q,q1,q2⟩:=M.ex m k' hm hk' (fun e=>h2 e.symm) (by rw [hb];rfl)
   refine ⟨p ++ m::q,Wk.join q1 p1,fun x hx=>?_⟩
   rcases List.mem_append.1 hx with h | h
   ·exact p2 x h
   rcases List.mem_cons.1 h with h | h
   ·omega
   exact q2 x h
  rw [oth hp] at hs
  exact M.ex i' k' hi' hk' hne hs
 ·intro x hx
  by_cases hp:m=i∧m=k
  ·obtain ⟨h1,h2⟩:=hp
   have e1:=ur h1.symm
   have e2:=uc h2.symm
   rw [← h1,← h2] at hx he
   have hh:addD c i k (a+b) m m=some e:=by rw [← h1,← h2];exact he
   rw [← h1,← h2] at hh
   rw [hx] at hh;cases hh
   exact he3 _ (by omega) (fun z hz=>by have:=uo z hz;omega)
  rw [oth hp] at hx
  exact M.mm x hx
 ·intro k' x hx
  by_cases hp:m=i∧k'=k
  ·obtain ⟨h1,rfl⟩:=hp
   subst h1
   rw [he] at hx;cases hx
   have e1:=um rfl
   have e2:=ur rfl
   exact he3 _ (by omega) (fun z hz=>by have:=uo z hz;omega)
  rw [oth hp] at hx
  exact M.row k' x hx
 ·intro i' x hx
  by_cases hp:i'=i∧m=k
  ·obtain ⟨rfl,h1⟩:=hp
   subst h1
   rw [he] at hx;cases hx
   have e1:=um2 rfl
   have e2:=uc rfl
   exact he3 _ (by omega) (fun z hz=>by have:=uo z hz;omega)
  rw [oth hp] at hx
  exact M.col i' x hx
 intro i' k' x hx
 by_cases hp:i'=i∧k'=k
 ·obtain ⟨rfl,rfl⟩:=hp
  rw [he] at hx;cases hx
  exact he3 _ (by omega) (fun z hz=>by have:=uo z hz;omega)
 rw [oth hp] at hx
 exact M.all i' k' x hx
theorem MidD.skip {E:Nat→Nat→Prop}{n m:Nat}{U:Int}{d c:Dm}{i k:Nat}(M:MidD E n m U d i k c)(h:c i m=none∨c m k=none):MidD E n m U d i (k+1) c:=by
 refine ⟨fun i' k' hA=>M.old i' k' (fun hh=>hA (L0q.2 (.inl hh))),M.mono,fun i' k' hi' hk' hA x y hx hy=>?_,M.ex,M.mm,M.row,M.col,M.all⟩
 rcases L0q.1 hA with hA | ⟨rfl,rfl⟩
 ·exact M.done i' k' hi' hk' hA x y hx hy
 obtain ⟨x',h1,_⟩:=M.mono _ _ _ hx
 obtain ⟨y',h2,_⟩:=M.mono _ _ _ hy
 rcases h with h | h
 ·rw [h] at h1;cases h1
 rw [h] at h2;cases h2
theorem MidD.line {E:Nat→Nat→Prop}{n m:Nat}{U:Int}{d c:Dm}{i:Nat}(M:MidD E n m U d i n c):MidD E n m U d (i+1) 0 c:=
 ⟨fun i' k' hA=>M.old i' k' (fun hh=>hA (by unfold ahead at *;omega)),M.mono,fun i' k' hi' hk' hA=>M.done i' k' hi' hk' (by unfold ahead at *;omega),M.ex,M.mm,M.row,M.col,M.all⟩
theorem MidD.end_ {E:Nat→Nat→Prop}{n m:Nat}{U:Int}{d c:Dm}(G:GoodD E n m U d)(hm:m<n)(M:MidD E n m U d n 0 c):GoodD E n (m+1) (6*U) c:=by
 refine ⟨by have:=G.pos;omega,fun i hi=>?_,fun i k a h=>M.all i k a h,fun i k hi hk hne hs=>M.ex i k hi hk hne hs,fun i k l hi hk hw hn hl=>?_⟩
 ·obtain ⟨a,h1,h2⟩:=G.diag i hi
  obtain ⟨b,h3,h4⟩:=M.mono _ _ _ h1
  exact ⟨b,h3,by omega⟩
 by_cases hin:m∈l
 ·obtain ⟨p,q,hq⟩:=R0p hin
  subst hq
  have n1:=List.nodup_append.1 hn
  have n2:=List.nodup_cons.1 n1.2.1
  obtain ⟨a,a1,a2⟩:=G.lo i m p hi hm hw.left n1.1 (fun x hx=>by
   have:=hl x (List.mem_append.2 (.inl hx))
   have hne:x≠m:=fun e=>n1.2.2 x hx m (List.mem_cons_self ..) e
   omega)
  obtain ⟨b,b1,b2⟩:=G.lo m k q hm hk hw.right n2.2 (fun x hx=>by
   have:=hl x (List.mem_append.2 (.inr (List.mem_cons_of_mem _ hx)))
   have hne:x≠m:=fun e=>n2.1 (e ▸ hx)
   omega)
  obtain ⟨e,e1,e2⟩:=M.done i k hi hk (.inl hi) a b a1 b1
  refine ⟨e,e1,?_⟩
  simp only [List.length_append,List.length_cons]
  omega
 ·obtain ⟨a,a1,a2⟩:=G.lo i k l hi hk hw hn (fun x hx=>by
   have:=hl x hx
   have hne:x≠m:=fun e=>hin (e ▸ hx)
   omega)
  obtain ⟨b,h3,h4⟩:=M.mono _ _ _ a1
  exact ⟨b,h3,by omega⟩
structure EncS (n:Nat)(d:List (List Int))(c:Dm):Prop where
 len:d.length=n
 row:∀ i,i<n→∃ row,d[i]? = some row∧row.length=n∧∀ k,k<n→row[k]? = some ((c i k).getD (-1000))
structure EncI (n:Nat)(far:List (List Int))(met:List (List Bool))(c:Dm):Prop where
 lf:far.length=n
 lm:met.length=n
 row:∀ i,i<n→∃ fr mr,far[i]? = some fr∧met[i]? = some mr∧fr.length=n∧mr.length=n∧∀ k,k<n→mr[k]? = some (c i k).isSome∧∃ v,fr[k]? = some v∧∀ a,c i k=some a→v=a
theorem H0z {α:Type}(l:List α)(i:Nat):idxL l (i:Int)=l[i]?:=by simp [idxL]
theorem M0x {α:Type}(l:List α)(i:Nat)(v:α):setL l (i:Int) v=l.set i v:=by simp [setL]
theorem H0x {α:Type}{l:List α}{i:Nat}{v:α}(h:i<l.length)(j:Nat):(l.set i v)[j]? = if i=j then some v else l[j]?:=by
 rw [List.getElem?_set]
 by_cases e:i=j
 ·rw [if_pos e,if_pos h,if_pos e]
 rw [if_neg e,if_neg e]
theorem N0r {α:Type}{l:List α}(h:l≠[]):neL l=some l:=by
 unfold neL
 cases l with
 | nil=>exact absurd rfl h
 | cons x l=>rfl
theorem M0i {α:Type}{l:List α}{n:Nat}(h:l.length=n)(hn:0<n):l≠[]:=fun e=>by subst e;simp at h;omega
theorem G1k {α:Type}:∀{a b:List (List α)},a.length=b.length→(∀ x∈a,x≠[])→(∀ x∈b,x≠[])→sameN a b=some ():=by
 have key:∀{a b:List (List α)},a.length=b.length→(∀ x∈a,x≠[])→(∀ x∈b,x≠[])→a.map List.isEmpty=b.map List.isEmpty:=by
  intro a
  induction a with
  | nil=>intro b h _ _;cases b with
   | nil=>rfl
   | cons y b=>simp at h
  | cons x a ih=>
   intro b h h1 h2
   cases b with
   | nil=>simp at h
   | cons y b=>
    have e1:x.isEmpty=false:=by
     have:=h1 x (List.mem_cons_self ..)
     cases x with
     | nil=>exact absurd rfl this
     | cons _ _=>rfl
    have e2:y.isEmpty=false:=by
     have:=h2 y (List.mem_cons_self ..)
     cases y with
     | nil=>exact absurd rfl this
     | cons _ _=>rfl
    rw [List.map_cons,List.map_cons,e1,e2,ih (by simpa using h) (fun z hz=>h1 z (List.mem_cons_of_mem _ hz)) (fun z hz=>h2 z (List.mem_cons_of_mem _ hz))]
 intro a b h h1 h2
 unfold sameN
 rw [key h h1 h2,beq_self_eq_true];rfl
theorem EncI.nef {n:Nat}{far:List (List Int)}{met:List (List Bool)}{c:Dm}(h:EncI n far met c)(hn:0<n):∀ x∈far,x≠[]:=fun x hx=>by
 obtain ⟨i,hi,rfl⟩:=List.mem_iff_getElem.1 hx
 obtain ⟨fr,mr,h1,h2,h3,h4,_⟩:=h.row i (by rw [← h.lf];exact hi)
 rw [List.getElem?_eq_getElem hi] at h1;cases h1
 exact M0i h3 hn
theorem EncI.nem {n:Nat}{far:List (List Int)}{met:List (List Bool)}{c:Dm}(h:EncI n far met c)(hn:0<n):∀ x∈met,x≠[]:=fun x hx=>by
 obtain ⟨i,hi,rfl⟩:=List.mem_iff_getElem.1 hx
 obtain ⟨fr,mr,h1,h2,h3,h4,_⟩:=h.row i (by rw [← h.lm];exact hi)
 rw [List.getElem?_eq_getElem hi] at h2;cases h2
 exact M0i h4 hn
theorem EncS.upd {n:Nat}{d:List (List Int)}{c:Dm}(h:EncS n d c){i k:Nat}(hi:i<n)(hk:k<n){row:List Int}(hr:d[i]? = some row)(v:Int):EncS n (setL d i (setL row k v)) (updD c i k v):=by
 rw [M0x,M0x]
 refine ⟨by rw [List.length_set];exact h.len,fun j hj=>?_⟩
 rw [H0x (by rw [h.len];exact hi)]
 by_cases e:i=j
 ·subst e
  rw [if_pos rfl]
  obtain ⟨row',h1,h2,h3⟩:=h.row i hi
  rw [hr] at h1;cases h1
  refine ⟨_,rfl,by rw [List.length_set];exact h2,fun q hq=>?_⟩
  rw [H0x (by rw [h2];exact hk)]
  by_cases e2:k=q
  ·subst e2;rw [if_pos rfl,U0b];rfl
  rw [if_neg e2,W0q _ _ (fun hh=>e2 hh.2.symm)];exact h3 q hq
 rw [if_neg e]
 obtain ⟨row',h1,h2,h3⟩:=h.row j hj
 exact ⟨row',h1,h2,fun q hq=>by rw [W0q _ _ (fun hh=>e hh.1.symm)];exact h3 q hq⟩
theorem EncS.add {n:Nat}{d:List (List Int)}{c:Dm}(h:EncS n d c){i k:Nat}(hi:i<n)(hk:k<n){row:List Int}(hr:d[i]? = some row){v:Int}(hv:-1000≤v):EncS n (setL d i (setL row k (max ((c i k).getD (-1000)) v))) (addD c i k v):=by
 have e:max ((c i k).getD (-1000)) v=(match c i k with | none=>v | some a=>max a v):=by
  cases c i k with
  | none=>show max (-1000) v=v;omega
  | some a=>rfl
 rw [e]
 exact h.upd hi hk hr _
theorem EncI.upd {n:Nat}{far:List (List Int)}{met:List (List Bool)}{c:Dm}(h:EncI n far met c){i k:Nat}(hi:i<n)(hk:k<n){fr:List Int}{mr:List Bool}(hf:far[i]? = some fr)(hm:met[i]? = some mr)(v:Int):EncI n (setL far i (setL fr k v)) (setL met i (setL mr k true)) (updD c i k v):=by
 rw [M0x,M0x,M0x,M0x]
 refine ⟨by rw [List.length_set];exact h.lf,by rw [List.length_set];exact h.lm,fun j hj=>?_⟩
 rw [H0x (by rw [h.lf];exact hi),H0x (by rw [h.lm];exact hi)]
 obtain ⟨fr',mr',h1,h2,h3,h4,h5⟩:=h.row j hj
 by_cases e:i=j
 ·subst e
  rw [if_pos rfl,if_pos rfl]
  rw [hf] at h1;cases h1
  rw [hm] at h2;cases h2
  refine ⟨_,_,rfl,rfl,by rw [List.length_set];exact h3,by rw [List.length_set];exact h4,fun q hq=>?_⟩
  rw [H0x (by rw [h4];exact hk),H0x (by rw [h3];exact hk)]
  by_cases e2:k=q
  ·subst e2
   rw [if_pos rfl,if_pos rfl,U0b]
   exact ⟨rfl,v,rfl,fun a ha=>Option.some.inj ha⟩
  rw [if_neg e2,if_neg e2,W0q _ _ (fun hh=>e2 hh.2.symm)];exact h5 q hq
 rw [if_neg e,if_neg e]
 exact ⟨fr',mr',h1,h2,h3,h4,fun q hq=>by rw [W0q _ _ (fun hh=>e hh.1.symm)];exact h5 q hq⟩
theorem EncI.add {n:Nat}{far:List (List Int)}{met:List (List Bool)}{c:Dm}(h:EncI n far met c)(hn:0<n){i k:Nat}(hi:i<n)(hk:k<n)(v:Int) :
  ∃ r,D0i i k v met far=some r∧EncI n r.2 r.1 (addD c i k v)∧sameN met r.1=some ()∧sameN far r.2=some ():=by
 obtain ⟨fr,mr,h1,h2,h3,h4,h5⟩:=h.row i hi
 obtain ⟨h6,x,h7,h8⟩:=h5 k hk
 have key:∀ r,(EncI n r.2 r.1 (addD c i k v))→D0i i k v met far=some r→∃ r,D0i i k v met far=some r∧EncI n r.2 r.1 (addD c i k v)∧sameN met r.1=some ()∧sameN far r.2=some ():=fun r hr he=>
  ⟨r,he,hr,G1k (by rw [h.lm,hr.lm]) (h.nem hn) (hr.nem hn),G1k (by rw [h.lf,hr.lf]) (h.nef hn) (hr.nef hn)⟩
 have hup:=h.upd hi hk h1 h2
 cases hc:c i k with
 | none=>
  refine key (setL met i (setL mr k true),setL far i (setL fr k v)) ?_ ?_
  ·have e:addD c i k v=updD c i k v:=by unfold addD;rw [hc]
   rw [e];exact hup v
  unfold D0i
  simp only [H0z,h2,Option.bind_some,N0r (M0i h4 hn),h6,hc,Option.isSome_none,Bool.not_false,cond_true,h1,N0r (M0i h3 hn),h7]
 | some a=>
  have hx:=h8 a hc
  subst hx
  by_cases hlt:x<v
  ·refine key (setL met i (setL mr k true),setL far i (setL fr k v)) ?_ ?_
   ·have e:addD c i k v=updD c i k v:=by
     unfold addD;rw [hc]
     have:max x v=v:=by omega
     simp only [this]
    rw [e];exact hup v
   unfold D0i
   simp only [H0z,h2,Option.bind_some,N0r (M0i h4 hn),h6,hc,Option.isSome_some,Bool.not_true,cond_false,cond_true,h1,N0r (M0i h3 hn),h7,hlt,decide_true]
  refine key (met,far) ?_ ?_
  ·have e:addD c i k v=c:=by
    unfold addD;rw [hc]
    have:max x v=x:=by omega
    simp only [this]
    funext i' k'
    by_cases hp:i'=i∧k'=k
    ·obtain ⟨rfl,rfl⟩:=hp;rw [U0b,hc]
    rw [W0q _ _ hp]
   rw [e];exact h
  unfold D0i
  simp only [H0z,h2,Option.bind_some,N0r (M0i h4 hn),h6,hc,Option.isSome_some,Bool.not_true,cond_false,cond_true,h1,N0r (M0i h3 hn),h7,hlt,decide_false]
theorem W_nat {k:Nat}(h:k≤1000):W ((k:Int)+1)=((k+1:Nat):Int):=by rw [W_of (by omega)];omega
section
variable {p:A0d}{E:Nat→Nat→Prop}{n m:Nat}{U:Int}{d0:Dm}
theorem H1l (hn:p.Activities.length=n)(h6:n≤6)(hm:m<n)(hU:U≤1000000000000)(G:GoodD E n m U d0){i:Nat}(hi:i<n):∀(r k:Nat)(xs:List A0g)(fuel:Nat)(c:Dm)(d far:List (List Int))(met:List (List Bool)),k+r=n→xs.length=r→r<fuel→EncS n d c→EncI n far met c→MidD E n m U d0 i k c →
  ∃ c' d' far' met',G0b m i xs k d=some d'∧D0h p m i fuel k far met=some (far',met')∧EncS n d' c'∧EncI n far' met' c'∧MidD E n m U d0 i n c'
 | 0,k,[],fuel+1,c,d,far,met,hk,_,_,hS,hI,M=>by
  have e:k=n:=by omega
  subst e
  refine ⟨c,d,far,met,rfl,?_,hS,hI,M⟩
  rw [D0h,hn]
  simp
 | r+1,k,x::xs,fuel+1,c,d,far,met,hk,hx,hf,hS,hI,M=>by
  have hkn:k<n:=by omega
  have hn0:0<n:=by omega
  have ih:=H1l hn h6 hm hU G hi r (k+1) xs fuel
  obtain ⟨row,s1,s2,s3⟩:=hS.row i hi
  obtain ⟨rowm,t1,t2,t3⟩:=hS.row m hm
  obtain ⟨fr,mr,a1,a2,a3,a4,a5⟩:=hI.row i hi
  obtain ⟨frm,mrm,b1,b2,b3,b4,b5⟩:=hI.row m hm
  have hz:(k:Int)+1=((k+1:Nat):Int):=by omega
  rw [G0b,D0h,W_nat (by omega),hn,hz]
  simp only [H0z,s1,Option.bind_some,s3 m hm,a2,N0r (M0i a4 hn0),(a5 m hm).1,show decide ((k:Int)<(n:Int))=true from decide_eq_true (by omega),cond_true]
  cases hA:c i m with
  | none=>
   simp only [Option.getD_none,Option.isSome_none,bne_self_eq_false,cond_false,Option.bind_some]
   exact ih c d far met (by omega) (by simpa using hx) (by omega) hS hI (M.skip (.inl hA))
  | some a=>
   have la:=M.low G hm hi hm (.inr rfl) hA
   have e1:(a != (-1000:Int))=true:=by
    have:a≠-1000:=by omega
    simpa using this
   simp only [Option.getD_some,Option.isSome_some,e1,cond_true,t1,Option.bind_some,t3 k hkn,b2,N0r (M0i b4 hn0),(b5 k hkn).1]
   cases hB:c m k with
   | none=>
    simp only [Option.getD_none,Option.isSome_none,bne_self_eq_false,cond_false]
    exact ih c d far met (by omega) (by simpa using hx) (by omega) hS hI (M.skip (.inr hB))
   | some b=>
    obtain ⟨⟨l1,l2,l3,l4⟩,M'⟩:=M.step G hm hi hkn hA hB
    have hU0:=G.pos
    have e2:(b != (-1000:Int))=true:=by
     have:b≠-1000:=by omega
     simpa using this
    obtain ⟨va,c1,c2⟩:=(a5 m hm).2
    obtain ⟨vb,c3,c4⟩:=(b5 k hkn).2
    have c2:=c2 a hA
    have c4:=c4 b hB
    subst c2;subst c4
    have hW:W (va+vb)=va+vb:=W_of (by omega)
    obtain ⟨q,q1,q2,q3,q4⟩:=hI.add hn0 hi hkn (va+vb)
    simp only [Option.getD_some,Option.isSome_some,e2,cond_true,s3 k hkn,Option.bind_some,T0g,hW,a1,N0r (M0i a3 hn0),c1,b1,N0r (M0i b3 hn0),c3,q1,q3,q4]
    exact ih _ _ _ _ (by omega) (by simpa using hx) (by omega) (hS.add hi hkn s1 (by omega)) q2 M'
 | 0,_,_::_,_,_,_,_,_,_,h,_,_,_,_=>by simp at h
 | _+1,_,[],_,_,_,_,_,_,h,_,_,_,_=>by simp at h
 | _,_,_,0,_,_,_,_,_,_,h,_,_,_=>by omega
theorem C1o (hn:p.Activities.length=n)(h6:n≤6)(hm:m<n)(hU:U≤1000000000000)(G:GoodD E n m U d0):∀(r i:Nat)(xs:List A0g)(fuel:Nat)(c:Dm)(d far:List (List Int))(met:List (List Bool)),i+r=n→xs.length=r→r<fuel→EncS n d c→EncI n far met c→MidD E n m U d0 i 0 c →
  ∃ c' d' far' met',H0h p m xs i d=some d'∧E0f p m fuel i far met=some (far',met')∧EncS n d' c'∧EncI n far' met' c'∧MidD E n m U d0 n 0 c'
 | 0,i,[],fuel+1,c,d,far,met,hk,_,_,hS,hI,M=>by
  have e:i=n:=by omega
  subst e
  refine ⟨c,d,far,met,rfl,?_,hS,hI,M⟩
  rw [E0f,hn]
  simp
 | r+1,i,x::xs,fuel+1,c,d,far,met,hk,hx,hf,hS,hI,M=>by
  have hin:i<n:=by omega
  obtain ⟨c1,d1,f1,m1,h1,h2,h3,h4,h5⟩:=H1l hn h6 hm hU G hin n 0 p.Activities F0 c d far met (by omega) hn (by unfold F0;omega) hS hI M
  have hz:(i:Int)+1=((i+1:Nat):Int):=by omega
  rw [H0h,E0f,W_nat (by omega),hn,hz]
  have h1':G0b (m:Int) (i:Int) p.Activities 0 d=some d1:=h1
  have h2':D0h p (m:Int) (i:Int) F0 0 far met=some (f1,m1):=h2
  simp only [h1',h2',Option.bind_some,show decide ((i:Int)<(n:Int))=true from decide_eq_true (by omega),cond_true]
  exact C1o hn h6 hm hU G r (i+1) xs fuel _ _ _ _ (by omega) (by simpa using hx) (by omega) h3 h4 h5.line
 | 0,_,_::_,_,_,_,_,_,_,h,_,_,_,_=>by simp at h
 | _+1,_,[],_,_,_,_,_,_,h,_,_,_,_=>by simp at h
 | _,_,_,0,_,_,_,_,_,_,h,_,_,_=>by omega
end
theorem K1y {p:A0d}{E:Nat→Nat→Prop}{n:Nat}(hn:p.Activities.length=n)(h6:n≤6):∀(r m:Nat)(U:Int)(xs:List A0g)(fuel:Nat)(c:Dm)(d far:List (List Int))(met:List (List Bool)),m+r=n→xs.length=r→r<fuel→U*6 ^ r≤1000000000000→EncS n d c→EncI n far met c→GoodD E n m U c →
  ∃ c' U' d' far' met',H0g p xs m d=some d'∧E0j p fuel m far met=some (far',met')∧EncS n d' c'∧EncI n far' met' c'∧GoodD E n n U' c'∧U'≤1000000000000
 | 0,m,U,[],fuel+1,c,d,far,met,hk,_,_,hu,hS,hI,G=>by
  have e:m=n:=by omega
  subst e
  refine ⟨c,U,d,far,met,rfl,?_,hS,hI,G,by simpa using hu⟩
  rw [E0j,hn]
  simp
 | r+1,m,U,x::xs,fuel+1,c,d,far,met,hk,hx,hf,hu,hS,hI,G=>by
  have hmn:m<n:=by omega
  have h1r:(1:Int)≤6 ^ r:=by
   have:(0:Int)<6 ^ r:=Int.pow_pos (by omega)
   omega
  have hU0:=G.pos
  have hpow:U*6 ^ (r+1)=6*U*6 ^ r:=by rw [Int.pow_succ];rw [Int.mul_comm (6 ^ r) 6,← Int.mul_assoc,Int.mul_comm U 6]
  have hUb:U≤1000000000000:=by
   have:U*1≤6*U*6 ^ r:=by
    have h1:6*U*1≤6*U*6 ^ r:=Int.mul_le_mul_of_nonneg_left h1r (by omega)
    omega
   omega
  obtain ⟨c1,d1,f1,m1,h1,h2,h3,h4,h5⟩:=C1o hn h6 hmn hUb G n 0 p.Activities F0 c d far met (by omega) hn (by unfold F0;omega) hS hI (MidD.start G)
  have hz:(m:Int)+1=((m+1:Nat):Int):=by omega
  rw [H0g,E0j,W_nat (by omega),hn,hz]
  have h1':H0h p (m:Int) p.Activities 0 d=some d1:=h1
  have h2':E0f p (m:Int) F0 0 far met=some (f1,m1):=h2
  simp only [h1',h2',Option.bind_some,show decide ((m:Int)<(n:Int))=true from decide_eq_true (by omega),cond_true]
  exact K1y hn h6 r (m+1) (6*U) xs fuel _ _ _ _ (by omega) (by simpa using hx) (by omega) (by rw [← hpow];exact hu) h3 h4 (h5.end_ G hmn)
 | 0,_,_,_::_,_,_,_,_,_,_,h,_,_,_,_,_=>by simp at h
 | _+1,_,_,[],_,_,_,_,_,_,h,_,_,_,_,_=>by simp at h
 | _,_,_,_,0,_,_,_,_,_,_,h,_,_,_,_=>by omega
theorem C1u {f:TMode→Int}{lo hi:Int}:∀{l:List TMode}{a:Int}{has:Bool},(∀ x∈l,lo≤f x∧f x≤hi)→lo≤a∧a≤hi→lo≤R0j f l a has∧R0j f l a has≤hi
 | [],a,has,_,h=>h
 | x::l,a,has,hl,h=>by
  rw [R0j]
  have ih:=fun a has h=>C1u (l:=l) (a:=a) (has:=has) (fun y hy=>hl y (List.mem_cons_of_mem _ hy)) h
  cases (!has || decide (f x<a))
  ·exact ih a has h
  exact ih (f x) true (hl x (List.mem_cons_self ..))
theorem D1y {p:A0d}(F:ProjF p){a:Int}{x:A0g}(hx:idxL p.Activities a=some x):∃ v,F0e x=some (H0l x.Modes.length)∧G0c x (H0l x.Modes.length)=some v∧H0n x (H0l x.Modes.length)=some v∧0≤v∧v≤12:=by
 have hA:=F.acts x (P0c hx).2
 have hm:x.Modes.length≤200:=by have:=hA.2.1;omega
 refine ⟨_,X0o x hm,M0l x _,by rw [X0j x _ (by omega)];exact M0l x _,?_⟩
 exact C1u (fun y hy=>by
  have:=hA.2.2 y (T0m _ _ _ _ hy)
  have h1:=this.1
  omega) (by omega)
theorem G1q {p:A0d}(F:ProjF p){z:Int}{x:TLink}(hx:idxL p.Links z=some x):∃ g,L0v p z=some g∧D0e p x=some g∧-60≤g∧g≤200:=by
 have hl:=F.lnks x (P0c hx).2
 obtain ⟨y,hy,_⟩:=P0z (l:=p.Activities) (z:=x.From) hl.1.1 hl.1.2
 obtain ⟨v,h1,h2,h3,h4,h5⟩:=D1y F hy
 cases hf:x.FromEnd with
 | false=>
  refine ⟨x.Lag,?_,?_,by omega,by omega⟩
  ·simp only [L0v,U0o,hx,hy,Option.bind_some,h1,hf,cond_false]
  simp only [D0e,L0b,hy,Option.bind_some,P0t,h1,hf,cond_false]
 | true=>
  have hW:W (x.Lag+v)=x.Lag+v:=W_of (by omega)
  refine ⟨x.Lag+v,?_,?_,by omega,by omega⟩
  ·simp only [L0v,U0o,hx,hy,Option.bind_some,h1,hf,cond_true,h2,hW]
  simp only [D0e,L0b,hy,Option.bind_some,P0t,h1,hf,cond_true,h3,hW]
def c0:Dm:=fun i k=>if i=k then some 0 else none
def row0 (i n:Nat):List Int:=(List.range n).map fun k=>if i=k then 0 else -1000
theorem G1t (i:Nat):∀(xs:List A0g)(k:Nat),k+xs.length≤1000→H0i i xs k (row0 i k)=some (row0 i (k+xs.length))
 | [],k,_=>rfl
 | x::xs,k,h=>by
  have hz:(k:Int)+1=((k+1:Nat):Int):=by omega
  have hl:(row0 i k).length=k:=by simp [row0]
  simp only [List.length_cons] at h
  have hap:∀ v:Int,appL (row0 i k) [v]=some (row0 i k ++ [v]):=fun v=>by
   unfold appL
   rw [if_pos (by rw [hl,List.length_singleton];omega)]
  have hr:row0 i (k+1)=row0 i k ++ [if i=k then 0 else -1000]:=by simp [row0,List.range_succ]
  rw [H0i]
  have hb:((i:Int) == (k:Int))=decide (i=k):=by
   rw [L0f]
   by_cases e:i=k
   ·subst e;simp
   rw [decide_eq_false (by omega),decide_eq_false e]
  simp only [hb,hz,J0w,Option.bind_some,hap]
  have hc:(bif decide (i=k) then (0:Int) else -1000)=if i=k then 0 else -1000:=by
   by_cases e:i=k <;> simp [e]
  rw [hc,← hr,G1t i xs (k+1) (by omega),List.length_cons]
  congr 2
  omega
theorem G1w {p:A0d}{n:Nat}(hn:p.Activities.length=n)(h6:n≤6):∀(xs:List A0g)(i:Nat),i+xs.length≤100→H0k p xs i ((List.range i).map fun j=>row0 j n)=some ((List.range (i+xs.length)).map fun j=>row0 j n)
 | [],i,_=>rfl
 | x::xs,i,h=>by
  have hz:(i:Int)+1=((i+1:Nat):Int):=by omega
  simp only [List.length_cons] at h
  have h2:=G1t i p.Activities 0 (by omega)
  rw [Nat.zero_add,hn] at h2
  have h2':H0i (i:Int) p.Activities 0 []=some (row0 i n):=h2
  have hap:appL ((List.range i).map fun j=>row0 j n) [row0 i n]=some (((List.range i).map fun j=>row0 j n) ++ [row0 i n]):=by
   unfold appL
   rw [if_pos (by simp;omega)]
  have hr:((List.range (i+1)).map fun j=>row0 j n)=((List.range i).map fun j=>row0 j n) ++ [row0 i n]:=by simp [List.range_succ]
  rw [H0k]
  simp only [h2',hap,Option.bind_some,hz]
  rw [← hr,G1w hn h6 xs (i+1) (by omega),List.length_cons]
  congr 3
  omega
theorem enc0 (n:Nat):EncS n ((List.range n).map fun j=>row0 j n) c0:=by
 refine ⟨by simp,fun i hi=>⟨row0 i n,by simp [hi],by simp [row0],fun k hk=>?_⟩⟩
 simp only [row0,c0,List.getElem?_map,List.getElem?_range hk,Option.map_some]
 by_cases e:i=k <;> simp [e]
structure PreI (n i:Nat)(far:List (List Int))(met:List (List Bool)):Prop where
 lf:far.length=n
 lm:met.length=n
 done:∀ j,j<i→j<n→∃ fr mr,far[j]? = some fr∧met[j]? = some mr∧fr.length=n∧mr.length=n∧∀ k,k<n→mr[k]? = some (c0 j k).isSome∧∃ v,fr[k]? = some v∧∀ a,c0 j k=some a→v=a
 todo:∀ j,i≤j→j<n→far[j]? = some []∧met[j]? = some []
theorem A1y {α:Type}(z:α)(n:Nat)(h:n≤1000):makeL z (n:Int)=some (List.replicate n z):=by
 unfold makeL
 rw [if_pos (by omega)]
 simp
theorem K1g {α:Type}:nilL ([]:List α)=some ():=rfl
theorem H1j {p:A0d}{n:Nat}(hn:p.Activities.length=n)(h6:n≤6)(hn0:0<n):∀(xs:List A0g)(i:Nat)(far:List (List Int))(met:List (List Bool)),i+xs.length=n→PreI n i far met→∃ far' met',F0k p xs i far met=some (far',met')∧EncI n far' met' c0
 | [],i,far,met,h,I=>by
  have e:i=n:=by simpa using h
  subst e
  exact ⟨far,met,rfl,I.lf,I.lm,fun j hj=>I.done j hj hj⟩
 | x::xs,i,far,met,h,I=>by
  simp only [List.length_cons] at h
  have hin:i<n:=by omega
  have hz:(i:Int)+1=((i+1:Nat):Int):=by omega
  obtain ⟨t1,t2⟩:=I.todo i (Nat.le_refl _) hin
  have r1:(List.replicate n (0:Int))≠[]:=M0i (n:=n) (by simp) hn0
  have r2:(List.replicate n false)≠[]:=M0i (n:=n) (by simp) hn0
  have g1:(met.set i (List.replicate n false))[i]? = some (List.replicate n false):=by rw [H0x (by rw [I.lm];exact hin),if_pos rfl]
  have g2:(List.replicate n false)[i]? = some false:=by simp [hin]
  rw [F0k]
  simp only [hn,A1y _ n (by omega),Option.bind_some,H0z,M0x,t1,t2,K1g,N0r r1,N0r r2,g1,g2,hz]
  refine H1j hn h6 hn0 xs (i+1) _ _ (by omega) ⟨by rw [List.length_set];exact I.lf,by rw [List.length_set,List.length_set];exact I.lm,fun j hj hjn=>?_,fun j hj hjn=>?_⟩
  ·by_cases e:i=j
   ·subst e
    refine ⟨List.replicate n 0,(List.replicate n false).set i true,by rw [H0x (by rw [I.lf];exact hin),if_pos rfl],by rw [H0x (by rw [List.length_set,I.lm];exact hin),if_pos rfl],by simp,by simp,fun k hk=>⟨?_,0,by simp [hk],fun a ha=>?_⟩⟩
    ·rw [H0x (by simpa using hin)]
     by_cases e2:i=k
     ·subst e2;simp [c0]
     rw [if_neg e2];simp [c0,e2,hk]
    unfold c0 at ha
    split at ha
    ·exact Option.some.inj ha
    cases ha
   obtain ⟨fr,mr,h1,h2,h3⟩:=I.done j (by omega) hjn
   exact ⟨fr,mr,by rw [H0x (by rw [I.lf];exact hin),if_neg e];exact h1,by rw [H0x (by rw [List.length_set,I.lm];exact hin),if_neg e,H0x (by rw [I.lm];exact hin),if_neg e];exact h2,h3⟩
  have e:i≠j:=by omega
  rw [H0x (by rw [I.lf];exact hin),if_neg e,H0x (by rw [List.length_set,I.lm];exact hin),if_neg e,H0x (by rw [I.lm];exact hin),if_neg e]
  exact I.todo j (by omega) hjn
def linkE (p:A0d)(i k:Nat):Prop:=∃ x∈p.Links,x.From=(i:Int)∧x.To=(k:Int)
structure LnkI (p:A0d)(n:Nat)(pre:List TLink)(c:Dm):Prop where
 diag:∀ i,i<n→∃ a,c i i=some a∧0≤a
 up:∀ i k a,c i k=some a→a≤200
 ex:∀ i k,i≠k→(c i k).isSome=true→linkE p i k
 lo:∀ x∈pre,∃ a,c x.From.toNat x.To.toNat=some a∧-60≤a
theorem A1l {p:A0d}{n:Nat}(F:ProjF p)(hn:p.Activities.length=n)(hn0:0<n):∀(xs pre:List TLink)(c:Dm)(d far:List (List Int))(met:List (List Bool)),p.Links=pre ++ xs→EncS n d c→EncI n far met c→LnkI p n pre c →
  ∃ c' d' far' met',H0j p xs pre.length d=some d'∧F0h p xs pre.length far met=some (far',met')∧EncS n d' c'∧EncI n far' met' c'∧LnkI p n p.Links c'
 | [],pre,c,d,far,met,hp,hS,hI,L=>⟨c,d,far,met,rfl,rfl,hS,hI,by rw [hp,List.append_nil];exact L⟩
 | x::xs,pre,c,d,far,met,hp,hS,hI,L=>by
  have hx:idxL p.Links (pre.length:Int)=some x:=by rw [H0z,hp,List.getElem?_append_right (Nat.le_refl _)];simp
  have hmem:x∈p.Links:=(P0c hx).2
  obtain ⟨g,g1,g2,g3,g4⟩:=G1q F hx
  obtain ⟨⟨f0,f1⟩,⟨f2,f3⟩,f4,_⟩:=F.lnks x hmem
  obtain ⟨i,hi⟩:∃ i:Nat,x.From=(i:Int):=⟨x.From.toNat,by omega⟩
  obtain ⟨k,hk⟩:∃ k:Nat,x.To=(k:Int):=⟨x.To.toNat,by omega⟩
  have hin:i<n:=by omega
  have hkn:k<n:=by omega
  obtain ⟨row,s1,s2,s3⟩:=hS.row i hin
  obtain ⟨q,q1,q2,q3,q4⟩:=hI.add hn0 hin hkn g
  have hz:(pre.length:Int)+1=((pre ++ [x]).length:Int):=by simp
  rw [H0j,F0h]
  simp only [hi,hk,H0z,s1,Option.bind_some,s3 k hkn,g1,g2,T0g,q1,q3,q4,hz]
  obtain ⟨e,e1,e2,e3,e4⟩:=Y0n c i k g
  refine A1l F hn hn0 xs (pre ++ [x]) _ _ _ _ (by rw [hp];simp) (hS.add hin hkn s1 (by omega)) q2 ⟨fun j hj=>?_,fun i' k' a ha=>?_,fun i' k' hne hs=>?_,fun y hy=>?_⟩
  ·obtain ⟨a,h1,h2⟩:=L.diag j hj
   obtain ⟨b,h3,h4⟩:=T0r c i k g h1
   exact ⟨b,h3,by omega⟩
  ·by_cases hpq:i'=i∧k'=k
   ·obtain ⟨rfl,rfl⟩:=hpq
    rw [e1] at ha;cases ha
    exact e4 200 g4 (fun z hz=>L.up _ _ z hz)
   rw [B1v c g hpq] at ha
   exact L.up _ _ a ha
  ·by_cases hpq:i'=i∧k'=k
   ·obtain ⟨rfl,rfl⟩:=hpq
    exact ⟨x,hmem,hi,hk⟩
   rw [B1v c g hpq] at hs
   exact L.ex _ _ hne hs
  rcases List.mem_append.1 hy with hy | hy
  ·obtain ⟨a,h1,h2⟩:=L.lo y hy
   obtain ⟨b,h3,h4⟩:=T0r c i k g h1
   exact ⟨b,h3,by omega⟩
  rw [List.mem_singleton.1 hy,hi,hk]
  exact ⟨e,e1,by omega⟩
theorem H1h {p:A0d}{n:Nat}(F:ProjF p){c:Dm}(L:LnkI p n p.Links c):GoodD (linkE p) n 0 200 c:=by
 refine ⟨by omega,L.diag,L.up,fun i k hi hk hne hs=>⟨[],L.ex i k hne hs,fun x hx=>by cases hx⟩,fun i k l hi hk hw hnd hl=>?_⟩
 match l,hw,hl with
 | [],hw,_=>
  obtain ⟨x,hx,h1,h2⟩:=hw
  obtain ⟨a,h3,h4⟩:=L.lo x hx
  rw [h1,h2] at h3
  exact ⟨a,by simpa using h3,by simp;omega⟩
 | y::l,_,hl=>exact absurd (hl y (List.mem_cons_self ..)) (by omega)
structure FinI (n i k:Nat)(far:List (List Int))(c:Dm):Prop where
 len:far.length=n
 row:∀ j,j<n→∃ row,far[j]? = some row∧row.length=n∧∀ q,q<n→∃ v,row[q]? = some v∧(∀ a,c j q=some a→v=a)∧(ahead i k j q→c j q=none→v = -1000)
theorem FinI.next {n i k:Nat}{far:List (List Int)}{c:Dm}(h:FinI n i k far c)(hs:(c i k).isSome=true):FinI n i (k+1) far c:=by
 refine ⟨h.len,fun j hj=>?_⟩
 obtain ⟨row,h1,h2,h3⟩:=h.row j hj
 refine ⟨row,h1,h2,fun q hq=>?_⟩
 obtain ⟨v,h4,h5,h6⟩:=h3 q hq
 refine ⟨v,h4,h5,fun hA hc=>?_⟩
 rcases L0q.1 hA with hA | ⟨rfl,rfl⟩
 ·exact h6 hA hc
 rw [hc] at hs;cases hs
theorem FinI.put {n i k:Nat}{far:List (List Int)}{c:Dm}(h:FinI n i k far c)(hi:i<n)(hk:k<n)(hc0:c i k=none){row:List Int}(hr:far[i]? = some row):FinI n i (k+1) (setL far i (setL row k (-1000))) c:=by
 rw [M0x,M0x]
 refine ⟨by rw [List.length_set];exact h.len,fun j hj=>?_⟩
 rw [H0x (by rw [h.len];exact hi)]
 obtain ⟨row',h1,h2,h3⟩:=h.row j hj
 by_cases e:i=j
 ·subst e
  rw [if_pos rfl]
  rw [hr] at h1;cases h1
  refine ⟨_,rfl,by rw [List.length_set];exact h2,fun q hq=>?_⟩
  rw [H0x (by rw [h2];exact hk)]
  by_cases e2:k=q
  ·subst e2
   rw [if_pos rfl]
   exact ⟨-1000,rfl,(fun a ha=>by rw [hc0] at ha;cases ha),fun _ _=>rfl⟩
  rw [if_neg e2]
  obtain ⟨v,h4,h5,h6⟩:=h3 q hq
  exact ⟨v,h4,h5,fun hA hc=>h6 ((L0q.1 hA).resolve_right (fun hh=>e2 hh.2.symm)) hc⟩
 rw [if_neg e]
 refine ⟨row',h1,h2,fun q hq=>?_⟩
 obtain ⟨v,h4,h5,h6⟩:=h3 q hq
 exact ⟨v,h4,h5,fun hA hc=>h6 ((L0q.1 hA).resolve_right (fun hh=>e hh.1.symm)) hc⟩
theorem FinI.line {n i:Nat}{far:List (List Int)}{c:Dm}(h:FinI n i n far c):FinI n (i+1) 0 far c:=by
 refine ⟨h.len,fun j hj=>?_⟩
 obtain ⟨row,h1,h2,h3⟩:=h.row j hj
 refine ⟨row,h1,h2,fun q hq=>?_⟩
 obtain ⟨v,h4,h5,h6⟩:=h3 q hq
 exact ⟨v,h4,h5,fun hA hc=>h6 (by unfold ahead at *;omega) hc⟩
theorem J1j {p:A0d}{n:Nat}(hn:p.Activities.length=n)(h6:n≤6){P:List (List Int)×List (List Bool)}{c:Dm}(hI:EncI n P.1 P.2 c){i:Nat}(hi:i<n):∀(r k:Nat)(fuel:Nat)(far:List (List Int)),k+r=n→r<fuel→FinI n i k far c→∃ far',D0g p P i fuel k far=some far'∧FinI n i n far' c
 | 0,k,fuel+1,far,hk,_,h=>by
  have e:k=n:=by omega
  subst e
  refine ⟨far,?_,h⟩
  rw [D0g,hn]
  simp
 | r+1,k,fuel+1,far,hk,hf,h=>by
  have hkn:k<n:=by omega
  have hn0:0<n:=by omega
  obtain ⟨fr,mr,a1,a2,a3,a4,a5⟩:=hI.row i hi
  obtain ⟨row,b1,b2,b3⟩:=h.row i hi
  obtain ⟨v,b4,_⟩:=b3 k hkn
  rw [D0g,W_nat (by omega),hn]
  simp only [H0z,a2,Option.bind_some,N0r (M0i a4 hn0),(a5 k hkn).1,show decide ((k:Int)<(n:Int))=true from decide_eq_true (by omega),cond_true,b1,N0r (M0i b2 hn0),b4]
  cases hc:c i k with
  | none=>
   simp only [Option.isSome_none,Bool.not_false,cond_true]
   exact J1j hn h6 hI hi r (k+1) fuel _ (by omega) (by omega) (h.put hi hkn hc b1)
  | some a=>
   simp only [Option.isSome_some,Bool.not_true,cond_false]
   exact J1j hn h6 hI hi r (k+1) fuel _ (by omega) (by omega) (h.next (by rw [hc];rfl))
 | _,_,0,_,_,h,_=>by omega
theorem L1e {p:A0d}{n:Nat}(hn:p.Activities.length=n)(h6:n≤6){P:List (List Int)×List (List Bool)}{c:Dm}(hI:EncI n P.1 P.2 c):∀(r i:Nat)(fuel:Nat)(far:List (List Int)),i+r=n→r<fuel→FinI n i 0 far c→∃ far',E0h p P fuel i far=some far'∧FinI n n 0 far' c
 | 0,i,fuel+1,far,hk,_,h=>by
  have e:i=n:=by omega
  subst e
  refine ⟨far,?_,h⟩
  rw [E0h,hn]
  simp
 | r+1,i,fuel+1,far,hk,hf,h=>by
  have hin:i<n:=by omega
  obtain ⟨f1,h1,h2⟩:=J1j hn h6 hI hin n 0 F0 far (by omega) (by unfold F0;omega) h
  have h1':D0g p P (i:Int) F0 0 far=some f1:=h1
  rw [E0h,W_nat (by omega),hn]
  simp only [h1',Option.bind_some,show decide ((i:Int)<(n:Int))=true from decide_eq_true (by omega),cond_true]
  exact L1e hn h6 hI r (i+1) fuel _ (by omega) (by omega) h2.line
 | _,_,0,_,_,h,_=>by omega
theorem FinI.enc {n:Nat}{far:List (List Int)}{c:Dm}(h:FinI n n 0 far c):EncS n far c:=by
 refine ⟨h.len,fun i hi=>?_⟩
 obtain ⟨row,h1,h2,h3⟩:=h.row i hi
 refine ⟨row,h1,h2,fun k hk=>?_⟩
 obtain ⟨v,h4,h5,h6⟩:=h3 k hk
 rw [h4]
 cases hc:c i k with
 | none=>rw [h6 (.inl hi) hc];rfl
 | some a=>rw [h5 a hc];rfl
theorem EncS.same {n:Nat}{d e:List (List Int)}{c:Dm}(h:EncS n d c)(k:EncS n e c):d=e:=by
 apply List.ext_getElem?
 intro i
 by_cases hi:i<n
 ·obtain ⟨r,h1,h2,h3⟩:=h.row i hi
  obtain ⟨s,k1,k2,k3⟩:=k.row i hi
  rw [h1,k1]
  congr 1
  apply List.ext_getElem?
  intro j
  by_cases hj:j<n
  ·rw [h3 j hj,k3 j hj]
  rw [List.getElem?_eq_none (by omega),List.getElem?_eq_none (by omega)]
 rw [List.getElem?_eq_none (by have:=h.len;omega),List.getElem?_eq_none (by have:=k.len;omega)]
theorem K1e {α:Type}{l:List (List α)}(h:∀ x∈l,x≠[]):allNe l=some l:=by
 unfold allNe
 have:l.any List.isEmpty=false:=by
  rw [List.any_eq_false]
  intro x hx
  have:=h x hx
  cases x with
  | nil=>exact absurd rfl this
  | cons _ _=>simp
 rw [this];rfl
structure MatF (n:Nat)(d:List (List Int)):Prop where
 len:d.length=n
 row:∀ r∈d,r.length=n∧∀ x∈r,-1000≤x∧x≤1000000000000
 diag:∀(i:Nat) r,d[i]? = some r→∃ x,r[i]? = some x∧0≤x
theorem L1w {p:A0d}(F:ProjF p):∃ d,R0r p=some d∧MatF p.Activities.length d∧(K0o p=some true→H0e p=some []→E0z p=some d):=by
 obtain ⟨n,hn⟩:∃ n,p.Activities.length=n:=⟨_,rfl⟩
 have hn0:0<n:=by have:=F.nact.1;omega
 have h6:n≤6:=by have:=F.nact.2;omega
 have a1:=G1w hn h6 p.Activities 0 (by omega)
 rw [Nat.zero_add,hn] at a1
 have a1':H0k p p.Activities 0 []=some ((List.range n).map fun j=>row0 j n):=a1
 obtain ⟨far,met,b1,b2⟩:=H1j hn h6 hn0 p.Activities 0 (List.replicate n []) (List.replicate n []) (by omega) ⟨by simp,by simp,fun j h _=>by omega,fun j _ hj=>by simp [hj]⟩
 have b1':F0k p p.Activities 0 (List.replicate n []) (List.replicate n [])=some (far,met):=b1
 have L0:LnkI p n [] c0:=by
  refine ⟨fun i hi=>⟨0,by simp [c0],Int.le_refl _⟩,fun i k a ha=>?_,fun i k hne hs=>?_,fun x hx=>by cases hx⟩
  ·unfold c0 at ha
   split at ha
   ·cases ha;omega
   cases ha
  simp [c0,hne] at hs
 obtain ⟨c1,d1,f1,m1,l1,l2,l3,l4,l5⟩:=A1l F hn hn0 p.Links [] c0 _ far met rfl (enc0 n) b2 L0
 have l1':H0j p p.Links 0 ((List.range n).map fun j=>row0 j n)=some d1:=l1
 have l2':F0h p p.Links 0 far met=some (f1,m1):=l2
 have hp6:(200:Int)*6 ^ n≤1000000000000:=by
  have:n=1∨n=2∨n=3∨n=4∨n=5∨n=6:=by omega
  rcases this with h | h | h | h | h | h <;> rw [h] <;> decide
 obtain ⟨c2,U2,d2,f2,m2,s1,s2,s3,s4,s5,s6⟩:=K1y hn h6 n 0 200 p.Activities F0 c1 d1 f1 m1 (by omega) hn (by unfold F0;omega) hp6 l3 l4 (H1h F l5)
 have s1':H0g p p.Activities 0 d1=some d2:=s1
 have s2':E0j p F0 0 f1 m1=some (f2,m2):=s2
 obtain ⟨f3,e1,e2⟩:=L1e (P:=(f2,m2)) hn h6 s4 n 0 F0 f2 (by omega) (by unfold F0;omega) ⟨s4.lf,fun j hj=>by
  obtain ⟨fr,mr,h1,_,h3,_,h5⟩:=s4.row j hj
  refine ⟨fr,h1,h3,fun q hq=>?_⟩
  obtain ⟨v,h6,h7⟩:=(h5 q hq).2
  exact ⟨v,h6,h7,fun hA=>by unfold ahead at hA;omega⟩⟩
 have e1':E0h p (f2,m2) F0 0 f2=some f3:=e1
 have he:=e2.enc.same s3
 refine ⟨d2,?_,⟨s3.len.trans hn.symm,fun r hr=>?_,fun i r hr=>?_⟩,fun hP hC=>?_⟩
 ·simp only [R0r,a1',Option.bind_some,l1',s1']
 ·obtain ⟨i,hi,rfl⟩:=List.mem_iff_getElem.1 hr
  have hin:i<n:=by rw [← s3.len];exact hi
  obtain ⟨row,h1,h2,h3⟩:=s3.row i hin
  rw [List.getElem?_eq_getElem hi] at h1;cases h1
  refine ⟨by rw [h2,hn],fun x hx=>?_⟩
  obtain ⟨k,hk,rfl⟩:=List.mem_iff_getElem.1 hx
  have hkn:k<n:=by rw [← h2];exact hk
  have h4:=h3 k hkn
  rw [List.getElem?_eq_getElem hk] at h4
  cases hc:c2 i k with
  | none=>
   rw [hc] at h4
   have h4:=Option.some.inj h4
   have h5:d2[i][k] = -1000:=h4
   rw [h5];omega
  | some a=>
   rw [hc] at h4
   have h4:=Option.some.inj h4
   have h5:d2[i][k]=a:=h4
   rw [h5]
   have u:=s5.up i k a hc
   have lo:-1000≤a:=by
    by_cases e:i=k
    ·subst e
     obtain ⟨b,q1,q2⟩:=s5.diag i hin
     rw [hc] at q1;cases q1;omega
    obtain ⟨l,w1,w2⟩:=s5.ex i k hin hkn e (by rw [hc];rfl)
    obtain ⟨l2,w3,w4,w5⟩:=w1.short
    obtain ⟨b,q1,q2⟩:=s5.lo i k l2 hin hkn w3 w4 (fun x hx=>w2 x (w5 x hx))
    rw [hc] at q1;cases q1
    have:=Q0m n l2 w4 (fun x hx=>w2 x (w5 x hx))
    omega
   omega
 ·have hin:i<n:=by have:=(List.getElem?_eq_some_iff.1 hr).1;rw [s3.len] at this;exact this
  obtain ⟨row,h1,h2,h3⟩:=s3.row i hin
  rw [hr] at h1;cases h1
  obtain ⟨a,q1,q2⟩:=s5.diag i hin
  exact ⟨a,by rw [h3 i hin,q1];rfl,q2⟩
 ·have hne:allNe f3=some f3:=K1e fun x hx=>by
   rw [he] at hx
   obtain ⟨i,hi,rfl⟩:=List.mem_iff_getElem.1 hx
   obtain ⟨row,h1,h2,_⟩:=s3.row i (by rw [← s3.len];exact hi)
   rw [List.getElem?_eq_getElem hi] at h1;cases h1
   exact M0i h2 hn0
  unfold E0z
  rw [he] at hne e1'
  have hz:decide ((0:Int)<((([]:List Int).length:Nat):Int))=false:=rfl
  simp only [hP,hC,Option.bind_some,Bool.not_true,cond_false,hz,hn,A1y _ n (by omega),b1',l2',s2',e1',hne]
def toL (p:A0d)(z:Int):Int:=((idxL p.Links z).map TLink.To).getD 0
theorem E1d (l:List Int)(n:Int):D0b l n=some (decide (n∈l)):=by
 have h:=Z0p l n
 unfold Q0f at h
 obtain ⟨v,h1,h2⟩:=bindE h
 rw [h1];exact h2
theorem B1t {l:List Int}(h:l.length≤1000):F0a l=some l:=by
 unfold F0a appL
 rw [if_pos (by simp;omega)];rfl
theorem V0a {α:Type}{l:List α}(x:α)(h:l.length≤1000):appL l [x]=some (l ++ [x]):=by
 unfold appL
 rw [if_pos (by simp;omega)]
theorem Y0h {p:A0d}{y g:Int}(hg:L0v p y=some g):∀(xs:List Int)(i a s:Int),D0c p xs i a=some s→D0c p (xs ++ [y]) i a=some (W (s+g))
 | [],i,a,s,h=>by
  cases h
  simp only [List.nil_append,D0c,hg,Option.bind_some]
 | x::xs,i,a,s,h=>by
  rw [List.cons_append,D0c]
  rw [D0c] at h
  obtain ⟨v,h1,h2⟩:=bindE h
  rw [h1,Option.bind_some]
  exact Y0h hg xs _ _ _ h2
theorem A1r {p:A0d}{xl:TLink}:∀(xs:List Int)(i:Int),(∀ z∈xs,∃ x,idxL p.Links z=some x)→J0n p xl xs i=some (if xl.To∈xs.map (toL p) then .inr [] else .inl ())
 | [],i,_=>rfl
 | z::xs,i,h=>by
  obtain ⟨x,hx⟩:=h z (List.mem_cons_self ..)
  have ht:toL p z=x.To:=by unfold toL;rw [hx];rfl
  rw [J0n,hx,Option.bind_some,A1r xs _ (fun y hy=>h y (List.mem_cons_of_mem _ hy)),List.map_cons,ht]
  by_cases e:x.To=xl.To
  ·rw [show (x.To == xl.To)=true by simp [e],cond_true,if_pos (by rw [e];exact List.mem_cons_self ..)]
  rw [show (x.To == xl.To)=false by simp [e],cond_false]
  congr 1
  by_cases e2:xl.To∈xs.map (toL p)
  ·rw [if_pos e2,if_pos (List.mem_cons_of_mem _ e2)]
  ·rw [if_neg e2,if_neg (fun h=>by
    rcases List.mem_cons.1 h with h | h
    ·exact e h.symm
    exact e2 h)]
theorem Y0v {α:Type}(l:List α):decide (0<(l.length:Int)) = !l.isEmpty:=by cases l <;> simp <;> omega
theorem loop3 {p:A0d}{way vis:List Int}{sum most w0:Int}{xl:TLink}{fi:A0d→List Int→List Int→Int→Int→Option (List Int)}{fs:A0d→List Int→Int→Option (List Int)}
  (hw:way.length≤900) (hv:vis.length≤900) (F:ProjF p) (hrec:∀ z x g,idxL p.Links z=some x→L0v p z=some g→∃ v,fs p (way ++ [z]) most=some v∧fi p (way ++ [z]) (vis ++ [xl.To]) (W (sum+g)) most=some v) :
  ∀(xs:List TLink)(z:Int),0≤z→p.Links.drop z.toNat=xs→∃ v,F0l p way most fs w0 xl xs z=some v∧C0m p way vis sum most fi w0 xl xs z=some v
 | [],z,_,_=>⟨_,rfl,rfl⟩
 | x::xs,z,h0,hd=>by
  obtain ⟨hx,hd2⟩:=R0n h0 hd
  obtain ⟨v0,ih1,ih2⟩:=loop3 (w0:=w0) hw hv F hrec xs (z+1) (by omega) hd2
  obtain ⟨g,g1,g2,_⟩:=G1q F hx
  obtain ⟨v,r1,r2⟩:=hrec z x g hx g1
  have hap:appL ([]:List Int) way=some way:=by
   unfold appL
   rw [if_pos (by simp;omega)];rfl
  rw [F0l,C0m,ih1,ih2]
  simp only [hap,V0a z (by omega:way.length≤1000),V0a xl.To (by omega:vis.length≤1000),B1t (by omega:way.length≤1000),B1t (by omega:vis.length≤1000),g2,Option.bind_some,r1,r2,Y0v]
  by_cases e1:x.From=xl.To
  ·have b1:(x.From == xl.To)=true:=by simp [e1]
   have b2:(x.From != xl.To)=false:=by simp [e1]
   by_cases e2:w0<z
   ·rw [b1,b2,decide_eq_true e2,decide_eq_false (by omega:¬ z≤w0)]
    simp only [cond_true,cond_false,Option.bind_some]
    cases hE:v.isEmpty
    ·exact ⟨_,rfl,rfl⟩
    exact ⟨_,rfl,rfl⟩
   rw [b2,decide_eq_false e2,decide_eq_true (by omega:z≤w0)]
   exact ⟨_,rfl,rfl⟩
  have b1:(x.From == xl.To)=false:=by simp [e1]
  have b2:(x.From != xl.To)=true:=by simp [e1]
  rw [b1,b2]
  by_cases e2:w0<z
  ·rw [decide_eq_true e2];exact ⟨_,rfl,rfl⟩
  rw [decide_eq_false e2];exact ⟨_,rfl,rfl⟩
theorem H1o {p:A0d}(F:ProjF p):∀(r:Nat)(fuel:Nat)(ini:List Int)(wl:Int)(x0:TLink)(w0 sum:Int)(most:Nat),(ini ++ [wl]).length+r=most→most≤200→r<fuel→(∀ z∈ini ++ [wl],∃ x,idxL p.Links z=some x)→idxL (ini ++ [wl]) 0=some w0→idxL p.Links w0=some x0→D0c p (ini ++ [wl]) 0 0=some sum →
  ∃ v,J0j fuel p (ini ++ [wl]) most=some v∧E0a fuel p (ini ++ [wl]) (x0.From::ini.map (toL p)) sum most=some v∧(v=[]∨v.length=most)
 | r,fuel+1,ini,wl,x0,w0,sum,most,hr,hm,hf,hz,h0,hx0,hs=>by
  have hlen:(ini ++ [wl]).length=ini.length+1:=by simp
  obtain ⟨xl,hxl⟩:=hz wl (by simp)
  have hW:W (((ini ++ [wl]).length:Int) - 1)=(ini.length:Int):=by rw [hlen,W_of (by omega)];omega
  have hlast:idxL (ini ++ [wl]) (ini.length:Int)=some wl:=by rw [H0z,List.getElem?_append_right (Nat.le_refl _)];simp
  have hsub:subL (ini ++ [wl]) 0 (ini.length:Int)=some ini:=by
   unfold subL
   rw [if_pos (by simp;omega)]
   simp
  have htl:∀ y,idxL p.Links wl=some y→toL p wl=y.To:=fun y hy=>by unfold toL;rw [hy];rfl
  show ∃ v,N0n (J0j fuel) p (ini ++ [wl]) most=some v∧G0v (E0a fuel) p (ini ++ [wl]) (x0.From::ini.map (toL p)) sum most=some v∧(v=[]∨v.length=most)
  unfold N0n G0v
  simp only [h0,hx0,hW,hlast,hxl,Option.bind_some,hs,hsub,E1d,A1r ini 0 (fun z hzz=>hz z (List.mem_append.2 (.inl hzz))),B1t (by omega:(ini ++ [wl]).length≤1000),N0r (show ini ++ [wl]≠[] by simp)]
  by_cases e1:(ini ++ [wl]).length=most
  ·have b1:(((ini ++ [wl]).length:Int) == (most:Int))=true:=by rw [e1];exact beq_self_eq_true _
   rw [b1]
   by_cases e2:xl.To=x0.From
   ·rw [show (xl.To == x0.From)=true by simp [e2]]
    by_cases e3:0<sum
    ·rw [decide_eq_true e3];exact ⟨_,rfl,rfl,.inr e1⟩
    rw [decide_eq_false e3];exact ⟨_,rfl,rfl,.inl rfl⟩
   rw [show (xl.To == x0.From)=false by simp [e2]]
   exact ⟨_,rfl,rfl,.inl rfl⟩
  ·have b1:(((ini ++ [wl]).length:Int) == (most:Int))=false:=by
    rw [L0f];exact decide_eq_false (by omega)
   rw [b1]
   by_cases e2:xl.To=x0.From
   ·rw [show (xl.To == x0.From)=true by simp [e2],show decide (xl.To∈x0.From::ini.map (toL p))=true by simp [e2]]
    refine ⟨[],?_,rfl,.inl rfl⟩
    cases decide (0<sum) <;> rfl
   rw [show (xl.To == x0.From)=false by simp [e2]]
   by_cases e3:xl.To∈ini.map (toL p)
   ·rw [if_pos e3,show decide (xl.To∈x0.From::ini.map (toL p))=true from decide_eq_true (List.mem_cons_of_mem _ e3)]
    exact ⟨_,rfl,rfl,.inl rfl⟩
   ·rw [if_neg e3,show decide (xl.To∈x0.From::ini.map (toL p))=false from decide_eq_false (fun h=>by
     rcases List.mem_cons.1 h with h | h
     ·exact e2 h
     exact e3 h)]
    have hvis:x0.From::ini.map (toL p) ++ [xl.To]=x0.From::(ini ++ [wl]).map (toL p):=by
     rw [List.map_append,List.map_cons,List.map_nil,htl xl hxl];rfl
    have hrec:∀ z x g,idxL p.Links z=some x→L0v p z=some g→∃ v,J0j fuel p (ini ++ [wl] ++ [z]) most=some v∧E0a fuel p (ini ++ [wl] ++ [z]) (x0.From::ini.map (toL p) ++ [xl.To]) (W (sum+g)) most=some v∧(v=[]∨v.length=most):=fun z x g hx hg=>by
     have hi0:idxL (ini ++ [wl] ++ [z]) 0=some w0:=by
      have h2:(ini ++ [wl])[0]? = some w0:=by
       have:=(A0a h0).2
       simpa using this
      show idxL (ini ++ [wl] ++ [z]) ((0:Nat):Int)=some w0
      rw [H0z,List.getElem?_append_left (by rw [hlen];omega)]
      exact h2
     have hzz:∀ y∈ini ++ [wl] ++ [z],∃ x,idxL p.Links y=some x:=fun y hy=>by
      rcases List.mem_append.1 hy with h | h
      ·exact hz y h
      rw [List.mem_singleton.1 h];exact ⟨x,hx⟩
     rw [hvis]
     exact H1o F (r - 1) fuel (ini ++ [wl]) z x0 w0 (W (sum+g)) most (by simp only [List.length_append,List.length_singleton] at hr e1 ⊢;omega) hm (by simp only [List.length_append,List.length_singleton] at hr e1;omega) hzz hi0 hx0 (Y0h hg _ _ _ _ hs)
    obtain ⟨v,l1,l2⟩:=loop3 (w0:=w0) (xl:=xl) (vis:=x0.From::ini.map (toL p)) (sum:=sum) (most:=(most:Int)) (by rw [hlen];omega) (by simp;omega) F (fun z x g hx hg=>by
     obtain ⟨v,q1,q2,_⟩:=hrec z x g hx hg
     exact ⟨v,q1,q2⟩) p.Links 0 (Int.le_refl _) rfl
    have l3:∀(xs:List TLink)(z:Int),0≤z→p.Links.drop z.toNat=xs→∀ q,F0l p (ini ++ [wl]) most (J0j fuel) w0 xl xs z=some (.inr q)→q=[]∨q.length=most:=by
     intro xs
     induction xs with
     | nil=>intro z _ _ q h;cases h
     | cons x xs ih=>
      intro z hz0 hd q h
      obtain ⟨hx,hd2⟩:=R0n hz0 hd
      obtain ⟨g,g1,_⟩:=G1q F hx
      obtain ⟨v,q1,_,q3⟩:=hrec z x g hx g1
      have hap:appL ([]:List Int) (ini ++ [wl])=some (ini ++ [wl]):=by
       unfold appL
       rw [if_pos (by simp;omega)];rfl
      rw [F0l] at h
      simp only [hap,V0a z (by omega:(ini ++ [wl]).length≤1000),Option.bind_some,q1] at h
      obtain ⟨e,he,h⟩:=bindE h
      cases e
      ·simp only [cond_false] at h
       cases hc:decide (0<(v.length:Int))
       ·rw [hc] at h;exact ih (z+1) (by omega) hd2 q h
       rw [hc] at h;cases h;exact q3
      exact ih (z+1) (by omega) hd2 q h
    cases v with
    | inl u=>
     refine ⟨[],?_,?_,.inl rfl⟩
     ·simp only [A0r,Option.bind_some,Sum.elim_inl,l1,cond_false]
     simp only [A0r,Option.bind_some,Sum.elim_inl,l2,cond_false]
    | inr q=>
     refine ⟨q,?_,?_,l3 p.Links 0 (Int.le_refl _) rfl q l1⟩
     ·simp only [A0r,Option.bind_some,Sum.elim_inl,l1,cond_false,Sum.elim_inr]
     simp only [A0r,Option.bind_some,Sum.elim_inl,l2,cond_false,Sum.elim_inr]
 | _,0,_,_,_,_,_,_,_,_,h,_,_,_,_=>by omega
theorem K1z {p:A0d}(F:ProjF p)(most:Nat)(h1:1≤most)(hm:most≤200):∀(xs:List TLink)(z:Int),0≤z→p.Links.drop z.toNat=xs→∃ v,D0s p most xs z=some v∧D0l p most xs z=some v∧∀ q,v=.inr q→q.length≤200
 | [],z,_,_=>⟨_,rfl,rfl,fun q h=>by cases h⟩
 | x::xs,z,h0,hd=>by
  obtain ⟨hx,hd2⟩:=R0n h0 hd
  obtain ⟨v0,ih1,ih2,ih3⟩:=K1z F most h1 hm xs (z+1) (by omega) hd2
  obtain ⟨g,g1,g2,g3,g4⟩:=G1q F hx
  have hW:W (0+g)=g:=by rw [W_of (by omega)];omega
  obtain ⟨v,r1,r2,r3⟩:=H1o F (most - 1) F0 [] z x z g most (by simp;omega) hm (by unfold F0;omega) (fun y hy=>by
   rw [List.mem_singleton.1 hy];exact ⟨x,hx⟩) rfl hx (by
   show D0c p [z] 0 0=some g
   simp only [D0c,g1,Option.bind_some,hW])
  have r1':Z0w p [z] most=some v:=r1
  have r2':P0a p [z] [x.From] g most=some v:=r2
  rw [D0s,D0l,ih1,ih2]
  simp only [r1',r2',g2,Option.bind_some,Y0v]
  cases hE:v.isEmpty
  ·exact ⟨_,rfl,rfl,fun q h=>by
    cases h
    rcases r3 with h | h
    ·rw [h];simp
    omega⟩
  exact ⟨_,rfl,rfl,ih3⟩
theorem K1r {p:A0d}(F:ProjF p):∀(r:Nat)(fuel:Nat)(most:Nat),1≤most→most+r=200→r<fuel→∃ v,C0b p fuel most=some v∧C0a p fuel most=some v∧∀ q,v=.inr q→q.length≤200
 | 0,fuel+1,most,h1,hr,_=>by
  have h6:=F.nact.2
  refine ⟨.inl (),?_,?_,fun q h=>by cases h⟩
  ·rw [C0b,decide_eq_false (by omega)];rfl
  rw [C0a,decide_eq_false (by omega)];rfl
 | r+1,fuel+1,most,h1,hr,hf=>by
  obtain ⟨v0,ih1,ih2,ih3⟩:=K1r F r fuel (most+1) (by omega) (by omega) (by omega)
  obtain ⟨v,a1,a2,a3⟩:=K1z F most h1 (by omega) p.Links 0 (Int.le_refl _) rfl
  rw [C0b,C0a,W_nat (by omega),ih1,ih2,a1,a2]
  cases decide ((most:Int)≤(p.Activities.length:Int))
  ·exact ⟨_,rfl,rfl,fun q h=>by cases h⟩
  cases v with
  | inl u=>exact ⟨_,rfl,rfl,ih3⟩
  | inr q=>exact ⟨_,rfl,rfl,fun q' h=>by cases h;exact a3 q rfl⟩
 | _,0,_,_,_,h=>by omega
theorem M1b {p:A0d}(hs:∀ x∈p.Activities,x.Name.size≤9223372036854775807):∃ v,J0q p=some v∧H0e p=some v∧v.length≤1048576:=by
 obtain ⟨b,hb,hF⟩:=S0x p hs
 unfold J0q H0e
 rw [P0e,hb]
 cases b with
 | false=>exact ⟨_,rfl,rfl,by simp⟩
 | true=>
  obtain ⟨v,h1,h2,h3⟩:=K1r (hF rfl) 198 F0 2 (by omega) (by omega) (by unfold F0;omega)
  have h1':C0b p F0 2=some v:=h1
  have h2':C0a p F0 2=some v:=h2
  simp only [Option.bind_some,Bool.not_true,cond_false,h1',h2',A0r]
  cases v with
  | inl u=>exact ⟨_,rfl,rfl,by simp⟩
  | inr q=>exact ⟨_,rfl,rfl,by have:=h3 q rfl;omega⟩
theorem C1n {p:A0d}(hs:∀ x∈p.Activities,x.Name.size≤9223372036854775807):∃ d,G0l p=some d∧E0z p=some d∧(d=[]∨(ProjF p∧H0o p=some true∧MatF p.Activities.length d)):=by
 obtain ⟨b,hb,hF⟩:=S0x p hs
 obtain ⟨v,h1,h2,_⟩:=M1b hs
 cases b with
 | false=>
  refine ⟨[],?_,?_,.inl rfl⟩
  ·simp only [G0l,hb,Option.bind_some,Bool.not_false,cond_true]
  simp only [E0z,P0e,hb,Option.bind_some,Bool.not_false,cond_true]
 | true=>
  have F:=hF rfl
  cases v with
  | cons y ys=>
   have hc:decide (0<(((y::ys).length:Nat):Int))=true:=decide_eq_true (by simp)
   refine ⟨[],?_,?_,.inl rfl⟩
   ·simp only [G0l,hb,Option.bind_some,Bool.not_true,cond_false,h1,hc,cond_true]
   simp only [E0z,P0e,hb,Option.bind_some,Bool.not_true,cond_false,h2,hc,cond_true]
  | nil=>
   obtain ⟨d,d1,d2,d3⟩:=L1w F
   refine ⟨d,?_,d3 (by rw [P0e];exact hb) h2,.inr ⟨F,hb,d2⟩⟩
   have hz:decide ((0:Int)<((([]:List Int).length:Nat):Int))=false:=rfl
   simp only [G0l,hb,Option.bind_some,Bool.not_true,cond_false,h1,hz,d1]
theorem V0r {p:A0d}(F:ProjF p){z:Int}(h0:0≤z)(h:z<p.Activities.length):∃ v,H0c p z=some v∧B0o p z=some v∧0≤v∧v≤12:=by
 obtain ⟨x,hx,_⟩:=P0z h0 h
 obtain ⟨v,h1,h2,h3,h4,h5⟩:=D1y F hx
 exact ⟨v,by simp only [H0c,hx,Option.bind_some,h1,h2],by simp only [B0o,hx,Option.bind_some,P0t,h1,h3],h4,h5⟩
def insB (K:Int→Int)(z:Int):List Int→List Int→List Int
 | [],T=>z::T
 | y::R,T=>if K z<K y then insB K z R (y::T) else R.reverse ++ y::z::T
def posB (K:Int→Int)(z:Int):List Int→Nat
 | []=>0
 | y::R=>if K z<K y then posB K z R else R.length+1
theorem G1r (K:Int→Int)(z:Int):∀(R T U:List Int),insB K z R (T ++ U)=insB K z R T ++ U
 | [],T,U=>rfl
 | y::R,T,U=>by
  unfold insB
  split
  ·exact G1r K z R (y::T) U
  simp
theorem K1i (K:Int→Int)(z:Int)(R T:List Int):insB K z R T=insB K z R [] ++ T:=by
 have:=G1r K z R [] T
 simpa using this
theorem V0j (K:Int→Int)(z:Int):∀(R T:List Int),(insB K z R T).Perm (z::(R ++ T))
 | [],T=>List.Perm.refl _
 | y::R,T=>by
  unfold insB
  split
  ·refine (V0j K z R (y::T)).trans (List.Perm.cons z ?_)
   exact List.perm_middle
  refine (List.perm_middle (a:=y)).trans ?_
  refine (List.Perm.cons y (List.perm_middle (a:=z))).trans ?_
  refine (List.Perm.swap z y _).trans (List.Perm.cons z ?_)
  exact List.Perm.cons y (List.Perm.append_right T (List.reverse_perm R))
theorem J1o (K:Int→Int)(z:Int):∀ R:List Int,posB K z R≤R.length
 | []=>Nat.le_refl _
 | y::R=>by
  unfold posB
  split
  ·have:=J1o K z R;simp;omega
  simp
theorem F1u (K:Int→Int)(z:Int):∀(R T:List Int),(R.reverse ++ T).take (posB K z R) ++ z::(R.reverse ++ T).drop (posB K z R)=insB K z R T
 | [],T=>rfl
 | y::R,T=>by
  unfold posB insB
  have e:(y::R).reverse ++ T=R.reverse ++ y::T:=by simp
  rw [e]
  split
  ·exact F1u K z R (y::T)
  have e2:R.reverse ++ y::T=(R.reverse ++ [y]) ++ T:=by simp
  rw [e2,List.take_left' (by simp),List.drop_left' (by simp)]
  simp
def P0g (K:Int→Int)(P S:List Int):List Int:=S.foldl (fun a z=>insB K z a.reverse []) P
theorem Y0y (K:Int→Int):∀(S P:List Int),(P0g K P S).Perm (P ++ S)
 | [],P=>by simp [P0g]
 | z::S,P=>by
  have h1:=Y0y K S (insB K z P.reverse [])
  refine h1.trans ?_
  have h2:=V0j K z P.reverse []
  rw [List.append_nil] at h2
  refine (List.Perm.append_right S (h2.trans (List.Perm.cons z (List.reverse_perm P)))).trans ?_
  exact List.perm_middle.symm
theorem B1m {α:Type}(A:List α)(x:α)(B:List α){i:Int}(hi:i=A.length):idxL (A ++ x::B) i=some x:=by
 subst hi
 unfold idxL
 rw [if_pos (by omega)]
 simp
theorem J1n {α:Type}(A:List α)(x y:α)(B:List α){i:Int}(hi:i=A.length):setL (A ++ x::B) i y=A ++ y::B:=by
 subst hi
 unfold setL
 simp
theorem K1s {g:Int→Int→Option Int}{K:Int→Int}{V:Int→Prop}(hg:∀ x y,V x→V y→∃ c,g x y=some c∧(c<0 ↔ K x<K y))(z:Int)(hz:V z) :
  ∀(R T:List Int)(fuel:Nat),(∀ x∈R,V x)→R.length<1000→R.length<fuel→A0t 0 g fuel (R.length:Int) (R.reverse ++ z::T)=some (insB K z R T)
 | [],T,0,_,_,h=>by simp at h
 | [],T,fuel+1,_,_,_=>by
  simp only [A0t,List.length_nil]
  rw [show decide ((0:Int)<((0:Nat):Int))=false from rfl]
  rfl
 | y::R,T,0,_,_,h=>by simp at h
 | y::R,T,fuel+1,hV,hn,hf=>by
  simp only [List.length_cons] at hn hf
  have ew:W ((((y::R).length:Nat):Int) - 1)=(R.length:Int):=by rw [W_of ⟨by simp only [List.length_cons];omega,by simp only [List.length_cons];omega⟩];simp
  have el:(y::R).reverse ++ z::T=(R.reverse ++ [y]) ++ z::T:=by simp
  have el2:(y::R).reverse ++ z::T=R.reverse ++ y::(z::T):=by simp
  have i1:idxL ((y::R).reverse ++ z::T) (((y::R).length:Nat):Int)=some z:=by rw [el];exact B1m _ _ _ (by simp)
  have i2:idxL ((y::R).reverse ++ z::T) (R.length:Int)=some y:=by rw [el2];exact B1m _ _ _ (by simp)
  have s1:setL ((y::R).reverse ++ z::T) (((y::R).length:Nat):Int) y=R.reverse ++ y::(y::T):=by rw [el,J1n _ _ _ _ (by simp)];simp
  have i3:idxL (R.reverse ++ y::(y::T)) (R.length:Int)=some y:=B1m _ _ _ (by simp)
  have s2:setL (R.reverse ++ y::(y::T)) (R.length:Int) z=R.reverse ++ z::(y::T):=J1n _ _ _ _ (by simp)
  obtain ⟨c,hc,hk⟩:=hg z y hz (hV y (List.mem_cons_self ..))
  simp only [A0t,ew,i1,i2,hc,Option.bind_some]
  rw [show decide ((0:Int)<(((y::R).length:Nat):Int))=true from decide_eq_true (by simp only [List.length_cons];omega)]
  simp only [cond_true,Option.bind_some,s1,i3,s2]
  unfold insB
  by_cases h:K z<K y
  ·rw [if_pos h,decide_eq_true (hk.2 h),cond_true]
   exact K1s hg z hz R (y::T) fuel (fun x hx=>hV x (List.mem_cons_of_mem _ hx)) (by omega) (by omega)
  rw [if_neg h,decide_eq_false (fun e=>h (hk.1 e)),cond_false,el2]
theorem L1a {g:Int→Int→Option Int}{K:Int→Int}{V:Int→Prop}(hg:∀ x y,V x→V y→∃ c,g x y=some c∧(c<0 ↔ K x<K y))(n:Nat)(hn:n<1000) :
  ∀(S P:List Int)(fuel:Nat),(∀ x∈P ++ S,V x)→P.length+S.length=n→S.length<fuel→A0p 0 n g fuel (P.length:Int) (P ++ S)=some (P0g K P S)
 | [],P,0,_,_,h=>by simp at h
 | [],P,fuel+1,_,hl,_=>by
  simp only [A0p]
  rw [show decide ((P.length:Int)<(n:Int))=false from decide_eq_false (by simp at hl;omega)]
  simp [P0g]
 | z::S,P,0,_,_,h=>by simp at h
 | z::S,P,fuel+1,hV,hl,hf=>by
  simp only [List.length_cons] at hl hf
  simp only [A0p]
  rw [show decide ((P.length:Int)<(n:Int))=true from decide_eq_true (by omega),cond_true]
  have h1:=K1s hg z (hV z (by simp)) P.reverse S F0 (fun x hx=>hV x (by simp at hx;simp [hx])) (by simp;omega) (by have:=F0_gt;simp;omega)
  rw [List.length_reverse,List.reverse_reverse] at h1
  rw [h1,Option.bind_some,K1i]
  have hp:=V0j K z P.reverse []
  have hlen:(insB K z P.reverse []).length=P.length+1:=by rw [hp.length_eq];simp
  have ew:W ((P.length:Int)+1)=((insB K z P.reverse []).length:Int):=by rw [W_of ⟨by omega,by omega⟩,hlen];simp
  rw [ew]
  exact L1a hg n hn S _ fuel (fun x hx=>by
   rcases List.mem_append.1 hx with h | h
   ·have:=hp.mem_iff.1 h
    simp at this
    exact hV x (by simp;rcases this with e | e <;> simp [e])
   exact hV x (by simp [h])) (by omega) (by omega)
theorem H1i {g:Int→Int→Option Int}{K:Int→Int}{V:Int→Prop}(hg:∀ x y,V x→V y→∃ c,g x y=some c∧(c<0 ↔ K x<K y))(l:List Int)(hV:∀ x∈l,V x)(hl:l.length<20):C0s l g=some (P0g K [] l):=by
 have hF:=F0_gt
 obtain ⟨f,hf⟩:∃ f,F0=f+1:=⟨F0 - 1,by omega⟩
 have e1:B0g (l.length:Int) g F0 0 20 l=some (0,l):=by
  rw [hf,B0g,show decide ((20:Int)≤(l.length:Int))=false from decide_eq_false (by omega)];rfl
 have e2:B0e l 0 (l.length:Int) g=some (P0g K [] l):=by
  unfold B0e
  rw [show W (0+1)=1 from by rw [W_of ⟨by omega,by omega⟩];rfl]
  cases l with
  | nil=>
   rw [hf,A0p]
   rfl
  | cons x S=>
   have:=L1a hg (x::S).length (by simp at hl ⊢;omega) S [x] F0 (by simpa using hV) (by simp;omega) (by simp at hl;omega)
   have e:((List.length [x]:Nat):Int)=1:=rfl
   rw [e] at this
   rw [show (x::S).length=([x] ++ S).length from rfl] at this
   show (A0p 0 ((([x] ++ S).length:Nat):Int) g F0 1 ([x] ++ S)).bind _=_
   rw [this]
   rfl
 have e3:B0b (l.length:Int) g F0 20 (P0g K [] l)=some (P0g K [] l):=by
  rw [hf,B0b,show decide ((20:Int)<(l.length:Int))=false from decide_eq_false (by omega)];rfl
 simp only [C0s,E0r,e1,e2,e3,Option.bind_some]
theorem E1y {α:Type}{a b:List α}(h:a.length+b.length≤1099511627776):appL a b=some (a ++ b):=by
 unfold appL;rw [if_pos h]
theorem H1k {α:Type}(l:List α)(lo hi:Nat)(h1:lo≤hi)(h2:hi≤l.length):subL l (lo:Int) (hi:Int)=some ((l.take hi).drop lo):=by
 unfold subL;rw [if_pos ⟨by omega,by omega,by omega⟩];simp
def idxs {α:Type}:List α→Int→List Int
 | [],_=>[]
 | _::xs,z=>z::idxs xs (z+1)
theorem A1w {α:Type}:∀(l:List α)(k:Nat),idxs l (k:Int)=(List.range' k l.length).map fun (i:Nat)=>(i:Int)
 | [],k=>rfl
 | x::xs,k=>by
  have:=A1w xs (k+1)
  simp only [idxs,List.length_cons,List.range'_succ,List.map_cons]
  rw [show (k:Int)+1=((k+1:Nat):Int) by omega,this]
theorem Y0a {α:Type}(l:List α):H0l l.length=idxs l 0:=by
 have:=A1w l 0
 rw [show ((0:Nat):Int)=0 from rfl] at this
 rw [this]
 unfold H0l
 rw [List.range_eq_range']
theorem F1x {α:Type}:∀(l:List α)(z:Int),0≤z→∀ a∈idxs l z,z≤a∧a<z+l.length
 | [],z,_,a,h=>by cases h
 | x::xs,z,hz,a,h=>by
  simp only [idxs,List.mem_cons] at h
  rcases h with rfl | h
  ·simp;omega
  have:=F1x xs (z+1) (by omega) a h
  simp;omega
theorem G1b {α:Type}:∀(l:List α)(z:Int),(idxs l z).length=l.length
 | [],z=>rfl
 | x::xs,z=>by simp [idxs,G1b xs]
theorem M1j (x y:Int):∃ c,J0k x y=some c∧(c<0 ↔ x<y):=by
 have e:∀ x:Int,(x != x)=false:=fun x=>by simp
 simp only [J0k,L0e,Option.bind_some,e,cond_false]
 by_cases h:x<y
 ·exact ⟨-1,by rw [decide_eq_true h];rfl,by omega⟩
 by_cases h2:y<x
 ·exact ⟨1,by rw [decide_eq_false h,decide_eq_true h2];rfl,by omega⟩
 exact ⟨0,by rw [decide_eq_false h,decide_eq_false h2];rfl,by omega⟩
theorem K1a {p:A0d}(F:ProjF p){t:Int}(ht:0≤t∧t≤1000){n:Nat}(hn:p.Activities.length=n){d:List (List Int)}(hd:MatF n d){i:Nat}(hi:i<n){row:List Int}(hr:d[i]? = some row)(n0:Int)(hn0:∀ x s,row[i]? = some x→H0c p i=some s→t - s - x≤n0) :
  ∀(r k fuel:Nat)(a m:Int)(f:Bool),k+r=n→r<fuel→(f=false→m=n0∧k≤i)→(f=true→m=min n0 a)→(i<k→f=true∧a≤n0)→∃ v,B0v p t d i fuel m k=some v∧B0x p t row fuel a f k=some v:=by
 have hrow:=hd.row row (List.mem_of_getElem? hr)
 have hn6:n≤6:=by rw [← hn];exact F.nact.2
 intro r
 induction r with
 | zero=>
  intro k fuel a m f hk hf h1 h2 h3
  obtain _ | fuel:=fuel
  ·omega
  obtain ⟨h4,h5⟩:=h3 (by omega)
  have:=h2 h4
  refine ⟨a,?_,?_⟩
  ·rw [B0v,hd.len,decide_eq_false (by omega),cond_false]
   congr 1;omega
  rw [B0x,hrow.1,decide_eq_false (by omega),cond_false]
 | succ r ih=>
  intro k fuel a m f hk hf h1 h2 h3
  obtain _ | fuel:=fuel
  ·omega
  have hkn:k<n:=by omega
  obtain ⟨s,s1,s2,s3,s4⟩:=V0r F (z:=(k:Int)) (by omega) (by omega)
  have hkl:k<row.length:=by rw [hrow.1];exact hkn
  obtain ⟨x,hx⟩:∃ x,row[k]? = some x:=⟨_,List.getElem?_eq_getElem hkl⟩
  have hxb:=hrow.2 x (List.mem_of_getElem? hx)
  have hW1:W (t - s)=t - s:=W_of (by omega)
  have hW2:W (t - s - x)=t - s - x:=W_of (by omega)
  rw [B0v,B0x,hd.len,hrow.1,decide_eq_true (by omega),W_nat (by omega)]
  simp only [cond_true,H0z,hr,Option.bind_some,hx,s1,s2,E1k,hW1,hW2]
  obtain ⟨dx,q1,q2⟩:=hd.diag i row hr
  by_cases e:x = -1000
  ·subst e
   have hki:k≠i:=fun e=>by subst e;rw [hx] at q1;cases q1;omega
   have eb:((-1000:Int) != -1000)=false:=by decide
   simp only [eb,cond_false,Option.bind_some]
   exact ih (k+1) fuel a m f (by omega) (by omega) (fun hf=>⟨(h1 hf).1,by have:=(h1 hf).2;omega⟩) h2 (fun hik=>h3 (by omega))
  have eb:(x != -1000)=true:=by simpa using e
  have hki:k=i→t - s - x≤n0:=fun e=>by subst e;exact hn0 x s hx s1
  simp only [eb,cond_true]
  cases f with
  | false=>
   obtain ⟨hm,hki2⟩:=h1 rfl
   simp only [Bool.not_false,cond_true,Option.bind_some]
   refine ih (k+1) fuel _ _ true (by omega) (by omega) (fun h=>by cases h) (fun _=>by rw [hm]) (fun hik=>⟨rfl,hki (by omega)⟩)
  | true=>
   have hm:=h2 rfl
   simp only [Bool.not_true,cond_false,Option.bind_some]
   by_cases hlt:t - s - x<a
   ·rw [decide_eq_true hlt]
    simp only [cond_true]
    refine ih (k+1) fuel _ _ true (by omega) (by omega) (fun h=>by cases h) (fun _=>by omega) (fun hik=>⟨rfl,?_⟩)
    by_cases e2:k=i
    ·exact hki e2
    have:=(h3 (by omega)).2;omega
   rw [decide_eq_false hlt]
   simp only [cond_false]
   refine ih (k+1) fuel _ _ true (by omega) (by omega) (fun h=>by cases h) (fun _=>by omega) (fun hik=>⟨rfl,?_⟩)
   by_cases e2:k=i
   ·have:=hki e2;omega
   exact (h3 (by omega)).2
theorem H1n {p:A0d}(F:ProjF p){t:Int}(ht:0≤t∧t≤1000){n:Nat}(hn:p.Activities.length=n){d:List (List Int)}(hd:MatF n d):∀(r i fuel:Nat)(acc:List Int),i+r=n→acc.length=i→r<fuel→∃ v,C0j p t d fuel i acc=some v∧C0i p t d fuel i acc=some v∧v.length=n
 | 0,i,fuel+1,acc,hi,ha,_=>by
  refine ⟨acc,?_,?_,by omega⟩
  ·rw [C0j,hd.len,decide_eq_false (by omega),cond_false]
  rw [C0i,hd.len,decide_eq_false (by omega),cond_false]
 | r+1,i,fuel+1,acc,hi,ha,hf=>by
  have hn6:n≤6:=by rw [← hn];exact F.nact.2
  have hin:i<n:=by omega
  have hil:i<d.length:=by rw [hd.len];exact hin
  obtain ⟨row,hr⟩:∃ row,d[i]? = some row:=⟨_,List.getElem?_eq_getElem hil⟩
  obtain ⟨s,s1,s2,s3,s4⟩:=V0r F (z:=(i:Int)) (by omega) (by omega)
  have hW1:W (t - s)=t - s:=W_of (by omega)
  obtain ⟨v,v1,v2⟩:=K1a F ht hn hd hin hr (t - s) (fun x s' hx hs=>by
   rw [s1] at hs;cases hs
   obtain ⟨dx,q1,q2⟩:=hd.diag i row hr
   rw [hx] at q1;cases q1;omega) n 0 F0 0 (t - s) false (by omega) (by unfold F0;omega) (fun _=>⟨rfl,by omega⟩) (fun h=>by cases h) (fun h=>by omega)
  have v1':B0v p t d (i:Int) F0 (t - s) 0=some v:=v1
  have v2':B0x p t row F0 0 false 0=some v:=v2
  obtain ⟨w,w1,w2,w3⟩:=H1n F ht hn hd r (i+1) fuel (acc ++ [v]) (by omega) (by simp;omega) (by omega)
  refine ⟨w,?_,?_,w3⟩
  ·rw [C0j,hd.len,decide_eq_true (by omega),W_nat (by omega)]
   simp only [cond_true,s1,Option.bind_some,hW1,v1',V0a v (by omega:acc.length≤1000),w1]
  rw [C0i,hd.len,decide_eq_true (by omega),W_nat (by omega)]
  simp only [cond_true,H0z,hr,Option.bind_some,v2',V0a v (by omega:acc.length≤1000),w2]
 | _,_,0,_,_,_,h=>by omega
theorem L1p {p:A0d}(F:ProjF p){t:Int}(ht:0≤t∧t≤1000){d:List (List Int)}(h1:G0l p=some d)(h2:E0z p=some d)(hd:MatF p.Activities.length d):∃ v,G0n p t=some v∧J0x p t=some v∧v.length=p.Activities.length:=by
 obtain ⟨v,v1,v2,v3⟩:=H1n F ht rfl hd p.Activities.length 0 F0 [] (by omega) rfl (by have:=F.nact.2;unfold F0;omega)
 have v1':C0j p t d F0 0 []=some v:=v1
 have v2':C0i p t d F0 0 []=some v:=v2
 exact ⟨v,by simp only [G0n,h1,Option.bind_some,v1'],by simp only [J0x,h2,Option.bind_some,v2'],v3⟩
theorem L1o {p:A0d}(F:ProjF p){n:Nat}(hn:p.Activities.length=n){d:List (List Int)}(hd:MatF n d){i:Nat}(hi:i<n){row:List Int}(hr:d[i]? = some row){si:Int}(hs:H0c p i=some si)(hs0:0≤si) :
  ∀(r k fuel:Nat)(a m:Int),k+r=n→r<fuel→a=max si m→(i<k→si≤m)→(0≤m∧m≤2000000000000)→∃ v,C0t p i d fuel m k=some v∧C0u p row fuel a k=some v∧0≤v∧v≤2000000000000:=by
 have hrow:=hd.row row (List.mem_of_getElem? hr)
 have hn6:n≤6:=by rw [← hn];exact F.nact.2
 intro r
 induction r with
 | zero=>
  intro k fuel a m hk hf h1 h2 h3
  obtain _ | fuel:=fuel
  ·omega
  have:=h2 (by omega)
  refine ⟨m,?_,?_,h3⟩
  ·rw [C0t,hd.len,decide_eq_false (by omega),cond_false]
  rw [C0u,hrow.1,decide_eq_false (by omega),cond_false]
  congr 1;omega
 | succ r ih=>
  intro k fuel a m hk hf h1 h2 h3
  obtain _ | fuel:=fuel
  ·omega
  have hkn:k<n:=by omega
  obtain ⟨s,s1,s2,s3,s4⟩:=V0r F (z:=(k:Int)) (by omega) (by omega)
  have hkl:k<row.length:=by rw [hrow.1];exact hkn
  obtain ⟨x,hx⟩:∃ x,row[k]? = some x:=⟨_,List.getElem?_eq_getElem hkl⟩
  have hxb:=hrow.2 x (List.mem_of_getElem? hx)
  have hW2:W (x+s)=x+s:=W_of (by omega)
  rw [C0t,C0u,hd.len,hrow.1,decide_eq_true (by omega),W_nat (by omega)]
  simp only [cond_true,H0z,hr,Option.bind_some,hx,s1,s2,T0g,hW2]
  obtain ⟨dx,q1,q2⟩:=hd.diag i row hr
  by_cases e:x = -1000
  ·subst e
   have hki:k≠i:=fun e=>by subst e;rw [hx] at q1;cases q1;omega
   have eb:((-1000:Int) != -1000)=false:=by decide
   simp only [eb,cond_false]
   exact ih (k+1) fuel a m (by omega) (by omega) h1 (fun hik=>h2 (by omega)) h3
  have eb:(x != -1000)=true:=by simpa using e
  have hki:k=i→si≤x+s:=fun e=>by
   subst e
   rw [hx] at q1;cases q1
   rw [hs] at s1;cases s1
   omega
  simp only [eb,cond_true]
  refine ih (k+1) fuel _ _ (by omega) (by omega) (by rw [h1];omega) (fun hik=>?_) (by omega)
  by_cases e2:k=i
  ·have:=hki e2;omega
  have:=h2 (by omega);omega
theorem L1h {p:A0d}(F:ProjF p){d:List (List Int)}(h1:G0l p=some d)(h2:E0z p=some d)(hd:MatF p.Activities.length d){i:Nat}(hi:i<p.Activities.length):∃ v,K0s p i=some v∧L0z p i=some v∧0≤v∧v≤2000000000000:=by
 have hn6:=F.nact.2
 have hil:i<d.length:=by rw [hd.len];exact hi
 obtain ⟨row,hr⟩:∃ row,d[i]? = some row:=⟨_,List.getElem?_eq_getElem hil⟩
 obtain ⟨s,s1,s2,s3,s4⟩:=V0r F (z:=(i:Int)) (by omega) (by omega)
 obtain ⟨v,v1,v2,v3⟩:=L1o F rfl hd hi hr s1 s3 p.Activities.length 0 F0 s 0 (by omega) (by unfold F0;omega) (by omega) (fun h=>by omega) (by omega)
 have v1':C0t p (i:Int) d F0 0 0=some v:=v1
 have v2':C0u p row F0 s 0=some v:=v2
 have hin:inR (i:Int) 0 (W ((p.Activities.length:Int) - 1))=true:=by rw [H0q,W_of (by omega)];omega
 have hz:((p.Activities.length:Int) == 0)=false:=by rw [L0f];exact decide_eq_false (by omega)
 refine ⟨v,?_,?_,v3⟩
 ·simp only [K0s,h1,Option.bind_some,B0c,hd.len,hin,Bool.not_true,cond_false,v1']
 simp only [L0z,h2,Option.bind_some,S0v,hd.len,hz,hin,Bool.not_true,cond_false,s2,H0z,hr,v2']
theorem K1u {p:A0d}{b:Int}{late:List Int}{K:Int→Int}{z:Int}(hz:K0a p b late z=some (K z)):∀(R T:List Int)(fuel:Nat),(∀ x∈R,K0a p b late x=some (K x))→R.length<1000→R.length<fuel→C0n p b late (R.reverse ++ T) z fuel (R.length:Int)=some (posB K z R:Int)
 | [],T,0,_,_,h=>by simp at h
 | [],T,fuel+1,_,_,_=>by
  simp only [C0n,List.length_nil]
  rw [show decide ((0:Int)<((0:Nat):Int))=false from rfl]
  rfl
 | y::R,T,0,_,_,h=>by simp at h
 | y::R,T,fuel+1,hV,hn,hf=>by
  simp only [List.length_cons] at hn hf
  have ew:W ((((y::R).length:Nat):Int) - 1)=(R.length:Int):=by rw [W_of ⟨by simp only [List.length_cons];omega,by simp only [List.length_cons];omega⟩];simp
  have el2:(y::R).reverse ++ T=R.reverse ++ y::T:=by simp
  have i2:idxL (R.reverse ++ y::T) (R.length:Int)=some y:=B1m _ _ _ (by simp)
  rw [el2]
  simp only [C0n,ew,i2,hV y (List.mem_cons_self ..),hz,Option.bind_some]
  rw [show decide ((0:Int)<(((y::R).length:Nat):Int))=true from decide_eq_true (by simp only [List.length_cons];omega)]
  simp only [cond_true,Option.bind_some]
  unfold posB
  by_cases h:K z<K y
  ·rw [if_pos h,decide_eq_true h,cond_true]
   exact K1u hz R (y::T) fuel (fun x hx=>hV x (List.mem_cons_of_mem _ hx)) (by omega) (by omega)
  rw [if_neg h,decide_eq_false h,cond_false]
  simp
theorem J1c {p:A0d}{b:Int}{late:List Int}{K:Int→Int}:∀(xs:List A0g)(z:Int)(a:List Int),(∀ x∈idxs xs z,K0a p b late x=some (K x))→(∀ x∈a,K0a p b late x=some (K x))→a.length+xs.length≤900 →
  C0o p b late xs z a=some (P0g K a (idxs xs z))
 | [],z,a,_,_,_=>rfl
 | x::xs,z,a,h,ha,hl=>by
  simp only [List.length_cons] at hl
  have hk:=h z (by simp [idxs])
  have h':=fun y hy=>h y (by simp only [idxs,List.mem_cons];exact .inr hy)
  have h1:=K1u hk a.reverse [] F0 (fun x hx=>ha x (by simpa using hx)) (by simp;omega) (by have:=F0_gt;simp;omega)
  rw [List.length_reverse,List.reverse_reverse,List.append_nil] at h1
  have hp:posB K z a.reverse≤a.length:=by have:=J1o K z a.reverse;simpa using this
  have s1:=H1k a 0 (posB K z a.reverse) (Nat.zero_le _) hp
  have s2:=H1k a (posB K z a.reverse) a.length hp (Nat.le_refl _)
  rw [show ((0:Nat):Int)=0 from rfl] at s1
  rw [C0o,h1,Option.bind_some,s1,Option.bind_some,E1y (by simp;omega),Option.bind_some,E1y (by simp;omega),Option.bind_some,s2,Option.bind_some,E1y (by simp;omega),Option.bind_some]
  have e:=F1u K z a.reverse []
  rw [List.reverse_reverse,List.append_nil] at e
  have e2:[] ++ List.drop 0 (List.take (posB K z a.reverse) a) ++ [z] ++ List.drop (posB K z a.reverse) (List.take a.length a)=insB K z a.reverse []:=by
   rw [← e];simp
  rw [e2]
  have hm:=V0j K z a.reverse []
  have hlen:(insB K z a.reverse []).length=a.length+1:=by rw [hm.length_eq];simp
  rw [J1c xs (z+1) _ h' (fun x hx=>by
   have:=hm.mem_iff.1 hx
   simp at this
   rcases this with rfl | e
   ·exact hk
   exact ha x e) (by omega)]
  simp [idxs,P0g]
theorem G1c {p:A0d}(F:ProjF p){g:Int→Option Int}{K:Int→Int}(hg:∀ z:Int,0≤z→z<p.Activities.length→g z=some (K z)):D0m p g=some (P0g K [] (H0l p.Activities.length)):=by
 have hn6:=F.nact.2
 have hlen:(H0l p.Activities.length).length=p.Activities.length:=by simp [H0l]
 have h1:=H1i (g:=fun x0 x1=>E0v x0 x1 g) (K:=K) (V:=fun z=>0≤z∧z<p.Activities.length) (fun x y hx hy=>by
  obtain ⟨c,c1,c2⟩:=M1j (K x) (K y)
  exact ⟨c,by simp only [E0v,hg x hx.1 hx.2,hg y hy.1 hy.2,c1,Option.bind_some],c2⟩) (H0l p.Activities.length) (fun x hx=>H1e hx) (by omega)
 simp only [D0m,Y0s,U0k _ (by omega:p.Activities.length≤200),Option.bind_some,h1]
theorem Q0l {K:Int→Int}:∀(S P:List Int),(P ++ S).Pairwise (fun y z=>¬ K z<K y)→P0g K P S=P ++ S
 | [],P,_=>by simp [P0g]
 | z::S,P,h=>by
  have h1:insB K z P.reverse []=P ++ [z]:=by
   rcases List.eq_nil_or_concat P with e | ⟨Q,y,e⟩
   ·subst e;rfl
   rw [e]
   have hy:¬ K z<K y:=by
    rw [e] at h
    have:=(List.pairwise_append.1 h).2.2 y (by simp) z (List.mem_cons_self ..)
    exact this
   simp [insB,hy]
  show P0g K (insB K z P.reverse []) S=_
  rw [h1,Q0l S (P ++ [z]) (by simpa using h)]
  simp
theorem D1a (n:Nat):(H0l n).Pairwise (fun y z=>¬ z<y):=by
 unfold H0l
 rw [List.pairwise_map]
 refine (List.pairwise_lt_range (n:=n)).imp (fun {a b} h=>?_)
 omega
theorem A1a {p:A0d}(F:ProjF p){b:Int}{late:List Int}{g:Int→Option Int}{K:Int→Int}(hg:∀ z:Int,0≤z→z<p.Activities.length→g z=some (K z)∧K0a p b late z=some (K z)):∃ v,C0o p b late p.Activities 0 []=some v∧D0m p g=some v∧v.length≤1048576:=by
 have hn6:=F.nact.2
 refine ⟨_,J1c (K:=K) p.Activities 0 [] (fun x hx=>?_) (fun x hx=>by cases hx) (by simp;omega),?_,?_⟩
 ·have:=F1x _ _ (Int.le_refl 0) x hx
  exact (hg x (by omega) (by omega)).2
 ·rw [G1c F (fun z h0 h1=>(hg z h0 h1).1),Y0a]
 have:=(Y0y K (idxs p.Activities 0) []).length_eq
 rw [this,List.nil_append,G1b];omega
theorem V0i (p:A0d)(b:Int)(hp:H0b 1048576 p):∃ v,H0f p b=some v∧F0o p b=some v∧v.length≤1048576:=by
 have hs:=K1j hp (by omega)
 obtain ⟨d,d1,d2,d3⟩:=C1n hs
 have hname:∃ w,J0y b=some w∧(w == ByteArray.empty) = !inR b 1 4:=by
  simp only [J0y,B0c,Option.bind_some]
  cases hb:inR b 1 4 with
  | false=>exact ⟨_,rfl,by decide⟩
  | true=>
   rw [H0q] at hb
   have h4:b=1∨b=2∨b=3∨b=4:=by omega
   rcases h4 with rfl | rfl | rfl | rfl <;> exact ⟨_,rfl,by decide⟩
 obtain ⟨w,w1,w2⟩:=hname
 rcases d3 with rfl | ⟨F,hpo,d3⟩
 ·have hl:G0n p p.Deadline=some []:=by simp only [G0n,d1,Option.bind_some];rfl
  refine ⟨[],?_,?_,by simp⟩
  ·simp only [H0f,hl,w1,w2,Option.bind_some]
   cases inR b 1 4 <;> rfl
  simp only [F0o,d2,Option.bind_some];rfl
 obtain ⟨late,l1,l2,l3⟩:=L1p F (t:=p.Deadline) (by have:=F.deadline;omega) d1 d2 d3
 have hn1:=F.nact.1
 have hz1:((late.length:Int) == 0)=false:=by rw [L0f];exact decide_eq_false (by omega)
 have hz2:((d.length:Int) == 0)=false:=by rw [L0f,d3.len];exact decide_eq_false (by omega)
 simp only [H0f,F0o,l1,l2,w1,w2,d2,Option.bind_some,hz1,hz2,cond_false]
 cases hb:inR b 1 4 with
 | false=>
  rw [inR_f] at hb
  have e1:(b == 1)=false:=by rw [L0f];exact decide_eq_false (by omega)
  have e2:(b == 2)=false:=by rw [L0f];exact decide_eq_false (by omega)
  have e3:(b == 3)=false:=by rw [L0f];exact decide_eq_false (by omega)
  have e4:(b == 4)=false:=by rw [L0f];exact decide_eq_false (by omega)
  rw [e1,e2,e3,e4]
  exact ⟨[],rfl,rfl,by simp⟩
 | true=>
  rw [H0q] at hb
  have h4:b=1∨b=2∨b=3∨b=4:=by omega
  rcases h4 with rfl | rfl | rfl | rfl
  ·
   have hn6:=F.nact.2
   have s1:=J1c (p:=p) (b:=1) (late:=late) (K:=fun z=>z) p.Activities 0 [] (fun x _=>rfl) (fun x hx=>by cases hx) (by simp;omega)
   have i1:=G1c F (g:=fun x0=>G0j x0) (K:=fun _=>0) (fun z _ _=>rfl)
   rw [← Y0a,Q0l _ [] (by simpa using D1a _)] at s1
   rw [Q0l _ [] (by
    rw [List.nil_append]
    exact (D1a _).imp (fun {a b} _=>by omega))] at i1
   refine ⟨H0l p.Activities.length,?_,?_,by simp [H0l];omega⟩
   ·simp only [Bool.not_true,cond_false,Option.bind_some,s1,List.nil_append]
   rw [show ((1:Int) == 1)=true from rfl,cond_true,i1];rfl
  ·obtain ⟨v,v1,v2,v3⟩:=A1a F (b:=2) (late:=late) (g:=fun x0=>E0s x0 late) (K:=fun z=>(idxL late z).getD 0) (fun z h0 h1=>by
    obtain ⟨x,hx,_⟩:=P0z (l:=late) (z:=z) h0 (by omega)
    exact ⟨by simp only [E0s,hx,Option.bind_some];rfl,by
     unfold K0a
     rw [show ((2:Int) == 2)=true from rfl,cond_true]
     simp only [hx,Option.bind_some];rfl⟩)
   refine ⟨v,?_,?_,v3⟩
   ·simp only [Bool.not_true,cond_false,Option.bind_some,v1]
   rw [show ((2:Int) == 1)=false from rfl,show ((2:Int) == 2)=true from rfl,cond_false,cond_true,v2];rfl
  ·obtain ⟨v,v1,v2,v3⟩:=A1a F (b:=3) (late:=late) (g:=fun x0=>E0t x0 p) (K:=fun z=>W (0 - (K0s p z).getD 0)) (fun z h0 h1=>by
    obtain ⟨k,rfl⟩:∃ k:Nat,z=(k:Int):=⟨z.toNat,by omega⟩
    obtain ⟨t,t1,t2,_⟩:=L1h F d1 d2 d3 (i:=k) (by omega)
    exact ⟨by simp only [E0t,t1,t2,Option.bind_some];rfl,by
     unfold K0a
     rw [show ((3:Int) == 2)=false from rfl,show ((3:Int) == 3)=true from rfl,cond_true,cond_false]
     simp only [t1,Option.bind_some];rfl⟩)
   refine ⟨v,?_,?_,v3⟩
   ·simp only [Bool.not_true,cond_false,Option.bind_some,v1]
   rw [show ((3:Int) == 1)=false from rfl,show ((3:Int) == 2)=false from rfl,show ((3:Int) == 3)=true from rfl,cond_false,cond_false,cond_true,v2];rfl
  ·obtain ⟨v,v1,v2,v3⟩:=A1a F (b:=4) (late:=late) (g:=fun x0=>B0o p x0) (K:=fun z=>(H0c p z).getD 0) (fun z h0 h1=>by
    obtain ⟨t,t1,t2,_⟩:=V0r F h0 h1
    exact ⟨by rw [t2,t1];rfl,by
     unfold K0a
     rw [show ((4:Int) == 2)=false from rfl,show ((4:Int) == 3)=false from rfl,show ((4:Int) == 4)=true from rfl,cond_true,cond_false,cond_false]
     simp only [t1,Option.bind_some];rfl⟩)
   refine ⟨v,?_,?_,v3⟩
   ·simp only [Bool.not_true,cond_false,Option.bind_some,v1]
   rw [show ((4:Int) == 1)=false from rfl,show ((4:Int) == 2)=false from rfl,show ((4:Int) == 3)=false from rfl,show ((4:Int) == 4)=true from rfl,cond_false,cond_false,cond_false,cond_true,v2];rfl
end Go.Px.YtimegoembedagaaGreat
