/-
  PROVED: definitions that say what functions of the program compute. No condition.
-/
import Derived.Test.YtncedeembfcakaaGreatQ4
namespace Go.Px.YtncedeembfcakaaGreat
set_option linter.unusedSimpArgs false
set_option linter.unusedVariables false
open Go.Px
structure TMode where
 Duration:Int
 Usage:List Int
 Consumption:List Int
 deriving DecidableEq
structure A0g where
 Name:ByteArray
 Family:Int
 Modes:List TMode
 deriving DecidableEq
structure TLink where
 From:Int
 To:Int
 FromEnd:Bool
 Lag:Int
 deriving DecidableEq
structure TStep where
 At:Int
 Capacity:Int
 deriving DecidableEq
structure B0u where
 Steps:List TStep
 Setup:List (List Int)
 deriving DecidableEq
structure A0a where
 Deadline:Int
 Activities:List A0g
 Links:List TLink
 Resources:List B0u
 Stocks:List Int
 deriving DecidableEq
structure A0m where
 b:List Int
 i:Int
 h:Int
 deriving DecidableEq
structure A0f where
 MinStart:List Int
 MaxStart:List Int
 Modes:List (List Int)
 deriving DecidableEq
structure U0o where
 Kind:Int
 Activity:Int
 Value:Int
 deriving DecidableEq
structure A0l where
 Starts:List Int
 Modes:List Int
 deriving DecidableEq
structure TRule where
 Kind:Int
 A:Int
 B:Int
 C:Int
 deriving DecidableEq
abbrev e_u8 (x:Int):PV:=.lit (.int .u8 x)
abbrev C0p (x:TStep):PV:=.agg [int x.At,int x.Capacity]
abbrev l_int (x:List Int):PV:=.slice (x.map int)
abbrev A0c (x:B0u):PV:=.agg [.slice (x.Steps.map C0p),.slice (x.Setup.map l_int)]
abbrev B0o (x:TMode):PV:=.agg [int x.Duration,.slice (x.Usage.map int),.slice (x.Consumption.map int)]
abbrev A0b (x:A0g):PV:=.agg [str x.Name,int x.Family,.slice (x.Modes.map B0o)]
abbrev A0o (x:TLink):PV:=.agg [int x.From,int x.To,bool x.FromEnd,int x.Lag]
abbrev A0u (x:A0a):PV:=.agg [int x.Deadline,.slice (x.Activities.map A0b),.slice (x.Links.map A0o),.slice (x.Resources.map A0c),.slice (x.Stocks.map int)]
abbrev D0c (x:A0f):PV:=.agg [.slice (x.MinStart.map int),.slice (x.MaxStart.map int),.slice (x.Modes.map l_int)]
abbrev C1a (x:U0o):PV:=.agg [int x.Kind,int x.Activity,int x.Value]
abbrev D0j (x:A0l):PV:=.agg [.slice (x.Starts.map int),.slice (x.Modes.map int)]
abbrev B1x (x:TRule):PV:=.agg [int x.Kind,int x.A,int x.B,int x.C]
def J0b (b0:List Int):Nat→Int→Int→Option Int
 | 0,_,_=>none
 | fuel+1,a6,a7=>
  Option.bind
  ((bif (decide (a7<(b0.length:Int))) then
  some (decide (a7<4000))
  else
  some false)) fun e10=>
  (bif e10 then
  (idxL b0 a7).bind fun v13=>
  J0b b0 fuel (IntKind.wrap .i64 (((BitVec.ofInt (IntKind.bits .i64) (W ((W ((W (a6*59))+(IntKind.i64.wrap v13)))+7)) &&& BitVec.ofInt (IntKind.bits .i64) 1073741823).toNat:Nat):Int)) (W (a7+1))
  else
  some a6)
def L0j (b0:List Int):Option A0m:=
 Option.bind
 (J0b b0 F0 (W (1950+(b0.length:Int))) 0) fun p14=>
 some (A0m.mk b0 0 p14)
def J0t (b0:A0m):Option (Int×A0m):=
 (bif (decide (b0.i<(b0.b.length:Int))) then
 (idxL b0.b b0.i).bind fun v2=>
 some ((IntKind.wrap .i64 (((BitVec.ofInt (IntKind.bits .i64) (W ((IntKind.wrap .i64 (((BitVec.ofInt (IntKind.bits .i64) (IntKind.wrap .i64 (((BitVec.ofInt (IntKind.bits .i64) (Int.fdiv (W ((W (b0.h*6364136223846793005))+1442695040888963407)) (2 ^ min (Int.toNat 33) (IntKind.bits .i64))) ^^^ BitVec.ofInt (IntKind.bits .i64) (Int.fdiv (W ((W (b0.h*6364136223846793005))+1442695040888963407)) (2 ^ min (Int.toNat 45) (IntKind.bits .i64)))).toNat:Nat):Int)) &&& BitVec.ofInt (IntKind.bits .i64) 255).toNat:Nat):Int))+(IntKind.i64.wrap v2))) &&& BitVec.ofInt (IntKind.bits .i64) 255).toNat:Nat):Int)),(A0m.mk b0.b (W (b0.i+1)) (W ((W (b0.h*6364136223846793005))+1442695040888963407))))
 else
 some ((IntKind.wrap .i64 (((BitVec.ofInt (IntKind.bits .i64) (IntKind.wrap .i64 (((BitVec.ofInt (IntKind.bits .i64) (Int.fdiv (W ((W (b0.h*6364136223846793005))+1442695040888963407)) (2 ^ min (Int.toNat 33) (IntKind.bits .i64))) ^^^ BitVec.ofInt (IntKind.bits .i64) (Int.fdiv (W ((W (b0.h*6364136223846793005))+1442695040888963407)) (2 ^ min (Int.toNat 45) (IntKind.bits .i64)))).toNat:Nat):Int)) &&& BitVec.ofInt (IntKind.bits .i64) 255).toNat:Nat):Int)),(A0m.mk b0.b b0.i (W ((W (b0.h*6364136223846793005))+1442695040888963407)))))
def A0p (b0:A0m)(b1:Int):Option (Int×A0m):=
 (bif (decide (b1≤0)) then
 some (0,b0)
 else
 (bif (decide (b1≤256)) then
 (J0t b0).bind fun v3=>
 (nzI b1).bind fun v4=>
 some ((v3.1.tmod b1),v3.2)
 else
 (J0t b0).bind fun v5=>
 (J0t v5.2).bind fun v6=>
 (J0t v6.2).bind fun v7=>
 (J0t v7.2).bind fun v8=>
 (nzI b1).bind fun v9=>
 some (((W ((W ((W ((W (v5.1*16777216))+(W (v6.1*65536))))+(W (v7.1*256))))+v8.1)).tmod b1),v8.2)))
def H0i  : Nat→Int→(List Int)→Int→Int→(List TStep)→Option ((List Int)×Int×Int×(List TStep))
 | 0,_,_,_,_,_=>none
 | fuel+1,a8,a9,a10,a11,a12=>
  (bif (decide (0<a8)) then
  (idxL a12 (W ((a12.length:Int) - 1))).bind fun v16=>
  (A0p (A0m.mk a9 a10 a11) 9).bind fun v17=>
  (A0p v17.2 5).bind fun v18=>
  (appL a12 ([(TStep.mk (W ((W (v16.At+1))+v17.1)) v18.1)]:List TStep)).bind fun v19=>
  H0i fuel (W (a8 - 1)) v18.2.b v18.2.i v18.2.h v19
  else
  some (a9,a10,a11,a12))
def N0a (b0:A0m):Option ((List TStep)×A0m):=
 (A0p b0 4).bind fun v1=>
 (A0p v1.2 6).bind fun v2=>
 Option.bind
 (H0i F0 (W (v2.1.tdiv 2)) v2.2.b v2.2.i v2.2.h ([(TStep.mk 0 (W (1+v1.1)))]:List TStep)) fun p20=>
 some (p20.2.2.2,(A0m.mk p20.1 p20.2.1 p20.2.2.1))
def H0k (b0:A0m)(b1:Int):Option (Bool×A0m):=
 (A0p b0 b1).bind fun v1=>
 some ((v1.1 == 0),v1.2)
def E0l (a7:Int):Nat→Int→(List Int)→Int→Int→(List Int)→Option ((List Int)×Int×Int×(List Int))
 | 0,_,_,_,_,_=>none
 | fuel+1,a21,a22,a23,a24,a25=>
  (bif (decide (a21<4)) then
  Option.bind
  ((bif (a7 != a21) then
  (A0p (A0m.mk a22 a23 a24) 3).bind fun v34=>
  some (v34.1,v34.2.b,v34.2.i,v34.2.h)
  else
  some (0,a22,a23,a24))) fun p35=>
  (appL a25 ([p35.1]:List Int)).bind fun v36=>
  E0l a7 fuel (W (a21+1)) p35.2.1 p35.2.2.1 p35.2.2.2 v36
  else
  some (a22,a23,a24,a25))
def F0p  : Nat→Int→(List Int)→Int→Int→(List (List Int))→Option ((List Int)×Int×Int×(List (List Int)))
 | 0,_,_,_,_,_=>none
 | fuel+1,a7,a8,a9,a10,a11=>
  (bif (decide (a7<4)) then
  Option.bind
  (E0l a7 F0 0 a8 a9 a10 ([]:List Int)) fun p37=>
  (appL a11 ([p37.2.2.2]:List (List Int))).bind fun v38=>
  F0p fuel (W (a7+1)) p37.1 p37.2.1 p37.2.2.1 v38
  else
  some (a8,a9,a10,a11))
def M0t (b0:A0m):Option ((List (List Int))×A0m):=
 Option.bind
 (F0p F0 0 b0.b b0.i b0.h ([]:List (List Int))) fun p39=>
 some (p39.2.2.2,(A0m.mk p39.1 p39.2.1 p39.2.2.1))
def P0s (b0:A0m)(b1:Int):Option (ByteArray×A0m):=
 (idxL ([(⟨#[97]⟩:ByteArray),(⟨#[98]⟩:ByteArray),(⟨#[99]⟩:ByteArray),(⟨#[100]⟩:ByteArray),(⟨#[101,49]⟩:ByteArray),(⟨#[102]⟩:ByteArray)]:List ByteArray) (b1.tmod 6)).bind fun v1=>
 some (v1,b0)
def J0l (b2:Int):Nat→(List Int)→Int→Int→(List Int)→Option ((List Int)×Int×Int×(List Int))
 | 0,_,_,_,_=>none
 | fuel+1,a23,a24,a25,a26=>
  (bif (decide ((a26.length:Int)<b2)) then
  (A0p (A0m.mk a23 a24 a25) 3).bind fun v30=>
  (appL a26 ([v30.1]:List Int)).bind fun v31=>
  J0l b2 fuel v30.2.b v30.2.i v30.2.h v31
  else
  some (a23,a24,a25,a26))
def J0k (b3:Int):Nat→(List Int)→Int→Int→(List Int)→Option ((List Int)×Int×Int×(List Int))
 | 0,_,_,_,_=>none
 | fuel+1,a38,a39,a40,a41=>
  (bif (decide ((a41.length:Int)<b3)) then
  (A0p (A0m.mk a38 a39 a40) 3).bind fun v45=>
  (appL a41 ([v45.1]:List Int)).bind fun v46=>
  J0k b3 fuel v45.2.b v45.2.i v45.2.h v46
  else
  some (a38,a39,a40,a41))
def G0g (b2:Int)(b3:Int):Nat→Int→(List Int)→Int→Int→(List TMode)→Option ((List Int)×Int×Int×(List TMode))
 | 0,_,_,_,_,_=>none
 | fuel+1,a9,a10,a11,a12,a13=>
  (bif (decide (0<a9)) then
  (A0p (A0m.mk a10 a11 a12) 4).bind fun v17=>
  Option.bind
  (J0l b2 F0 v17.2.b v17.2.i v17.2.h ([]:List Int)) fun p32=>
  Option.bind
  (J0k b3 F0 p32.1 p32.2.1 p32.2.2.1 ([]:List Int)) fun p47=>
  (appL a13 ([(TMode.mk (W (1+v17.1)) p32.2.2.2 p47.2.2.2)]:List TMode)).bind fun v48=>
  G0g b2 b3 fuel (W (a9 - 1)) p47.1 p47.2.1 p47.2.2.1 v48
  else
  some (a10,a11,a12,a13))
def M0v (b0:A0m)(b1:Int)(b2:Int)(b3:Int):Option (A0g×A0m):=
 (P0s b0 b1).bind fun v1=>
 (A0p v1.2 2).bind fun v2=>
 (A0p v2.2 4).bind fun v3=>
 Option.bind
 (G0g b2 b3 F0 (W (1+(W (v3.1.tdiv 2)))) v3.2.b v3.2.i v3.2.h ([]:List TMode)) fun p49=>
 some ((A0g.mk v1.1 v2.1 p49.2.2.2),(A0m.mk p49.1 p49.2.1 p49.2.2.1))
def F0k  : Nat→Int→(List Int)→Int→Int→(List B0u)→Option ((List Int)×Int×Int×(List B0u))
 | 0,_,_,_,_,_=>none
 | fuel+1,a8,a9,a10,a11,a12=>
  (bif (decide (0<a8)) then
  (N0a (A0m.mk a9 a10 a11)).bind fun v16=>
  (H0k v16.2 3).bind fun v17=>
  Option.bind
  ((bif v17.1 then
  (M0t v17.2).bind fun v23=>
  some (v23.2.b,v23.2.i,v23.2.h,v23.1)
  else
  some (v17.2.b,v17.2.i,v17.2.h,([]:List (List Int))))) fun p24=>
  (appL a12 ([(B0u.mk v16.1 p24.2.2.2)]:List B0u)).bind fun v25=>
  F0k fuel (W (a8 - 1)) p24.1 p24.2.1 p24.2.2.1 v25
  else
  some (a9,a10,a11,a12))
def G0i (p26:(List Int)×Int×Int×(List B0u))(p34:(List Int)×Int×Int×(List Int)):Nat→Int→(List Int)→Int→Int→(List A0g)→Option ((List Int)×Int×Int×(List A0g))
 | 0,_,_,_,_,_=>none
 | fuel+1,a41,a42,a43,a44,a45=>
  (bif (decide (0<a41)) then
  (M0v (A0m.mk a42 a43 a44) (a45.length:Int) (p26.2.2.2.length:Int) (p34.2.2.2.length:Int)).bind fun v49=>
  (appL a45 ([v49.1]:List A0g)).bind fun v50=>
  G0i p26 p34 fuel (W (a41 - 1)) v49.2.b v49.2.i v49.2.h v50
  else
  some (a42,a43,a44,a45))
def E0n (p51:(List Int)×Int×Int×(List A0g)):Nat→Int→(List Int)→Int→Int→(List TLink)→Option ((List Int)×Int×Int×(List TLink))
 | 0,_,_,_,_,_=>none
 | fuel+1,a58,a59,a60,a61,a62=>
  Option.bind
  ((bif (decide (0<a58)) then
  some (decide (1<(p51.2.2.2.length:Int)))
  else
  some false)) fun e65=>
  (bif e65 then
  (A0p (A0m.mk a59 a60 a61) (W ((p51.2.2.2.length:Int) - 1))).bind fun v68=>
  (A0p v68.2 (W ((W ((p51.2.2.2.length:Int) - 1)) - v68.1))).bind fun v69=>
  (H0k v69.2 3).bind fun v70=>
  (A0p v70.2 3).bind fun v71=>
  (H0k v71.2 6).bind fun v72=>
  Option.bind
  ((bif v72.1 then
  (A0p v72.2 9).bind fun v78=>
  some (v78.2.b,v78.2.i,v78.2.h,(W ((W (v68.1+1))+v69.1)),v68.1,false,(W ((-4) - v78.1)))
  else
  some (v72.2.b,v72.2.i,v72.2.h,v68.1,(W ((W (v68.1+1))+v69.1)),(!v70.1),v71.1))) fun p79=>
  (appL a62 ([(TLink.mk p79.2.2.2.1 p79.2.2.2.2.1 p79.2.2.2.2.2.1 p79.2.2.2.2.2.2)]:List TLink)).bind fun v80=>
  E0n p51 fuel (W (a58 - 1)) p79.1 p79.2.1 p79.2.2.1 v80
  else
  some (a59,a60,a61,a62))
def M0x (b0:A0m)(b1:Int):Option (A0a×A0m):=
 (A0p b0 12).bind fun v1=>
 (A0p v1.2 4).bind fun v2=>
 Option.bind
 (F0k F0 (W (1+(W (v2.1.tdiv 2)))) v2.2.b v2.2.i v2.2.h ([]:List B0u)) fun p26=>
 (H0k (A0m.mk p26.1 p26.2.1 p26.2.2.1) 3).bind fun v27=>
 Option.bind
 ((bif v27.1 then
 (A0p v27.2 6).bind fun v33=>
 some (v33.2.b,v33.2.i,v33.2.h,([v33.1]:List Int))
 else
 some (v27.2.b,v27.2.i,v27.2.h,([]:List Int)))) fun p34=>
 (A0p (A0m.mk p34.1 p34.2.1 p34.2.2.1) b1).bind fun v35=>
 Option.bind
 (G0i p26 p34 F0 (W (1+v35.1)) v35.2.b v35.2.i v35.2.h ([]:List A0g)) fun p51=>
 (A0p (A0m.mk p51.1 p51.2.1 p51.2.2.1) 4).bind fun v52=>
 Option.bind
 (E0n p51 F0 v52.1 v52.2.b v52.2.i v52.2.h ([]:List TLink)) fun p81=>
 some ((A0a.mk (W (12+v1.1)) p51.2.2.2 p81.2.2.2 p26.2.2.2 p34.2.2.2),(A0m.mk p81.1 p81.2.1 p81.2.2.1))
def G0p (b0:List Int):Option A0a:=
 (L0j b0).bind fun v1=>
 (M0x v1 3).bind fun v2=>
 some v2.1
def C0n (b0:Int)(b1:Int)(b2:Int):Option Bool:=
 Option.bind
 ((bif (decide (b1≤b0)) then
 some (decide (b0≤b2))
 else
 some false)) fun e1=>
 some e1
def D0m  : List Int→Int→Option (Unit ⊕ Bool)
 | [],z8=>
  some (Sum.inl ())
 | x9::xs10,z8=>
  (C0n x9 0 20).bind fun v12=>
  (bif (!v12) then
  some (Sum.inr false)
  else
  D0m xs10 (z8+1))
def H0h (b0:List Int)(b1:Int):Option Bool:=
 A0i
 (D0m b0 0)
 (fun q15=>some q15) fun p14=>
 some ((b0.length:Int) == b1)
def J0r (b0:TMode)(b1:Int)(b2:Int):Option Bool:=
 (C0n b0.Duration 1 12).bind fun v1=>
 Option.bind
 ((bif v1 then
 (H0h b0.Usage b1).bind fun v4=>
 (bif v4 then
 (H0h b0.Consumption b2).bind fun v6=>
 some v6
 else
 some false)
 else
 some false)) fun e2=>
 some e2
def E0h (b0:ByteArray):Nat→Int→Option (Unit ⊕ Bool)
 | 0,_=>none
 | fuel+1,a7=>
  (bif (decide (a7<(b0.size:Int))) then
  (idxS b0 a7).bind fun v11=>
  Option.bind
  ((bif (decide (97≤v11)) then
  some (decide (v11≤122))
  else
  some false)) fun e12=>
  Option.bind
  ((bif (!e12) then
  (bif (a7 == 0) then
  some true
  else
  (bif (decide (v11<48)) then
  some true
  else
  some (decide (57<v11))))
  else
  some false)) fun e14=>
  (bif e14 then
  some (Sum.inr false)
  else
  E0h b0 fuel (W (a7+1)))
  else
  some (Sum.inl ()))
def K0i (b0:ByteArray):Option Bool:=
 A0i
 (E0h b0 F0 0)
 (fun q20=>some q20) fun p19=>
 (C0n (b0.size:Int) 1 8).bind fun v21=>
 some v21
def B0t (b1:Int)(b2:Int):List TMode→Int→Option (Unit ⊕ Bool)
 | [],z8=>
  some (Sum.inl ())
 | x9::xs10,z8=>
  (J0r x9 b1 b2).bind fun v12=>
  (bif (!v12) then
  some (Sum.inr false)
  else
  B0t b1 b2 xs10 (z8+1))
def C0w (b0:A0g)(b1:Int)(b2:Int):Option Bool:=
 A0i
 (B0t b1 b2 b0.Modes 0)
 (fun q15=>some q15) fun p14=>
 (K0i b0.Name).bind fun v16=>
 Option.bind
 ((bif v16 then
 (C0n b0.Family 0 3).bind fun v19=>
 (bif v19 then
 (C0n (b0.Modes.length:Int) 1 3).bind fun v21=>
 some v21
 else
 some false)
 else
 some false)) fun e17=>
 some e17
def B0h (b1:ByteArray):List A0g→Int→Option (Unit ⊕ Int)
 | [],z8=>
  some (Sum.inl ())
 | x9::xs10,z8=>
  (bif (x9.Name == b1) then
  some (Sum.inr z8)
  else
  B0h b1 xs10 (z8+1))
def C0b (b0:A0a)(b1:ByteArray):Option Int:=
 A0i
 (B0h b1 b0.Activities 0)
 (fun q14=>some q14) fun p13=>
 some (-1)
def B0x (b0:List TStep):List TStep→Int→Option (Unit ⊕ Bool)
 | [],z8=>
  some (Sum.inl ())
 | x9::xs10,z8=>
  (C0n x9.At 0 60).bind fun v12=>
  Option.bind
  ((bif (!v12) then
  some true
  else
  (C0n x9.Capacity 0 20).bind fun v15=>
  (bif (!v15) then
  some true
  else
  (bif (decide (0<z8)) then
  (idxL b0 (z8 - 1)).bind fun v18=>
  some (decide (x9.At≤v18.At))
  else
  some false)))) fun e13=>
  (bif e13 then
  some (Sum.inr false)
  else
  B0x b0 xs10 (z8+1))
def F0q (b0:List TStep):Option Bool:=
 A0i
 (B0x b0 b0 0)
 (fun q21=>some q21) fun p20=>
 (C0n (b0.length:Int) 1 8).bind fun v22=>
 Option.bind
 ((bif v22 then
 (idxL b0 0).bind fun v25=>
 some (v25.At == 0)
 else
 some false)) fun e23=>
 some e23
def B0k  : List Int→Int→Option (Unit ⊕ Bool)
 | [],z20=>
  some (Sum.inl ())
 | x21::xs22,z20=>
  (C0n x21 0 12).bind fun v24=>
  (bif (!v24) then
  some (Sum.inr false)
  else
  B0k xs22 (z20+1))
def B0e  : List (List Int)→Int→Option (Unit ⊕ Bool)
 | [],z8=>
  some (Sum.inl ())
 | x9::xs10,z8=>
  (bif ((x9.length:Int) != 4) then
  some (Sum.inr false)
  else
  A0i
  (B0k x9 0)
  (fun q27=>some (Sum.inr q27)) fun p26=>
  B0e xs10 (z8+1))
def D0k (b0:B0u):Option Bool:=
 A0i
 (B0e b0.Setup 0)
 (fun q29=>some q29) fun p28=>
 (F0q b0.Steps).bind fun v30=>
 Option.bind
 ((bif v30 then
 (bif ((b0.Setup.length:Int) == 0) then
 some true
 else
 some ((b0.Setup.length:Int) == 4))
 else
 some false)) fun e31=>
 some e31
def C0g (b0:A0a):List A0g→Int→Option (Unit ⊕ Bool)
 | [],z16=>
  some (Sum.inl ())
 | x17::xs18,z16=>
  (C0w x17 (b0.Resources.length:Int) (b0.Stocks.length:Int)).bind fun v20=>
  Option.bind
  ((bif (!v20) then
  some true
  else
  (C0b b0 x17.Name).bind fun v23=>
  some (v23 != z16))) fun e21=>
  (bif e21 then
  some (Sum.inr false)
  else
  C0g b0 xs18 (z16+1))
def C0i  : List B0u→Int→Option (Unit ⊕ Bool)
 | [],z34=>
  some (Sum.inl ())
 | x35::xs36,z34=>
  (D0k x35).bind fun v38=>
  (bif (!v38) then
  some (Sum.inr false)
  else
  C0i xs36 (z34+1))
def C0j  : List Int→Int→Option (Unit ⊕ Bool)
 | [],z49=>
  some (Sum.inl ())
 | x50::xs51,z49=>
  (C0n x50 0 100).bind fun v53=>
  (bif (!v53) then
  some (Sum.inr false)
  else
  C0j xs51 (z49+1))
def B0j (b0:A0a):List TLink→Int→Option (Unit ⊕ Bool)
 | [],z64=>
  some (Sum.inl ())
 | x65::xs66,z64=>
  (C0n x65.From 0 (W ((b0.Activities.length:Int) - 1))).bind fun v68=>
  Option.bind
  ((bif (!v68) then
  some true
  else
  (C0n x65.To 0 (W ((b0.Activities.length:Int) - 1))).bind fun v71=>
  (bif (!v71) then
  some true
  else
  (bif (x65.From == x65.To) then
  some true
  else
  (C0n x65.Lag (-60) 60).bind fun v74=>
  some (!v74))))) fun e69=>
  (bif e69 then
  some (Sum.inr false)
  else
  B0j b0 xs66 (z64+1))
def E0v (b0:A0a):Option Bool:=
 (C0n b0.Deadline 1 60).bind fun v1=>
 Option.bind
 ((bif (!v1) then
 some true
 else
 (C0n (b0.Activities.length:Int) 1 6).bind fun v4=>
 (bif (!v4) then
 some true
 else
 (bif (decide (3<(b0.Resources.length:Int))) then
 some true
 else
 (bif (decide (2<(b0.Stocks.length:Int))) then
 some true
 else
 some (decide (12<(b0.Links.length:Int)))))))) fun e2=>
 (bif e2 then
 some false
 else
 A0i
 (C0g b0 b0.Activities 0)
 (fun q26=>some q26) fun p25=>
 A0i
 (C0i b0.Resources 0)
 (fun q41=>some q41) fun p40=>
 A0i
 (C0j b0.Stocks 0)
 (fun q56=>some q56) fun p55=>
 A0i
 (B0j b0 b0.Links 0)
 (fun q77=>some q77) fun p76=>
 some true)
def E0m (b0:Int):Nat→Int→(List Int)→Option (List Int)
 | 0,_,_=>none
 | fuel+1,a9,a10=>
  (bif (decide (a9<b0)) then
  (appL a10 ([a9]:List Int)).bind fun v14=>
  E0m b0 fuel (W (a9+1)) v14
  else
  some a10)
def K0h (b0:Int):Option (List Int):=
 (C0n b0 0 200).bind fun v1=>
 (bif (!v1) then
 some ([]:List Int)
 else
 Option.bind
 (E0m b0 F0 0 ([]:List Int)) fun p15=>
 some p15)
def F0i (b0:A0g):Option (List Int):=
 (K0h (b0.Modes.length:Int)).bind fun v1=>
 some v1
def J0n (b0:A0a):List A0g→Int→(List Int)→(List Int)→(List (List Int))→Option ((List Int)×(List Int)×(List (List Int)))
 | [],z8,a9,a10,a11=>
  some (a9,a10,a11)
 | x12::xs13,z8,a9,a10,a11=>
  (appL a9 ([0]:List Int)).bind fun v15=>
  (appL a10 ([(W (b0.Deadline - 1))]:List Int)).bind fun v16=>
  (F0i x12).bind fun v17=>
  (appL a11 ([v17]:List (List Int))).bind fun v18=>
  J0n b0 xs13 (z8+1) v15 v16 v18
def X0x (b0:A0a):Option A0f:=
 Option.bind
 (J0n b0 b0.Activities 0 ([]:List Int) ([]:List Int) ([]:List (List Int))) fun p19=>
 some (A0f.mk p19.1 p19.2.1 p19.2.2)
def H0e (b0:A0a):Option A0f:=
 (E0v b0).bind fun v1=>
 (bif (!v1) then
 some (A0f.mk ([]:List Int) ([]:List Int) ([]:List (List Int)))
 else
 (X0x b0).bind fun v3=>
 some v3)
def F0o  : List (List Int)→Int→(List (List Int))→Option (List (List Int))
 | [],z10,a11=>
  some a11
 | x12::xs13,z10,a11=>
  (appL ([]:List Int) x12).bind fun v15=>
  (appL a11 ([v15]:List (List Int))).bind fun v16=>
  F0o xs13 (z10+1) v16
def P0y (b0:A0f):Option A0f:=
 (appL ([]:List Int) b0.MinStart).bind fun v1=>
 (appL ([]:List Int) b0.MaxStart).bind fun v2=>
 Option.bind
 (F0o b0.Modes 0 ([]:List (List Int))) fun p17=>
 some (A0f.mk v1 v2 p17)
def M0r (b0:A0f)(b1:Int):Option Bool:=
 (C0n b1 0 (W ((b0.MinStart.length:Int) - 1))).bind fun v1=>
 Option.bind
 ((bif v1 then
 (C0n b1 0 (W ((b0.MaxStart.length:Int) - 1))).bind fun v4=>
 (bif v4 then
 (C0n b1 0 (W ((b0.Modes.length:Int) - 1))).bind fun v6=>
 some v6
 else
 some false)
 else
 some false)) fun e2=>
 some e2
def Q0t (b0:Int)(b1:Int):Option Int:=
 (bif (decide (b0<b1)) then
 some b0
 else
 some b1)
def Q0l (b0:Int)(b1:Int):Option Int:=
 (bif (decide (b1<b0)) then
 some b0
 else
 some b1)
def K0o (b0:Int):Option Int:=
 (Q0t 62 b0).bind fun v1=>
 (Q0l (-2) v1).bind fun v2=>
 some v2
def N0j (b1:Int):List Int→Int→Option (Unit ⊕ Bool)
 | [],z8=>
  some (Sum.inl ())
 | x9::xs10,z8=>
  (bif (x9 == b1) then
  some (Sum.inr true)
  else
  N0j b1 xs10 (z8+1))
def S0l (b0:List Int)(b1:Int):Option Bool:=
 A0i
 (N0j b1 b0 0)
 (fun q14=>some q14) fun p13=>
 some false
def K0e (b0:A0f)(b1:U0o):Option A0f:=
 (P0y b0).bind fun v1=>
 (M0r b0 b1.Activity).bind fun v2=>
 (bif (!v2) then
 some v1
 else
 (K0o b1.Value).bind fun v4=>
 (bif (b1.Kind == 1) then
 (idxL b0.MinStart b1.Activity).bind fun v6=>
 (Q0l v6 v4).bind fun v7=>
 (idxL v1.MinStart b1.Activity).bind fun v8=>
 some (A0f.mk (setL v1.MinStart b1.Activity v7) v1.MaxStart v1.Modes)
 else
 (bif (b1.Kind == 2) then
 (idxL b0.MaxStart b1.Activity).bind fun v10=>
 (Q0t v10 v4).bind fun v11=>
 (idxL v1.MaxStart b1.Activity).bind fun v12=>
 some (A0f.mk v1.MinStart (setL v1.MaxStart b1.Activity v11) v1.Modes)
 else
 (bif (b1.Kind == 3) then
 none
 else
 (bif (b1.Kind == 4) then
 none
 else
 some v1)))))
def B0v (b0:A0f):List Int→Int→Option (Unit ⊕ Bool)
 | [],z8=>
  some (Sum.inl ())
 | x9::xs10,z8=>
  Option.bind
  ((bif (decide (z8<(b0.MaxStart.length:Int))) then
  (idxL b0.MaxStart z8).bind fun v14=>
  some (decide (v14<x9))
  else
  some false)) fun e12=>
  (bif e12 then
  some (Sum.inr true)
  else
  B0v b0 xs10 (z8+1))
def B0s  : List (List Int)→Int→Option (Unit ⊕ Bool)
 | [],z25=>
  some (Sum.inl ())
 | x26::xs27,z25=>
  (bif ((x26.length:Int) == 0) then
  some (Sum.inr true)
  else
  B0s xs27 (z25+1))
def C0r (b0:A0f):Option Bool:=
 A0i
 (B0v b0 b0.MinStart 0)
 (fun q17=>some q17) fun p16=>
 A0i
 (B0s b0.Modes 0)
 (fun q31=>some q31) fun p30=>
 some false
def G0c (b1:A0a):Nat→Int→(List Int)→Int→Int→(List Int)→(List Int)→(List (List Int))→Option ((List Int)×(List Int)×(List (List Int)))
 | 0,_,_,_,_,_,_,_=>none
 | fuel+1,a9,a10,a11,a12,a13,a14,a15=>
  (bif (decide (0<a9)) then
  (A0p (A0m.mk a10 a11 a12) 2).bind fun v19=>
  (A0p v19.2 (b1.Activities.length:Int)).bind fun v20=>
  (A0p v20.2 b1.Deadline).bind fun v21=>
  (K0e (A0f.mk a13 a14 a15) (U0o.mk (W (1+v19.1)) v20.1 v21.1)).bind fun v22=>
  (C0r v22).bind fun v23=>
  (bif (!v23) then
  G0c b1 fuel (W (a9 - 1)) v21.2.b v21.2.i v21.2.h v22.MinStart v22.MaxStart v22.Modes
  else
  G0c b1 fuel (W (a9 - 1)) v21.2.b v21.2.i v21.2.h a13 a14 a15)
  else
  some (a13,a14,a15))
def M0a (b0:List Int)(b1:A0a):Option A0f:=
 (L0j b0).bind fun v1=>
 (H0e b1).bind fun v2=>
 (A0p (A0m.mk v1.b v1.i (W (v1.h+17))) 4).bind fun v3=>
 Option.bind
 (G0c b1 F0 v3.1 v3.2.b v3.2.i v3.2.h v2.MinStart v2.MaxStart v2.Modes) fun p25=>
 some (A0f.mk p25.1 p25.2.1 p25.2.2)
def G0h  : List A0g→Int→Int→(List Int)→Int→Int→(List Int)→(List Int)→Option ((List Int)×Int×Int×(List Int)×(List Int))
 | [],z8,a9,a10,a11,a12,a13,a14=>
  some (a10,a11,a12,a13,a14)
 | x15::xs16,z8,a9,a10,a11,a12,a13,a14=>
  (H0k (A0m.mk a10 a11 a12) 3).bind fun v18=>
  Option.bind
  ((bif v18.1 then
  (A0p v18.2 12).bind fun v24=>
  some (v24.1,v24.2.b,v24.2.i,v24.2.h)
  else
  some (a9,v18.2.b,v18.2.i,v18.2.h))) fun p25=>
  (appL a13 ([p25.1]:List Int)).bind fun v26=>
  (A0p (A0m.mk p25.2.1 p25.2.2.1 p25.2.2.2) (x15.Modes.length:Int)).bind fun v27=>
  (appL a14 ([v27.1]:List Int)).bind fun v28=>
  (A0p v27.2 5).bind fun v29=>
  G0h xs16 (z8+1) (W (a9+v29.1)) v29.2.b v29.2.i v29.2.h v26 v28
def S0x (b0:A0m)(b1:A0a):Option (A0l×A0m):=
 Option.bind
 (G0h b1.Activities 0 0 b0.b b0.i b0.h ([]:List Int) ([]:List Int)) fun p30=>
 some ((A0l.mk p30.2.2.2.1 p30.2.2.2.2),(A0m.mk p30.1 p30.2.1 p30.2.2.1))
def H0x (b0:List Int)(b1:A0a):Option A0l:=
 (L0j b0).bind fun v1=>
 (S0x (A0m.mk v1.b v1.i (W (v1.h+11))) b1).bind fun v2=>
 some v2.1
def B0q (b1:Int):List Int→Int→Option (Unit ⊕ Int)
 | [],z8=>
  some (Sum.inl ())
 | x9::xs10,z8=>
  (bif (b1 == x9) then
  some (Sum.inr z8)
  else
  B0q b1 xs10 (z8+1))
def G0x (b0:List Int)(b1:Int):Option Int:=
 A0i
 (B0q b1 b0 0)
 (fun q14=>some q14) fun p13=>
 some (-1)
def E0x (b0:List Int)(b1:Int):Option Bool:=
 (G0x b0 b1).bind fun v1=>
 some (decide (0≤v1))
def L0i (b0:List Int)(b1:Int):Option Bool:=
 (E0x b0 b1).bind fun v1=>
 some v1
def F0n (b0:A0f)(b1:A0l):List Int→Int→Option (Unit ⊕ Bool)
 | [],z13=>
  some (Sum.inl ())
 | x14::xs15,z13=>
  (idxL b0.MinStart z13).bind fun v17=>
  Option.bind
  ((bif (decide (x14<v17)) then
  some true
  else
  (idxL b0.MaxStart z13).bind fun v20=>
  (bif (decide (v20<x14)) then
  some true
  else
  (idxL b0.Modes z13).bind fun v22=>
  (idxL b1.Modes z13).bind fun v23=>
  (L0i v22 v23).bind fun v24=>
  some (!v24)))) fun e18=>
  (bif e18 then
  some (Sum.inr false)
  else
  F0n b0 b1 xs15 (z13+1))
def L0m (b0:A0f)(b1:A0l):Option Bool:=
 Option.bind
 ((bif ((b1.Modes.length:Int) != (b1.Starts.length:Int)) then
 some true
 else
 (bif ((b0.MinStart.length:Int) != (b1.Starts.length:Int)) then
 some true
 else
 (bif ((b0.MaxStart.length:Int) != (b1.Starts.length:Int)) then
 some true
 else
 some ((b0.Modes.length:Int) != (b1.Starts.length:Int)))))) fun e1=>
 (bif e1 then
 some false
 else
 A0i
 (F0n b0 b1 b1.Starts 0)
 (fun q27=>some q27) fun p26=>
 some true)
def C0s (b0:Int)(b1:Int)(b2:Int):Option Bool:=
 Option.bind
 ((bif (decide (b1≤b0)) then
 some (decide (b0≤b2))
 else
 some false)) fun e1=>
 some e1
def L0p (b0:Int):Option Bool:=
 (C0s b0 0 20).bind fun v1=>
 some v1
def E0z  : List Int→Int→Option (Unit ⊕ Bool)
 | [],z8=>
  some (Sum.inl ())
 | x9::xs10,z8=>
  (L0p x9).bind fun v12=>
  (bif (!v12) then
  some (Sum.inr false)
  else
  E0z xs10 (z8+1))
def J0m (b0:List Int)(b1:Int):Option Bool:=
 A0i
 (E0z b0 0)
 (fun q15=>some q15) fun p14=>
 some ((b0.length:Int) == b1)
def S0p (b0:TMode)(b1:Int)(b2:Int):Option Bool:=
 (C0s b0.Duration 1 12).bind fun v1=>
 Option.bind
 ((bif v1 then
 (J0m b0.Usage b1).bind fun v4=>
 (bif v4 then
 (J0m b0.Consumption b2).bind fun v6=>
 some v6
 else
 some false)
 else
 some false)) fun e2=>
 some e2
def J0d (b0:ByteArray):Nat→Int→Option (Unit ⊕ Bool)
 | 0,_=>none
 | fuel+1,a7=>
  (bif (decide (a7<(b0.size:Int))) then
  (idxS b0 a7).bind fun v11=>
  Option.bind
  ((bif (decide (97≤v11)) then
  some (decide (v11≤122))
  else
  some false)) fun e12=>
  Option.bind
  ((bif (!e12) then
  (bif (a7 == 0) then
  some true
  else
  (bif (decide (v11<48)) then
  some true
  else
  some (decide (57<v11))))
  else
  some false)) fun e14=>
  (bif e14 then
  some (Sum.inr false)
  else
  J0d b0 fuel (W (a7+1)))
  else
  some (Sum.inl ()))
def S0g (b0:ByteArray):Option Bool:=
 A0i
 (J0d b0 F0 0)
 (fun q20=>some q20) fun p19=>
 (C0s (b0.size:Int) 1 8).bind fun v21=>
 some v21
def E0y (b1:Int)(b2:Int):List TMode→Int→Option (Unit ⊕ Bool)
 | [],z8=>
  some (Sum.inl ())
 | x9::xs10,z8=>
  (S0p x9 b1 b2).bind fun v12=>
  (bif (!v12) then
  some (Sum.inr false)
  else
  E0y b1 b2 xs10 (z8+1))
def K0q (b0:A0g)(b1:Int)(b2:Int):Option Bool:=
 A0i
 (E0y b1 b2 b0.Modes 0)
 (fun q15=>some q15) fun p14=>
 (S0g b0.Name).bind fun v16=>
 Option.bind
 ((bif v16 then
 (C0s b0.Family 0 3).bind fun v19=>
 (bif v19 then
 (C0s (b0.Modes.length:Int) 1 3).bind fun v21=>
 some v21
 else
 some false)
 else
 some false)) fun e17=>
 some e17
def F0f (b0:A0g)(c1:ByteArray):Option Bool:=
 some (b0.Name == c1)
def B0g (g1:A0g→Option Bool):List A0g→Int→Option (Unit ⊕ Int)
 | [],z8=>
  some (Sum.inl ())
 | x9::xs10,z8=>
  (g1 x9).bind fun v12=>
  (bif v12 then
  some (Sum.inr z8)
  else
  B0g g1 xs10 (z8+1))
def D0u (b0:List A0g)(g1:A0g→Option Bool):Option Int:=
 A0i
 (B0g g1 b0 0)
 (fun q15=>some q15) fun p14=>
 some (-1)
def H0g (b0:A0a)(b1:ByteArray):Option Int:=
 (D0u b0.Activities (fun x0=>F0f x0 b1)).bind fun v1=>
 some v1
def G0r (b0:Int):Option Bool:=
 (C0s b0 0 60).bind fun v1=>
 some v1
def E0c (b0:List TStep):List TStep→Int→Option (Unit ⊕ Bool)
 | [],z8=>
  some (Sum.inl ())
 | x9::xs10,z8=>
  (G0r x9.At).bind fun v12=>
  Option.bind
  ((bif (!v12) then
  some true
  else
  (L0p x9.Capacity).bind fun v15=>
  (bif (!v15) then
  some true
  else
  (bif (z8 == 0) then
  (bif (x9.At != 0) then
  some true
  else
  (bif (decide (0<z8)) then
  (idxL b0 (z8 - 1)).bind fun v20=>
  some (decide (x9.At≤v20.At))
  else
  some false))
  else
  (bif (decide (0<z8)) then
  (idxL b0 (z8 - 1)).bind fun v22=>
  some (decide (x9.At≤v22.At))
  else
  some false))))) fun e13=>
  (bif e13 then
  some (Sum.inr false)
  else
  E0c b0 xs10 (z8+1))
def K0l (b0:List TStep):Option Bool:=
 A0i
 (E0c b0 b0 0)
 (fun q25=>some q25) fun p24=>
 (C0s (b0.length:Int) 1 8).bind fun v26=>
 some v26
def E0u  : List Int→Int→Option (Unit ⊕ Bool)
 | [],z20=>
  some (Sum.inl ())
 | x21::xs22,z20=>
  (C0s x21 0 12).bind fun v24=>
  (bif (!v24) then
  some (Sum.inr false)
  else
  E0u xs22 (z20+1))
def E0r  : List (List Int)→Int→Option (Unit ⊕ Bool)
 | [],z8=>
  some (Sum.inl ())
 | x9::xs10,z8=>
  (bif ((x9.length:Int) != 4) then
  some (Sum.inr false)
  else
  A0i
  (E0u x9 0)
  (fun q27=>some (Sum.inr q27)) fun p26=>
  E0r xs10 (z8+1))
def K0m (b0:B0u):Option Bool:=
 A0i
 (E0r b0.Setup 0)
 (fun q29=>some q29) fun p28=>
 (K0l b0.Steps).bind fun v30=>
 Option.bind
 ((bif v30 then
 (bif ((b0.Setup.length:Int) == 0) then
 some true
 else
 some ((b0.Setup.length:Int) == 4))
 else
 some false)) fun e31=>
 some e31
def A0q (b0:A0a)(b1:Int):Option Bool:=
 (C0s b1 0 (W ((b0.Activities.length:Int) - 1))).bind fun v1=>
 some v1
def H0r (b0:A0a)(b1:TLink):Option Bool:=
 (A0q b0 b1.From).bind fun v1=>
 Option.bind
 ((bif v1 then
 (A0q b0 b1.To).bind fun v4=>
 (bif v4 then
 (bif (b1.From != b1.To) then
 (C0s b1.Lag (-60) 60).bind fun v7=>
 some v7
 else
 some false)
 else
 some false)
 else
 some false)) fun e2=>
 some e2
def B0n (b0:TLink)(c1:A0a):Option Bool:=
 (H0r c1 b0).bind fun v1=>
 some (!v1)
def B0i (g1:TLink→Option Bool):List TLink→Int→Option (Unit ⊕ Int)
 | [],z8=>
  some (Sum.inl ())
 | x9::xs10,z8=>
  (g1 x9).bind fun v12=>
  (bif v12 then
  some (Sum.inr z8)
  else
  B0i g1 xs10 (z8+1))
def D0z (b0:List TLink)(g1:TLink→Option Bool):Option Int:=
 A0i
 (B0i g1 b0 0)
 (fun q15=>some q15) fun p14=>
 some (-1)
def C0a (b0:List TLink)(g1:TLink→Option Bool):Option Bool:=
 (D0z b0 g1).bind fun v1=>
 some (decide (0≤v1))
def F0v (b0:A0a):List A0g→Int→Option (Unit ⊕ Bool)
 | [],z16=>
  some (Sum.inl ())
 | x17::xs18,z16=>
  (K0q x17 (b0.Resources.length:Int) (b0.Stocks.length:Int)).bind fun v20=>
  Option.bind
  ((bif (!v20) then
  some true
  else
  (H0g b0 x17.Name).bind fun v23=>
  some (v23 != z16))) fun e21=>
  (bif e21 then
  some (Sum.inr false)
  else
  F0v b0 xs18 (z16+1))
def F0r  : List B0u→Int→Option (Unit ⊕ Bool)
 | [],z34=>
  some (Sum.inl ())
 | x35::xs36,z34=>
  (K0m x35).bind fun v38=>
  (bif (!v38) then
  some (Sum.inr false)
  else
  F0r xs36 (z34+1))
def F0s  : List Int→Int→Option (Unit ⊕ Bool)
 | [],z49=>
  some (Sum.inl ())
 | x50::xs51,z49=>
  (C0s x50 0 100).bind fun v53=>
  (bif (!v53) then
  some (Sum.inr false)
  else
  F0s xs51 (z49+1))
def G0q (b0:A0a):Option Bool:=
 (C0s b0.Deadline 1 60).bind fun v1=>
 Option.bind
 ((bif (!v1) then
 some true
 else
 (C0s (b0.Activities.length:Int) 1 6).bind fun v4=>
 (bif (!v4) then
 some true
 else
 (bif (decide (3<(b0.Resources.length:Int))) then
 some true
 else
 (bif (decide (2<(b0.Stocks.length:Int))) then
 some true
 else
 some (decide (12<(b0.Links.length:Int)))))))) fun e2=>
 (bif e2 then
 some false
 else
 A0i
 (F0v b0 b0.Activities 0)
 (fun q26=>some q26) fun p25=>
 A0i
 (F0r b0.Resources 0)
 (fun q41=>some q41) fun p40=>
 A0i
 (F0s b0.Stocks 0)
 (fun q56=>some q56) fun p55=>
 (C0a b0.Links (fun x0=>B0n x0 b0)).bind fun v57=>
 some (!v57))
def N0b (b0:Int):Option Bool:=
 (C0s b0 (-2) 62).bind fun v1=>
 some v1
def J0j (b0:List Int):Nat→Int→Option (Unit ⊕ Bool)
 | 0,_=>none
 | fuel+1,a6=>
  (bif (decide (a6<(b0.length:Int))) then
  (idxL b0 a6).bind fun v10=>
  (idxL b0 (W (a6 - 1))).bind fun v11=>
  (bif (decide (v10≤v11)) then
  some (Sum.inr false)
  else
  J0j b0 fuel (W (a6+1)))
  else
  some (Sum.inl ()))
def V0n (b0:List Int):Option Bool:=
 A0i
 (J0j b0 F0 1)
 (fun q14=>some q14) fun p13=>
 some true
def G0k (b0:Int):Nat→Int→(List Int)→Option (List Int)
 | 0,_,_=>none
 | fuel+1,a9,a10=>
  (bif (decide (a9<b0)) then
  (appL a10 ([a9]:List Int)).bind fun v14=>
  G0k b0 fuel (W (a9+1)) v14
  else
  some a10)
def K0d (b0:Int):Option (List Int):=
 (C0s b0 0 200).bind fun v1=>
 (bif (!v1) then
 some ([]:List Int)
 else
 Option.bind
 (G0k b0 F0 0 ([]:List Int)) fun p15=>
 some p15)
def J0p (b0:A0g):Option (List Int):=
 (K0d (b0.Modes.length:Int)).bind fun v1=>
 some v1
def F0t (b1:List Int):List Int→Int→Option (Unit ⊕ Bool)
 | [],z8=>
  some (Sum.inl ())
 | x9::xs10,z8=>
  (L0i b1 x9).bind fun v12=>
  (bif (!v12) then
  some (Sum.inr false)
  else
  F0t b1 xs10 (z8+1))
def M0h (b0:List Int)(b1:List Int):Option Bool:=
 A0i
 (F0t b1 b0 0)
 (fun q15=>some q15) fun p14=>
 some true
def E0s (b0:A0a)(b1:A0f):List (List Int)→Int→Option (Unit ⊕ Bool)
 | [],z14=>
  some (Sum.inl ())
 | x15::xs16,z14=>
  (idxL b1.MinStart z14).bind fun v18=>
  (N0b v18).bind fun v19=>
  Option.bind
  ((bif (!v19) then
  some true
  else
  (idxL b1.MaxStart z14).bind fun v22=>
  (N0b v22).bind fun v23=>
  (bif (!v23) then
  some true
  else
  (V0n x15).bind fun v25=>
  (bif (!v25) then
  some true
  else
  (idxL b0.Activities z14).bind fun v27=>
  (J0p v27).bind fun v28=>
  (M0h x15 v28).bind fun v29=>
  some (!v29))))) fun e20=>
  (bif e20 then
  some (Sum.inr false)
  else
  E0s b0 b1 xs16 (z14+1))
def K0v (b0:A0a)(b1:A0f):Option Bool:=
 (G0q b0).bind fun v1=>
 Option.bind
 ((bif (!v1) then
 some true
 else
 (bif ((b1.MinStart.length:Int) != (b0.Activities.length:Int)) then
 some true
 else
 (bif ((b1.MaxStart.length:Int) != (b0.Activities.length:Int)) then
 some true
 else
 some ((b1.Modes.length:Int) != (b0.Activities.length:Int)))))) fun e2=>
 (bif e2 then
 some false
 else
 A0i
 (E0s b0 b1 b1.Modes 0)
 (fun q32=>some q32) fun p31=>
 some true)
def B0f (g1:(List Int)→Option Bool):List (List Int)→Int→Option (Unit ⊕ Int)
 | [],z8=>
  some (Sum.inl ())
 | x9::xs10,z8=>
  (g1 x9).bind fun v12=>
  (bif v12 then
  some (Sum.inr z8)
  else
  B0f g1 xs10 (z8+1))
def E0a (b0:List (List Int))(g1:(List Int)→Option Bool):Option Int:=
 A0i
 (B0f g1 b0 0)
 (fun q15=>some q15) fun p14=>
 some (-1)
def C0x (b0:List (List Int))(g1:(List Int)→Option Bool):Option Bool:=
 (E0a b0 g1).bind fun v1=>
 some (decide (0≤v1))
def D0l (b0:List Int):Option Bool:=
 some ((b0.length:Int) == 0)
def E0i (b0:A0f):List Int→Int→Option (Unit ⊕ Bool)
 | [],z8=>
  some (Sum.inl ())
 | x9::xs10,z8=>
  Option.bind
  ((bif (decide (z8<(b0.MaxStart.length:Int))) then
  (idxL b0.MaxStart z8).bind fun v14=>
  some (decide (v14<x9))
  else
  some false)) fun e12=>
  (bif e12 then
  some (Sum.inr true)
  else
  E0i b0 xs10 (z8+1))
def J0q (b0:A0f):Option Bool:=
 A0i
 (E0i b0 b0.MinStart 0)
 (fun q17=>some q17) fun p16=>
 (C0x b0.Modes (fun x0=>D0l x0)).bind fun v18=>
 some v18
def E0d (b0:A0a)(b1:A0f):Option Bool:=
 (K0v b0 b1).bind fun v1=>
 Option.bind
 ((bif v1 then
 (J0q b1).bind fun v4=>
 some (!v4)
 else
 some false)) fun e2=>
 some e2
def A0r (b0:A0a)(b1:Int):Option Bool:=
 (C0s b1 0 (W ((b0.Resources.length:Int) - 1))).bind fun v1=>
 some v1
def G0l (b1:List Int):List TMode→Int→(List TMode)→Option (List TMode)
 | [],z8,a9=>
  some a9
 | x10::xs11,z8,a9=>
  (L0i b1 z8).bind fun v13=>
  (bif v13 then
  (appL a9 ([x10]:List TMode)).bind fun v15=>
  G0l b1 xs11 (z8+1) v15
  else
  G0l b1 xs11 (z8+1) a9)
def Q0n (b0:A0g)(b1:List Int):Option (List TMode):=
 Option.bind
 (G0l b1 b0.Modes 0 ([]:List TMode)) fun p16=>
 some p16
def C0q  : List TMode→Int→Int→Option Int
 | [],z9,a10=>
  some a10
 | x11::xs12,z9,a10=>
  Option.bind
  ((bif (z9 == 0) then
  some true
  else
  some (decide (x11.Duration<a10)))) fun e14=>
  (bif e14 then
  C0q xs12 (z9+1) x11.Duration
  else
  C0q xs12 (z9+1) a10)
def G0m (b0:A0g)(b1:List Int):Option Int:=
 (Q0n b0 b1).bind fun v1=>
 Option.bind
 (C0q v1 0 0) fun p17=>
 some p17
def E0e (b0:A0a)(b1:A0f)(b2:Int):Option Int:=
 (idxL b0.Activities b2).bind fun v1=>
 (idxL b1.Modes b2).bind fun v2=>
 (G0m v1 v2).bind fun v3=>
 some v3
def D0i (b0:A0a)(b1:A0f)(b2:Int):Option (Int×Int):=
 (idxL b1.MaxStart b2).bind fun v1=>
 (idxL b1.MinStart b2).bind fun v2=>
 (E0e b0 b1 b2).bind fun v3=>
 some (v1,(W (v2+v3)))
def Q0g (b0:List Int)(b1:Int):Option (Int×Bool):=
 (C0s b1 0 (W ((b0.length:Int) - 1))).bind fun v1=>
 (bif (!v1) then
 some (0,false)
 else
 (idxL b0 b1).bind fun v3=>
 some (v3,true))
def J0s (b0:TMode)(c1:Int):Option (Int×Bool):=
 (Q0g b0.Usage c1).bind fun v1=>
 some (v1.1,v1.2)
def G0e (g1:TMode→Option (Int×Bool)):List TMode→Int→Int→Option (Int ⊕ Int)
 | [],z8,a9=>
  some (Sum.inl a9)
 | x10::xs11,z8,a9=>
  (g1 x10).bind fun v13=>
  (bif (!v13.2) then
  some (Sum.inr 0)
  else
  Option.bind
  ((bif (z8 == 0) then
  some true
  else
  some (decide (v13.1<a9)))) fun e15=>
  (bif e15 then
  G0e g1 xs11 (z8+1) v13.1
  else
  G0e g1 xs11 (z8+1) a9))
def P0z (b0:List TMode)(g1:TMode→Option (Int×Bool)):Option Int:=
 A0i
 (G0e g1 b0 0 0)
 (fun q19=>some q19) fun p18=>
 some p18
def J0f (b0:A0g)(b1:List Int)(b2:Int):Option Int:=
 (Q0n b0 b1).bind fun v1=>
 (P0z v1 (fun x0=>J0s x0 b2)).bind fun v2=>
 some v2
def A0x (b0:A0a)(b1:A0f)(b2:Int)(b3:Int):List A0g→Int→Int→Option Int
 | [],z8,a9=>
  some a9
 | x10::xs11,z8,a9=>
  (D0i b0 b1 z8).bind fun v13=>
  Option.bind
  ((bif (decide (v13.1≤b3)) then
  some (decide (b3<v13.2))
  else
  some false)) fun e14=>
  (bif e14 then
  (idxL b1.Modes z8).bind fun v17=>
  (J0f x10 v17 b2).bind fun v18=>
  A0x b0 b1 b2 b3 xs11 (z8+1) (W (a9+v18))
  else
  A0x b0 b1 b2 b3 xs11 (z8+1) a9)
def B0l (b0:A0a)(b1:A0f)(b2:Int)(b3:Int):Option Int:=
 Option.bind
 (A0x b0 b1 b2 b3 b0.Activities 0 0) fun p19=>
 some p19
def F0y (b0:A0a)(b1:A0f)(b2:Int)(b3:Int):Option Int:=
 (E0d b0 b1).bind fun v1=>
 Option.bind
 ((bif (!v1) then
 some true
 else
 (A0r b0 b2).bind fun v4=>
 some (!v4))) fun e2=>
 (bif e2 then
 some 0
 else
 (B0l b0 b1 b2 b3).bind fun v6=>
 some v6)
def C0v (b1:A0l):List A0g→Int→Option (Unit ⊕ Bool)
 | [],z13=>
  some (Sum.inl ())
 | x14::xs15,z13=>
  (idxL b1.Starts z13).bind fun v17=>
  (G0r v17).bind fun v18=>
  Option.bind
  ((bif (!v18) then
  some true
  else
  (idxL b1.Modes z13).bind fun v21=>
  (C0s v21 0 (W ((x14.Modes.length:Int) - 1))).bind fun v22=>
  some (!v22))) fun e19=>
  (bif e19 then
  some (Sum.inr false)
  else
  C0v b1 xs15 (z13+1))
def D0s (b0:A0a)(b1:A0l):Option Bool:=
 (G0q b0).bind fun v1=>
 Option.bind
 ((bif (!v1) then
 some true
 else
 (bif ((b1.Starts.length:Int) != (b0.Activities.length:Int)) then
 some true
 else
 some ((b1.Modes.length:Int) != (b0.Activities.length:Int))))) fun e2=>
 (bif e2 then
 some false
 else
 A0i
 (C0v b1 b0.Activities 0)
 (fun q25=>some q25) fun p24=>
 some true)
def D0t (b0:A0a)(b1:A0l)(b2:Int):Option TMode:=
 (idxL b0.Activities b2).bind fun v1=>
 (idxL b1.Modes b2).bind fun v2=>
 (idxL v1.Modes v2).bind fun v3=>
 some v3
def D0r (b0:A0a)(b1:A0l)(b2:Int):Option Int:=
 (idxL b1.Starts b2).bind fun v1=>
 (D0t b0 b1 b2).bind fun v2=>
 some (W (v1+v2.Duration))
def D0h (b0:Int)(c1:A0l)(c2:Int)(c3:A0a):Option Bool:=
 (idxL c1.Starts b0).bind fun v1=>
 Option.bind
 ((bif (decide (v1≤c2)) then
 (D0r c3 c1 b0).bind fun v4=>
 some (decide (c2<v4))
 else
 some false)) fun e2=>
 some e2
def H0o (g1:Int→Option Bool):List Int→Int→(List Int)→Option (List Int)
 | [],z8,a9=>
  some a9
 | x10::xs11,z8,a9=>
  (g1 x10).bind fun v13=>
  (bif v13 then
  (appL a9 ([x10]:List Int)).bind fun v15=>
  H0o g1 xs11 (z8+1) v15
  else
  H0o g1 xs11 (z8+1) a9)
def A1k (b0:List Int)(g1:Int→Option Bool):Option (List Int):=
 Option.bind
 (H0o g1 b0 0 ([]:List Int)) fun p16=>
 some p16
def E0o (b0:A0a)(b1:A0l)(b2:Int):Option (List Int):=
 (K0d (b0.Activities.length:Int)).bind fun v1=>
 (A1k v1 (fun x0=>D0h x0 b1 b2 b0)).bind fun v2=>
 some v2
def C0o (b0:A0a)(b1:A0l)(b2:Int):List Int→Int→Int→Option Int
 | [],z9,a10=>
  some a10
 | x11::xs12,z9,a10=>
  (D0t b0 b1 x11).bind fun v14=>
  (idxL v14.Usage b2).bind fun v15=>
  C0o b0 b1 b2 xs12 (z9+1) (W (a10+v15))
def E0w (b0:A0a)(b1:A0l)(b2:Int)(b3:Int):Option Int:=
 (E0o b0 b1 b3).bind fun v1=>
 Option.bind
 (C0o b0 b1 b2 v1 0 0) fun p16=>
 some p16
def M0z (b0:A0a)(b1:A0l)(b2:Int)(b3:Int):Option Int:=
 (D0s b0 b1).bind fun v1=>
 Option.bind
 ((bif (!v1) then
 some true
 else
 (A0r b0 b2).bind fun v4=>
 some (!v4))) fun e2=>
 (bif e2 then
 some 0
 else
 (E0w b0 b1 b2 b3).bind fun v6=>
 some v6)
def G0u (b0:A0a)(b1:A0f)(b2:Int):Option (Int×Int×Bool):=
 (E0d b0 b1).bind fun v1=>
 Option.bind
 ((bif (!v1) then
 some true
 else
 (A0q b0 b2).bind fun v4=>
 some (!v4))) fun e2=>
 (bif e2 then
 some (0,0,false)
 else
 (D0i b0 b1 b2).bind fun v6=>
 (bif (decide (v6.2≤v6.1)) then
 some (0,0,false)
 else
 some (v6.1,v6.2,true)))
def M0e (b0:A0a)(b1:A0l)(b2:Int):Option (List Int):=
 (D0s b0 b1).bind fun v1=>
 (bif (!v1) then
 some ([]:List Int)
 else
 (E0o b0 b1 b2).bind fun v3=>
 some v3)
def F0l (b0:A0a)(b1:A0f)(b2:Int):Option Int:=
 (E0d b0 b1).bind fun v1=>
 Option.bind
 ((bif (!v1) then
 some true
 else
 (A0q b0 b2).bind fun v4=>
 some (!v4))) fun e2=>
 (bif e2 then
 some 0
 else
 (E0e b0 b1 b2).bind fun v6=>
 some v6)
def P0p (b0:A0a)(b1:A0l)(b2:Int):Option Int:=
 (D0s b0 b1).bind fun v1=>
 Option.bind
 ((bif (!v1) then
 some true
 else
 (A0q b0 b2).bind fun v4=>
 some (!v4))) fun e2=>
 (bif e2 then
 some (-1)
 else
 (D0r b0 b1 b2).bind fun v6=>
 some v6)
def H0c (b0:A0a)(b1:A0f)(b2:Int)(b3:Int):Option Int:=
 (E0d b0 b1).bind fun v1=>
 Option.bind
 ((bif (!v1) then
 some true
 else
 (A0q b0 b3).bind fun v4=>
 (bif (!v4) then
 some true
 else
 (A0r b0 b2).bind fun v6=>
 some (!v6)))) fun e2=>
 (bif e2 then
 some 0
 else
 (idxL b0.Activities b3).bind fun v8=>
 (idxL b1.Modes b3).bind fun v9=>
 (J0f v8 v9 b2).bind fun v10=>
 some v10)
def D0w (b1:Int):List TStep→Int→Int→Option Int
 | [],z8,a9=>
  some a9
 | x10::xs11,z8,a9=>
  (bif (decide (x10.At≤b1)) then
  D0w b1 xs11 (z8+1) x10.Capacity
  else
  D0w b1 xs11 (z8+1) a9)
def G0d (b0:List TStep)(b1:Int):Option Int:=
 Option.bind
 (D0w b1 b0 0 0) fun p14=>
 some p14
def C0y (b0:A0a)(b1:A0f)(b2:Int):Nat→Int→Option (Unit ⊕ Int)
 | 0,_=>none
 | fuel+1,a12=>
  (bif (decide (a12<61)) then
  (B0l b0 b1 b2 a12).bind fun v16=>
  (idxL b0.Resources b2).bind fun v17=>
  (G0d v17.Steps a12).bind fun v18=>
  (bif (decide (v18<v16)) then
  some (Sum.inr a12)
  else
  C0y b0 b1 b2 fuel (W (a12+1)))
  else
  some (Sum.inl ()))
def F0u (b0:A0a)(b1:A0f)(b2:Int):Option Int:=
 (E0d b0 b1).bind fun v1=>
 Option.bind
 ((bif (!v1) then
 some true
 else
 (A0r b0 b2).bind fun v4=>
 some (!v4))) fun e2=>
 (bif e2 then
 some (-1)
 else
 A0i
 (C0y b0 b1 b2 F0 0)
 (fun q21=>some q21) fun p20=>
 some (-1))
def N0x (b0:A0a)(b1:Int):Option Bool:=
 (A0r b0 b1).bind fun v1=>
 Option.bind
 ((bif v1 then
 (idxL b0.Resources b1).bind fun v4=>
 some (decide (0<(v4.Setup.length:Int)))
 else
 some false)) fun e2=>
 some e2
def H0b (b0:A0a)(b1:Int):Option Bool:=
 (C0s b1 0 (W ((b0.Stocks.length:Int) - 1))).bind fun v1=>
 some v1
def N0q (b0:A0a)(b1:TRule):Option Bool:=
 (G0q b0).bind fun v1=>
 (bif (!v1) then
 some false
 else
 (bif (b1.Kind == 1) then
 (C0s b1.A 0 (W ((b0.Links.length:Int) - 1))).bind fun v4=>
 Option.bind
 ((bif v4 then
 (bif (b1.B == 0) then
 some (b1.C == 0)
 else
 some false)
 else
 some false)) fun e5=>
 some e5
 else
 (bif (b1.Kind == 2) then
 (A0q b0 b1.A).bind fun v9=>
 Option.bind
 ((bif v9 then
 (bif (b1.B == 0) then
 some (b1.C == 0)
 else
 some false)
 else
 some false)) fun e10=>
 some e10
 else
 (bif (b1.Kind == 3) then
 (A0r b0 b1.A).bind fun v14=>
 Option.bind
 ((bif v14 then
 (G0r b1.B).bind fun v17=>
 (bif v17 then
 some (b1.C == 0)
 else
 some false)
 else
 some false)) fun e15=>
 some e15
 else
 (bif (b1.Kind == 4) then
 (A0r b0 b1.A).bind fun v20=>
 Option.bind
 ((bif v20 then
 (G0r b1.B).bind fun v23=>
 (bif v23 then
 (G0r b1.C).bind fun v25=>
 (bif v25 then
 some (decide (b1.B<b1.C))
 else
 some false)
 else
 some false)
 else
 some false)) fun e21=>
 some e21
 else
 (bif (b1.Kind == 5) then
 (N0x b0 b1.A).bind fun v28=>
 Option.bind
 ((bif v28 then
 (A0q b0 b1.B).bind fun v31=>
 (bif v31 then
 (A0q b0 b1.C).bind fun v33=>
 (bif v33 then
 some (decide (b1.B<b1.C))
 else
 some false)
 else
 some false)
 else
 some false)) fun e29=>
 some e29
 else
 (bif (b1.Kind == 6) then
 (H0b b0 b1.A).bind fun v36=>
 Option.bind
 ((bif v36 then
 (bif (b1.B == 0) then
 some (b1.C == 0)
 else
 some false)
 else
 some false)) fun e37=>
 some e37
 else
 some false)))))))
def H0w (b0:A0a)(b1:A0l)(b2:TLink):Option Bool:=
 (idxL b1.Starts b2.From).bind fun v1=>
 Option.bind
 ((bif b2.FromEnd then
 (D0r b0 b1 b2.From).bind fun v7=>
 some v7
 else
 some v1)) fun p8=>
 (idxL b1.Starts b2.To).bind fun v9=>
 some (decide ((W (p8+b2.Lag))≤v9))
def B0p (b0:A0a)(b1:A0l)(b2:Int)(b4:Int):Nat→Int→Int→Option Int
 | 0,_,_=>none
 | fuel+1,a6,a7=>
  (bif (decide (a7<b4)) then
  (E0w b0 b1 b2 a7).bind fun v11=>
  B0p b0 b1 b2 b4 fuel (W (a6+v11)) (W (a7+1))
  else
  some a6)
def F0j (b0:A0a)(b1:A0l)(b2:Int)(b3:Int)(b4:Int):Option Int:=
 Option.bind
 (B0p b0 b1 b2 b4 F0 0 b3) fun p12=>
 some p12
def D0d (b0:List TStep)(b2:Int):Nat→Int→Int→Option Int
 | 0,_,_=>none
 | fuel+1,a13,a14=>
  (bif (decide (a14<b2)) then
  (G0d b0 a14).bind fun v18=>
  D0d b0 b2 fuel (W (a13+v18)) (W (a14+1))
  else
  some a13)
def D0f (b0:List TStep)(b1:Int)(b2:Int):Option Int:=
 (K0l b0).bind fun v1=>
 Option.bind
 ((bif (!v1) then
 some true
 else
 (G0r b1).bind fun v4=>
 (bif (!v4) then
 some true
 else
 (G0r b2).bind fun v6=>
 some (!v6)))) fun e2=>
 (bif e2 then
 some 0
 else
 Option.bind
 (D0d b0 b2 F0 0 b1) fun p19=>
 some p19)
def N0d (b0:A0a)(b1:Int)(b2:Int)(b3:Int):Option Int:=
 (N0x b0 b1).bind fun v1=>
 Option.bind
 ((bif (!v1) then
 some true
 else
 (G0q b0).bind fun v4=>
 (bif (!v4) then
 some true
 else
 (A0q b0 b2).bind fun v6=>
 (bif (!v6) then
 some true
 else
 (A0q b0 b3).bind fun v8=>
 some (!v8))))) fun e2=>
 (bif e2 then
 some 0
 else
 (idxL b0.Resources b1).bind fun v10=>
 (idxL b0.Activities b2).bind fun v11=>
 (idxL v10.Setup v11.Family).bind fun v12=>
 (idxL b0.Activities b3).bind fun v13=>
 (idxL v12 v13.Family).bind fun v14=>
 some v14)
def J0a (b0:A0a)(b1:A0l)(b2:Int)(b3:Int)(b4:Int):Option Bool:=
 (D0t b0 b1 b3).bind fun v1=>
 (idxL v1.Usage b2).bind fun v2=>
 Option.bind
 ((bif (v2 == 0) then
 some true
 else
 (D0t b0 b1 b4).bind fun v5=>
 (idxL v5.Usage b2).bind fun v6=>
 some (v6 == 0))) fun e3=>
 (bif e3 then
 some true
 else
 (D0r b0 b1 b3).bind fun v8=>
 (N0d b0 b2 b3 b4).bind fun v9=>
 (idxL b1.Starts b4).bind fun v10=>
 Option.bind
 ((bif (decide ((W (v8+v9))≤v10)) then
 some true
 else
 (D0r b0 b1 b4).bind fun v13=>
 (N0d b0 b2 b4 b3).bind fun v14=>
 (idxL b1.Starts b3).bind fun v15=>
 some (decide ((W (v13+v14))≤v15)))) fun e11=>
 some e11)
def F0e (b0:A0a)(b1:A0l)(b2:Int):List A0g→Int→Int→Option Int
 | [],z13,a14=>
  some a14
 | x15::xs16,z13,a14=>
  (D0t b0 b1 z13).bind fun v18=>
  (idxL v18.Consumption b2).bind fun v19=>
  F0e b0 b1 b2 xs16 (z13+1) (W (a14+v19))
def L0t (b0:A0a)(b1:A0l)(b2:Int):Option Int:=
 (D0s b0 b1).bind fun v1=>
 Option.bind
 ((bif (!v1) then
 some true
 else
 (H0b b0 b2).bind fun v4=>
 some (!v4))) fun e2=>
 (bif e2 then
 some 0
 else
 Option.bind
 (F0e b0 b1 b2 b0.Activities 0 0) fun p20=>
 some p20)
def C0t (b0:A0a)(b1:A0l)(b2:TRule):Option Bool:=
 (bif (b2.Kind == 1) then
 (idxL b0.Links b2.A).bind fun v2=>
 (H0w b0 b1 v2).bind fun v3=>
 some v3
 else
 (bif (b2.Kind == 2) then
 (D0r b0 b1 b2.A).bind fun v5=>
 some (decide (v5≤b0.Deadline))
 else
 (bif (b2.Kind == 3) then
 (E0w b0 b1 b2.A b2.B).bind fun v7=>
 (idxL b0.Resources b2.A).bind fun v8=>
 (G0d v8.Steps b2.B).bind fun v9=>
 some (decide (v7≤v9))
 else
 (bif (b2.Kind == 4) then
 (F0j b0 b1 b2.A b2.B b2.C).bind fun v11=>
 (idxL b0.Resources b2.A).bind fun v12=>
 (D0f v12.Steps b2.B b2.C).bind fun v13=>
 some (decide (v11≤v13))
 else
 (bif (b2.Kind == 5) then
 (J0a b0 b1 b2.A b2.B b2.C).bind fun v15=>
 some v15
 else
 (L0t b0 b1 b2.A).bind fun v16=>
 (idxL b0.Stocks b2.A).bind fun v17=>
 some (decide (v16≤v17)))))))
def J0h (b0:A0a)(b1:A0l)(b2:TRule):Option Bool:=
 (D0s b0 b1).bind fun v1=>
 Option.bind
 ((bif v1 then
 (N0q b0 b2).bind fun v4=>
 (bif v4 then
 (C0t b0 b1 b2).bind fun v6=>
 some (!v6)
 else
 some false)
 else
 some false)) fun e2=>
 some e2
def w_FnCore_L1 (v3:A0f):List A0g→Int→(List Int)→Option (List Int)
 | [],z12,a13=>
  some a13
 | x14::xs15,z12,a13=>
  (idxL a13 z12).bind fun v17=>
  (idxL v3.MinStart z12).bind fun v18=>
  Option.bind
  ((bif (decide (v17<v18)) then
  some (setL a13 z12 v18)
  else
  some a13)) fun p24=>
  (idxL p24 z12).bind fun v25=>
  (idxL v3.MaxStart z12).bind fun v26=>
  (bif (decide (v26<v25)) then
  w_FnCore_L1 v3 xs15 (z12+1) (setL p24 z12 v26)
  else
  w_FnCore_L1 v3 xs15 (z12+1) p24)
def w_FnCore_L3 (v2:A0a)(v3:A0f)(v4:A0l)(p28:(List Int))(a37:Int):List A0g→Int→Option (Unit ⊕ Bool)
 | [],z51=>
  some (Sum.inl ())
 | x52::xs53,z51=>
  (G0u v2 v3 z51).bind fun v55=>
  Option.bind
  ((bif v55.2.2 then
  (bif (decide (v55.1≤a37)) then
  (bif (decide (a37<v55.2.1)) then
  (M0e v2 (A0l.mk p28 v4.Modes) a37).bind fun v60=>
  (L0i v60 z51).bind fun v61=>
  some (!v61)
  else
  some false)
  else
  some false)
  else
  some false)) fun e56=>
  (bif e56 then
  some (Sum.inr false)
  else
  (F0l v2 v3 z51).bind fun v63=>
  (P0p v2 (A0l.mk p28 v4.Modes) z51).bind fun v64=>
  (idxL p28 z51).bind fun v65=>
  Option.bind
  ((bif (decide ((W (v64 - v65))<v63)) then
  some true
  else
  (H0c v2 v3 0 z51).bind fun v68=>
  (idxL v4.Modes z51).bind fun v69=>
  (idxL x52.Modes v69).bind fun v70=>
  (idxL v70.Usage 0).bind fun v71=>
  some (decide (v71<v68)))) fun e66=>
  (bif e66 then
  some (Sum.inr false)
  else
  w_FnCore_L3 v2 v3 v4 p28 a37 xs53 (z51+1)))
def w_FnCore_L2 (v2:A0a)(v3:A0f)(v4:A0l)(p28:(List Int)):Nat→Int→Option (Unit ⊕ Bool)
 | 0,_=>none
 | fuel+1,a37=>
  (bif (decide (a37<24)) then
  (F0y v2 v3 0 a37).bind fun v41=>
  (M0z v2 (A0l.mk p28 v4.Modes) 0 a37).bind fun v42=>
  (bif (decide (v42<v41)) then
  some (Sum.inr false)
  else
  A0i
  (w_FnCore_L3 v2 v3 v4 p28 a37 v2.Activities 0)
  (fun q74=>some (Sum.inr q74)) fun p73=>
  w_FnCore_L2 v2 v3 v4 p28 fuel (W (a37+1)))
  else
  some (Sum.inl ()))
def w_FnCore (b0:List Int):Option Bool:=
 (bif (decide (1048576<(b0.length:Int))) then
 some true
 else
 (G0p b0).bind fun v2=>
 (M0a b0 v2).bind fun v3=>
 (H0x b0 v2).bind fun v4=>
 Option.bind
 (w_FnCore_L1 v3 v2.Activities 0 v4.Starts) fun p28=>
 (L0m v3 (A0l.mk p28 v4.Modes)).bind fun v29=>
 (bif (!v29) then
 some false
 else
 A0i
 (w_FnCore_L2 v2 v3 v4 p28 F0 0)
 (fun q76=>some q76) fun p75=>
 (F0u v2 v3 0).bind fun v77=>
 Option.bind
 ((bif (decide (v77<0)) then
 some true
 else
 (J0h v2 (A0l.mk p28 v4.Modes) (TRule.mk 3 0 v77 0)).bind fun v80=>
 some v80)) fun e78=>
 some e78))
def N0c (b0:List Int)(b1:Int):Option Int:=
 (L0j b0).bind fun v1=>
 (A0p (A0m.mk v1.b v1.i (W (v1.h+777))) b1).bind fun v2=>
 some v2.1
def H0d  : List Int→Int→Option (Unit ⊕ Int)
 | [],z8=>
  some (Sum.inl ())
 | x9::xs10,z8=>
  (C0s x9 (-100000) 100000).bind fun v12=>
  (bif (!v12) then
  some (Sum.inr 0)
  else
  H0d xs10 (z8+1))
def L0z (b0:Int)(b1:Int)(b2:Int)(b3:Int):Option Int:=
 A0i
 (H0d ([b0,b1,b2,b3]:List Int) 0)
 (fun q15=>some q15) fun p14=>
 (bif (decide (b1<1)) then
 some 0
 else
 some (max (W ((min (W (b0+b1)) b3) - (max b0 b2))) 0))
def B0w (b0:A0a)(b1:A0f)(b2:Int)(b3:Int)(b4:Int)(b5:Int):List Int→Int→Int→Bool→Option Int
 | [],z9,a10,a11=>
  some a10
 | x12::xs13,z9,a10,a11=>
  (idxL b0.Activities b2).bind fun v15=>
  (idxL v15.Modes x12).bind fun v16=>
  (idxL b1.MinStart b2).bind fun v17=>
  (L0z v17 v16.Duration b4 b5).bind fun v18=>
  (idxL b1.MaxStart b2).bind fun v19=>
  (L0z v19 v16.Duration b4 b5).bind fun v20=>
  (idxL v16.Usage b3).bind fun v21=>
  Option.bind
  ((bif (!a11) then
  some true
  else
  some (decide ((W ((min v18 v20)*v21))<a10)))) fun e22=>
  (bif e22 then
  B0w b0 b1 b2 b3 b4 b5 xs13 (z9+1) (W ((min v18 v20)*v21)) true
  else
  B0w b0 b1 b2 b3 b4 b5 xs13 (z9+1) a10 a11)
def E0p (b0:A0a)(b1:A0f)(b2:Int)(b3:Int)(b4:Int)(b5:Int):Option Int:=
 (idxL b1.Modes b2).bind fun v1=>
 Option.bind
 (B0w b0 b1 b2 b3 b4 b5 v1 0 0 false) fun p25=>
 some p25
def M0g (b0:A0a)(b1:A0f)(b2:Int)(b3:Int)(b4:Int)(b5:Int):Option Int:=
 (E0d b0 b1).bind fun v1=>
 Option.bind
 ((bif (!v1) then
 some true
 else
 (A0q b0 b2).bind fun v4=>
 (bif (!v4) then
 some true
 else
 (A0r b0 b3).bind fun v6=>
 some (!v6)))) fun e2=>
 (bif e2 then
 some 0
 else
 (E0p b0 b1 b2 b3 b4 b5).bind fun v8=>
 some v8)
def C0f (b0:A0a)(b1:A0f)(b2:Int)(b4:Int):Nat→Int→Int→Option Int
 | 0,_,_=>none
 | fuel+1,a15,a16=>
  (bif (decide (a16<b4)) then
  (B0l b0 b1 b2 a16).bind fun v20=>
  C0f b0 b1 b2 b4 fuel (W (a15+v20)) (W (a16+1))
  else
  some a15)
def G0v (b0:A0a)(b1:A0f)(b2:Int)(b3:Int)(b4:Int):Option Int:=
 (E0d b0 b1).bind fun v1=>
 Option.bind
 ((bif (!v1) then
 some true
 else
 (A0r b0 b2).bind fun v4=>
 (bif (!v4) then
 some true
 else
 (G0r b3).bind fun v6=>
 (bif (!v6) then
 some true
 else
 (G0r b4).bind fun v8=>
 some (!v8))))) fun e2=>
 (bif e2 then
 some 0
 else
 Option.bind
 (C0f b0 b1 b2 b4 F0 0 b3) fun p21=>
 some p21)
def B0y (b0:A0a)(b1:A0f)(b2:Int)(b3:Int)(b4:Int):List A0g→Int→Int→Option Int
 | [],z8,a9=>
  some a9
 | x10::xs11,z8,a9=>
  (E0p b0 b1 z8 b2 b3 b4).bind fun v13=>
  B0y b0 b1 b2 b3 b4 xs11 (z8+1) (W (a9+v13))
def D0p (b0:A0a)(b1:A0f)(b2:Int)(b3:Int)(b4:Int):Option Int:=
 Option.bind
 (B0y b0 b1 b2 b3 b4 b0.Activities 0 0) fun p14=>
 some p14
def J0o (b0:A0a)(b1:A0f)(b2:Int)(b3:Int)(b4:Int):Option Int:=
 (E0d b0 b1).bind fun v1=>
 Option.bind
 ((bif (!v1) then
 some true
 else
 (A0r b0 b2).bind fun v4=>
 some (!v4))) fun e2=>
 (bif e2 then
 some 0
 else
 (D0p b0 b1 b2 b3 b4).bind fun v6=>
 some v6)
def H0q (b0:A0a)(b1:A0f)(b2:Int)(b3:Int)(b4:Int):Option Bool:=
 (E0d b0 b1).bind fun v1=>
 Option.bind
 ((bif (!v1) then
 some true
 else
 (A0r b0 b2).bind fun v4=>
 (bif (!v4) then
 some true
 else
 (G0r b3).bind fun v6=>
 (bif (!v6) then
 some true
 else
 (G0r b4).bind fun v8=>
 (bif (!v8) then
 some true
 else
 some (decide (b4≤b3))))))) fun e2=>
 (bif e2 then
 some false
 else
 (D0p b0 b1 b2 b3 b4).bind fun v11=>
 (idxL b0.Resources b2).bind fun v12=>
 (D0f v12.Steps b3 b4).bind fun v13=>
 some (decide (v13<v11)))
def J0g (b0:A0a)(b1:Int)(b2:Int)(b3:Int):Option Int:=
 (G0q b0).bind fun v1=>
 Option.bind
 ((bif (!v1) then
 some true
 else
 (A0r b0 b1).bind fun v4=>
 some (!v4))) fun e2=>
 (bif e2 then
 some 0
 else
 (idxL b0.Resources b1).bind fun v6=>
 (D0f v6.Steps b2 b3).bind fun v7=>
 some v7)
def w_FnWork_L1 (v3:A0f):List A0g→Int→(List Int)→Option (List Int)
 | [],z12,a13=>
  some a13
 | x14::xs15,z12,a13=>
  (idxL a13 z12).bind fun v17=>
  (idxL v3.MinStart z12).bind fun v18=>
  Option.bind
  ((bif (decide (v17<v18)) then
  some (setL a13 z12 v18)
  else
  some a13)) fun p24=>
  (idxL p24 z12).bind fun v25=>
  (idxL v3.MaxStart z12).bind fun v26=>
  (bif (decide (v26<v25)) then
  w_FnWork_L1 v3 xs15 (z12+1) (setL p24 z12 v26)
  else
  w_FnWork_L1 v3 xs15 (z12+1) p24)
def w_FnWork_L2 (v2:A0a)(v4:A0l)(v29:Int)(v30:Int):Nat→Int→Int→(List Int)→Option (Int×(List Int))
 | 0,_,_,_=>none
 | fuel+1,a36,a37,a38=>
  (bif (decide (a37<(W ((W (v29+1))+v30)))) then
  (M0z v2 (A0l.mk a38 v4.Modes) 0 a37).bind fun v42=>
  w_FnWork_L2 v2 v4 v29 v30 fuel (W (a36+v42)) (W (a37+1)) a38
  else
  some (a36,a38))
def w_FnWork_L3 (v2:A0a)(v3:A0f)(v4:A0l)(v29:Int)(v30:Int)(p43:Int×(List Int)):List A0g→Int→Int→Option (Int ⊕ Bool)
 | [],z51,a52=>
  some (Sum.inl a52)
 | x53::xs54,z51,a52=>
  (M0g v2 v3 z51 0 v29 (W ((W (v29+1))+v30))).bind fun v56=>
  (idxL v4.Modes z51).bind fun v57=>
  (idxL x53.Modes v57).bind fun v58=>
  (idxL v58.Usage 0).bind fun v59=>
  (idxL p43.2 z51).bind fun v60=>
  (L0z v60 v58.Duration v29 (W ((W (v29+1))+v30))).bind fun v61=>
  (bif (decide ((W (v59*v61))<v56)) then
  some (Sum.inr false)
  else
  w_FnWork_L3 v2 v3 v4 v29 v30 p43 xs54 (z51+1) (W (a52+v56)))
def w_FnWork (b0:List Int):Option Bool:=
 (bif (decide (1048576<(b0.length:Int))) then
 some true
 else
 (G0p b0).bind fun v2=>
 (M0a b0 v2).bind fun v3=>
 (H0x b0 v2).bind fun v4=>
 Option.bind
 (w_FnWork_L1 v3 v2.Activities 0 v4.Starts) fun p28=>
 (N0c b0 6).bind fun v29=>
 (N0c b0 9).bind fun v30=>
 Option.bind
 (w_FnWork_L2 v2 v4 v29 v30 F0 0 v29 p28) fun p43=>
 A0i
 (w_FnWork_L3 v2 v3 v4 v29 v30 p43 v2.Activities 0 0)
 (fun q64=>some q64) fun p63=>
 (G0v v2 v3 0 v29 (W ((W (v29+1))+v30))).bind fun v65=>
 (L0m v3 (A0l.mk p43.2 v4.Modes)).bind fun v66=>
 Option.bind
 ((bif v66 then
 (J0o v2 v3 0 v29 (W ((W (v29+1))+v30))).bind fun v69=>
 (bif (v69 == p63) then
 (bif (decide (p63≤p43.1)) then
 (bif (decide (v65≤p43.1)) then
 (H0q v2 v3 0 v29 (W ((W (v29+1))+v30))).bind fun v73=>
 (bif (!v73) then
 (J0g v2 0 v29 (W ((W (v29+1))+v30))).bind fun v80=>
 (idxL v2.Resources 0).bind fun v81=>
 (D0f v81.Steps v29 (W ((W (v29+1))+v30))).bind fun v82=>
 some (v80 == v82)
 else
 (J0h v2 (A0l.mk p43.2 v4.Modes) (TRule.mk 4 0 v29 (W ((W (v29+1))+v30)))).bind fun v75=>
 (bif v75 then
 (J0g v2 0 v29 (W ((W (v29+1))+v30))).bind fun v77=>
 (idxL v2.Resources 0).bind fun v78=>
 (D0f v78.Steps v29 (W ((W (v29+1))+v30))).bind fun v79=>
 some (v77 == v79)
 else
 some false))
 else
 some false)
 else
 some false)
 else
 some false)
 else
 some false)) fun e67=>
 some e67)
def G0w (b1:List Int):List TMode→Int→Int→Bool→Option Int
 | [],z8,a9,a10=>
  some a9
 | x11::xs12,z8,a9,a10=>
  (S0l b1 z8).bind fun v14=>
  Option.bind
  ((bif v14 then
  (bif (!a10) then
  some true
  else
  some (decide (x11.Duration<a9)))
  else
  some false)) fun e15=>
  (bif e15 then
  G0w b1 xs12 (z8+1) x11.Duration true
  else
  G0w b1 xs12 (z8+1) a9 a10)
def N0p (b0:A0g)(b1:List Int):Option Int:=
 Option.bind
 (G0w b1 b0.Modes 0 0 false) fun p19=>
 some p19
def H0l (b1:List Int)(b2:Int)(b3:Bool)(b4:Bool):List TMode→Int→Int→Bool→Option (Int ⊕ Int)
 | [],z8,a9,a10=>
  some (Sum.inl a9)
 | x11::xs12,z8,a9,a10=>
  (S0l b1 z8).bind fun v14=>
  (bif (!v14) then
  H0l b1 b2 b3 b4 xs12 (z8+1) a9 a10
  else
  Option.bind
  ((bif b3 then
  some x11.Consumption
  else
  some x11.Usage)) fun p21=>
  (C0n b2 0 (W ((p21.length:Int) - 1))).bind fun v22=>
  (bif (!v22) then
  some (Sum.inr 0)
  else
  (idxL p21 b2).bind fun v24=>
  Option.bind
  ((bif b4 then
  some (W (v24*x11.Duration))
  else
  some v24)) fun p30=>
  Option.bind
  ((bif (!a10) then
  some true
  else
  some (decide (p30<a9)))) fun e31=>
  (bif e31 then
  H0l b1 b2 b3 b4 xs12 (z8+1) p30 true
  else
  H0l b1 b2 b3 b4 xs12 (z8+1) a9 true)))
def T0j (b0:A0g)(b1:List Int)(b2:Int)(b3:Bool)(b4:Bool):Option Int:=
 A0i
 (H0l b1 b2 b3 b4 b0.Modes 0 0 false)
 (fun q35=>some q35) fun p34=>
 some p34
def V0i (b0:List TStep)(b1:Int)(b2:Int):Option Bool:=
 (F0q b0).bind fun v1=>
 Option.bind
 ((bif v1 then
 (C0n b1 0 60).bind fun v4=>
 (bif v4 then
 (C0n b2 0 60).bind fun v6=>
 some v6
 else
 some false)
 else
 some false)) fun e2=>
 some e2
def K0g (b1:Int):List TStep→Int→Int→Option Int
 | [],z8,a9=>
  some a9
 | x10::xs11,z8,a9=>
  (bif (decide (x10.At≤b1)) then
  K0g b1 xs11 (z8+1) x10.Capacity
  else
  K0g b1 xs11 (z8+1) a9)
def V0l (b0:List TStep)(b1:Int):Option Int:=
 Option.bind
 (K0g b1 b0 0 0) fun p14=>
 some p14
def E0g (b0:List TStep)(b2:Int):Nat→Int→Int→Option Int
 | 0,_,_=>none
 | fuel+1,a8,a9=>
  (bif (decide (a9<b2)) then
  (V0l b0 a9).bind fun v13=>
  E0g b0 b2 fuel (W (a8+v13)) (W (a9+1))
  else
  some a8)
def J0v (b0:List TStep)(b1:Int)(b2:Int):Option Int:=
 (V0i b0 b1 b2).bind fun v1=>
 (bif (!v1) then
 some 0
 else
 Option.bind
 (E0g b0 b2 F0 0 b1) fun p14=>
 some p14)
def H0m (b0:List Int):List Int→Int→Option (Unit ⊕ Bool)
 | [],z8=>
  some (Sum.inl ())
 | x9::xs10,z8=>
  Option.bind
  ((bif (decide (0<z8)) then
  (idxL b0 (z8 - 1)).bind fun v14=>
  some (decide (x9≤v14))
  else
  some false)) fun e12=>
  (bif e12 then
  some (Sum.inr false)
  else
  H0m b0 xs10 (z8+1))
def V0w (b0:List Int):Option Bool:=
 A0i
 (H0m b0 b0 0)
 (fun q17=>some q17) fun p16=>
 some true
def F0w (b1:List Int):List Int→Int→Option (Unit ⊕ Bool)
 | [],z8=>
  some (Sum.inl ())
 | x9::xs10,z8=>
  (S0l b1 x9).bind fun v12=>
  (bif (!v12) then
  some (Sum.inr false)
  else
  F0w b1 xs10 (z8+1))
def L0y (b0:List Int)(b1:List Int):Option Bool:=
 A0i
 (F0w b1 b0 0)
 (fun q15=>some q15) fun p14=>
 some true
def E0q (b1:A0f):List A0g→Int→Option (Unit ⊕ Bool)
 | [],z14=>
  some (Sum.inl ())
 | x15::xs16,z14=>
  (idxL b1.MinStart z14).bind fun v18=>
  (C0n v18 (-2) 62).bind fun v19=>
  Option.bind
  ((bif (!v19) then
  some true
  else
  (idxL b1.MaxStart z14).bind fun v22=>
  (C0n v22 (-2) 62).bind fun v23=>
  (bif (!v23) then
  some true
  else
  (idxL b1.Modes z14).bind fun v25=>
  (V0w v25).bind fun v26=>
  (bif (!v26) then
  some true
  else
  (F0i x15).bind fun v28=>
  (L0y v25 v28).bind fun v29=>
  some (!v29))))) fun e20=>
  (bif e20 then
  some (Sum.inr false)
  else
  E0q b1 xs16 (z14+1))
def K0j (b0:A0a)(b1:A0f):Option Bool:=
 (E0v b0).bind fun v1=>
 Option.bind
 ((bif (!v1) then
 some true
 else
 (bif ((b1.MinStart.length:Int) != (b0.Activities.length:Int)) then
 some true
 else
 (bif ((b1.MaxStart.length:Int) != (b0.Activities.length:Int)) then
 some true
 else
 some ((b1.Modes.length:Int) != (b0.Activities.length:Int)))))) fun e2=>
 (bif e2 then
 some false
 else
 A0i
 (E0q b1 b0.Activities 0)
 (fun q32=>some q32) fun p31=>
 some true)
def A1h (b0:A0a)(b1:A0f):Option Bool:=
 (K0j b0 b1).bind fun v1=>
 Option.bind
 ((bif v1 then
 (C0r b1).bind fun v4=>
 some (!v4)
 else
 some false)) fun e2=>
 some e2
def T0e (b0:A0g)(b1:List Int)(b2:Int):Option Int:=
 (T0j b0 b1 b2 false false).bind fun v1=>
 some v1
def D1f (M:Nat)(l:List Int):Prop:=l.length≤M
theorem E1n:∀ p,Val .u8 p→∃ x:Int,p=e_u8 x∧True:=fun p h=>by obtain ⟨n,e,_⟩:=h;exact ⟨n,e,trivial⟩
theorem V0c:∀ p,Val (.slice .u8) p→∃ x:List Int,p=.slice (x.map e_u8)∧D1f 9223372036854775807 x:=fun p h=>by
 obtain ⟨l,e,h1,h2⟩:=B1y E1n h
 exact ⟨l,e,h1⟩
def inR (n lo hi:Int):Bool:=decide (lo≤n) && decide (n≤hi)
theorem G0o {n lo hi:Int}:inR n lo hi=true ↔ lo≤n∧n≤hi:=by simp [inR]
theorem A0t (n lo hi:Int):C0n n lo hi=some (inR n lo hi):=by
 unfold C0n inR;cases decide (lo≤n) <;> rfl
theorem C0d (n lo hi:Int):C0s n lo hi=some (inR n lo hi):=by
 unfold C0s inR;cases decide (lo≤n) <;> rfl
theorem G0j (n:Int):G0r n=some (inR n 0 60):=by simp only [G0r,C0d,Option.bind_some]
theorem L0e (n:Int):L0p n=some (inR n 0 20):=by simp only [L0p,C0d,Option.bind_some]
theorem Y0w (n:Int):N0b n=some (inR n (-2) 62):=by simp only [N0b,C0d,Option.bind_some]
theorem G0z (p:A0a)(n:Int):A0q p n=some (inR n 0 (W ((p.Activities.length:Int) - 1))):=by simp only [A0q,C0d,Option.bind_some]
theorem C0h (p:A0a)(n:Int):A0r p n=some (inR n 0 (W ((p.Resources.length:Int) - 1))):=by simp only [A0r,C0d,Option.bind_some]
theorem V0x (a b:Int):Q0l a b=some (max a b):=by
 unfold Q0l
 by_cases h:b<a
 ·rw [show decide (b<a)=true by simpa using h,cond_true,show max a b=a by omega]
 rw [show decide (b<a)=false by simpa using h,cond_false,show max a b=b by omega]
theorem U0y (a b:Int):Q0t a b=some (min a b):=by
 unfold Q0t
 by_cases h:a<b
 ·rw [show decide (a<b)=true by simpa using h,cond_true,show min a b=a by omega]
 rw [show decide (a<b)=false by simpa using h,cond_false,show min a b=b by omega]
theorem W_le {n:Int}(h:-9223372036854775808≤n):W n≤n:=by
 show IntKind.i64.wrap n≤n
 rw [IntKind.wrap_i64];omega
theorem X0d {α:Type}{l:List α}{i:Int}(h:inR i 0 (W ((l.length:Int) - 1))=true):∃ x,idxL l i=some x∧x∈l:=by
 have h:=G0o.1 h
 have:=W_le (n:=(l.length:Int) - 1) (by omega)
 exact K0r h.1 (by omega)
theorem R0w:∀(xs:List Int)(z:Int),E0z xs z=D0m xs z
 | [],z=>rfl
 | x::xs,z=>by simp only [E0z,D0m,L0e,A0t,R0w xs]
theorem X0p (l:List Int)(n:Int):J0m l n=H0h l n:=by simp only [J0m,H0h,R0w]
theorem C1i (m:TMode)(a b:Int):S0p m a b=J0r m a b:=by simp only [S0p,J0r,X0p,C0d,A0t]
theorem Y0h (s:ByteArray):∀(n:Nat)(a:Int),J0d s n a=E0h s n a
 | 0,a=>rfl
 | n+1,a=>by simp only [J0d,E0h,Y0h s n]
theorem C1r (s:ByteArray):S0g s=K0i s:=by simp only [S0g,K0i,Y0h,C0d,A0t]
theorem S0k (a b:Int):∀(xs:List TMode)(z:Int),E0y a b xs z=B0t a b xs z
 | [],z=>rfl
 | x::xs,z=>by simp only [E0y,B0t,C1i,S0k a b xs]
theorem Y0c (x:A0g)(a b:Int):K0q x a b=C0w x a b:=by simp only [K0q,C0w,S0k,C1r,C0d,A0t]
theorem P0i (nm:ByteArray):∀(xs:List A0g)(z:Int),B0g (fun x=>F0f x nm) xs z=B0h nm xs z
 | [],z=>rfl
 | x::xs,z=>by rw [B0g,B0h,P0i nm xs];rfl
theorem U0k (p:A0a)(nm:ByteArray):H0g p nm=C0b p nm:=by
 simp only [H0g,D0u,C0b,P0i,Option.bind_some]
 cases h:B0h nm p.Activities 0 with
 | none=>rfl
 | some o=>cases o <;> rfl
theorem R0q:∀(xs:List Int)(z:Int),E0u xs z=B0k xs z
 | [],z=>rfl
 | x::xs,z=>by simp only [E0u,B0k,C0d,A0t,R0q xs]
theorem S0f:∀(xs:List (List Int))(z:Int),E0r xs z=B0e xs z
 | [],z=>rfl
 | x::xs,z=>by simp only [E0r,B0e,R0q,S0f xs]
theorem C1n {α:Type}{F:List α→Int→Option (Unit ⊕ Bool)}{b:List α}{Q:α→Prop}{c:α→Int→Option Bool}(h0:∀ z,F [] z=some (.inl ()))
  (h1:∀ x xs z,F (x::xs) z=(c x z).bind fun e=>bif e then some (.inr false) else F xs (z+1)) (hc:∀ x z,0≤z→idxL b z=some x→∃ e,c x z=some e∧(e=false→Q x)) :
  ∀(xs:List α)(z:Int),0≤z→b.drop z.toNat=xs→F xs z=some (.inr false)∨(F xs z=some (.inl ())∧∀ x∈xs,Q x)
 | [],z,hz,hd=>.inr ⟨h0 z,by simp⟩
 | x::xs,z,hz,hd=>by
  obtain ⟨h2,h3⟩:=P0t hz hd
  obtain ⟨e,he,hq⟩:=hc x z hz h2
  rw [h1,he,Option.bind_some]
  cases e with
  | true=>exact .inl rfl
  | false=>
   rw [cond_false]
   rcases C1n h0 h1 hc xs (z+1) (by omega) h3 with h | ⟨h,hQ⟩
   ·exact .inl h
   ·exact .inr ⟨h,fun y hy=>by
     rcases List.mem_cons.1 hy with rfl | hy
     ·exact hq rfl
     exact hQ y hy⟩
theorem N0l {α:Type}{F:List α→Int→Option (Unit ⊕ Bool)}{Q:α→Prop}{c:α→Int→Option Bool}(b:List α)(h0:∀ z,F [] z=some (.inl ()))
  (h1:∀ x xs z,F (x::xs) z=(c x z).bind fun e=>bif e then some (.inr false) else F xs (z+1)) (hc:∀ x z,0≤z→idxL b z=some x→∃ e,c x z=some e∧(e=false→Q x)) :
  F b 0=some (.inr false)∨(F b 0=some (.inl ())∧∀ x∈b,Q x):=C1n h0 h1 hc b 0 (Int.le_refl _) rfl
theorem H0j {α:Type}{l:List α}{z:Int}{x:α}(h:idxL l z=some x):z<l.length∧x∈l:=by
 have h1:=A0d h
 have h2:=M0b h
 exact ⟨by omega,List.mem_of_getElem? h1.2⟩
theorem Y0v {α:Type}{l:List α}{z:Int}{x:α}(h:idxL l z=some x)(h0:0<z):∃ y,idxL l (z - 1)=some y:=by
 obtain ⟨y,hy,_⟩:=K0r (l:=l) (z:=z - 1) (by omega) (by have:=(H0j h).1;omega)
 exact ⟨y,hy⟩
def sC (b:List TStep)(x:TStep)(z:Int):Option Bool:=
 (C0n x.At 0 60).bind fun v12=>(bif (!v12) then some true else (C0n x.Capacity 0 20).bind fun v15=>(bif (!v15) then some true else (bif (decide (0<z)) then (idxL b (z - 1)).bind fun v18=>some (decide (x.At≤v18.At)) else some false)))
theorem S0v (b:List TStep):B0x b b 0=some (.inr false)∨(B0x b b 0=some (.inl ())∧∀ x∈b,(0≤x.At∧x.At≤60)∧0≤x.Capacity∧x.Capacity≤20):=by
 refine N0l (F:=B0x b) (c:=sC b) b (fun _=>rfl) (fun x xs z=>?_) (fun x z hz hx=>?_)
 ·simp only [B0x,sC,A0t,Option.bind_some]
 simp only [sC,A0t,Option.bind_some]
 by_cases h1:inR x.At 0 60=true
 ·by_cases h2:inR x.Capacity 0 20=true
  ·rw [h1,h2]
   simp only [Bool.not_true,cond_false,Option.bind_some]
   have hq:=(⟨G0o.1 h1,G0o.1 h2⟩:(0≤x.At∧x.At≤60)∧0≤x.Capacity∧x.Capacity≤20)
   by_cases h0:0<z
   ·obtain ⟨y,hy⟩:=Y0v hx h0
    rw [show decide (0<z)=true by simpa using h0,cond_true,hy]
    exact ⟨_,rfl,fun _=>hq⟩
   rw [show decide (0<z)=false by simpa using h0,cond_false]
   exact ⟨_,rfl,fun _=>hq⟩
  rw [h1,show inR x.Capacity 0 20=false by simpa using h2]
  exact ⟨true,rfl,fun h=>by cases h⟩
 rw [show inR x.At 0 60=false by simpa using h1]
 exact ⟨true,rfl,fun h=>by cases h⟩
theorem Q0h (b:List TStep):∃ v,F0q b=some v∧(v=true→b≠[]∧∀ x∈b,(0≤x.At∧x.At≤60)∧0≤x.Capacity∧x.Capacity≤20):=by
 rcases S0v b with h | ⟨h,hQ⟩
 ·exact ⟨false,by simp only [F0q,h,A0i,Option.bind_some,Sum.elim_inr],fun h=>by cases h⟩
 simp only [F0q,h,A0i,Option.bind_some,Sum.elim_inl,A0t]
 cases hl:inR (b.length:Int) 1 8 with
 | false=>exact ⟨false,rfl,fun h=>by cases h⟩
 | true=>
  have:=G0o.1 hl
  obtain ⟨x,hx,_⟩:=K0r (l:=b) (z:=0) (Int.le_refl _) (by omega)
  rw [cond_true,hx]
  exact ⟨_,rfl,fun _=>⟨fun e=>by subst e;simp at this,hQ⟩⟩
theorem W0q (b:List TStep):∀(xs:List TStep)(z:Int),0<z→E0c b xs z=B0x b xs z
 | [],z,_=>rfl
 | x::xs,z,hz=>by
  have h0:(z == 0)=false:=by simp;omega
  simp only [E0c,B0x,G0j,L0e,A0t,h0,cond_false,W0q b xs (z+1) (by omega)]
theorem W0s (b:List TStep):K0l b=F0q b:=by
 have hs:=S0v b
 match b with
 | []=>rfl
 | x::xs=>
  have hi0:idxL (x::xs) 0=some x:=rfl
  by_cases hA:x.At=0
  ·have e:E0c (x::xs) (x::xs) 0=B0x (x::xs) (x::xs) 0:=by
    have h1:(x.At != 0)=false:=by simp [hA]
    simp only [E0c,B0x,G0j,L0e,A0t,h1,W0q (x::xs) xs (0+1) (by omega)]
    rfl
   simp only [K0l,F0q,e,C0d,A0t,hi0,Option.bind_some,hA]
   congr 1
   funext _
   cases inR ((x::xs).length:Int) 1 8 <;> rfl
  have h1:(x.At != 0)=true:=by simp [hA]
  have h2:(x.At == 0)=false:=by simp [hA]
  have e:E0c (x::xs) (x::xs) 0=some (.inr false):=by
   simp only [E0c,G0j,L0e,Option.bind_some,h1]
   cases inR x.At 0 60 <;> cases inR x.Capacity 0 20 <;> rfl
  have hi:K0l (x::xs)=some false:=by simp only [K0l,e,A0i,Option.bind_some,Sum.elim_inr]
  rw [hi]
  rcases hs with h | ⟨h,_⟩
  ·simp only [F0q,h,A0i,Option.bind_some,Sum.elim_inr]
  simp only [F0q,h,A0i,Option.bind_some,Sum.elim_inl,A0t,hi0,h2]
  cases inR ((x::xs).length:Int) 1 8 <;> rfl
theorem X0q (r:B0u):K0m r=D0k r:=by simp only [K0m,D0k,S0f,W0s]
def ResF (r:B0u):Prop:=(∀ x∈r.Steps,(0≤x.At∧x.At≤60)∧0≤x.Capacity∧x.Capacity≤20)∧F0q r.Steps=some true∧(r.Setup.length=0∨r.Setup.length=4)∧∀ row∈r.Setup,row.length=4∧∀ n∈row,0≤n∧n≤12
theorem S0j (b:List Int):B0k b 0=some (.inr false)∨(B0k b 0=some (.inl ())∧∀ n∈b,0≤n∧n≤12):=
 N0l (F:=B0k) (c:=fun x _=>some (!inR x 0 12)) b (fun _=>rfl) (fun x xs z=>by simp only [B0k,A0t,Option.bind_some]) (fun x z _ _=>⟨_,rfl,fun h=>G0o.1 (by simpa using h)⟩)
theorem R0r (b:List (List Int)):B0e b 0=some (.inr false)∨(B0e b 0=some (.inl ())∧∀ row∈b,row.length=4∧∀ n∈row,0≤n∧n≤12):=by
 have key:∀ row:List Int,∃ e,(∀ xs z,B0e (row::xs) z=bif e then some (.inr false) else B0e xs (z+1))∧(e=false→row.length=4∧∀ n∈row,0≤n∧n≤12):=by
  intro row
  by_cases hl:row.length=4
  ·have e:((row.length:Int) != 4)=false:=by simp [hl]
   rcases S0j row with h | ⟨h,hQ⟩
   ·exact ⟨true,fun xs z=>by simp only [B0e,e,cond_false,h,A0i,Option.bind_some,Sum.elim_inr,cond_true],fun h=>by cases h⟩
   exact ⟨false,fun xs z=>by simp only [B0e,e,cond_false,h,A0i,Option.bind_some,Sum.elim_inl],fun _=>⟨hl,hQ⟩⟩
  have e:((row.length:Int) != 4)=true:=by simp;omega
  exact ⟨true,fun xs z=>by simp only [B0e,e,cond_true],fun h=>by cases h⟩
 exact N0l (F:=B0e) (c:=fun row _=>some (Classical.choose (key row))) b (fun _=>rfl) (fun x xs z=>(Classical.choose_spec (key x)).1 xs z) (fun x z _ _=>⟨_,rfl,(Classical.choose_spec (key x)).2⟩)
theorem V0m (r:B0u):∃ v,D0k r=some v∧(v=true→ResF r):=by
 rcases R0r r.Setup with h | ⟨h,hQ⟩
 ·exact ⟨false,by simp only [D0k,h,A0i,Option.bind_some,Sum.elim_inr],fun h=>by cases h⟩
 obtain ⟨v,hv,hf⟩:=Q0h r.Steps
 simp only [D0k,h,A0i,Option.bind_some,Sum.elim_inl,hv]
 cases v with
 | false=>exact ⟨false,rfl,fun h=>by cases h⟩
 | true=>
  refine ⟨_,by simp only [cond_true,D0y,Option.bind_some];rfl,fun he=>⟨(hf rfl).2,hv,?_,hQ⟩⟩
  by_cases h0:r.Setup.length=0
  ·exact .inl h0
  right
  rw [show ((r.Setup.length:Int) == 0)=false by rw [K0y];exact decide_eq_false (by omega),cond_false,K0y] at he
  have:=of_decide_eq_true he
  omega
def ModeF (m:TMode)(a b:Int):Prop:=(1≤m.Duration∧m.Duration≤12)∧((m.Usage.length:Int)=a∧∀ n∈m.Usage,0≤n∧n≤20)∧((m.Consumption.length:Int)=b∧∀ n∈m.Consumption,0≤n∧n≤20)
theorem T0s (l:List Int)(n:Int):∃ v,H0h l n=some v∧(v=true→(l.length:Int)=n∧∀ k∈l,0≤k∧k≤20):=by
 rcases N0l (F:=D0m) (c:=fun x _=>some (!inR x 0 20)) (Q:=fun k=>0≤k∧k≤20) l (fun _=>rfl) (fun x xs z=>by simp only [D0m,A0t,Option.bind_some]) (fun x z _ _=>⟨_,rfl,fun h=>G0o.1 (by simpa using h)⟩) with h | ⟨h,hQ⟩
 ·exact ⟨false,by simp only [H0h,h,A0i,Option.bind_some,Sum.elim_inr],fun h=>by cases h⟩
 exact ⟨_,by simp only [H0h,h,A0i,Option.bind_some,Sum.elim_inl];rfl,fun he=>⟨by simpa using he,hQ⟩⟩
theorem A1g (m:TMode)(a b:Int):∃ v,J0r m a b=some v∧(v=true→ModeF m a b):=by
 obtain ⟨u,hu,fu⟩:=T0s m.Usage a
 obtain ⟨k,hk,fk⟩:=T0s m.Consumption b
 simp only [J0r,A0t,Option.bind_some,hu,hk]
 cases hd:inR m.Duration 1 12 with
 | false=>exact ⟨false,rfl,fun h=>by cases h⟩
 | true=>cases u with
  | false=>exact ⟨false,rfl,fun h=>by cases h⟩
  | true=>cases k with
   | false=>exact ⟨false,rfl,fun h=>by cases h⟩
   | true=>exact ⟨true,rfl,fun _=>⟨G0o.1 hd,fu rfl,fk rfl⟩⟩
theorem A1r {α:Type}{c:Bool}{x y:α}{P:α→Prop}(hx:P x)(hy:P y):P (bif c then x else y):=by cases c <;> assumption
theorem C1t {s:ByteArray}{z:Int}(h0:0≤z)(h:z<s.size):∃ v,idxS s z=some v:=by
 have hlt:z.toNat<s.size:=by omega
 exact ⟨_,by unfold idxS;rw [if_pos h0,getElem?_pos s z.toNat hlt];rfl⟩
theorem R0d (s:ByteArray)(hs:s.size≤9223372036854775807):∀(n:Nat)(a:Int),0≤a→a≤s.size→(s.size:Int)<a+n→E0h s n a=some (.inr false)∨E0h s n a=some (.inl ())
 | 0,a,h0,h1,h2=>by omega
 | n+1,a,h0,h1,h2=>by
  by_cases hlt:a<s.size
  ·obtain ⟨v,hv⟩:=C1t h0 hlt
   have ih:=R0d s hs n (a+1) (by omega) (by omega) (by omega)
   rw [← W_of (n:=a+1) (by omega)] at ih
   simp only [E0h,show decide (a<(s.size:Int))=true by simpa using hlt,cond_true,hv,Option.bind_some,D0y]
   exact A1r (P:=fun (o:Option (Unit ⊕ Bool))=>o=some (.inr false)∨o=some (.inl ())) (.inl rfl) ih
  right
  simp only [E0h,show decide (a<(s.size:Int))=false by simpa using hlt,cond_false]
theorem Z0v (s:ByteArray)(hs:s.size≤9223372036854775807):∃ v,K0i s=some v:=by
 rcases R0d s hs F0 0 (Int.le_refl _) (by omega) (by have:=F0_gt;omega) with h | h
 ·exact ⟨false,by simp only [K0i,h,A0i,Option.bind_some,Sum.elim_inr]⟩
 exact ⟨_,by simp only [K0i,h,A0i,Option.bind_some,Sum.elim_inl,A0t];rfl⟩
def ActF (x:A0g)(a b:Int):Prop:=(0≤x.Family∧x.Family≤3)∧(1≤x.Modes.length∧x.Modes.length≤3)∧∀ m∈x.Modes,ModeF m a b
theorem V0v (x:A0g)(a b:Int)(hs:x.Name.size≤9223372036854775807):∃ v,C0w x a b=some v∧(v=true→ActF x a b):=by
 rcases N0l (F:=B0t a b) (c:=fun m _=>(J0r m a b).bind fun v=>some (!v)) (Q:=fun m=>ModeF m a b) x.Modes (fun _=>rfl) (fun m xs z=>by
   simp only [B0t]
   cases J0r m a b <;> rfl) (fun m z _ _=>by
   obtain ⟨v,hv,hf⟩:=A1g m a b
   rw [hv]
   exact ⟨_,rfl,fun h=>hf (by simpa using h)⟩) with h | ⟨h,hQ⟩
 ·exact ⟨false,by simp only [C0w,h,A0i,Option.bind_some,Sum.elim_inr],fun h=>by cases h⟩
 obtain ⟨v,hv⟩:=Z0v x.Name hs
 simp only [C0w,h,A0i,Option.bind_some,Sum.elim_inl,hv,A0t]
 cases v with
 | false=>exact ⟨false,rfl,fun h=>by cases h⟩
 | true=>
  cases hf:inR x.Family 0 3 with
  | false=>exact ⟨false,rfl,fun h=>by cases h⟩
  | true=>exact ⟨_,rfl,fun he=>⟨G0o.1 hf,by have:=G0o.1 he;omega,hQ⟩⟩
theorem S0a (p:A0a)(nm:ByteArray):∃ v,C0b p nm=some v:=by
 have:∀(xs:List A0g)(z:Int),∃ o,B0h nm xs z=some o:=by
  intro xs
  induction xs with
  | nil=>exact fun z=>⟨_,rfl⟩
  | cons x xs ih=>
   intro z
   obtain ⟨o,ho⟩:=ih (z+1)
   exact ⟨_,by rw [B0h,ho,D0y]⟩
 obtain ⟨o,ho⟩:=this p.Activities 0
 cases o with
 | inl u=>exact ⟨_,by simp only [C0b,ho,A0i,Option.bind_some,Sum.elim_inl];rfl⟩
 | inr u=>exact ⟨_,by simp only [C0b,ho,A0i,Option.bind_some,Sum.elim_inr];rfl⟩
theorem Y0d (p:A0a)(k:TLink):B0n k p=some (!(inR k.From 0 (W ((p.Activities.length:Int) - 1)) && (inR k.To 0 (W ((p.Activities.length:Int) - 1)) && (k.From != k.To && inR k.Lag (-60) 60)))):=by
 simp only [B0n,H0r,G0z,C0d,Option.bind_some,D0y,D1a]
theorem A1z (p:A0a)(k:TLink):((C0n k.From 0 (W ((p.Activities.length:Int) - 1))).bind fun v68=>(bif (!v68) then some true else (C0n k.To 0 (W ((p.Activities.length:Int) - 1))).bind fun v71=>(bif (!v71) then some true else (bif (k.From == k.To) then some true else (C0n k.Lag (-60) 60).bind fun v74=>some (!v74)))))=B0n k p:=by
 rw [Y0d]
 simp only [A0t,Option.bind_some,D0y,K0y,T0k]
 cases inR k.From 0 (W ((p.Activities.length:Int) - 1)) <;> cases inR k.To 0 (W ((p.Activities.length:Int) - 1)) <;> cases inR k.Lag (-60) 60 <;> cases decide (k.From=k.To) <;> rfl
theorem A1n (p:A0a):∀(xs:List TLink)(z:Int),0≤z→∃ o,B0i (fun x=>B0n x p) xs z=some o∧((o=.inl ()∧B0j p xs z=some (.inl ()))∨∃ k,o=.inr k∧0≤k∧B0j p xs z=some (.inr false))
 | [],z,hz=>⟨.inl (),rfl,.inl ⟨rfl,rfl⟩⟩
 | x::xs,z,hz=>by
  obtain ⟨o,ho,hc⟩:=A1n p xs (z+1) (by omega)
  have e1:B0j p (x::xs) z=(B0n x p).bind fun e=>bif e then some (.inr false) else B0j p xs (z+1):=by
   rw [← A1z]
   simp only [B0j,A0t,Option.bind_some]
  have e2:B0i (fun x=>B0n x p) (x::xs) z=(B0n x p).bind fun e=>bif e then some (.inr z) else B0i (fun x=>B0n x p) xs (z+1):=rfl
  rw [e1,e2,Y0d,Option.bind_some,Option.bind_some]
  cases hb:(!(inR x.From 0 (W ((p.Activities.length:Int) - 1)) && (inR x.To 0 (W ((p.Activities.length:Int) - 1)) && (x.From != x.To && inR x.Lag (-60) 60)))) with
  | true=>exact ⟨_,rfl,.inr ⟨z,rfl,hz,rfl⟩⟩
  | false=>exact ⟨o,ho,hc⟩
theorem T0z (p:A0a):∀(xs:List A0g)(z:Int),F0v p xs z=C0g p xs z
 | [],z=>rfl
 | x::xs,z=>by simp only [F0v,C0g,Y0c,U0k,T0z p xs]
theorem U0b:∀(xs:List B0u)(z:Int),F0r xs z=C0i xs z
 | [],z=>rfl
 | x::xs,z=>by simp only [F0r,C0i,X0q,U0b xs]
theorem T0w:∀(xs:List Int)(z:Int),F0s xs z=C0j xs z
 | [],z=>rfl
 | x::xs,z=>by simp only [F0s,C0j,C0d,A0t,T0w xs]
theorem K0s (p:A0a):G0q p=E0v p:=by
 obtain ⟨o,ho,hc⟩:=A1n p p.Links 0 (Int.le_refl _)
 have e:(C0a p.Links (fun x=>B0n x p)).bind (fun v=>some (!v))=A0i (B0j p p.Links 0) (fun q=>some q) fun _=>some true:=by
  rcases hc with ⟨rfl,h2⟩ | ⟨k,rfl,hk,h2⟩
  ·simp only [C0a,D0z,ho,h2,A0i,Option.bind_some,Sum.elim_inl];rfl
  simp only [C0a,D0z,ho,h2,A0i,Option.bind_some,Sum.elim_inr]
  simp [hk]
 simp only [G0q,E0v,T0z,U0b,T0w,C0d,A0t,e]
structure ProjF (p:A0a):Prop where
 deadline:1≤p.Deadline∧p.Deadline≤60
 nact:1≤p.Activities.length∧p.Activities.length≤6
 nres:p.Resources.length≤3
 nstk:p.Stocks.length≤2
 nlnk:p.Links.length≤12
 acts:∀ x∈p.Activities,ActF x p.Resources.length p.Stocks.length
 ress:∀ r∈p.Resources,ResF r
 stks:∀ n∈p.Stocks,0≤n∧n≤100
 lnks:∀ k∈p.Links,(0≤k.From∧k.From<p.Activities.length)∧(0≤k.To∧k.To<p.Activities.length)∧k.From≠k.To∧-60≤k.Lag∧k.Lag≤60
theorem W0j (p:A0a)(hs:∀ x∈p.Activities,x.Name.size≤9223372036854775807):∃ v,E0v p=some v∧(v=true→ProjF p):=by
 simp only [E0v,A0t,Option.bind_some,D0y]
 cases hd:inR p.Deadline 1 60 with
 | false=>exact ⟨false,rfl,fun h=>by cases h⟩
 | true=>
 cases ha:inR (p.Activities.length:Int) 1 6 with
 | false=>exact ⟨false,rfl,fun h=>by cases h⟩
 | true=>
 cases hr:decide (3<(p.Resources.length:Int)) with
 | true=>exact ⟨false,rfl,fun h=>by cases h⟩
 | false=>
 cases hk:decide (2<(p.Stocks.length:Int)) with
 | true=>exact ⟨false,rfl,fun h=>by cases h⟩
 | false=>
 cases hl:decide (12<(p.Links.length:Int)) with
 | true=>exact ⟨false,rfl,fun h=>by cases h⟩
 | false=>
 simp only [Bool.not_true,cond_false]
 have hd:=G0o.1 hd
 have ha:=G0o.1 ha
 have hr:=of_decide_eq_false hr
 have hk:=of_decide_eq_false hk
 have hl:=of_decide_eq_false hl
 have k1:∀ x,x∈p.Activities→∃ v,C0w x p.Resources.length p.Stocks.length=some v∧(v=true→ActF x p.Resources.length p.Stocks.length):=fun x hx=>V0v x _ _ (hs x hx)
 have l1:=N0l (F:=C0g p) (Q:=fun x=>ActF x p.Resources.length p.Stocks.length) (c:=fun x z=>(C0w x p.Resources.length p.Stocks.length).bind fun v20=>(bif (!v20) then some true else (C0b p x.Name).bind fun v23=>some (v23 != z))) p.Activities (fun _=>rfl) (fun x xs z=>by
   simp only [C0g]
   cases C0w x p.Resources.length p.Stocks.length <;> rfl) (fun x z _ hx=>by
   obtain ⟨v,hv,hf⟩:=k1 x (H0j hx).2
   obtain ⟨u,hu⟩:=S0a p x.Name
   rw [hv,hu]
   cases v with
   | false=>exact ⟨true,rfl,fun h=>by cases h⟩
   | true=>exact ⟨_,rfl,fun _=>hf rfl⟩)
 have l2:=N0l (F:=C0i) (Q:=ResF) (c:=fun x _=>(D0k x).bind fun v=>some (!v)) p.Resources (fun _=>rfl) (fun x xs z=>by
   simp only [C0i]
   cases D0k x <;> rfl) (fun x z _ hx=>by
   obtain ⟨v,hv,hf⟩:=V0m x
   rw [hv]
   exact ⟨_,rfl,fun h=>hf (by simpa using h)⟩)
 have l3:=N0l (F:=C0j) (Q:=fun n=>0≤n∧n≤100) (c:=fun x _=>some (!inR x 0 100)) p.Stocks (fun _=>rfl) (fun x xs z=>by simp only [C0j,A0t,Option.bind_some]) (fun x z _ _=>⟨_,rfl,fun h=>G0o.1 (by simpa using h)⟩)
 have l4:=N0l (F:=B0j p) (Q:=fun k=>(0≤k.From∧k.From<p.Activities.length)∧(0≤k.To∧k.To<p.Activities.length)∧k.From≠k.To∧-60≤k.Lag∧k.Lag≤60) (c:=fun x _=>B0n x p) p.Links (fun _=>rfl) (fun x xs z=>by
   rw [← A1z]
   simp only [B0j,A0t,Option.bind_some]) (fun x z _ _=>⟨_,Y0d p x,fun h=>by
   have h:(inR x.From 0 (W ((p.Activities.length:Int) - 1)) && (inR x.To 0 (W ((p.Activities.length:Int) - 1)) && (x.From != x.To && inR x.Lag (-60) 60)))=true:=by simpa using h
   simp only [Bool.and_eq_true] at h
   have h1:=G0o.1 h.1
   have h2:=G0o.1 h.2.1
   have h4:=G0o.1 h.2.2.2
   have h3:x.From≠x.To:=by simpa using h.2.2.1
   rw [W_of (by omega)] at h1 h2
   exact ⟨by omega,by omega,h3,h4⟩⟩)
 rcases l1 with h | ⟨h,q1⟩
 ·exact ⟨false,by simp only [h,A0i,Option.bind_some,Sum.elim_inr],fun h=>by cases h⟩
 simp only [h,A0i,Option.bind_some,Sum.elim_inl]
 rcases l2 with h | ⟨h,q2⟩
 ·exact ⟨false,by simp only [h,Option.bind_some,Sum.elim_inr],fun h=>by cases h⟩
 simp only [h,Option.bind_some,Sum.elim_inl]
 rcases l3 with h | ⟨h,q3⟩
 ·exact ⟨false,by simp only [h,Option.bind_some,Sum.elim_inr],fun h=>by cases h⟩
 simp only [h,Option.bind_some,Sum.elim_inl]
 rcases l4 with h | ⟨h,q4⟩
 ·exact ⟨false,by simp only [h,Option.bind_some,Sum.elim_inr],fun h=>by cases h⟩
 simp only [h,Option.bind_some,Sum.elim_inl]
 exact ⟨true,rfl,fun _=>⟨hd,by omega,by omega,by omega,by omega,q1,q2,q3,q4⟩⟩
theorem S0q (t:Int):∀(xs:List TStep)(z a:Int),D0w t xs z a=K0g t xs z a
 | [],z,a=>rfl
 | x::xs,z,a=>by simp only [D0w,K0g,S0q t xs]
theorem N0t (b:List TStep)(t:Int):G0d b t=V0l b t:=by simp only [G0d,V0l,S0q]
theorem N0s (t:Int):∀(xs:List TStep)(z a:Int),(∀ x∈xs,0≤x.Capacity∧x.Capacity≤20)→0≤a∧a≤20→∃ v,K0g t xs z a=some v∧0≤v∧v≤20
 | [],z,a,_,ha=>⟨a,rfl,ha⟩
 | x::xs,z,a,hx,ha=>by
  rw [K0g]
  have h1:=N0s t xs (z+1) x.Capacity (fun y hy=>hx y (List.mem_cons_of_mem _ hy)) (hx x (List.mem_cons_self ..))
  have h2:=N0s t xs (z+1) a (fun y hy=>hx y (List.mem_cons_of_mem _ hy)) ha
  exact A1r (P:=fun (o:Option Int)=>∃ v,o=some v∧0≤v∧v≤20) h1 h2
theorem X0b (b:List TStep)(t:Int)(hb:∀ x∈b,0≤x.Capacity∧x.Capacity≤20):∃ v,V0l b t=some v∧0≤v∧v≤20:=by
 obtain ⟨v,hv,h⟩:=N0s t b 0 0 hb (by omega)
 exact ⟨v,by simp only [V0l,hv,Option.bind_some],h⟩
theorem P0f (b:List TStep)(y:Int):∀(n:Nat)(a t:Int),D0d b y n a t=E0g b y n a t
 | 0,a,t=>rfl
 | n+1,a,t=>by simp only [D0d,E0g,N0t,P0f b y n]
theorem U0h (b:List TStep)(x y:Int):D0f b x y=J0v b x y:=by
 obtain ⟨v,hv,_⟩:=Q0h b
 simp only [D0f,J0v,V0i,W0s,G0j,A0t,hv,Option.bind_some,P0f]
 cases v <;> cases inR x 0 60 <;> cases inR y 0 60 <;> rfl
theorem K0p (b:List TStep)(hb:∀ x∈b,0≤x.Capacity∧x.Capacity≤20)(y:Int)(hy:y≤60):∀(n:Nat)(a t:Int),0≤t→y - t<n→0<n→∃ v,E0g b y n a t=some v
 | 0,a,t,h0,h1,h2=>by omega
 | n+1,a,t,h0,h1,h2=>by
  rw [E0g]
  by_cases hlt:t<y
  ·obtain ⟨v,hv,_⟩:=X0b b t hb
   rw [show decide (t<y)=true by simpa using hlt,cond_true,hv,Option.bind_some,W_of (n:=t+1) (by omega)]
   exact K0p b hb y hy n _ (t+1) (by omega) (by omega) (by omega)
  rw [show decide (t<y)=false by simpa using hlt]
  exact ⟨a,rfl⟩
theorem T0a (b:List TStep)(x y:Int):∃ v,J0v b x y=some v:=by
 obtain ⟨v,hv,hf⟩:=Q0h b
 simp only [J0v,V0i,A0t,hv,Option.bind_some]
 cases v with
 | false=>exact ⟨0,rfl⟩
 | true=>
  cases hx:inR x 0 60 with
  | false=>exact ⟨0,rfl⟩
  | true=>
   cases hy:inR y 0 60 with
   | false=>exact ⟨0,rfl⟩
   | true=>
    have hx:=G0o.1 hx
    have hy:=G0o.1 hy
    obtain ⟨u,hu⟩:=K0p b (fun z hz=>((hf rfl).2 z hz).2) y hy.2 F0 0 x hx.1 (by have:=F0_gt;omega) (by have:=F0_gt;omega)
    exact ⟨u,by simp only [cond_true,cond_false,Bool.not_true,Option.bind_some,hu]⟩
theorem P0q (n:Int):∀(xs:List Int)(z:Int),0≤z→(n∈xs→∃ k,B0q n xs z=some (.inr k)∧0≤k)∧(n∉xs→B0q n xs z=some (.inl ()))
 | [],z,hz=>⟨fun h=>(by cases h),fun _=>rfl⟩
 | x::xs,z,hz=>by
  by_cases hx:n=x
  ·have e:(n == x)=true:=by simp [hx]
   exact ⟨fun _=>⟨z,by simp only [B0q,e,cond_true],hz⟩,fun h=>absurd (by simp [hx]) h⟩
  have e:(n == x)=false:=by simp [hx]
  have ih:=P0q n xs (z+1) (by omega)
  simp only [B0q,e,cond_false,List.mem_cons,hx,false_or]
  exact ih
theorem N0z (l:List Int)(n:Int):L0i l n=some (decide (n∈l)):=by
 have h:=P0q n l 0 (Int.le_refl _)
 by_cases hn:n∈l
 ·obtain ⟨k,hk,h0⟩:=h.1 hn
  simp [L0i,E0x,G0x,hk,A0i,h0,hn]
 simp [L0i,E0x,G0x,h.2 hn,A0i,hn]
theorem Q0x (n:Int):∀(xs:List Int)(z:Int),N0j n xs z=some (if n∈xs then .inr true else .inl ())
 | [],z=>rfl
 | x::xs,z=>by
  rw [N0j,Q0x n xs,K0y]
  by_cases hx:x=n
  ·simp [hx]
  have:n≠x:=fun e=>hx e.symm
  simp [hx,this]
theorem N0i (l:List Int)(n:Int):S0l l n=some (decide (n∈l)):=by
 simp only [S0l,Q0x,A0i,Option.bind_some]
 by_cases hn:n∈l <;> simp [hn]
theorem U0a (b:List Int):∀(xs:List Int)(z:Int),F0t b xs z=F0w b xs z
 | [],z=>rfl
 | x::xs,z=>by simp only [F0t,F0w,N0z,N0i,U0a b xs]
theorem Z0j (a b:List Int):M0h a b=L0y a b:=by simp only [M0h,L0y,U0a]
theorem B1f (b:List Int)(hb:b.length≤1048576):∀(xs:List Int)(z:Int)(n:Nat),0<z→b.drop z.toNat=xs→xs.length<n→J0j b n z=H0m b xs z
 | [],z,n,hz,hd,hn=>by
  obtain _ | n:=n
  ·simp at hn
  have:(b.length:Int)≤z:=by
   have:=congrArg List.length hd
   simp at this;omega
  rw [J0j,show decide (z<(b.length:Int))=false by simpa using this];rfl
 | x::xs,z,n,hz,hd,hn=>by
  obtain _ | n:=n
  ·simp at hn
  obtain ⟨h1,h2⟩:=P0t (by omega) hd
  have h3:=(H0j h1).1
  obtain ⟨y,hy⟩:=Y0v h1 hz
  have ih:=B1f b hb xs (z+1) n (by omega) h2 (by simp at hn;omega)
  rw [J0j,H0m,show decide (z<(b.length:Int))=true by simpa using h3,cond_true,h1,Option.bind_some,W_of (n:=z - 1) (by omega),hy,Option.bind_some,W_of (n:=z+1) (by omega),ih,show decide (0<z)=true by simpa using hz,cond_true]
  rfl
theorem D1j (b:List Int)(hb:b.length≤1048576):V0n b=V0w b:=by
 match b with
 | []=>rfl
 | x::xs=>
  have:=B1f (x::xs) hb xs 1 F0 (by omega) rfl (by have:=F0_gt;simp at hb;omega)
  have e:H0m (x::xs) (x::xs) 0=H0m (x::xs) xs 1:=rfl
  simp only [V0n,V0w,e,this]
theorem V0p (b:Int):∀(n:Nat)(a:Int)(l:List Int),G0k b n a l=E0m b n a l
 | 0,a,l=>rfl
 | n+1,a,l=>by simp only [G0k,E0m,V0p b n]
theorem W0c (b:Int):K0d b=K0h b:=by simp only [K0d,K0h,C0d,A0t,V0p]
def C0m (n:Nat):List Int:=(List.range n).map fun (i:Nat)=>(i:Int)
theorem P0g (m:Nat)(hm:m≤200):∀(n:Nat)(k:Nat),k≤m→m - k<n→E0m m n k (C0m k)=some (C0m m)
 | 0,k,h0,h1=>by omega
 | n+1,k,h0,h1=>by
  rw [E0m]
  by_cases hlt:k<m
  ·have e:C0m k ++ [(k:Int)]=C0m (k+1):=by simp [C0m,List.range_succ]
   have ha:appL (C0m k) [(k:Int)]=some (C0m (k+1)):=by
    unfold appL
    rw [if_pos (by simp [C0m];omega),e]
   rw [show decide ((k:Int)<(m:Int))=true by simpa using hlt,cond_true,ha,Option.bind_some,W_of (n:=(k:Int)+1) (by omega)]
   exact P0g m hm n (k+1) (by omega) (by omega)
  rw [show decide ((k:Int)<(m:Int))=false by simpa using hlt,show k=m by omega];rfl
theorem R0v (n:Nat)(hn:n≤200):K0h n=some (C0m n):=by
 have:=P0g n hn F0 0 (by omega) (by have:=F0_gt;omega)
 have e:(C0m 0:List Int)=[]:=rfl
 rw [e] at this
 simp only [K0h,A0t,show inR (n:Int) 0 200=true from G0o.2 (by omega),Option.bind_some,Bool.not_true,cond_false]
 rw [show (0:Int)=((0:Nat):Int) from rfl,this];rfl
theorem B1g {α ρ:Type}{F:List α→Int→Option (Unit ⊕ ρ)}{b:List α}{Q:Int→α→Prop}{c:α→Int→Option Bool}{r:ρ}(h0:∀ z,F [] z=some (.inl ()))
  (h1:∀ x xs z,F (x::xs) z=(c x z).bind fun e=>bif e then some (.inr r) else F xs (z+1)) (hc:∀ x z,0≤z→idxL b z=some x→∃ e,c x z=some e∧(e=false→Q z x)) :
  ∀(xs:List α)(z:Int),0≤z→b.drop z.toNat=xs→F xs z=some (.inr r)∨(F xs z=some (.inl ())∧∀ y x,z≤y→idxL b y=some x→Q y x)
 | [],z,hz,hd=>.inr ⟨h0 z,fun y x hy hx=>by
   have:=(H0j hx).1
   have:=congrArg List.length hd
   simp at this;omega⟩
 | x::xs,z,hz,hd=>by
  obtain ⟨h2,h3⟩:=P0t hz hd
  obtain ⟨e,he,hq⟩:=hc x z hz h2
  rw [h1,he,Option.bind_some]
  cases e with
  | true=>exact .inl rfl
  | false=>
   rw [cond_false]
   rcases B1g h0 h1 hc xs (z+1) (by omega) h3 with h | ⟨h,hQ⟩
   ·exact .inl h
   ·exact .inr ⟨h,fun y x' hy hx=>by
     by_cases e:y=z
     ·subst e
      rw [h2] at hx;cases hx
      exact hq rfl
     exact hQ y x' (by omega) hx⟩
theorem D1p {α ρ:Type}{F:List α→Int→Option (Unit ⊕ ρ)}{Q:Int→α→Prop}{c:α→Int→Option Bool}{r:ρ}(b:List α)(h0:∀ z,F [] z=some (.inl ()))
  (h1:∀ x xs z,F (x::xs) z=(c x z).bind fun e=>bif e then some (.inr r) else F xs (z+1)) (hc:∀ x z,0≤z→idxL b z=some x→∃ e,c x z=some e∧(e=false→Q z x)) :
  F b 0=some (.inr r)∨(F b 0=some (.inl ())∧∀ y x,idxL b y=some x→Q y x):=
 (B1g h0 h1 hc b 0 (Int.le_refl _) rfl).imp id fun ⟨h,hQ⟩=>⟨h,fun y x hx=>hQ y x (A0d hx).1 hx⟩
theorem X0h {n:Int}{k:Nat}(h:n∈C0m k):0≤n∧n<k:=by
 simp only [C0m,List.mem_map,List.mem_range] at h
 obtain ⟨i,hi,rfl⟩:=h
 omega
theorem P0h (x:A0g)(h:x.Modes.length≤200):F0i x=some (C0m x.Modes.length):=by simp only [F0i,R0v _ h,Option.bind_some]
theorem W0o (x:A0g):J0p x=F0i x:=by simp only [J0p,F0i,W0c]
theorem S0r (p:A0a)(b:A0f)(hb:∀ ms∈b.Modes,ms.length≤1048576):∀(xs:List A0g)(ys:List (List Int))(z:Int),0≤z→p.Activities.drop z.toNat=xs→b.Modes.drop z.toNat=ys→xs.length=ys.length→E0s p b ys z=E0q b xs z
 | [],[],z,_,_,_,_=>rfl
 | [],_::_,z,_,_,_,h=>by simp at h
 | _::_,[],z,_,_,_,h=>by simp at h
 | x::xs,y::ys,z,hz,h1,h2,h3=>by
  obtain ⟨a1,a2⟩:=P0t hz h1
  obtain ⟨b1,b2⟩:=P0t hz h2
  have ih:=S0r p b hb xs ys (z+1) (by omega) a2 b2 (by simpa using h3)
  simp only [E0s,E0q,Y0w,A0t,Option.bind_some,a1,b1,ih,W0o,Z0j,D1j y (hb y (H0j b1).2)]
theorem X0l (p:A0a)(b:A0f)(hb:∀ ms∈b.Modes,ms.length≤1048576):K0v p b=K0j p b:=by
 simp only [K0v,K0j,K0s,T0k]
 by_cases h:(b.Modes.length:Int)=p.Activities.length
 ·rw [S0r p b hb p.Activities b.Modes 0 (Int.le_refl _) rfl rfl (by omega)]
 simp only [h,decide_false,Bool.not_false]
 cases E0v p with
 | none=>rfl
 | some v=>
  cases v
  ·rfl
  simp only [Option.bind_some,Bool.not_true,cond_false]
  cases decide ((b.MinStart.length:Int)=p.Activities.length) <;> cases decide ((b.MaxStart.length:Int)=p.Activities.length) <;> rfl
theorem R0c (b:A0f):∀(xs:List Int)(z:Int),E0i b xs z=B0v b xs z
 | [],z=>rfl
 | x::xs,z=>by simp only [E0i,B0v,R0c b xs]
theorem M0n:∀(xs:List (List Int))(z:Int),0≤z→(B0f (fun x=>D0l x) xs z=some (.inl ())∧B0s xs z=some (.inl ())∧∀ m∈xs,m≠[])∨∃ k,B0f (fun x=>D0l x) xs z=some (.inr k)∧0≤k∧B0s xs z=some (.inr true)
 | [],z,hz=>.inl ⟨rfl,rfl,by simp⟩
 | x::xs,z,hz=>by
  have e1:B0f (fun x=>D0l x) (x::xs) z=bif ((x.length:Int) == 0) then some (.inr z) else B0f (fun x=>D0l x) xs (z+1):=rfl
  rw [e1,B0s,K0y]
  by_cases hx:(x.length:Int)=0
  ·right;exact ⟨z,by simp [hx],hz,by simp [hx]⟩
  rw [show decide ((x.length:Int)=0)=false by simpa using hx,cond_false,cond_false]
  rcases M0n xs (z+1) (by omega) with ⟨h1,h2,h3⟩ | h
  ·left;exact ⟨h1,h2,fun m hm=>by
    rcases List.mem_cons.1 hm with rfl | hm
    ·intro e;subst e;simp at hx
    exact h3 m hm⟩
  exact .inr h
theorem W0m (b:A0f):J0q b=C0r b:=by
 simp only [J0q,C0r,R0c]
 congr 1
 funext _
 rcases M0n b.Modes 0 (Int.le_refl _) with ⟨h1,h2,_⟩ | ⟨k,h1,h0,h2⟩
 ·simp [C0x,E0a,h1,h2,A0i]
 simp [C0x,E0a,h1,h2,A0i,h0]
theorem U0g (b:A0f):∃ v,C0r b=some v∧(v=false→(∀ a m1 m2,idxL b.MinStart a=some m1→idxL b.MaxStart a=some m2→m1≤m2)∧∀ m∈b.Modes,m≠[]):=by
 rcases D1p (F:=B0v b) (Q:=fun a m1=>∀ m2,idxL b.MaxStart a=some m2→m1≤m2) (c:=fun x z=>(bif (decide (z<(b.MaxStart.length:Int))) then (idxL b.MaxStart z).bind fun v14=>some (decide (v14<x)) else some false)) b.MinStart (fun _=>rfl) (fun x xs z=>rfl) (fun x z hz hx=>by
   by_cases h:z<b.MaxStart.length
   ·obtain ⟨y,hy,_⟩:=K0r hz h
    rw [show decide (z<(b.MaxStart.length:Int))=true by simpa using h,cond_true,hy]
    exact ⟨_,rfl,fun h m2 hm=>by cases hm;simpa using h⟩
   rw [show decide (z<(b.MaxStart.length:Int))=false by simpa using h]
   exact ⟨_,rfl,fun _ m2 hm=>absurd (H0j hm).1 h⟩) with h | ⟨h,hQ⟩
 ·exact ⟨true,by simp only [C0r,h,A0i,Option.bind_some,Sum.elim_inr],fun h=>by cases h⟩
 rcases M0n b.Modes 0 (Int.le_refl _) with ⟨h1,h2,h3⟩ | ⟨k,h1,h0,h2⟩
 ·exact ⟨false,by simp only [C0r,h,h2,A0i,Option.bind_some,Sum.elim_inl],fun _=>⟨fun a m1 m2 a1 a2=>hQ a m1 a1 m2 a2,h3⟩⟩
 exact ⟨true,by simp only [C0r,h,h2,A0i,Option.bind_some,Sum.elim_inl,Sum.elim_inr],fun h=>by cases h⟩
theorem D1q (p:A0a)(b:A0f)(hb:∀ ms∈b.Modes,ms.length≤1048576):E0d p b=A1h p b:=by simp only [E0d,A1h,X0l p b hb,W0m]
def G0t (ms:List Int):List TMode→Int→List TMode
 | [],_=>[]
 | x::xs,z=>if z∈ms then x::G0t ms xs (z+1) else G0t ms xs (z+1)
theorem M0m (ms:List Int):∀(xs:List TMode)(z:Int)(acc:List TMode),acc.length+xs.length≤1048576→G0l ms xs z acc=some (acc ++ G0t ms xs z)
 | [],z,acc,_=>by simp [G0l,G0t]
 | x::xs,z,acc,h=>by
  simp at h
  rw [G0l,N0z,Option.bind_some]
  by_cases hz:z∈ms
  ·have ha:appL acc [x]=some (acc ++ [x]):=by unfold appL;rw [if_pos (by simp;omega)]
   rw [show decide (z∈ms)=true by simpa using hz,cond_true,ha,Option.bind_some,M0m ms xs (z+1) _ (by simp;omega)]
   simp [G0t,hz]
  rw [show decide (z∈ms)=false by simpa using hz,cond_false,M0m ms xs (z+1) _ (by omega)]
  simp [G0t,hz]
theorem V0z (x:A0g)(ms:List Int)(h:x.Modes.length≤1048576):Q0n x ms=some (G0t ms x.Modes 0):=by
 simp only [Q0n,M0m ms x.Modes 0 [] (by simpa using h),Option.bind_some,List.nil_append]
def J0z (f:TMode→Int):List TMode→Int→Bool→Int
 | [],a,_=>a
 | x::xs,a,has=>bif (!has || decide (f x<a)) then J0z f xs (f x) true else J0z f xs a has
theorem J0c (ms:List Int):∀(xs:List TMode)(z a:Int)(has:Bool),G0w ms xs z a has=some (J0z TMode.Duration (G0t ms xs z) a has)
 | [],z,a,has=>rfl
 | x::xs,z,a,has=>by
  rw [G0w,N0i,Option.bind_some,J0c ms xs,J0c ms xs]
  by_cases hz:z∈ms
  ·simp only [hz,decide_true,cond_true,D0y,E1b,Option.bind_some,G0t,if_true,J0z]
  simp only [hz,decide_false,cond_false,D0y,Option.bind_some,G0t,if_false]
theorem P0b (x:A0g)(ms:List Int):N0p x ms=some (J0z TMode.Duration (G0t ms x.Modes 0) 0 false):=by
 simp only [N0p,J0c,Option.bind_some]
theorem H0z:∀(xs:List TMode)(z a:Int),0<z→C0q xs z a=some (J0z TMode.Duration xs a true)
 | [],z,a,_=>rfl
 | x::xs,z,a,hz=>by
  rw [C0q,H0z xs (z+1) _ (by omega),H0z xs (z+1) _ (by omega),show (z == 0)=false by rw [K0y];exact decide_eq_false (by omega)]
  simp only [cond_false,Option.bind_some,D0y,J0z,Bool.not_true,Bool.false_or]
theorem U0m (x:A0g)(ms:List Int)(h:x.Modes.length≤1048576):G0m x ms=N0p x ms:=by
 rw [P0b]
 simp only [G0m,V0z x ms h,Option.bind_some]
 match G0t ms x.Modes 0 with
 | []=>rfl
 | y::ys=>
  simp only [C0q,H0z ys (0+1) _ (by omega)]
  simp [J0z]
def eltO (l:List Int)(k:Int):Option Int:=bif inR k 0 (W ((l.length:Int) - 1)) then idxL l k else none
theorem Y0r (l:List Int)(k:Int):Q0g l k=some (match eltO l k with | some v=>(v,true) | none=>(0,false)):=by
 simp only [Q0g,C0d,Option.bind_some,eltO]
 cases h:inR k 0 (W ((l.length:Int) - 1)) with
 | false=>rfl
 | true=>
  obtain ⟨x,hx,_⟩:=X0d h
  simp [hx]
def P0d (f:TMode→Option Int):List TMode→Int→Bool→Int ⊕ Int
 | [],a,_=>.inl a
 | x::xs,a,has=>match f x with
  | none=>.inr 0
  | some v=>bif (!has || decide (v<a)) then P0d f xs v true else P0d f xs a true
def amtO (k:Int)(cons work:Bool)(x:TMode):Option Int:=(eltO (bif cons then x.Consumption else x.Usage) k).map fun v=>bif work then W (v*x.Duration) else v
theorem K0x (ms:List Int)(k:Int)(b3 b4:Bool):∀(xs:List TMode)(z a:Int)(has:Bool),H0l ms k b3 b4 xs z a has=some (P0d (amtO k b3 b4) (G0t ms xs z) a has)
 | [],z,a,has=>rfl
 | x::xs,z,a,has=>by
  rw [H0l,N0i,Option.bind_some]
  by_cases hz:z∈ms
  ·simp only [hz,decide_true,Bool.not_true,cond_false,D0y,Option.bind_some,A0t,G0t,if_true,P0d,amtO,eltO,K0x ms k b3 b4 xs]
   cases h:inR k 0 (W (((bif b3 then x.Consumption else x.Usage).length:Int) - 1)) with
   | false=>rfl
   | true=>
    obtain ⟨v,hv,_⟩:=X0d h
    simp only [hv,Bool.not_true,cond_false,cond_true,Option.bind_some,Option.map_some]
    cases has <;> simp only [Bool.not_false,Bool.not_true,cond_true,cond_false,Bool.true_or,Bool.false_or,Option.bind_some] <;> first | rfl | exact D0y _ _ _
  simp only [hz,decide_false,Bool.not_false,cond_true,G0t,if_false,K0x ms k b3 b4 xs]
theorem S0w (x:A0g)(ms:List Int)(k:Int)(b3 b4:Bool):T0j x ms k b3 b4=some (Sum.elim id id (P0d (amtO k b3 b4) (G0t ms x.Modes 0) 0 false)):=by
 simp only [T0j,K0x,A0i,Option.bind_some]
 cases P0d (amtO k b3 b4) (G0t ms x.Modes 0) 0 false <;> rfl
theorem M0d {g:TMode→Option (Int×Bool)}{f:TMode→Option Int}(hg:∀ x,∃ w,g x=some (match f x with | some v=>(v,true) | none=>(w,false))):∀(xs:List TMode)(z a:Int),0≤z→G0e g xs z a=some (P0d f xs a (decide (0<z)))
 | [],z,a,_=>rfl
 | x::xs,z,a,hz=>by
  obtain ⟨w,hw⟩:=hg x
  rw [G0e,hw,Option.bind_some,M0d hg xs (z+1) _ (by omega),M0d hg xs (z+1) _ (by omega),P0d]
  cases hf:f x with
  | none=>rfl
  | some v=>
   simp only [Bool.not_true,cond_false,D0y,Option.bind_some,K0y,show decide (0<z+1)=true from decide_eq_true (by omega)]
   by_cases h0:z=0
   ·subst h0;rfl
   rw [show decide (z=0)=false by simpa using h0,show decide (0<z)=true from decide_eq_true (by omega)]
   simp only [cond_false,Bool.not_true,Bool.false_or,Option.bind_some]
theorem Y0i {g:TMode→Option (Int×Bool)}{f:TMode→Option Int}(hg:∀ x,∃ w,g x=some (match f x with | some v=>(v,true) | none=>(w,false)))(xs:List TMode):P0z xs g=some (Sum.elim id id (P0d f xs 0 false)):=by
 simp only [P0z,M0d hg xs 0 0 (Int.le_refl _),A0i,Option.bind_some]
 rw [show decide ((0:Int)<0)=false from rfl]
 cases P0d f xs 0 false <;> rfl
theorem Z0q (x:A0g)(ms:List Int)(k:Int)(h:x.Modes.length≤1048576):J0f x ms k=T0e x ms k:=by
 simp only [J0f,T0e,S0w,V0z x ms h,Option.bind_some]
 rw [Y0i (f:=amtO k false false)]
 ·rfl
 intro m
 refine ⟨0,?_⟩
 simp only [J0s,Y0r,amtO,Option.bind_some,cond_false]
 cases eltO m.Usage k <;> rfl
structure CurF (c:A0m):Prop where
 i0:0≤c.i
 i1:c.i≤c.b.length
 b1:c.b.length≤1048576
theorem D1x (x:Int):∃ v:Int,IntKind.wrap .i64 (((BitVec.ofInt (IntKind.bits .i64) x &&& BitVec.ofInt (IntKind.bits .i64) 255).toNat:Nat):Int)=v∧0≤v∧v≤255:=by
 refine ⟨_,rfl,?_⟩
 have h1:(BitVec.ofInt (IntKind.bits .i64) x &&& BitVec.ofInt (IntKind.bits .i64) 255).toNat≤255:=by
  rw [BitVec.toNat_and]
  refine Nat.le_trans Nat.and_le_right ?_
  decide
 generalize (BitVec.ofInt (IntKind.bits .i64) x &&& BitVec.ofInt (IntKind.bits .i64) 255).toNat=n at h1
 have h2:IntKind.wrap .i64 (n:Int)=(n:Int):=W_of (n:=(n:Int)) (by omega)
 rw [h2];omega
theorem E1d {c:A0m}(h:CurF c):∃ v d,J0t c=some (v,d)∧0≤v∧v≤255∧CurF d:=by
 unfold J0t
 by_cases hi:c.i<c.b.length
 ·rw [decide_eq_true hi,cond_true]
  obtain ⟨x,hx,_⟩:=K0r h.i0 hi
  rw [hx,Option.bind_some]
  obtain ⟨v,h1,h2,h3⟩:=D1x (W ((IntKind.wrap .i64 (((BitVec.ofInt (IntKind.bits .i64) (IntKind.wrap .i64 (((BitVec.ofInt (IntKind.bits .i64) (Int.fdiv (W ((W (c.h*6364136223846793005))+1442695040888963407)) (2 ^ min (Int.toNat 33) (IntKind.bits .i64))) ^^^ BitVec.ofInt (IntKind.bits .i64) (Int.fdiv (W ((W (c.h*6364136223846793005))+1442695040888963407)) (2 ^ min (Int.toNat 45) (IntKind.bits .i64)))).toNat:Nat):Int)) &&& BitVec.ofInt (IntKind.bits .i64) 255).toNat:Nat):Int))+(IntKind.i64.wrap x)))
  have h4:=h.i0
  have h5:=h.b1
  refine ⟨_,_,rfl,?_,?_,⟨?_,?_,h5⟩⟩
  ·rw [h1];exact h2
  ·rw [h1];exact h3
  ·show 0≤W (c.i+1);rw [W_of (by omega)];omega
  show W (c.i+1)≤c.b.length;rw [W_of (by omega)];omega
 rw [decide_eq_false hi,cond_false]
 obtain ⟨v,h1,h2,h3⟩:=D1x (IntKind.wrap .i64 (((BitVec.ofInt (IntKind.bits .i64) (Int.fdiv (W ((W (c.h*6364136223846793005))+1442695040888963407)) (2 ^ min (Int.toNat 33) (IntKind.bits .i64))) ^^^ BitVec.ofInt (IntKind.bits .i64) (Int.fdiv (W ((W (c.h*6364136223846793005))+1442695040888963407)) (2 ^ min (Int.toNat 45) (IntKind.bits .i64)))).toNat:Nat):Int))
 refine ⟨_,_,rfl,?_,?_,⟨h.i0,h.i1,h.b1⟩⟩
 ·rw [h1];exact h2
 rw [h1];exact h3
theorem C0l {c:A0m}(h:CurF c){n:Int}(h1:1≤n)(h2:n≤256):∃ v d,A0p c n=some (v,d)∧0≤v∧v<n∧CurF d:=by
 obtain ⟨v,d,e,h3,h4,h5⟩:=E1d h
 refine ⟨v.tmod n,d,?_,Int.tmod_nonneg n h3,Int.tmod_lt_of_pos v (by omega),h5⟩
 have hz:nzI n=some ():=by
  unfold nzI
  rw [show (n == 0)=false by rw [K0y];exact decide_eq_false (by omega)];rfl
 unfold A0p
 rw [decide_eq_false (by omega),cond_false,decide_eq_true h2,cond_true,e,Option.bind_some,hz,Option.bind_some]
theorem U0v {c:A0m}(h:CurF c){n:Int}(h1:1≤n)(h2:n≤256):∃ b d,H0k c n=some (b,d)∧CurF d:=by
 obtain ⟨v,d,e,_,_,h5⟩:=C0l h h1 h2
 exact ⟨_,d,by unfold H0k;rw [e,Option.bind_some],h5⟩
theorem D1u (b:List Int)(hb:b.length≤1048576):∀(fuel:Nat)(a i:Int),0≤i→(b.length:Int) - i<fuel→1≤fuel→∃ v,J0b b fuel a i=some v
 | fuel+1,a,i,h0,hf,_=>by
  rw [J0b]
  by_cases hi:i<b.length
  ·rw [decide_eq_true hi,cond_true,Option.bind_some]
   by_cases h4:i<4000
   ·rw [decide_eq_true h4,cond_true]
    obtain ⟨x,hx,_⟩:=K0r h0 hi
    rw [hx,Option.bind_some]
    have hW:W (i+1)=i+1:=W_of (by omega)
    rw [hW]
    exact D1u b hb fuel _ (i+1) (by omega) (by omega) (by omega)
   rw [decide_eq_false h4,cond_false]
   exact ⟨_,rfl⟩
  rw [decide_eq_false hi,cond_false,Option.bind_some,cond_false]
  exact ⟨_,rfl⟩
 | 0,_,_,_,_,h=>by omega
theorem E1t (b:List Int)(hb:b.length≤1048576):∃ c,L0j b=some c∧c.b=b∧c.i=0:=by
 obtain ⟨v,hv⟩:=D1u b hb F0 (W (1950+(b.length:Int))) 0 (Int.le_refl _) (by unfold F0;omega) (by unfold F0;omega)
 exact ⟨⟨b,0,v⟩,by unfold L0j;rw [hv];rfl,rfl,rfl⟩
theorem X0m (b:List Int)(hb:b.length≤1048576):∃ c,L0j b=some c∧∀ h,CurF ⟨c.b,c.i,h⟩:=by
 obtain ⟨c,h1,h2,h3⟩:=E1t b hb
 refine ⟨c,h1,fun h=>⟨by rw [h3];exact Int.le_refl _,?_,by rw [h2];exact hb⟩⟩
 show c.i≤(c.b.length:Int)
 rw [h3];omega
theorem K0a {α ρ:Type}{F:List α→Int→Option (Unit ⊕ ρ)}{P:α→Int→Prop}(h0:∀ z,F [] z=some (.inl ()))(hs:∀ x xs z,P x z→F (x::xs) z=F xs (z+1)):∀(xs:List α)(z:Int),(∀(i:Nat) x,xs[i]? = some x→P x (z+i))→F xs z=some (.inl ())
 | [],z,_=>h0 z
 | x::xs,z,h=>by
  rw [hs x xs z (by have:=h 0 x rfl;simpa using this)]
  refine K0a h0 hs xs (z+1) (fun i y hy=>?_)
  have:=h (i+1) y (by simpa using hy)
  rwa [show z+1+(i:Int)=z+((i+1:Nat):Int) by omega]
theorem inR_t {n lo hi:Int}(h:lo≤n∧n≤hi):inR n lo hi=true:=G0o.2 h
structure StpF (l:List TStep):Prop where
 ne:l≠[]
 first:∀ x,l[0]? = some x→x.At=0
 val:∀ x∈l,(0≤x.At∧x.At≤60)∧0≤x.Capacity∧x.Capacity≤20
 up:∀(i:Nat) x y,l[i]? = some x→l[i+1]? = some y→x.At<y.At
theorem StpF.ok {l:List TStep}(h:StpF l)(hl:l.length≤8):F0q l=some true:=by
 have h1:B0x l l 0=some (.inl ()):=by
  refine K0a (F:=B0x l) (P:=fun x z=>0≤z∧l[z.toNat]? = some x) (fun _=>rfl) (fun x xs z hP=>?_) l 0 (fun i x hx=>⟨by omega,by simpa using hx⟩)
  obtain ⟨hz,hx⟩:=hP
  have hv:=h.val x (List.mem_of_getElem? hx)
  rw [B0x]
  simp only [A0t,inR_t hv.1,inR_t hv.2,Option.bind_some,Bool.not_true,cond_false]
  by_cases h0:0<z
  ·obtain ⟨k,rfl⟩:∃ k:Nat,z=((k+1:Nat):Int):=⟨(z - 1).toNat,by omega⟩
   have hk:k<l.length:=by
    have:=(List.getElem?_eq_some_iff.1 hx).1
    omega
   have hp:idxL l (((k+1:Nat):Int) - 1)=some l[k]:=by
    rw [show (((k+1:Nat):Int) - 1)=(k:Int) by omega]
    simp [idxL,hk]
   have hlt:=h.up k l[k] x (List.getElem?_eq_getElem hk) (by simpa using hx)
   rw [decide_eq_true h0,cond_true,hp,Option.bind_some,Option.bind_some,decide_eq_false (by omega),cond_false]
  rw [decide_eq_false h0];rfl
 obtain ⟨x,hx⟩:∃ x,l[0]? = some x:=by
  cases l with
  | nil=>exact absurd rfl h.ne
  | cons x l=>exact ⟨x,rfl⟩
 have hlen:1≤l.length:=by have:=(List.getElem?_eq_some_iff.1 hx).1;omega
 have hi:idxL l 0=some x:=by simpa [idxL] using hx
 have hz:(x.At == 0)=true:=by rw [h.first x hx];rfl
 unfold F0q
 simp only [h1,A0i,Option.bind_some,Sum.elim_inl,A0t,inR_t (show (1:Int)≤(l.length:Int)∧(l.length:Int)≤8 by omega),cond_true,hi,hz]
theorem B1b:∀(fuel:Nat)(k:Nat)(c:A0m)(l:List TStep)(x:TStep),k<fuel→k≤2→CurF c→StpF l→l.length+k≤3→l[l.length - 1]? = some x→x.At+10*k≤60→∃ d l',H0i fuel k c.b c.i c.h l=some (d.b,d.i,d.h,l')∧CurF d∧StpF l'∧l'.length≤3
 | fuel+1,0,c,l,x,_,_,hc,hl,h3,_,_=>⟨c,l,rfl,hc,hl,by omega⟩
 | fuel+1,k+1,c,l,x,hf,hk2,hc,hl,h3,hx,ha=>by
  have hlen:1≤l.length:=by have:=(List.getElem?_eq_some_iff.1 hx).1;omega
  have hi:idxL l (W ((l.length:Int) - 1))=some x:=by
   rw [W_of (by omega)]
   have:((l.length:Int) - 1).toNat=l.length - 1:=by omega
   simp only [idxL,if_pos (show (0:Int)≤(l.length:Int) - 1 by omega),this,hx]
  obtain ⟨v,d1,e1,b1,b2,hd1⟩:=C0l (n:=9) hc (by omega) (by omega)
  obtain ⟨w,d2,e2,b3,b4,hd2⟩:=C0l (n:=5) hd1 (by omega) (by omega)
  have hv:=hl.val x (List.mem_of_getElem? hx)
  have hW:W (W (x.At+1)+v)=x.At+1+v:=by rw [W_of (n:=x.At+1) (by omega),W_of (by omega)]
  have hap:appL l [(⟨x.At+1+v,w⟩:TStep)]=some (l ++ [⟨x.At+1+v,w⟩]):=by
   unfold appL;rw [if_pos (by simp;omega)]
  have hWk:W (((k+1:Nat):Int) - 1)=(k:Int):=by rw [W_of (by omega)];omega
  rw [H0i,decide_eq_true (by omega),cond_true,hi,Option.bind_some]
  have e1':A0p ⟨c.b,c.i,c.h⟩ 9=some (v,d1):=e1
  simp only [e1',e2,Option.bind_some,hW,hap,hWk]
  refine B1b fuel k d2 _ ⟨x.At+1+v,w⟩ (by omega) (by omega) hd2 ?_ (by simp;omega) (by simp) (by show x.At+1+v+10*(k:Int)≤60;omega)
  refine ⟨by simp,fun y hy=>?_,fun y hy=>?_,fun i y z hy hz=>?_⟩
  ·rw [List.getElem?_append_left (by omega)] at hy
   exact hl.first y hy
  ·rcases List.mem_append.1 hy with h | h
   ·exact hl.val y h
   rw [List.mem_singleton.1 h]
   show (0≤x.At+1+v∧x.At+1+v≤60)∧0≤w∧w≤20
   omega
  by_cases h1:i+1<l.length
  ·rw [List.getElem?_append_left (by omega)] at hy
   rw [List.getElem?_append_left h1] at hz
   exact hl.up i y z hy hz
  ·have h2:i+1=l.length:=by
    have:=(List.getElem?_eq_some_iff.1 hz).1
    simp at this;omega
   rw [List.getElem?_append_left (by omega)] at hy
   rw [List.getElem?_append_right (by omega)] at hz
   have:i+1 - l.length=0:=by omega
   rw [this] at hz
   simp at hz;subst hz
   rw [show l.length - 1=i by omega] at hx
   rw [hx] at hy;cases hy
   show x.At<x.At+1+v
   omega
 | 0,_,_,_,_,h,_,_,_,_,_,_=>by omega
theorem A1b {v:Int}{n:Int}(h0:0≤v)(h1:v<6):W (v.tdiv 2)=v / 2:=by
 have:v.tdiv 2=v / 2:=by rw [Int.tdiv_eq_ediv_of_nonneg h0]
 rw [this,W_of (by omega)]
theorem D1l {c:A0m}(hc:CurF c):∃ l d,N0a c=some (l,d)∧CurF d∧StpF l∧l.length≤3:=by
 obtain ⟨v,d1,e1,b1,b2,hd1⟩:=C0l (n:=4) hc (by omega) (by omega)
 obtain ⟨w,d2,e2,b3,b4,hd2⟩:=C0l (n:=6) hd1 (by omega) (by omega)
 have hW:W (1+v)=1+v:=W_of (by omega)
 obtain ⟨k,hk⟩:∃ k:Nat,w / 2=(k:Int):=⟨(w / 2).toNat,by omega⟩
 obtain ⟨d,l,h1,h2,h3,h4⟩:=B1b F0 k d2 [⟨0,1+v⟩] ⟨0,1+v⟩ (by have:=F0_gt;omega) (by omega) hd2 ⟨by simp,fun y hy=>by simp at hy;rw [← hy],fun y hy=>by
  rw [List.mem_singleton.1 hy]
  show (0≤(0:Int)∧(0:Int)≤60)∧0≤1+v∧1+v≤20
  omega,fun i y z hy hz=>by simp at hz⟩ (by simp;omega) rfl (by show (0:Int)+10*(k:Int)≤60;omega)
 refine ⟨l,d,?_,h2,h3,h4⟩
 unfold N0a
 simp only [e1,e2,Option.bind_some,A1b (n:=6) b3 b4,hk,hW,h1]
def Set4 (r:List (List Int)):Prop:=∀ row∈r,row.length=4∧∀ n∈row,0≤n∧n≤12
theorem A1t (z:Int):∀(fuel:Nat)(k:Nat)(c:A0m)(acc:List Int),k≤4→5 - k≤fuel→acc.length=k→(∀ n∈acc,0≤n∧n≤12)→CurF c→∃ d r,E0l z fuel k c.b c.i c.h acc=some (d.b,d.i,d.h,r)∧CurF d∧r.length=4∧∀ n∈r,0≤n∧n≤12
 | fuel+1,k,c,acc,hk,hf,ha,hn,hc=>by
  rw [E0l]
  by_cases h4:k<4
  ·rw [decide_eq_true (by omega),cond_true]
   have hWk:W ((k:Int)+1)=((k+1:Nat):Int):=by rw [W_of (by omega)];omega
   have key:∀(v:Int)(d:A0m),0≤v→v≤12→CurF d→∃ d' r,((appL acc [v]).bind fun v36=>E0l z fuel (W ((k:Int)+1)) d.b d.i d.h v36)=some (d'.b,d'.i,d'.h,r)∧CurF d'∧r.length=4∧∀ n∈r,0≤n∧n≤12:=fun v d h0 h1 hd=>by
    have hap:appL acc [v]=some (acc ++ [v]):=by unfold appL;rw [if_pos (by simp;omega)]
    rw [hap,Option.bind_some,hWk]
    refine A1t z fuel (k+1) d _ (by omega) (by omega) (by simp [ha]) (fun n hn2=>?_) hd
    rcases List.mem_append.1 hn2 with h | h
    ·exact hn n h
    rw [List.mem_singleton.1 h];omega
   cases hz:(z != (k:Int)) with
   | true=>
    obtain ⟨v,d1,e1,b1,b2,hd1⟩:=C0l (n:=3) hc (by omega) (by omega)
    have e1':A0p ⟨c.b,c.i,c.h⟩ 3=some (v,d1):=e1
    simp only [cond_true,e1',Option.bind_some]
    exact key v d1 (by omega) (by omega) hd1
   | false=>
    simp only [cond_false,Option.bind_some]
    exact key 0 c (by omega) (by omega) hc
  rw [decide_eq_false (by omega),cond_false]
  exact ⟨c,acc,rfl,hc,by omega,hn⟩
 | 0,k,_,_,hk,h,_,_,_=>by omega
theorem B1h:∀(fuel:Nat)(k:Nat)(c:A0m)(acc:List (List Int)),k≤4→5 - k≤fuel→acc.length=k→Set4 acc→CurF c→∃ d r,F0p fuel k c.b c.i c.h acc=some (d.b,d.i,d.h,r)∧CurF d∧r.length=4∧Set4 r
 | fuel+1,k,c,acc,hk,hf,ha,hn,hc=>by
  rw [F0p]
  by_cases h4:k<4
  ·rw [decide_eq_true (by omega),cond_true]
   have hWk:W ((k:Int)+1)=((k+1:Nat):Int):=by rw [W_of (by omega)];omega
   obtain ⟨d,r,e1,hd,r1,r2⟩:=A1t (k:Int) F0 0 c [] (by omega) (by have:=F0_gt;omega) rfl (fun n h=>by cases h) hc
   have e1':E0l (k:Int) F0 0 c.b c.i c.h []=some (d.b,d.i,d.h,r):=e1
   have hap:appL acc [r]=some (acc ++ [r]):=by unfold appL;rw [if_pos (by simp;omega)]
   simp only [e1',Option.bind_some,hap,hWk]
   refine B1h fuel (k+1) d _ (by omega) (by omega) (by simp [ha]) (fun row hr=>?_) hd
   rcases List.mem_append.1 hr with h | h
   ·exact hn row h
   rw [List.mem_singleton.1 h];exact ⟨r1,r2⟩
  rw [decide_eq_false (by omega),cond_false]
  exact ⟨c,acc,rfl,hc,by omega,hn⟩
 | 0,k,_,_,hk,h,_,_,_=>by omega
theorem C1w {c:A0m}(hc:CurF c):∃ r d,M0t c=some (r,d)∧CurF d∧r.length=4∧Set4 r:=by
 obtain ⟨d,r,e1,hd,r1,r2⟩:=B1h F0 0 c [] (by omega) (by have:=F0_gt;omega) rfl (fun n h=>by cases h) hc
 have e1':F0p F0 0 c.b c.i c.h []=some (d.b,d.i,d.h,r):=e1
 exact ⟨r,d,by unfold M0t;rw [e1'];rfl,hd,r1,r2⟩
theorem E1w {r:B0u}(hs:StpF r.Steps)(hl:r.Steps.length≤8)(h4:Set4 r.Setup)(hn:r.Setup.length=0∨r.Setup.length=4):D0k r=some true:=by
 have h1:B0e r.Setup 0=some (.inl ()):=by
  refine K0a (F:=B0e) (P:=fun row _=>row.length=4∧∀ n∈row,0≤n∧n≤12) (fun _=>rfl) (fun row xs z hP=>?_) r.Setup 0 (fun i row hx=>h4 row (List.mem_of_getElem? hx))
  have h2:B0k row 0=some (.inl ()):=by
   refine K0a (F:=B0k) (P:=fun n _=>0≤n∧n≤12) (fun _=>rfl) (fun n xs z hn=>?_) row 0 (fun i n hx=>hP.2 n (List.mem_of_getElem? hx))
   rw [B0k]
   simp only [A0t,inR_t hn,Option.bind_some,Bool.not_true,cond_false]
  rw [B0e,show ((row.length:Int) != 4)=false by simp [hP.1],cond_false,h2]
  rfl
 unfold D0k
 simp only [h1,A0i,Option.bind_some,Sum.elim_inl,hs.ok hl,cond_true]
 rcases hn with h | h
 ·rw [show ((r.Setup.length:Int) == 0)=true by simp [h],cond_true];rfl
 rw [show ((r.Setup.length:Int) == 0)=false by simp [h],cond_false,show ((r.Setup.length:Int) == 4)=true by simp [h]];rfl
theorem app1 {α:Type}{l:List α}(x:α)(h:l.length≤1000):appL l [x]=some (l ++ [x]):=by
 unfold appL
 rw [if_pos (by simp;omega)]
theorem D1w {l:List Int}{n:Int}(h1:(l.length:Int)=n)(h2:∀ k∈l,0≤k∧k≤20):H0h l n=some true:=by
 have h:D0m l 0=some (.inl ()):=by
  refine K0a (F:=D0m) (P:=fun k _=>0≤k∧k≤20) (fun _=>rfl) (fun k xs z hk=>?_) l 0 (fun i k hk=>h2 k (List.mem_of_getElem? hk))
  rw [D0m]
  simp only [A0t,inR_t hk,Option.bind_some,Bool.not_true,cond_false]
 simp only [H0h,h,A0i,Option.bind_some,Sum.elim_inl,h1,K0y,decide_true]
theorem E1s {m:TMode}{a b:Int}(h:ModeF m a b):J0r m a b=some true:=by
 simp only [J0r,A0t,inR_t h.1,Option.bind_some,cond_true,D1w h.2.1.1 h.2.1.2,D1w h.2.2.1 h.2.2.2]
def K0c:List ByteArray:=[(⟨#[97]⟩:ByteArray),(⟨#[98]⟩:ByteArray),(⟨#[99]⟩:ByteArray),(⟨#[100]⟩:ByteArray),(⟨#[101,49]⟩:ByteArray),(⟨#[102]⟩:ByteArray)]
theorem F1a {s:ByteArray}(h:s∈K0c):K0i s=some true:=by
 obtain ⟨n,hn⟩:∃ n,F0=n+3:=⟨F0 - 3,by have:=F0_gt;omega⟩
 have h1:E0h s (n+3) 0=some (.inl ()):=by
  simp only [K0c,List.mem_cons,List.not_mem_nil,or_false] at h
  rcases h with rfl | rfl | rfl | rfl | rfl | rfl <;> rfl
 have h2:inR (s.size:Int) 1 8=true:=by
  simp only [K0c,List.mem_cons,List.not_mem_nil,or_false] at h
  rcases h with rfl | rfl | rfl | rfl | rfl | rfl <;> rfl
 simp only [K0i,hn,h1,A0i,Option.bind_some,Sum.elim_inl,A0t,h2]
theorem act_t {x:A0g}{a b:Int}(h:ActF x a b)(hn:x.Name∈K0c):C0w x a b=some true:=by
 have h1:B0t a b x.Modes 0=some (.inl ()):=by
  refine K0a (F:=B0t a b) (P:=fun m _=>ModeF m a b) (fun _=>rfl) (fun m xs z hm=>?_) x.Modes 0 (fun i m hm=>h.2.2 m (List.mem_of_getElem? hm))
  rw [B0t]
  simp only [E1s hm,Option.bind_some,Bool.not_true,cond_false]
 simp only [C0w,h1,A0i,Option.bind_some,Sum.elim_inl,F1a hn,cond_true,A0t,inR_t h.1,inR_t (show (1:Int)≤(x.Modes.length:Int)∧(x.Modes.length:Int)≤3 by have:=h.2.1;omega)]
theorem B1q {i j:Nat}{s:ByteArray}(h1:K0c[i]? = some s)(h2:K0c[j]? = some s):i=j:=by
 have hi:=(List.getElem?_eq_some_iff.1 h1).1
 have hj:=(List.getElem?_eq_some_iff.1 h2).1
 have h:K0c[i]? = K0c[j]?:=by rw [h1,h2]
 have hnd:K0c.Nodup:=by decide
 exact (List.getElem?_inj hi hnd).1 h
theorem E1p {p:A0a}(hn:∀(i:Nat) x,p.Activities[i]? = some x→K0c[i]? = some x.Name){k:Nat}{x:A0g}(hx:p.Activities[k]? = some x):C0b p x.Name=some (k:Int):=by
 have key:∀(xs:List A0g)(z:Nat),p.Activities.drop z=xs→z≤k→B0h x.Name xs z=some (.inr (k:Int)):=by
  intro xs
  induction xs with
  | nil=>
   intro z hz hk
   have:=(List.getElem?_eq_some_iff.1 hx).1
   have:=congrArg List.length hz
   simp at this;omega
  | cons y ys ih=>
   intro z hz hk
   have hy:p.Activities[z]? = some y:=by
    have:=congrArg (fun l=>l[0]?) hz
    simpa using this
   have hd:p.Activities.drop (z+1)=ys:=by
    rw [← List.drop_drop,hz];rfl
   rw [B0h,E1x]
   by_cases e:y.Name=x.Name
   ·rw [decide_eq_true e,cond_true]
    have h1:=hn z y hy
    rw [e] at h1
    rw [B1q h1 (hn k x hx)]
   rw [decide_eq_false e,cond_false]
   have hne:z≠k:=fun e'=>e (by subst e';rw [hx] at hy;cases hy;rfl)
   exact ih (z+1) hd (by omega)
 simp only [C0b,key p.Activities 0 rfl (Nat.zero_le _),show ((0:Nat):Int)=0 from rfl,A0i,Option.bind_some,Sum.elim_inr]
 have:=key p.Activities 0 rfl (Nat.zero_le _)
 rw [show ((0:Nat):Int)=0 from rfl] at this
 rw [this];rfl
structure L0b (p:A0a):Prop where
 d:1≤p.Deadline∧p.Deadline≤60
 na:1≤p.Activities.length∧p.Activities.length≤6
 nr:1≤p.Resources.length∧p.Resources.length≤3
 ns:p.Stocks.length≤2
 nl:p.Links.length≤12
 act:∀(i:Nat) x,p.Activities[i]? = some x→ActF x p.Resources.length p.Stocks.length∧K0c[i]? = some x.Name
 res:∀ r∈p.Resources,StpF r.Steps∧r.Steps.length≤8∧Set4 r.Setup∧(r.Setup.length=0∨r.Setup.length=4)
 stk:∀ n∈p.Stocks,0≤n∧n≤100
 lnk:∀ k∈p.Links,(0≤k.From∧k.From<p.Activities.length)∧(0≤k.To∧k.To<p.Activities.length)∧k.From≠k.To∧-60≤k.Lag∧k.Lag≤60
theorem L0b.ok {p:A0a}(h:L0b p):E0v p=some true:=by
 have h1:C0g p p.Activities 0=some (.inl ()):=by
  refine K0a (F:=C0g p) (P:=fun x z=>0≤z∧p.Activities[z.toNat]? = some x) (fun _=>rfl) (fun x xs z hx=>?_) p.Activities 0 (fun i x hx=>⟨by omega,by simpa using hx⟩)
  obtain ⟨hz,hx⟩:=hx
  obtain ⟨a1,a2⟩:=h.act _ x hx
  rw [C0g]
  simp only [act_t a1 (List.mem_of_getElem? a2),Option.bind_some,Bool.not_true,cond_false,E1p (fun i x hx=>(h.act i x hx).2) hx,T0k,show ((z.toNat:Nat):Int)=z by omega,decide_true]
 have h2:C0i p.Resources 0=some (.inl ()):=by
  refine K0a (F:=C0i) (P:=fun r _=>r∈p.Resources) (fun _=>rfl) (fun r xs z hr=>?_) p.Resources 0 (fun i x hx=>List.mem_of_getElem? hx)
  obtain ⟨r1,r2,r3,r4⟩:=h.res r hr
  rw [C0i]
  simp only [E1w r1 r2 r3 r4,Option.bind_some,Bool.not_true,cond_false]
 have h3:C0j p.Stocks 0=some (.inl ()):=by
  refine K0a (F:=C0j) (P:=fun n _=>0≤n∧n≤100) (fun _=>rfl) (fun n xs z hn=>?_) p.Stocks 0 (fun i x hx=>h.stk x (List.mem_of_getElem? hx))
  rw [C0j]
  simp only [A0t,inR_t hn,Option.bind_some,Bool.not_true,cond_false]
 have hWn:W ((p.Activities.length:Int) - 1)=(p.Activities.length:Int) - 1:=W_of (by have:=h.na;omega)
 have h4:B0j p p.Links 0=some (.inl ()):=by
  refine K0a (F:=B0j p) (P:=fun k _=>k∈p.Links) (fun _=>rfl) (fun k xs z hk=>?_) p.Links 0 (fun i x hx=>List.mem_of_getElem? hx)
  obtain ⟨k1,k2,k3,k4⟩:=h.lnk k hk
  rw [B0j]
  simp only [A0t,hWn,inR_t (show (0:Int)≤k.From∧k.From≤(p.Activities.length:Int) - 1 by omega),inR_t (show (0:Int)≤k.To∧k.To≤(p.Activities.length:Int) - 1 by omega),inR_t k4,K0y,decide_eq_false k3,Option.bind_some,Bool.not_true,cond_false]
 have a1:=h.na
 have a2:=h.nr
 have a3:=h.ns
 have a4:=h.nl
 unfold E0v
 simp only [A0t,inR_t h.d,inR_t (show (1:Int)≤(p.Activities.length:Int)∧(p.Activities.length:Int)≤6 by omega),Option.bind_some,Bool.not_true,cond_false,decide_eq_false (show ¬ (3:Int)<(p.Resources.length:Int) by omega),decide_eq_false (show ¬ (2:Int)<(p.Stocks.length:Int) by omega),decide_eq_false (show ¬ (12:Int)<(p.Links.length:Int) by omega),h1,h2,h3,h4,A0i,Sum.elim_inl]
theorem L0b.proj {p:A0a}(h:L0b p):ProjF p:=by
 obtain ⟨v,hv,hf⟩:=W0j p (fun x hx=>by
  obtain ⟨i,hi⟩:=List.getElem?_of_mem hx
  have h2:=List.mem_of_getElem? (h.act i x hi).2
  simp only [K0c,List.mem_cons,List.not_mem_nil,or_false] at h2
  rcases h2 with e | e | e | e | e | e <;> rw [e] <;> decide)
 rw [h.ok] at hv;cases hv
 exact hf rfl
theorem Wk1 {k:Nat}(h:k<6):W (((k+1:Nat):Int) - 1)=(k:Int):=by rw [W_of (by omega)];omega
theorem R0y {α:Type}{F:Nat→Int→List Int→Int→Int→List α→Option (List Int×Int×Int×List α)}{Q:Nat→α→Prop}
  (h0:∀ fuel (c:A0m) acc,F (fuel+1) 0 c.b c.i c.h acc=some (c.b,c.i,c.h,acc))
  (hs:∀ fuel (k:Nat) (c:A0m) acc,k<6→acc.length<6→CurF c→∃ x d,CurF d∧Q acc.length x∧F (fuel+1) ((k+1:Nat):Int) c.b c.i c.h acc=F fuel (k:Int) d.b d.i d.h (acc ++ [x])) :
  ∀(k fuel:Nat)(c:A0m) acc,k<fuel→k+acc.length≤6→CurF c→(∀ i x,acc[i]? = some x→Q i x)→∃ d r,F fuel (k:Int) c.b c.i c.h acc=some (d.b,d.i,d.h,r)∧CurF d∧r.length=acc.length+k∧∀(i:Nat) x,r[i]? = some x→Q i x
 | 0,fuel+1,c,acc,_,_,hc,ha=>⟨c,acc,h0 fuel c acc,hc,rfl,ha⟩
 | k+1,fuel+1,c,acc,hf,hk,hc,ha=>by
  obtain ⟨x,d,hd,hq,he⟩:=hs fuel k c acc (by omega) (by omega) hc
  rw [he]
  obtain ⟨d',r,h1,h2,h3,h4⟩:=R0y h0 hs k fuel d (acc ++ [x]) (by omega) (by simp;omega) hd (fun i y hy=>by
   by_cases hi:i<acc.length
   ·rw [List.getElem?_append_left hi] at hy
    exact ha i y hy
   rw [List.getElem?_append_right (by omega)] at hy
   have:i - acc.length=0:=by
    have:=(List.getElem?_eq_some_iff.1 hy).1
    simp at this;omega
   rw [this] at hy
   simp at hy
   subst hy
   rw [show i=acc.length by omega];exact hq)
  exact ⟨d',r,h1,h2,by rw [h3];simp;omega,h4⟩
theorem Y0e {F:Nat→List Int→Int→Int→List Int→Option (List Int×Int×Int×List Int)}{n:Int}(hn:0≤n∧n≤6)
  (h:∀ fuel a b c acc,F (fuel+1) a b c acc=(bif (decide ((acc.length:Int)<n)) then (A0p (A0m.mk a b c) 3).bind fun v=>(appL acc ([v.1]:List Int)).bind fun w=>F fuel v.2.b v.2.i v.2.h w else some (a,b,c,acc))) :
  ∀(k fuel:Nat)(c:A0m)(acc:List Int),k<fuel→(acc.length:Int)+k=n→CurF c→(∀ x∈acc,0≤x∧x≤20)→∃ d r,F fuel c.b c.i c.h acc=some (d.b,d.i,d.h,r)∧CurF d∧(r.length:Int)=n∧∀ x∈r,0≤x∧x≤20
 | 0,fuel+1,c,acc,_,hl,hc,ha=>by
  refine ⟨c,acc,?_,hc,by omega,ha⟩
  rw [h,decide_eq_false (by omega),cond_false]
 | k+1,fuel+1,c,acc,hf,hl,hc,ha=>by
  obtain ⟨v,d,e,h1,h2,hd⟩:=C0l (n:=3) hc (by omega) (by omega)
  have e':A0p ⟨c.b,c.i,c.h⟩ 3=some (v,d):=e
  rw [h,decide_eq_true (by omega),cond_true,e',Option.bind_some,app1 _ (by omega),Option.bind_some]
  refine Y0e hn h k fuel d _ (by omega) (by simp;omega) hd (fun x hx=>?_)
  rcases List.mem_append.1 hx with hx | hx
  ·exact ha x hx
  rw [List.mem_singleton.1 hx];show 0≤v∧v≤20;omega
theorem B1p {b2 b3:Int}(h2:0≤b2∧b2≤6)(h3:0≤b3∧b3≤6)(k:Nat)(hk:k≤6){c:A0m}(hc:CurF c):∃ d r,G0g b2 b3 F0 (k:Int) c.b c.i c.h []=some (d.b,d.i,d.h,r)∧CurF d∧r.length=k∧∀ m∈r,ModeF m b2 b3:=by
 obtain ⟨d,r,h4,h5,h6,h7⟩:=R0y (F:=G0g b2 b3) (Q:=fun _ m=>ModeF m b2 b3) (fun fuel c acc=>rfl) (fun fuel k c acc hk ha hc=>by
  obtain ⟨v,d1,e1,a1,a2,hd1⟩:=C0l (n:=4) hc (by omega) (by omega)
  have e1':A0p ⟨c.b,c.i,c.h⟩ 4=some (v,d1):=e1
  obtain ⟨d2,us,e2,hd2,u1,u2⟩:=Y0e (F:=J0l b2) h2 (fun _ _ _ _ _=>rfl) b2.toNat F0 d1 [] (by have:=F0_gt;omega) (by simp;omega) hd1 (fun x hx=>by cases hx)
  obtain ⟨d3,cs,e3,hd3,c1,c2⟩:=Y0e (F:=J0k b3) h3 (fun _ _ _ _ _=>rfl) b3.toNat F0 d2 [] (by have:=F0_gt;omega) (by simp;omega) hd2 (fun x hx=>by cases hx)
  refine ⟨⟨1+v,us,cs⟩,d3,hd3,⟨by show 1≤1+v∧1+v≤12;omega,⟨u1,u2⟩,c1,c2⟩,?_⟩
  rw [G0g,decide_eq_true (by omega),cond_true]
  simp only [e1',e2,e3,Option.bind_some,app1 _ (show acc.length≤1000 by omega),W_of (n:=1+v) (by omega),Wk1 (show k<6 by omega)]) k F0 c [] (by have:=F0_gt;omega) (by simpa using hk) hc (fun i x hx=>by simp at hx)
 exact ⟨d,r,h4,h5,by simpa using h6,fun m hm=>by
  obtain ⟨i,hi⟩:=List.getElem?_of_mem hm
  exact h7 i m hi⟩
theorem D1r {c:A0m}(hc:CurF c){i:Nat}(hi:i<6){b2 b3:Int}(h2:0≤b2∧b2≤6)(h3:0≤b3∧b3≤6):∃ x d,M0v c (i:Int) b2 b3=some (x,d)∧CurF d∧ActF x b2 b3∧K0c[i]? = some x.Name:=by
 obtain ⟨v,d1,e1,a1,a2,hd1⟩:=C0l (n:=2) hc (by omega) (by omega)
 obtain ⟨w,d2,e2,a3,a4,hd2⟩:=C0l (n:=4) hd1 (by omega) (by omega)
 have hh:=A1b (n:=6) a3 (show w<6 by omega)
 obtain ⟨d,r,e3,hd,r1,r2⟩:=B1p h2 h3 (1+w / 2).toNat (by omega) hd2
 rw [show (((1+w / 2).toNat:Nat):Int)=1+w / 2 by omega] at e3
 obtain ⟨s,hs⟩:∃ s,K0c[i]? = some s:=⟨_,List.getElem?_eq_getElem (by show i<6;exact hi)⟩
 have hidx:idxL K0c ((i:Int).tmod 6)=some s:=by
  have:(i:Int).tmod 6=(i:Int):=by rw [Int.tmod_eq_emod_of_nonneg (by omega)];omega
  rw [this]
  simpa [idxL] using hs
 have e4:P0s c (i:Int)=some (s,c):=by
  unfold P0s
  show (idxL K0c ((i:Int).tmod 6)).bind _=_
  rw [hidx];rfl
 refine ⟨⟨s,v,r⟩,d,?_,hd,⟨by show 0≤v∧v≤3;omega,by show 1≤r.length∧r.length≤3;omega,r2⟩,hs⟩
 unfold M0v
 simp only [e4,e1,e2,Option.bind_some,hh,W_of (n:=1+w / 2) (by omega),e3]
def ResD (r:B0u):Prop:=StpF r.Steps∧r.Steps.length≤8∧Set4 r.Setup∧(r.Setup.length=0∨r.Setup.length=4)
theorem B1t (k:Nat)(hk:k≤6){c:A0m}(hc:CurF c):∃ d r,F0k F0 (k:Int) c.b c.i c.h []=some (d.b,d.i,d.h,r)∧CurF d∧r.length=k∧∀ m∈r,ResD m:=by
 obtain ⟨d,r,h4,h5,h6,h7⟩:=R0y (F:=F0k) (Q:=fun _ m=>ResD m) (fun fuel c acc=>rfl) (fun fuel k c acc hk ha hc=>by
  obtain ⟨st,d1,e1,hd1,s1,s2⟩:=D1l hc
  have e1':N0a ⟨c.b,c.i,c.h⟩=some (st,d1):=e1
  obtain ⟨o,d2,e2,hd2⟩:=U0v (n:=3) hd1 (by omega) (by omega)
  cases o with
  | true=>
   obtain ⟨se,d3,e3,hd3,t1,t2⟩:=C1w hd2
   refine ⟨⟨st,se⟩,d3,hd3,⟨s1,by show st.length≤8;omega,t2,.inr t1⟩,?_⟩
   rw [F0k,decide_eq_true (by omega),cond_true]
   simp only [e1',e2,e3,Option.bind_some,cond_true,app1 _ (show acc.length≤1000 by omega),Wk1 (show k<6 by omega)]
  | false=>
   refine ⟨⟨st,[]⟩,d2,hd2,⟨s1,by show st.length≤8;omega,(fun row hr=>by cases hr),.inl rfl⟩,?_⟩
   rw [F0k,decide_eq_true (by omega),cond_true]
   simp only [e1',e2,Option.bind_some,cond_false,app1 _ (show acc.length≤1000 by omega),Wk1 (show k<6 by omega)]) k F0 c [] (by have:=F0_gt;omega) (by simpa using hk) hc (fun i x hx=>by simp at hx)
 exact ⟨d,r,h4,h5,by simpa using h6,fun m hm=>by
  obtain ⟨i,hi⟩:=List.getElem?_of_mem hm
  exact h7 i m hi⟩
theorem C1j (p26:List Int×Int×Int×List B0u)(p34:List Int×Int×Int×List Int)(h1:p26.2.2.2.length≤6)(h2:p34.2.2.2.length≤6)(k:Nat)(hk:k≤6){c:A0m}(hc:CurF c):∃ d r,G0i p26 p34 F0 (k:Int) c.b c.i c.h []=some (d.b,d.i,d.h,r)∧CurF d∧r.length=k∧∀(i:Nat) x,r[i]? = some x→ActF x p26.2.2.2.length p34.2.2.2.length∧K0c[i]? = some x.Name:=by
 obtain ⟨d,r,h4,h5,h6,h7⟩:=R0y (F:=G0i p26 p34) (Q:=fun i x=>ActF x p26.2.2.2.length p34.2.2.2.length∧K0c[i]? = some x.Name) (fun fuel c acc=>rfl) (fun fuel k c acc hk ha hc=>by
  obtain ⟨x,d,e,hd,a1,a2⟩:=D1r hc ha (b2:=p26.2.2.2.length) (b3:=p34.2.2.2.length) (by omega) (by omega)
  have e':M0v ⟨c.b,c.i,c.h⟩ (acc.length:Int) (p26.2.2.2.length:Int) (p34.2.2.2.length:Int)=some (x,d):=e
  refine ⟨x,d,hd,⟨a1,a2⟩,?_⟩
  rw [G0i,decide_eq_true (by omega),cond_true]
  simp only [e',Option.bind_some,app1 _ (show acc.length≤1000 by omega),Wk1 (show k<6 by omega)]) k F0 c [] (by have:=F0_gt;omega) (by simpa using hk) hc (fun i x hx=>by simp at hx)
 exact ⟨d,r,h4,h5,by simpa using h6,h7⟩
def LnkD (n:Nat)(k:TLink):Prop:=(0≤k.From∧k.From<n)∧(0≤k.To∧k.To<n)∧k.From≠k.To∧-60≤k.Lag∧k.Lag≤60
theorem C1x (q:List Int×Int×Int×List A0g)(hq:q.2.2.2.length≤6)(k:Nat)(hk:k≤6){c:A0m}(hc:CurF c):∃ d r,E0n q F0 (k:Int) c.b c.i c.h []=some (d.b,d.i,d.h,r)∧CurF d∧r.length≤6∧∀ m∈r,LnkD q.2.2.2.length m:=by
 obtain ⟨f,hf⟩:∃ f,F0=f+1:=⟨F0 - 1,by have:=F0_gt;omega⟩
 by_cases h1:1<q.2.2.2.length
 ·obtain ⟨d,r,h4,h5,h6,h7⟩:=R0y (F:=E0n q) (Q:=fun _ x=>LnkD q.2.2.2.length x) (fun fuel c acc=>rfl) (fun fuel k c acc hk ha hc=>by
   have hn:W ((q.2.2.2.length:Int) - 1)=(q.2.2.2.length:Int) - 1:=W_of (by omega)
   obtain ⟨v,d1,e1,a1,a2,hd1⟩:=C0l (n:=(q.2.2.2.length:Int) - 1) hc (by omega) (by omega)
   have e1':A0p ⟨c.b,c.i,c.h⟩ ((q.2.2.2.length:Int) - 1)=some (v,d1):=e1
   have hn2:W ((q.2.2.2.length:Int) - 1 - v)=(q.2.2.2.length:Int) - 1 - v:=W_of (by omega)
   obtain ⟨w,d2,e2,a3,a4,hd2⟩:=C0l (n:=(q.2.2.2.length:Int) - 1 - v) hd1 (by omega) (by omega)
   obtain ⟨o,d3,e3,hd3⟩:=U0v (n:=3) hd2 (by omega) (by omega)
   obtain ⟨g,d4,e4,a5,a6,hd4⟩:=C0l (n:=3) hd3 (by omega) (by omega)
   obtain ⟨o2,d5,e5,hd5⟩:=U0v (n:=6) hd4 (by omega) (by omega)
   have hto:W (W (v+1)+w)=v+1+w:=by rw [W_of (n:=v+1) (by omega),W_of (by omega)]
   cases o2 with
   | true=>
    obtain ⟨u,d6,e6,a7,a8,hd6⟩:=C0l (n:=9) hd5 (by omega) (by omega)
    refine ⟨⟨v+1+w,v,false,-4 - u⟩,d6,hd6,⟨by show 0≤v+1+w∧v+1+w<_;omega,by show 0≤v∧v<_;omega,by show v+1+w≠v;omega,by show -60≤-4 - u;omega,by show -4 - u≤60;omega⟩,?_⟩
    rw [E0n,decide_eq_true (by omega),cond_true,Option.bind_some,decide_eq_true (by omega),cond_true]
    simp only [hn,e1',hn2,e2,e3,e4,e5,e6,hto,Option.bind_some,cond_true,app1 _ (show acc.length≤1000 by omega),Wk1 (show k<6 by omega),W_of (n:=-4 - u) (by omega)]
   | false=>
    refine ⟨⟨v,v+1+w,!o,g⟩,d5,hd5,⟨by show 0≤v∧v<_;omega,by show 0≤v+1+w∧v+1+w<_;omega,by show v≠v+1+w;omega,by show -60≤g;omega,by show g≤60;omega⟩,?_⟩
    rw [E0n,decide_eq_true (by omega),cond_true,Option.bind_some,decide_eq_true (by omega),cond_true]
    simp only [hn,e1',hn2,e2,e3,e4,e5,hto,Option.bind_some,cond_false,app1 _ (show acc.length≤1000 by omega),Wk1 (show k<6 by omega)]) k F0 c [] (by have:=F0_gt;omega) (by simpa using hk) hc (fun i x hx=>by simp at hx)
  exact ⟨d,r,h4,h5,by simp at h6;omega,fun m hm=>by
   obtain ⟨i,hi⟩:=List.getElem?_of_mem hm
   exact h7 i m hi⟩
 refine ⟨c,[],?_,hc,by simp,fun m hm=>by cases hm⟩
 rw [hf,E0n,decide_eq_false (show ¬ (1:Int)<(q.2.2.2.length:Int) by omega),D0y,Option.bind_some]
 cases decide (0<(k:Int)) <;> rfl
theorem Y0q {c:A0m}(hc:CurF c):∃ p d,M0x c 3=some (p,d)∧L0b p:=by
 obtain ⟨v1,d1,e1,a1,a2,hd1⟩:=C0l (n:=12) hc (by omega) (by omega)
 obtain ⟨v2,d2,e2,a3,a4,hd2⟩:=C0l (n:=4) hd1 (by omega) (by omega)
 have hh:=A1b (n:=6) a3 (show v2<6 by omega)
 obtain ⟨d3,rs,e3,hd3,r1,r2⟩:=B1t (1+v2 / 2).toNat (by omega) hd2
 rw [show (((1+v2 / 2).toNat:Nat):Int)=1+v2 / 2 by omega] at e3
 obtain ⟨o,d4,e4,hd4⟩:=U0v (n:=3) hd3 (by omega) (by omega)
 have e4':H0k ⟨d3.b,d3.i,d3.h⟩ 3=some (o,d4):=e4
 obtain ⟨sk,d5,e5,hd5,k1,k2⟩:∃ (sk:List Int) (d5:A0m),(bif o then (A0p d4 6).bind fun v33=>some (v33.2.b,v33.2.i,v33.2.h,([v33.1]:List Int)) else some (d4.b,d4.i,d4.h,([]:List Int)))=some (d5.b,d5.i,d5.h,sk)∧CurF d5∧sk.length≤1∧∀ n∈sk,0≤n∧n≤100:=by
  cases o with
  | true=>
   obtain ⟨v,d,e,b1,b2,hd⟩:=C0l (n:=6) hd4 (by omega) (by omega)
   refine ⟨[v],d,by rw [cond_true,e];rfl,hd,by simp,fun n hn=>?_⟩
   rw [List.mem_singleton.1 hn];omega
  | false=>exact ⟨[],d4,rfl,hd4,by simp,fun n hn=>by cases hn⟩
 obtain ⟨v6,d6,e6,a5,a6,hd6⟩:=C0l (n:=3) hd5 (by omega) (by omega)
 have e6':A0p ⟨d5.b,d5.i,d5.h⟩ 3=some (v6,d6):=e6
 obtain ⟨d7,ac,e7,hd7,s1,s2⟩:=C1j (d3.b,d3.i,d3.h,rs) (d5.b,d5.i,d5.h,sk) (by show rs.length≤6;omega) (by show sk.length≤6;omega) (1+v6).toNat (by omega) hd6
 rw [show (((1+v6).toNat:Nat):Int)=1+v6 by omega] at e7
 obtain ⟨v8,d8,e8,a7,a8,hd8⟩:=C0l (n:=4) hd7 (by omega) (by omega)
 have e8':A0p ⟨d7.b,d7.i,d7.h⟩ 4=some (v8,d8):=e8
 obtain ⟨d9,ls,e9,hd9,l1,l2⟩:=C1x (d7.b,d7.i,d7.h,ac) (by show ac.length≤6;omega) v8.toNat (by omega) hd8
 rw [show ((v8.toNat:Nat):Int)=v8 by omega] at e9
 refine ⟨⟨12+v1,ac,ls,rs,sk⟩,d9,?_,⟨?_,?_,?_,?_,?_,s2,r2,k2,l2⟩⟩
 ·unfold M0x
  simp only [e1,e2,hh,W_of (n:=1+v2 / 2) (by omega),e3,e4',e5,e6',W_of (n:=1+v6) (by omega),e7,e8',e9,W_of (n:=12+v1) (by omega),Option.bind_some]
 ·show 1≤12+v1∧12+v1≤60;omega
 ·show 1≤ac.length∧ac.length≤6;omega
 ·show 1≤rs.length∧rs.length≤3;omega
 ·show sk.length≤2;omega
 show ls.length≤12;omega
theorem Z0a (b:List Int)(hb:b.length≤1048576):∃ p,G0p b=some p∧L0b p:=by
 obtain ⟨c,h1,h2⟩:=X0m b hb
 obtain ⟨p,d,h3,h4⟩:=Y0q (h2 c.h)
 have h3':M0x c 3=some (p,d):=h3
 exact ⟨p,by unfold G0p;rw [h1,Option.bind_some,h3'];rfl,h4⟩
theorem idxN {α:Type}(l:List α)(i:Nat):idxL l (i:Int)=l[i]?:=by simp [idxL]
theorem setN {α:Type}(l:List α)(i:Nat)(v:α):setL l (i:Int) v=l.set i v:=by simp [setL]
theorem setG {α:Type}{l:List α}{i:Nat}{v:α}(h:i<l.length)(j:Nat):(l.set i v)[j]? = if i=j then some v else l[j]?:=by
 rw [List.getElem?_set]
 by_cases e:i=j
 ·rw [if_pos e,if_pos h,if_pos e]
 rw [if_neg e,if_neg e]
structure PreF (p:A0a)(b:A0f):Prop where
 l1:b.MinStart.length=p.Activities.length
 l2:b.MaxStart.length=p.Activities.length
 md:b.Modes=p.Activities.map fun x=>C0m x.Modes.length
 lo:∀ m∈b.MinStart,0≤m∧m≤60
 hi:∀ m∈b.MaxStart,0≤m∧m≤60
def LeF (b:A0f):Prop:=∀ a m1 m2,idxL b.MinStart a=some m1→idxL b.MaxStart a=some m2→m1≤m2
theorem C1f (p:A0a)(hd:1≤p.Deadline∧p.Deadline≤60):∀(xs:List A0g)(z:Int)(a b:List Int)(c:List (List Int)),(∀ x∈xs,x.Modes.length≤3)→a.length+xs.length≤1000→b.length+xs.length≤1000→c.length+xs.length≤1000→J0n p xs z a b c=some (a ++ xs.map (fun _=>0),b ++ xs.map (fun _=>p.Deadline - 1),c ++ xs.map fun x=>C0m x.Modes.length)
 | [],z,a,b,c,_,_,_,_=>by simp [J0n]
 | x::xs,z,a,b,c,hm,h1,h2,h3=>by
  simp at h1 h2 h3
  rw [J0n,app1 _ (by omega),Option.bind_some,app1 _ (by omega),Option.bind_some,P0h x (by have:=hm x (by simp);omega),Option.bind_some,app1 _ (by omega),Option.bind_some,W_of (n:=p.Deadline - 1) (by omega),C1f p hd xs (z+1) _ _ _ (fun y hy=>hm y (by simp [hy])) (by simp;omega) (by simp;omega) (by simp;omega)]
  simp
theorem D1o {p:A0a}(h:L0b p):∃ b,H0e p=some b∧PreF p b∧LeF b:=by
 have hp:=h.proj
 have hd:=h.d
 refine ⟨⟨p.Activities.map (fun _=>0),p.Activities.map (fun _=>p.Deadline - 1),p.Activities.map fun x=>C0m x.Modes.length⟩,?_,⟨by simp,by simp,rfl,fun m hm=>?_,fun m hm=>?_⟩,fun a m1 m2 h1 h2=>?_⟩
 ·simp only [H0e,h.ok,Option.bind_some,Bool.not_true,cond_false,X0x,C1f p hd p.Activities 0 [] [] [] (fun x hx=>(hp.acts x hx).2.1.2) (by have:=h.na;simp;omega) (by have:=h.na;simp;omega) (by have:=h.na;simp;omega),List.nil_append]
 ·obtain ⟨_,_,e⟩:=List.mem_map.1 hm
  omega
 ·obtain ⟨_,_,e⟩:=List.mem_map.1 hm
  omega
 obtain ⟨_,_,e1⟩:=List.mem_map.1 (H0j h1).2
 obtain ⟨_,_,e2⟩:=List.mem_map.1 (H0j h2).2
 omega
theorem B1r:∀(xs:List (List Int))(z:Int)(acc:List (List Int)),(∀ x∈xs,x.length≤1000)→acc.length+xs.length≤1000→F0o xs z acc=some (acc ++ xs)
 | [],z,acc,_,_=>by simp [F0o]
 | x::xs,z,acc,hx,h=>by
  have h1:appL ([]:List Int) x=some x:=by
   unfold appL
   rw [if_pos (by have:=hx x (by simp);simp;omega)];rfl
  simp at h
  rw [F0o,h1,Option.bind_some,app1 _ (by omega),Option.bind_some,B1r xs (z+1) _ (fun y hy=>hx y (by simp [hy])) (by simp;omega)]
  simp
theorem J0y (n:Nat):(C0m n).length=n:=by simp [C0m]
theorem A1p {p:A0a}(h:L0b p){b:A0f}(hb:PreF p b):P0y b=some b:=by
 have hp:=h.proj
 have hn:=h.na
 have e1:appL ([]:List Int) b.MinStart=some b.MinStart:=by
  unfold appL;rw [if_pos (by have:=hb.l1;simp;omega)];rfl
 have e2:appL ([]:List Int) b.MaxStart=some b.MaxStart:=by
  unfold appL;rw [if_pos (by have:=hb.l2;simp;omega)];rfl
 have e3:F0o b.Modes 0 []=some b.Modes:=by
  rw [B1r b.Modes 0 [] (fun x hx=>?_) (by rw [hb.md];simp;omega)]
  ·rfl
  rw [hb.md] at hx
  obtain ⟨y,hy,rfl⟩:=List.mem_map.1 hx
  rw [J0y]
  have:=(hp.acts y hy).2.1;omega
 simp only [P0y,e1,e2,e3,Option.bind_some]
theorem Y0y {p:A0a}(h:L0b p){b:A0f}(hb:PreF p b){k a v:Int}(hk:k=1∨k=2)(ha:0≤a∧a<p.Activities.length)(hv:0≤v∧v≤60):∃ b',K0e b ⟨k,a,v⟩=some b'∧PreF p b':=by
 have hn:=h.na
 obtain ⟨i,rfl⟩:∃ i:Nat,a=i:=⟨a.toNat,by omega⟩
 have t1:M0r b (i:Int)=some true:=by
  have w:W ((p.Activities.length:Int) - 1)=(p.Activities.length:Int) - 1:=W_of (by omega)
  have l3:b.Modes.length=p.Activities.length:=by rw [hb.md];simp
  simp only [M0r,A0t,hb.l1,hb.l2,l3,w,inR_t (show (0:Int)≤(i:Int)∧(i:Int)≤(p.Activities.length:Int) - 1 by omega),Option.bind_some,cond_true]
 have t2:K0o v=some v:=by
  simp only [K0o,U0y,V0x,Option.bind_some]
  rw [show max (-2) (min 62 v)=v by omega]
 obtain ⟨m1,hm1,mm1⟩:=K0r (l:=b.MinStart) (z:=(i:Int)) (by omega) (by have:=hb.l1;omega)
 obtain ⟨m2,hm2,mm2⟩:=K0r (l:=b.MaxStart) (z:=(i:Int)) (by omega) (by have:=hb.l2;omega)
 have q1:=hb.lo m1 mm1
 have q2:=hb.hi m2 mm2
 rcases hk with rfl | rfl
 ·refine ⟨⟨b.MinStart.set i (max m1 v),b.MaxStart,b.Modes⟩,?_,⟨by simp [hb.l1],hb.l2,hb.md,fun m hm=>?_,hb.hi⟩⟩
  ·simp only [K0e,A1p h hb,t1,t2,Option.bind_some,Bool.not_true,cond_false,show ((1:Int) == 1)=true from rfl,cond_true,hm1,V0x,setN]
  rcases List.mem_or_eq_of_mem_set hm with hm | rfl
  ·exact hb.lo m hm
  omega
 refine ⟨⟨b.MinStart,b.MaxStart.set i (min m2 v),b.Modes⟩,?_,⟨hb.l1,by simp [hb.l2],hb.md,hb.lo,fun m hm=>?_⟩⟩
 ·simp only [K0e,A1p h hb,t1,t2,Option.bind_some,Bool.not_true,cond_false,show ((2:Int) == 1)=false from rfl,show ((2:Int) == 2)=true from rfl,cond_true,hm2,U0y,setN]
 rcases List.mem_or_eq_of_mem_set hm with hm | rfl
 ·exact hb.hi m hm
 omega
theorem C1l {p:A0a}(h:L0b p):∀(k:Nat)(fuel:Nat)(c:A0m)(b:A0f),k<fuel→k≤6→CurF c→PreF p b→LeF b→∃ b',G0c p fuel (k:Int) c.b c.i c.h b.MinStart b.MaxStart b.Modes=some (b'.MinStart,b'.MaxStart,b'.Modes)∧PreF p b'∧LeF b'
 | 0,fuel+1,c,b,_,_,hc,h1,h2=>⟨b,rfl,h1,h2⟩
 | k+1,fuel+1,c,b,hf,hk,hc,h1,h2=>by
  have hn:=h.na
  have hd:=h.d
  obtain ⟨v1,d1,e1,a1,a2,hd1⟩:=C0l (n:=2) hc (by omega) (by omega)
  have e1':A0p ⟨c.b,c.i,c.h⟩ 2=some (v1,d1):=e1
  obtain ⟨v2,d2,e2,a3,a4,hd2⟩:=C0l (n:=(p.Activities.length:Int)) hd1 (by omega) (by omega)
  obtain ⟨v3,d3,e3,a5,a6,hd3⟩:=C0l (n:=p.Deadline) hd2 (by omega) (by omega)
  obtain ⟨b',e4,hb'⟩:=Y0y h h1 (k:=1+v1) (a:=v2) (v:=v3) (by omega) ⟨a3,a4⟩ (by omega)
  have e4':K0e ⟨b.MinStart,b.MaxStart,b.Modes⟩ ⟨1+v1,v2,v3⟩=some b':=e4
  obtain ⟨v,e5,hv⟩:=U0g b'
  have hW:W (((k+1:Nat):Int) - 1)=(k:Int):=Wk1 (by omega)
  rw [G0c,decide_eq_true (by omega),cond_true]
  simp only [e1',e2,e3,W_of (n:=1+v1) (by omega),e4',e5,Option.bind_some,hW]
  cases v with
  | true=>exact C1l h k fuel d3 b (by omega) (by omega) hd3 h1 h2
  | false=>exact C1l h k fuel d3 b' (by omega) (by omega) hd3 hb' (hv rfl).1
theorem D1i (l:List Int)(hl:l.length≤1048576){p:A0a}(h:L0b p):∃ b,M0a l p=some b∧PreF p b∧LeF b:=by
 obtain ⟨c,h1,h2⟩:=X0m l hl
 obtain ⟨b,e1,hb,hle⟩:=D1o h
 obtain ⟨v,d,e2,a1,a2,hd⟩:=C0l (n:=4) (h2 (W (c.h+17))) (by omega) (by omega)
 obtain ⟨b',e3,hb',hle'⟩:=C1l h v.toNat F0 d b (by have:=F0_gt;omega) (by omega) hd hb hle
 rw [show ((v.toNat:Nat):Int)=v by omega] at e3
 exact ⟨b',by simp only [M0a,h1,e1,e2,e3,Option.bind_some],hb',hle'⟩
theorem PreF.nonempty {p:A0a}(h:L0b p){b:A0f}(hb:PreF p b):∀ m∈b.Modes,m≠[]:=by
 intro m hm e
 rw [hb.md] at hm
 obtain ⟨x,hx,rfl⟩:=List.mem_map.1 hm
 have:=(h.proj.acts x hx).2.1
 have:=J0y x.Modes.length
 rw [e] at this
 simp at this;omega
theorem PreF.at_ {p:A0a}{b:A0f}(hb:PreF p b){i:Nat}{x:A0g}(hx:p.Activities[i]? = some x):∃ m1 m2,b.MinStart[i]? = some m1∧b.MaxStart[i]? = some m2∧b.Modes[i]? = some (C0m x.Modes.length)∧(0≤m1∧m1≤60)∧0≤m2∧m2≤60:=by
 have hi:=(List.getElem?_eq_some_iff.1 hx).1
 have k1:i<b.MinStart.length:=by rw [hb.l1];exact hi
 have k2:i<b.MaxStart.length:=by rw [hb.l2];exact hi
 refine ⟨_,_,List.getElem?_eq_getElem k1,List.getElem?_eq_getElem k2,?_,hb.lo _ (List.getElem_mem k1),hb.hi _ (List.getElem_mem k2)⟩
 rw [hb.md,List.getElem?_map,hx];rfl
theorem A1y:∀(xs:List A0g)(z a:Int)(c:A0m)(st md:List Int),CurF c→(∀ x∈xs,1≤x.Modes.length∧x.Modes.length≤3)→st.length+xs.length≤1000→md.length=st.length→∃ (d:A0m) (st' ks:List Int),G0h xs z a c.b c.i c.h st md=some (d.b,d.i,d.h,st',md ++ ks)∧st'.length=st.length+xs.length∧ks.length=xs.length∧∀(i:Nat) x,xs[i]? = some x→∃ k:Nat,ks[i]? = some (k:Int)∧k<x.Modes.length
 | [],z,a,c,st,md,hc,_,_,_=>⟨c,st,[],by simp [G0h],by simp,rfl,fun i x hx=>by simp at hx⟩
 | x::xs,z,a,c,st,md,hc,hm,hl,he=>by
  simp only [List.length_cons] at hl
  have hx:=hm x (List.mem_cons_self ..)
  obtain ⟨o,d1,e1,hd1⟩:=U0v (n:=3) hc (by omega) (by omega)
  have e1':H0k ⟨c.b,c.i,c.h⟩ 3=some (o,d1):=e1
  obtain ⟨v,d2,e2,hd2⟩:∃ (v:Int) (d2:A0m),(bif o then (A0p d1 12).bind fun v24=>some (v24.1,v24.2.b,v24.2.i,v24.2.h) else some (a,d1.b,d1.i,d1.h))=some (v,d2.b,d2.i,d2.h)∧CurF d2:=by
   cases o with
   | true=>
    obtain ⟨v,d,e,_,_,hd⟩:=C0l (n:=12) hd1 (by omega) (by omega)
    exact ⟨v,d,by rw [cond_true,e];rfl,hd⟩
   | false=>exact ⟨a,d1,rfl,hd1⟩
  obtain ⟨k,d3,e3,k0,k1,hd3⟩:=C0l (n:=(x.Modes.length:Int)) hd2 (by omega) (by omega)
  have e3':A0p ⟨d2.b,d2.i,d2.h⟩ (x.Modes.length:Int)=some (k,d3):=e3
  obtain ⟨w,d4,e4,_,_,hd4⟩:=C0l (n:=5) hd3 (by omega) (by omega)
  obtain ⟨d,st',ks,f1,f2,f3,f4⟩:=A1y xs (z+1) (W (a+w)) d4 (st ++ [v]) (md ++ [k]) hd4 (fun y hy=>hm y (List.mem_cons_of_mem _ hy)) (by simp;omega) (by simp [he])
  refine ⟨d,st',k::ks,?_,by rw [f2];simp;omega,by simp [f3],fun i y hy=>?_⟩
  ·rw [G0h]
   simp only [e1',e2,e3',e4,Option.bind_some,app1 _ (show st.length≤1000 by omega),app1 _ (show md.length≤1000 by omega),f1]
   simp
  cases i with
  | zero=>
   simp at hy;subst hy
   exact ⟨k.toNat,by simp;omega,by omega⟩
  | succ i=>simpa using f4 i y (by simpa using hy)
theorem B1k (l:List Int)(hl:l.length≤1048576){p:A0a}(h:L0b p):∃ s,H0x l p=some s∧s.Starts.length=p.Activities.length∧s.Modes.length=p.Activities.length∧∀(i:Nat) x,p.Activities[i]? = some x→∃ k:Nat,s.Modes[i]? = some (k:Int)∧k<x.Modes.length:=by
 obtain ⟨c,h1,h2⟩:=X0m l hl
 have hp:=h.proj
 obtain ⟨d,st,ks,f1,f2,f3,f4⟩:=A1y p.Activities 0 0 ⟨c.b,c.i,W (c.h+11)⟩ [] [] (h2 _) (fun x hx=>(hp.acts x hx).2.1) (by have:=h.na;simp;omega) rfl
 refine ⟨⟨st,ks⟩,?_,by simpa using f2,f3,f4⟩
 simp only [H0x,h1,S0x,Option.bind_some,f1,List.nil_append]
theorem W0r (b:A0f):∀(xs:List A0g)(z:Int)(a:List Int),w_FnWork_L1 b xs z a=w_FnCore_L1 b xs z a
 | [],z,a=>rfl
 | x::xs,z,a=>by simp only [w_FnWork_L1,w_FnCore_L1,W0r b xs]
theorem B1d {p:A0a}{b:A0f}(hb:PreF p b)(hle:LeF b):∀(xs:List A0g)(z:Nat)(a:List Int),p.Activities.drop z=xs→a.length=p.Activities.length→(∀ i s,i<z→a[i]? = some s→∃ m1 m2,b.MinStart[i]? = some m1∧b.MaxStart[i]? = some m2∧m1≤s∧s≤m2) →
  ∃ r,w_FnCore_L1 b xs z a=some r∧r.length=p.Activities.length∧∀(i:Nat) s,r[i]? = some s→∃ m1 m2,b.MinStart[i]? = some m1∧b.MaxStart[i]? = some m2∧m1≤s∧s≤m2
 | [],z,a,hd,hl,h=>⟨a,rfl,hl,fun i s hs=>h i s (by
   have h1:=(List.getElem?_eq_some_iff.1 hs).1
   have:=congrArg List.length hd
   simp at this;omega) hs⟩
 | x::xs,z,a,hd,hl,h=>by
  have hx:p.Activities[z]? = some x:=by
   have:=congrArg (fun l=>l[0]?) hd
   simpa using this
  have hd':p.Activities.drop (z+1)=xs:=by
   rw [← List.drop_drop,hd];rfl
  have hz:=(List.getElem?_eq_some_iff.1 hx).1
  obtain ⟨m1,m2,k1,k2,_,k4,k5⟩:=hb.at_ hx
  have k3:m1≤m2:=hle z m1 m2 (by rw [idxN];exact k1) (by rw [idxN];exact k2)
  obtain ⟨s,hs⟩:∃ s,a[z]? = some s:=⟨_,List.getElem?_eq_getElem (by omega)⟩
  have hzz:(z:Int)+1=((z+1:Nat):Int):=by omega
  have key:∀(v:Int)(a':List Int),a'.length=p.Activities.length→a'[z]? = some v→(∀ i,i≠z→a'[i]? = a[i]?)→m1≤v→v≤m2→∃ r,w_FnCore_L1 b xs ((z+1:Nat):Int) a'=some r∧r.length=p.Activities.length∧∀(i:Nat) s,r[i]? = some s→∃ m1 m2,b.MinStart[i]? = some m1∧b.MaxStart[i]? = some m2∧m1≤s∧s≤m2:=fun v a' h1 h2 h3 h4 h5=>
   B1d hb hle xs (z+1) a' hd' h1 (fun i s hi his=>by
    by_cases e:i=z
    ·subst e
     rw [h2] at his;cases his
     exact ⟨m1,m2,k1,k2,h4,h5⟩
    rw [h3 i e] at his
    exact h i s (by omega) his)
  rw [w_FnCore_L1]
  simp only [idxN,hs,k1,k2,Option.bind_some,setN,hzz]
  by_cases c1:s<m1
  ·have g1:(a.set z m1)[z]? = some m1:=by rw [setG (by omega),if_pos rfl]
   rw [decide_eq_true c1,cond_true,Option.bind_some,g1,Option.bind_some,decide_eq_false (show ¬ m2<m1 by omega),cond_false]
   exact key m1 (a.set z m1) (by simp [hl]) g1 (fun i hi=>by rw [setG (by omega),if_neg (fun e=>hi e.symm)]) (Int.le_refl _) k3
  rw [decide_eq_false c1,cond_false,Option.bind_some,hs,Option.bind_some]
  by_cases c2:m2<s
  ·rw [decide_eq_true c2,cond_true]
   exact key m2 (a.set z m2) (by simp [hl]) (by rw [setG (by omega),if_pos rfl]) (fun i hi=>by rw [setG (by omega),if_neg (fun e=>hi e.symm)]) k3 (Int.le_refl _)
  rw [decide_eq_false c2,cond_false]
  exact key s a hl hs (fun _ _=>rfl) (by omega) (by omega)
theorem U0s {n:Nat}:∀(xs:List TMode)(z:Nat),z+xs.length≤n→G0t (C0m n) xs z=xs
 | [],z,_=>rfl
 | x::xs,z,h=>by
  simp only [List.length_cons] at h
  have hm:(z:Int)∈C0m n:=by
   simp only [C0m,List.mem_map,List.mem_range]
   exact ⟨z,by omega,rfl⟩
  have:=U0s (n:=n) xs (z+1) (by omega)
  rw [show ((z+1:Nat):Int)=(z:Int)+1 by omega] at this
  rw [G0t,if_pos hm,this]
theorem S0t {f:TMode→Int}:∀(l:List TMode)(a:Int)(has:Bool),(has=true→J0z f l a has≤a)∧∀ m∈l,J0z f l a has≤f m
 | [],a,has=>⟨fun _=>Int.le_refl _,fun m hm=>by cases hm⟩
 | x::xs,a,has=>by
  rw [J0z]
  have h1:=S0t (f:=f) xs (f x) true
  have h2:=S0t (f:=f) xs a has
  cases hc:(!has || decide (f x<a)) with
  | true=>
   rw [cond_true]
   refine ⟨fun e=>?_,fun m hm=>?_⟩
   ·subst e
    simp at hc
    have:=h1.1 rfl;omega
   rcases List.mem_cons.1 hm with rfl | hm
   ·exact h1.1 rfl
   exact h1.2 m hm
  | false=>
   rw [cond_false]
   simp at hc
   obtain ⟨e,hc⟩:=hc
   refine ⟨h2.1,fun m hm=>?_⟩
   rcases List.mem_cons.1 hm with rfl | hm
   ·have:=h2.1 e;omega
   exact h2.2 m hm
theorem S0s {f:TMode→Int}{lo:Int}:∀(l:List TMode)(a:Int)(has:Bool),(∀ m∈l,lo≤f m)→(has=true→lo≤a)→(has=true∨l≠[])→lo≤J0z f l a has
 | [],a,has,_,h,hn=>by
  rcases hn with e | e
  ·exact h e
  exact absurd rfl e
 | x::xs,a,has,hl,h,hn=>by
  rw [J0z]
  have hx:=hl x (List.mem_cons_self ..)
  cases hc:(!has || decide (f x<a)) with
  | true=>exact S0s xs (f x) true (fun m hm=>hl m (List.mem_cons_of_mem _ hm)) (fun _=>hx) (.inl rfl)
  | false=>
   simp at hc
   exact S0s xs a has (fun m hm=>hl m (List.mem_cons_of_mem _ hm)) h (.inl hc.1)
theorem X0y {f:TMode→Option Int}{g:TMode→Int}:∀(l:List TMode)(a:Int)(has:Bool),(∀ m∈l,f m=some (g m))→∃ has',P0d f l a has=.inl (J0z g l a has')∧(has'=has)
 | [],a,has,_=>⟨has,rfl,rfl⟩
 | x::xs,a,has,h=>by
  refine ⟨has,?_,rfl⟩
  rw [P0d,J0z,h x (List.mem_cons_self ..)]
  have h':=fun m hm=>h m (List.mem_cons_of_mem _ hm)
  obtain ⟨_,e1,rfl⟩:=X0y xs (g x) true h'
  cases has with
  | true=>
   obtain ⟨_,e2,rfl⟩:=X0y xs a true h'
   simp only [e1,e2]
   cases (!true || decide (g x<a)) <;> rfl
  | false=>
   simp only [e1]
   rfl
structure Tk where
 s:Int
 m1:Int
 m2:Int
 mo:TMode
 use:Int
 dmin:Int
 umin:Int
structure R0b (p:A0a)(b:A0f)(st md:List Int)(i:Nat)(x:A0g)(k:Tk):Prop where
 m1:b.MinStart[i]? = some k.m1
 m2:b.MaxStart[i]? = some k.m2
 ms:b.Modes[i]? = some (C0m x.Modes.length)
 s:st[i]? = some k.s
 mo:∃ j:Nat,md[i]? = some (j:Int)∧x.Modes[j]? = some k.mo
 use:k.mo.Usage[0]? = some k.use
 dmin:G0m x (C0m x.Modes.length)=some k.dmin
 umin:J0f x (C0m x.Modes.length) 0=some k.umin
 b0:0≤k.m1∧k.m1≤k.s∧k.s≤k.m2∧k.m2≤60
 b1:1≤k.dmin∧k.dmin≤k.mo.Duration∧k.mo.Duration≤12
 b2:0≤k.umin∧k.umin≤k.use∧k.use≤20
structure SitF (p:A0a)(b:A0f)(st md:List Int)(K:Nat→Tk):Prop where
 dr:L0b p
 pre:PreF p b
 le:LeF b
 ls:st.length=p.Activities.length
 lm:md.length=p.Activities.length
 at_:∀(i:Nat) x,p.Activities[i]? = some x→R0b p b st md i x (K i)
theorem use0 {p:A0a}(h:L0b p){m:TMode}(hm:ModeF m p.Resources.length p.Stocks.length):∃ u,m.Usage[0]? = some u∧0≤u∧u≤20:=by
 have h1:=h.nr
 have h2:=hm.2.1.1
 have hl:0<m.Usage.length:=by omega
 exact ⟨_,List.getElem?_eq_getElem hl,hm.2.1.2 _ (List.getElem_mem hl)⟩
theorem E1f {p:A0a}(h:L0b p){b:A0f}(hb:PreF p b){st md:List Int}(hs:∀(i:Nat) s,st[i]? = some s→∃ m1 m2,b.MinStart[i]? = some m1∧b.MaxStart[i]? = some m2∧m1≤s∧s≤m2)(ls:st.length=p.Activities.length)
  (hk:∀(i:Nat) x,p.Activities[i]? = some x→∃ k:Nat,md[i]? = some (k:Int)∧k<x.Modes.length) {i:Nat} {x:A0g} (hx:p.Activities[i]? = some x):∃ k,R0b p b st md i x k:=by
 have hp:=h.proj
 have hA:=(h.act i x hx).1
 obtain ⟨m1,m2,e1,e2,e3,e4,e5⟩:=hb.at_ hx
 obtain ⟨j,f1,f2⟩:=hk i x hx
 have hi:=(List.getElem?_eq_some_iff.1 hx).1
 obtain ⟨s,hs1⟩:∃ s,st[i]? = some s:=⟨_,List.getElem?_eq_getElem (by omega)⟩
 obtain ⟨n1,n2,g1,g2,g3,g4⟩:=hs i s hs1
 rw [e1] at g1;cases g1
 rw [e2] at g2;cases g2
 have hmo:x.Modes[j]? = some x.Modes[j]:=List.getElem?_eq_getElem f2
 have hmm:x.Modes[j]∈x.Modes:=List.getElem_mem f2
 obtain ⟨u,hu,hu0,hu1⟩:=use0 h (hA.2.2 _ hmm)
 have hall:=U0s (n:=x.Modes.length) x.Modes 0 (by omega)
 rw [show ((0:Nat):Int)=0 from rfl] at hall
 have hne:x.Modes≠[]:=fun e=>by rw [e] at f2;simp at f2
 have hlen:x.Modes.length≤1048576:=by have:=hA.2.1;omega
 have hd:G0m x (C0m x.Modes.length)=some (J0z TMode.Duration x.Modes 0 false):=by
  rw [U0m x _ hlen,P0b,hall]
 have hum:J0f x (C0m x.Modes.length) 0=some (J0z (fun m=>(m.Usage[0]?).getD 0) x.Modes 0 false):=by
  rw [Z0q x _ 0 hlen]
  simp only [T0e,S0w,hall,Option.bind_some]
  obtain ⟨_,e,rfl⟩:=X0y (f:=amtO 0 false false) (g:=fun m=>(m.Usage[0]?).getD 0) x.Modes 0 false (fun m hm=>by
   obtain ⟨v,hv,v0,v1⟩:=use0 h (hA.2.2 m hm)
   have hl:=(List.getElem?_eq_some_iff.1 hv).1
   have hW:W ((m.Usage.length:Int) - 1)=(m.Usage.length:Int) - 1:=W_of (by have h1:=h.nr;have h2:=(hA.2.2 m hm).2.1.1;omega)
   have hi0:idxL m.Usage 0=some v:=by
    have:=idxN m.Usage 0
    rw [show ((0:Nat):Int)=0 from rfl] at this
    rw [this,hv]
   simp only [amtO,eltO,cond_false,hW,inR_t (show (0:Int)≤0∧(0:Int)≤(m.Usage.length:Int) - 1 by omega),cond_true,hi0,Option.map_some,hv,Option.getD_some])
  rw [e];rfl
 have hdl:=S0s (f:=TMode.Duration) (lo:=1) x.Modes 0 false (fun m hm=>(hA.2.2 m hm).1.1) (fun e=>by cases e) (.inr hne)
 have hdu:=(S0t (f:=TMode.Duration) x.Modes 0 false).2 _ hmm
 have hul:=S0s (f:=fun m=>(m.Usage[0]?).getD 0) (lo:=0) x.Modes 0 false (fun m hm=>by
  obtain ⟨v,hv,v0,v1⟩:=use0 h (hA.2.2 m hm)
  show 0≤(m.Usage[0]?).getD 0
  rw [hv];exact v0) (fun e=>by cases e) (.inr hne)
 have huu:=(S0t (f:=fun m=>(m.Usage[0]?).getD 0) x.Modes 0 false).2 _ hmm
 have huu':J0z (fun m=>(m.Usage[0]?).getD 0) x.Modes 0 false≤u:=by
  have huu:J0z (fun m=>(m.Usage[0]?).getD 0) x.Modes 0 false≤(x.Modes[j].Usage[0]?).getD 0:=huu
  rw [hu] at huu;exact huu
 have hmd:=(hA.2.2 _ hmm).1
 exact ⟨⟨s,m1,m2,x.Modes[j],u,_,_⟩,⟨e1,e2,e3,hs1,⟨j,f1,hmo⟩,hu,hd,hum,⟨e4.1,g3,g4,e5.2⟩,⟨hdl,hdu,hmd.2⟩,⟨hul,huu',hu1⟩⟩⟩
theorem D1t (l:List Int)(hl:l.length≤1048576):∃ p b s r K,G0p l=some p∧M0a l p=some b∧H0x l p=some s∧w_FnCore_L1 b p.Activities 0 s.Starts=some r∧SitF p b r s.Modes K:=by
 obtain ⟨p,h1,hp⟩:=Z0a l hl
 obtain ⟨b,h2,hb,hle⟩:=D1i l hl hp
 obtain ⟨s,h3,s1,s2,s3⟩:=B1k l hl hp
 obtain ⟨r,h4,r1,r2⟩:=B1d hb hle p.Activities 0 s.Starts rfl s1 (fun i s hi=>by omega)
 have key:∀ i:Nat,∃ k:Tk,∀ x,p.Activities[i]? = some x→R0b p b r s.Modes i x k:=fun i=>by
  cases hx:p.Activities[i]? with
  | none=>exact ⟨⟨0,0,0,⟨0,[],[]⟩,0,0,0⟩,fun x h=>by cases h⟩
  | some x=>
   obtain ⟨k,hk⟩:=E1f hp hb r2 r1 s3 hx
   exact ⟨k,fun y hy=>by cases hy;exact hk⟩
 obtain ⟨K,hK⟩:=Classical.axiomOfChoice key
 exact ⟨p,b,s,r,K,h1,h2,h3,h4,⟨hp,hb,hle,r1,s2,hK⟩⟩
theorem Z0t (n:Nat):V0w (C0m n)=some true:=by
 have h:H0m (C0m n) (C0m n) 0=some (.inl ()):=by
  refine K0a (F:=H0m (C0m n)) (P:=fun x z=>0≤z∧(C0m n)[z.toNat]? = some x) (fun _=>rfl) (fun x xs z hx=>?_) (C0m n) 0 (fun i x hx=>⟨by omega,by simpa using hx⟩)
  obtain ⟨hz,hx⟩:=hx
  obtain ⟨k,rfl⟩:∃ k:Nat,z=k:=⟨z.toNat,by omega⟩
  have hk:k<n:=by have:=(List.getElem?_eq_some_iff.1 hx).1;rw [J0y] at this;simpa using this
  have hg:∀ j,j<n→(C0m n)[j]? = some (j:Int):=fun j hj=>by simp [C0m,hj]
  rw [Int.toNat_natCast,hg k hk] at hx
  cases hx
  rw [H0m]
  by_cases h0:0<k
  ·obtain ⟨j,rfl⟩:∃ j,k=j+1:=⟨k - 1,by omega⟩
   rw [decide_eq_true (by omega),cond_true,show ((j+1:Nat):Int) - 1=(j:Int) by omega,idxN,hg j (by omega),Option.bind_some,Option.bind_some,decide_eq_false (by omega),cond_false]
  rw [decide_eq_false (by omega)];rfl
 simp only [V0w,h,A0i,Option.bind_some,Sum.elim_inl]
theorem A1e (l:List Int):L0y l l=some true:=by
 have h:F0w l l 0=some (.inl ()):=by
  refine K0a (F:=F0w l) (P:=fun x z=>x∈l) (fun _=>rfl) (fun x xs z hx=>?_) l 0 (fun i x hx=>List.mem_of_getElem? hx)
  rw [F0w,N0i,Option.bind_some,decide_eq_true hx];rfl
 simp only [L0y,h,A0i,Option.bind_some,Sum.elim_inl]
theorem SitF.act {p:A0a}{b:A0f}{st md:List Int}{K:Nat→Tk}(S:SitF p b st md K){z:Int}{x:A0g}(h0:0≤z)(hx:p.Activities[z.toNat]? = some x):∃ i:Nat,z=i∧p.Activities[i]? = some x∧R0b p b st md i x (K i):=⟨z.toNat,by omega,hx,S.at_ _ x hx⟩
theorem SitF.usable {p:A0a}{b:A0f}{st md:List Int}{K:Nat→Tk}(S:SitF p b st md K):E0d p b=some true:=by
 have hp:=S.dr.proj
 have hn:=S.dr.na
 have hmod:∀ ms∈b.Modes,ms.length≤1048576:=fun ms hm=>by
  rw [S.pre.md] at hm
  obtain ⟨x,hx,rfl⟩:=List.mem_map.1 hm
  rw [J0y];have:=(hp.acts x hx).2.1;omega
 have l3:b.Modes.length=p.Activities.length:=by rw [S.pre.md];simp
 have h1:E0q b p.Activities 0=some (.inl ()):=by
  refine K0a (F:=E0q b) (P:=fun x z=>0≤z∧p.Activities[z.toNat]? = some x) (fun _=>rfl) (fun x xs z hx=>?_) p.Activities 0 (fun i x hx=>⟨by omega,by simpa using hx⟩)
  obtain ⟨i,rfl,hx,F⟩:=S.act hx.1 hx.2
  have b0:=F.b0
  rw [E0q]
  simp only [idxN,F.m1,F.m2,F.ms,Option.bind_some,A0t,inR_t (show (-2:Int)≤(K i).m1∧(K i).m1≤62 by omega),inR_t (show (-2:Int)≤(K i).m2∧(K i).m2≤62 by omega),Bool.not_true,cond_false,Z0t,P0h x (by have:=(hp.acts x (List.mem_of_getElem? hx)).2.1;omega),A1e]
 have h2:K0j p b=some true:=by
  simp only [K0j,S.dr.ok,Option.bind_some,Bool.not_true,cond_false,T0k,S.pre.l1,S.pre.l2,l3,decide_true,h1,A0i,Sum.elim_inl]
 have h3:C0r b=some false:=by
  have a1:B0v b b.MinStart 0=some (.inl ()):=by
   refine K0a (F:=B0v b) (P:=fun x z=>0≤z∧b.MinStart[z.toNat]? = some x) (fun _=>rfl) (fun x xs z hx=>?_) b.MinStart 0 (fun i x hx=>⟨by omega,by simpa using hx⟩)
   obtain ⟨hz,hx⟩:=hx
   obtain ⟨k,rfl⟩:∃ k:Nat,z=k:=⟨z.toNat,by omega⟩
   rw [Int.toNat_natCast] at hx
   have hk:k<b.MaxStart.length:=by have:=(List.getElem?_eq_some_iff.1 hx).1;rw [S.pre.l1] at this;rw [S.pre.l2];exact this
   have hy:b.MaxStart[k]? = some b.MaxStart[k]:=List.getElem?_eq_getElem hk
   have:=S.le k x b.MaxStart[k] (by rw [idxN];exact hx) (by rw [idxN];exact hy)
   rw [B0v,decide_eq_true (by omega),cond_true,idxN,hy,Option.bind_some,Option.bind_some,decide_eq_false (by omega),cond_false]
  have a2:B0s b.Modes 0=some (.inl ()):=by
   refine K0a (F:=B0s) (P:=fun m _=>m≠[]) (fun _=>rfl) (fun m xs z hm=>?_) b.Modes 0 (fun i x hx=>S.pre.nonempty S.dr x (List.mem_of_getElem? hx))
   rw [B0s,K0y,decide_eq_false (by have:=List.length_pos_iff.2 hm;omega),cond_false]
  simp only [C0r,a1,a2,A0i,Option.bind_some,Sum.elim_inl]
 rw [D1q p b hmod]
 simp only [A1h,h2,h3,Option.bind_some,cond_true,Bool.not_false]
theorem SitF.form {p:A0a}{b:A0f}{st md:List Int}{K:Nat→Tk}(S:SitF p b st md K):D0s p ⟨st,md⟩=some true:=by
 have hp:=S.dr.proj
 have h1:C0v ⟨st,md⟩ p.Activities 0=some (.inl ()):=by
  refine K0a (F:=C0v ⟨st,md⟩) (P:=fun x z=>0≤z∧p.Activities[z.toNat]? = some x) (fun _=>rfl) (fun x xs z hx=>?_) p.Activities 0 (fun i x hx=>⟨by omega,by simpa using hx⟩)
  obtain ⟨i,rfl,hx,F⟩:=S.act hx.1 hx.2
  obtain ⟨j,j1,j2⟩:=F.mo
  have hj:=(List.getElem?_eq_some_iff.1 j2).1
  have hm:=(hp.acts x (List.mem_of_getElem? hx)).2.1
  have b0:=F.b0
  rw [C0v]
  simp only [idxN,F.s,j1,Option.bind_some,G0j,C0d,inR_t (show (0:Int)≤(K i).s∧(K i).s≤60 by omega),W_of (n:=(x.Modes.length:Int) - 1) (by omega),inR_t (show (0:Int)≤(j:Int)∧(j:Int)≤(x.Modes.length:Int) - 1 by omega),Bool.not_true,cond_false]
 simp only [D0s,K0s,S.dr.ok,Option.bind_some,Bool.not_true,cond_false,T0k,S.ls,S.lm,decide_true,h1,A0i,Sum.elim_inl]
theorem SitF.contains {p:A0a}{b:A0f}{st md:List Int}{K:Nat→Tk}(S:SitF p b st md K):L0m b ⟨st,md⟩=some true:=by
 have hp:=S.dr.proj
 have l3:b.Modes.length=p.Activities.length:=by rw [S.pre.md];simp
 have h1:F0n b ⟨st,md⟩ st 0=some (.inl ()):=by
  refine K0a (F:=F0n b ⟨st,md⟩) (P:=fun x z=>0≤z∧st[z.toNat]? = some x) (fun _=>rfl) (fun y xs z hy=>?_) st 0 (fun i x hx=>⟨by omega,by simpa using hx⟩)
  obtain ⟨hz,hy⟩:=hy
  obtain ⟨i,rfl⟩:∃ i:Nat,z=i:=⟨z.toNat,by omega⟩
  rw [Int.toNat_natCast] at hy
  have hi:i<p.Activities.length:=by have:=(List.getElem?_eq_some_iff.1 hy).1;rw [S.ls] at this;exact this
  have F:=S.at_ i _ (List.getElem?_eq_getElem hi)
  have b0:=F.b0
  rw [F.s] at hy;cases hy
  obtain ⟨j,j1,j2⟩:=F.mo
  have hj:=(List.getElem?_eq_some_iff.1 j2).1
  have hmem:(j:Int)∈C0m p.Activities[i].Modes.length:=by
   simp only [C0m,List.mem_map,List.mem_range]
   exact ⟨j,hj,rfl⟩
  rw [F0n]
  simp only [idxN,F.m1,F.m2,F.ms,j1,Option.bind_some,decide_eq_false (show ¬ (K i).s<(K i).m1 by omega),decide_eq_false (show ¬ (K i).m2<(K i).s by omega),cond_false,N0z,decide_eq_true hmem,Bool.not_true]
 simp only [L0m,S.ls,S.lm,S.pre.l1,S.pre.l2,l3,T0k,decide_true,Bool.not_true,cond_false,Option.bind_some,h1,A0i,Sum.elim_inl]
def sumN (h:Nat→Int):Nat→Nat→Int
 | _,0=>0
 | z,r+1=>h z+sumN h (z+1) r
theorem C1h {f g:Nat→Int}:∀(r z:Nat),(∀ i,z≤i→i<z+r→f i≤g i)→sumN f z r≤sumN g z r
 | 0,z,_=>Int.le_refl _
 | r+1,z,h=>by
  have h1:=h z (Nat.le_refl _) (by omega)
  have h2:=C1h r (z+1) (fun i a b=>h i (by omega) (by omega))
  simp only [sumN];omega
theorem Z0x {f:Nat→Int}{M:Int}:∀(r z:Nat),(∀ i,z≤i→i<z+r→0≤f i∧f i≤M)→0≤sumN f z r∧sumN f z r≤M*r
 | 0,z,_=>by simp [sumN]
 | r+1,z,h=>by
  have h1:=h z (Nat.le_refl _) (by omega)
  have h2:=Z0x r (z+1) (fun i a b=>h i (by omega) (by omega))
  have h3:M*((r+1:Nat):Int)=M*r+M:=by
   rw [show ((r+1:Nat):Int)=(r:Int)+1 by omega,Int.mul_add,Int.mul_one]
  simp only [sumN]
  rw [h3];omega
theorem A1l (f g:Nat→Int):∀(r z:Nat),sumN (fun i=>f i+g i) z r=sumN f z r+sumN g z r
 | 0,z=>rfl
 | r+1,z=>by
  have:=A1l f g r (z+1)
  simp only [sumN,this];omega
theorem X0g {f g:Nat→Int}:∀(r z:Nat),(∀ i,z≤i→i<z+r→f i=g i)→sumN f z r=sumN g z r
 | 0,z,_=>rfl
 | r+1,z,h=>by
  simp only [sumN,h z (Nat.le_refl _) (by omega),X0g r (z+1) (fun i a b=>h i (by omega) (by omega))]
def fK (t:Int)(k:Tk):Int:=if k.s≤t∧t<k.s+k.mo.Duration then k.use else 0
def gK (t:Int)(k:Tk):Int:=if k.m2≤t∧t<k.m1+k.dmin then k.umin else 0
def idxF:Nat→Nat→List Int
 | _,0=>[]
 | z,r+1=>(z:Int)::idxF (z+1) r
theorem X0f:∀(r z:Nat),idxF z r=(List.range' z r).map fun (i:Nat)=>(i:Int)
 | 0,z=>rfl
 | r+1,z=>by simp only [idxF,List.range'_succ,List.map_cons,X0f r (z+1)]
theorem V0t (n:Nat):C0m n=idxF 0 n:=by
 rw [X0f];unfold C0m;rw [List.range_eq_range']
theorem keptF {g:Int→Option Bool}{q:Int→Bool}:∀(l:List Int)(z:Int)(a:List Int),(∀ x∈l,g x=some (q x))→a.length+l.length≤1000→H0o g l z a=some (a ++ l.filter q)
 | [],z,a,_,_=>by simp [H0o]
 | x::xs,z,a,h,hl=>by
  simp only [List.length_cons] at hl
  simp only [H0o,h x (List.mem_cons_self ..),Option.bind_some]
  cases hq:q x with
  | true=>
   rw [cond_true,app1 _ (by omega),Option.bind_some,keptF xs (z+1) _ (fun y hy=>h y (List.mem_cons_of_mem _ hy)) (by simp;omega)]
   simp [List.filter_cons,hq]
  | false=>
   rw [cond_false,keptF xs (z+1) _ (fun y hy=>h y (List.mem_cons_of_mem _ hy)) (by omega)]
   simp [List.filter_cons,hq]
def qK (K:Nat→Tk)(t:Int)(z:Int):Bool:=decide ((K z.toNat).s≤t∧t<(K z.toNat).s+(K z.toNat).mo.Duration)
theorem SitF.get {p:A0a}{b:A0f}{st md:List Int}{K:Nat→Tk}(S:SitF p b st md K){i:Nat}(hi:i<p.Activities.length):∃ x,p.Activities[i]? = some x∧R0b p b st md i x (K i):=⟨_,List.getElem?_eq_getElem hi,S.at_ _ _ (List.getElem?_eq_getElem hi)⟩
theorem SitF.mode {p:A0a}{b:A0f}{st md:List Int}{K:Nat→Tk}(S:SitF p b st md K){i:Nat}{x:A0g}(hx:p.Activities[i]? = some x)(F:R0b p b st md i x (K i)):D0t p ⟨st,md⟩ (i:Int)=some (K i).mo:=by
 obtain ⟨j,j1,j2⟩:=F.mo
 simp only [D0t,idxN,hx,j1,j2,Option.bind_some]
theorem SitF.end_ {p:A0a}{b:A0f}{st md:List Int}{K:Nat→Tk}(S:SitF p b st md K){i:Nat}{x:A0g}(hx:p.Activities[i]? = some x)(F:R0b p b st md i x (K i)):D0r p ⟨st,md⟩ (i:Int)=some ((K i).s+(K i).mo.Duration):=by
 have b0:=F.b0
 have b1:=F.b1
 simp only [D0r,S.mode hx F,idxN,F.s,Option.bind_some,W_of (n:=(K i).s+(K i).mo.Duration) (by omega)]
theorem SitF.running {p:A0a}{b:A0f}{st md:List Int}{K:Nat→Tk}(S:SitF p b st md K)(t:Int):E0o p ⟨st,md⟩ t=some ((idxF 0 p.Activities.length).filter (qK K t)):=by
 have hn:=S.dr.na
 have h1:K0d (p.Activities.length:Int)=some (C0m p.Activities.length):=by rw [W0c,R0v _ (by omega)]
 have h2:H0o (fun x0=>D0h x0 ⟨st,md⟩ t p) (C0m p.Activities.length) 0 []=some ([] ++ (C0m p.Activities.length).filter (qK K t)):=by
  refine keptF _ 0 [] (fun z hz=>?_) (by rw [J0y];simp;omega)
  have hz':=X0h hz
  obtain ⟨i,rfl⟩:∃ i:Nat,z=i:=⟨z.toNat,by omega⟩
  obtain ⟨x,hx,F⟩:=S.get (i:=i) (by omega)
  simp only [D0h,idxN,F.s,S.end_ hx F,Option.bind_some,D0y,qK,Int.toNat_natCast]
  by_cases c1:(K i).s≤t
  ·by_cases c2:t<(K i).s+(K i).mo.Duration <;> simp [c1,c2]
  simp [c1]
 simp only [E0o,A1k,h1,h2,Option.bind_some,List.nil_append]
 rw [V0t]
theorem SitF.usage_L1 {p:A0a}{b:A0f}{st md:List Int}{K:Nat→Tk}(S:SitF p b st md K)(t:Int):∀(r z:Nat)(y c:Int),z+r=p.Activities.length→0≤c∧c≤20*(z:Int)→C0o p ⟨st,md⟩ 0 ((idxF z r).filter (qK K t)) y c=some (c+sumN (fun i=>fK t (K i)) z r)
 | 0,z,y,c,_,_=>by simp [idxF,C0o,sumN]
 | r+1,z,y,c,hr,hc=>by
  have hn:=S.dr.na
  obtain ⟨x,hx,F⟩:=S.get (i:=z) (by omega)
  have b2:=F.b2
  rw [idxF,List.filter_cons]
  by_cases hq:qK K t (z:Int)=true
  ·have hq':(K z).s≤t∧t<(K z).s+(K z).mo.Duration:=by simpa [qK] using hq
   have u0:idxL (K z).mo.Usage 0=some (K z).use:=by
    have:=idxN (K z).mo.Usage 0
    rw [show ((0:Nat):Int)=0 from rfl] at this
    rw [this,F.use]
   rw [if_pos hq,C0o,S.mode hx F,Option.bind_some,u0,Option.bind_some,W_of (n:=c+(K z).use) (by omega),S.usage_L1 t r (z+1) (y+1) _ (by omega) (by omega)]
   simp only [sumN]
   rw [show fK t (K z)=(K z).use from if_pos hq',Int.add_assoc]
  have hq':¬ ((K z).s≤t∧t<(K z).s+(K z).mo.Duration):=fun h=>hq (by simpa [qK] using h)
  rw [if_neg hq,S.usage_L1 t r (z+1) y c (by omega) (by omega)]
  simp only [sumN]
  rw [show fK t (K z)=0 from if_neg hq',Int.zero_add]
def fT (K:Nat→Tk)(n:Nat)(t:Int):Int:=sumN (fun i=>fK t (K i)) 0 n
def gT (K:Nat→Tk)(n:Nat)(t:Int):Int:=sumN (fun i=>gK t (K i)) 0 n
theorem SitF.usage {p:A0a}{b:A0f}{st md:List Int}{K:Nat→Tk}(S:SitF p b st md K)(t:Int):E0w p ⟨st,md⟩ 0 t=some (fT K p.Activities.length t):=by
 have:=S.usage_L1 t p.Activities.length 0 0 0 (by omega) (by omega)
 rw [Int.zero_add] at this
 simp only [E0w,S.running,this,Option.bind_some]
 rfl
theorem SitF.dur {p:A0a}{b:A0f}{st md:List Int}{K:Nat→Tk}(S:SitF p b st md K){i:Nat}{x:A0g}(hx:p.Activities[i]? = some x)(F:R0b p b st md i x (K i)):E0e p b (i:Int)=some (K i).dmin:=by
 simp only [E0e,idxN,hx,F.ms,F.dmin,Option.bind_some]
theorem SitF.comp {p:A0a}{b:A0f}{st md:List Int}{K:Nat→Tk}(S:SitF p b st md K){i:Nat}{x:A0g}(hx:p.Activities[i]? = some x)(F:R0b p b st md i x (K i)):D0i p b (i:Int)=some ((K i).m2,(K i).m1+(K i).dmin):=by
 have b0:=F.b0
 have b1:=F.b1
 simp only [D0i,S.dur hx F,idxN,F.m1,F.m2,Option.bind_some,W_of (n:=(K i).m1+(K i).dmin) (by omega)]
theorem SitF.cuse_L1 {p:A0a}{b:A0f}{st md:List Int}{K:Nat→Tk}(S:SitF p b st md K)(t:Int):∀(xs:List A0g)(z:Nat)(c:Int),p.Activities.drop z=xs→0≤c∧c≤20*(z:Int)→A0x p b 0 t xs z c=some (c+sumN (fun i=>gK t (K i)) z xs.length)
 | [],z,c,_,_=>by simp [A0x,sumN]
 | x::xs,z,c,hd,hc=>by
  have hn:=S.dr.na
  have hx:p.Activities[z]? = some x:=by
   have:=congrArg (fun l=>l[0]?) hd
   simpa using this
  have hd':p.Activities.drop (z+1)=xs:=by
   rw [← List.drop_drop,hd];rfl
  have hz:=(List.getElem?_eq_some_iff.1 hx).1
  have F:=S.at_ z x hx
  have b2:=F.b2
  have hzz:(z:Int)+1=((z+1:Nat):Int):=by omega
  rw [A0x,S.comp hx F,Option.bind_some,D0y,Option.bind_some]
  simp only [List.length_cons,sumN,hzz]
  by_cases h:(K z).m2≤t∧t<(K z).m1+(K z).dmin
  ·rw [decide_eq_true h.1,decide_eq_true h.2]
   simp only [cond_true,idxN,F.ms,F.umin,Option.bind_some]
   rw [W_of (n:=c+(K z).umin) (by omega),S.cuse_L1 t xs (z+1) _ hd' (by omega),show gK t (K z)=(K z).umin from if_pos h,Int.add_assoc]
  ·have e:(bif decide ((K z).m2≤t) then decide (t<(K z).m1+(K z).dmin) else false)=false:=by
    by_cases c1:(K z).m2≤t
    ·have c2:¬ t<(K z).m1+(K z).dmin:=fun c2=>h ⟨c1,c2⟩
     simp [c1,c2]
    simp [c1]
   rw [e,cond_false,S.cuse_L1 t xs (z+1) c hd' (by omega),show gK t (K z)=0 from if_neg h,Int.zero_add]
theorem SitF.cuse {p:A0a}{b:A0f}{st md:List Int}{K:Nat→Tk}(S:SitF p b st md K)(t:Int):B0l p b 0 t=some (gT K p.Activities.length t):=by
 have:=S.cuse_L1 t p.Activities 0 0 rfl (by omega)
 rw [Int.zero_add] at this
 have this:A0x p b 0 t p.Activities 0 0=some (sumN (fun i=>gK t (K i)) 0 p.Activities.length):=this
 simp only [B0l,this,Option.bind_some]
 rfl
theorem SitF.gf {p:A0a}{b:A0f}{st md:List Int}{K:Nat→Tk}(S:SitF p b st md K){i:Nat}(hi:i<p.Activities.length)(t:Int):gK t (K i)≤fK t (K i)∧(0≤fK t (K i)∧fK t (K i)≤20)∧0≤gK t (K i)∧gK t (K i)≤20:=by
 obtain ⟨x,hx,F⟩:=S.get hi
 have b0:=F.b0
 have b1:=F.b1
 have b2:=F.b2
 unfold gK fK
 split <;> split <;> omega
theorem SitF.gT_le {p:A0a}{b:A0f}{st md:List Int}{K:Nat→Tk}(S:SitF p b st md K)(t:Int):gT K p.Activities.length t≤fT K p.Activities.length t:=C1h _ _ fun i _ h=>(S.gf (by omega) t).1
theorem SitF.fT_bd {p:A0a}{b:A0f}{st md:List Int}{K:Nat→Tk}(S:SitF p b st md K)(t:Int):0≤fT K p.Activities.length t∧fT K p.Activities.length t≤120:=by
 have hn:=S.dr.na
 have:=Z0x (f:=fun i=>fK t (K i)) (M:=20) p.Activities.length 0 (fun i _ h=>(S.gf (by omega) t).2.1)
 unfold fT;omega
theorem SitF.gT_bd {p:A0a}{b:A0f}{st md:List Int}{K:Nat→Tk}(S:SitF p b st md K)(t:Int):0≤gT K p.Activities.length t∧gT K p.Activities.length t≤120:=by
 have:=S.fT_bd t
 have:=S.gT_le t
 have:=(Z0x (f:=fun i=>gK t (K i)) (M:=20) p.Activities.length 0 (fun i _ h=>(S.gf (by omega) t).2.2)).1
 have h0:0≤gT K p.Activities.length t:=this
 omega
theorem SitF.hasRes {p:A0a}{b:A0f}{st md:List Int}{K:Nat→Tk}(S:SitF p b st md K):inR 0 0 (W ((p.Resources.length:Int) - 1))=true:=by
 have:=S.dr.nr
 rw [W_of (by omega)];exact inR_t (by omega)
theorem SitF.hasAct {p:A0a}{b:A0f}{st md:List Int}{K:Nat→Tk}(S:SitF p b st md K){i:Nat}(hi:i<p.Activities.length):inR (i:Int) 0 (W ((p.Activities.length:Int) - 1))=true:=by
 have:=S.dr.na
 rw [W_of (by omega)];exact inR_t (by omega)
theorem SitF.fUsageAt {p:A0a}{b:A0f}{st md:List Int}{K:Nat→Tk}(S:SitF p b st md K)(t:Int):M0z p ⟨st,md⟩ 0 t=some (fT K p.Activities.length t):=by
 simp only [M0z,S.form,C0h,S.hasRes,S.usage,Option.bind_some,Bool.not_true,cond_false]
theorem SitF.fCompulsoryUsage {p:A0a}{b:A0f}{st md:List Int}{K:Nat→Tk}(S:SitF p b st md K)(t:Int):F0y p b 0 t=some (gT K p.Activities.length t):=by
 simp only [F0y,S.usable,C0h,S.hasRes,S.cuse,Option.bind_some,Bool.not_true,cond_false]
theorem SitF.core_L3 {p:A0a}{b:A0f}{st md:List Int}{K:Nat→Tk}(S:SitF p b st md K){sch:A0l}(hsch:sch.Modes=md)(t:Int):w_FnCore_L3 p b sch st t p.Activities 0=some (.inl ()):=by
 refine K0a (F:=w_FnCore_L3 p b sch st t) (P:=fun x z=>0≤z∧p.Activities[z.toNat]? = some x) (fun _=>rfl) (fun x xs z hx=>?_) p.Activities 0 (fun i x hx=>⟨by omega,by simpa using hx⟩)
 obtain ⟨i,rfl,hx,F⟩:=S.act hx.1 hx.2
 have hi:=(List.getElem?_eq_some_iff.1 hx).1
 have b0:=F.b0
 have b1:=F.b1
 have b2:=F.b2
 obtain ⟨j,j1,j2⟩:=F.mo
 have hend:P0p p ⟨st,md⟩ (i:Int)=some ((K i).s+(K i).mo.Duration):=by
  simp only [P0p,S.form,G0z,S.hasAct hi,S.end_ hx F,Option.bind_some,Bool.not_true,cond_false]
 have hsd:F0l p b (i:Int)=some (K i).dmin:=by
  simp only [F0l,S.usable,G0z,S.hasAct hi,S.dur hx F,Option.bind_some,Bool.not_true,cond_false]
 have hru:H0c p b 0 (i:Int)=some (K i).umin:=by
  simp only [H0c,S.usable,G0z,C0h,S.hasRes,S.hasAct hi,idxN,hx,F.ms,F.umin,Option.bind_some,Bool.not_true,cond_false]
 have u0:idxL (K i).mo.Usage 0=some (K i).use:=by
  have:=idxN (K i).mo.Usage 0
  rw [show ((0:Nat):Int)=0 from rfl] at this
  rw [this,F.use]
 have hrun:M0e p ⟨st,md⟩ t=some ((idxF 0 p.Activities.length).filter (qK K t)):=by
  simp only [M0e,S.form,S.running,Option.bind_some,Bool.not_true,cond_false]
 have hcp:G0u p b (i:Int)=some (bif decide ((K i).m1+(K i).dmin≤(K i).m2) then (0,0,false) else ((K i).m2,(K i).m1+(K i).dmin,true)):=by
  simp only [G0u,S.usable,G0z,S.hasAct hi,S.comp hx F,Option.bind_some,Bool.not_true,cond_false]
  exact D0y _ _ _
 have htail:(bif (decide ((W ((K i).s+(K i).mo.Duration - (K i).s))<(K i).dmin)) then some true else some (decide ((K i).use<(K i).umin)))=some false:=by
  rw [W_of (by omega),decide_eq_false (by omega),cond_false,decide_eq_false (by omega)]
 rw [w_FnCore_L3]
 simp only [hsch,hcp,hend,hsd,hru,idxN,F.s,j1,j2,u0,hrun,N0z,Option.bind_some,htail,cond_false]
 by_cases hc:(K i).m1+(K i).dmin≤(K i).m2
 ·simp only [decide_eq_true hc,cond_true,cond_false,Option.bind_some]
 simp only [decide_eq_false hc,cond_true,cond_false]
 by_cases h1:(K i).m2≤t
 ·by_cases h2:t<(K i).m1+(K i).dmin
  ·have hmem:(i:Int)∈(idxF 0 p.Activities.length).filter (qK K t):=by
    rw [List.mem_filter,← V0t]
    refine ⟨by simp only [C0m,List.mem_map,List.mem_range];exact ⟨i,hi,rfl⟩,?_⟩
    simp only [qK,Int.toNat_natCast,decide_eq_true_eq]
    omega
   simp only [decide_eq_true h1,decide_eq_true h2,decide_eq_true hmem,cond_true,Bool.not_true,Option.bind_some,cond_false]
  simp only [decide_eq_true h1,decide_eq_false h2,cond_true,cond_false,Option.bind_some]
 simp only [decide_eq_false h1,cond_false,Option.bind_some]
theorem SitF.core_L2 {p:A0a}{b:A0f}{st md:List Int}{K:Nat→Tk}(S:SitF p b st md K){sch:A0l}(hsch:sch.Modes=md):∀(fuel:Nat)(t:Int),0≤t→t≤24→24 - t<fuel→w_FnCore_L2 p b sch st fuel t=some (.inl ())
 | 0,t,_,_,h=>by omega
 | fuel+1,t,h0,h1,hf=>by
  rw [w_FnCore_L2]
  by_cases ht:t<24
  ·rw [decide_eq_true ht,cond_true,S.fCompulsoryUsage,Option.bind_some,hsch,S.fUsageAt,Option.bind_some,decide_eq_false (by have:=S.gT_le t;omega),cond_false,S.core_L3 hsch]
   simp only [A0i,Option.bind_some,Sum.elim_inl]
   rw [W_of (n:=t+1) (by omega)]
   exact S.core_L2 hsch fuel (t+1) (by omega) (by omega) (by omega)
  rw [decide_eq_false ht,cond_false]
theorem SitF.over_L1 {p:A0a}{b:A0f}{st md:List Int}{K:Nat→Tk}(S:SitF p b st md K){r:B0u}(hr:p.Resources[0]? = some r):∀(fuel:Nat)(t:Int),0≤t→t≤61→61 - t<fuel→C0y p b 0 fuel t=some (.inl ())∨∃ u c,C0y p b 0 fuel t=some (.inr u)∧0≤u∧u≤60∧G0d r.Steps u=some c∧c<gT K p.Activities.length u
 | 0,t,_,_,h=>by omega
 | fuel+1,t,h0,h1,hf=>by
  rw [C0y]
  have r0:idxL p.Resources 0=some r:=by
   have:=idxN p.Resources 0
   rw [show ((0:Nat):Int)=0 from rfl] at this
   rw [this,hr]
  by_cases ht:t<61
  ·have hres:=S.dr.proj.ress r (List.mem_of_getElem? hr)
   obtain ⟨c,hc,_⟩:=X0b r.Steps t (fun x hx=>(hres.1 x hx).2)
   rw [decide_eq_true ht,cond_true,S.cuse,Option.bind_some,r0,Option.bind_some,N0t,hc,Option.bind_some]
   by_cases hlt:c<gT K p.Activities.length t
   ·right
    exact ⟨t,c,by rw [decide_eq_true hlt,cond_true],h0,by omega,by rw [N0t];exact hc,hlt⟩
   rw [decide_eq_false hlt,cond_false,W_of (n:=t+1) (by omega)]
   exact S.over_L1 hr fuel (t+1) (by omega) (by omega) (by omega)
  left;rw [decide_eq_false ht,cond_false]
theorem SitF.res0 {p:A0a}{b:A0f}{st md:List Int}{K:Nat→Tk}(S:SitF p b st md K):∃ r,p.Resources[0]? = some r∧idxL p.Resources 0=some r:=by
 have:=S.dr.nr
 have h:p.Resources[0]? = some p.Resources[0]:=List.getElem?_eq_getElem (by omega)
 refine ⟨_,h,?_⟩
 have h2:=idxN p.Resources 0
 rw [show ((0:Nat):Int)=0 from rfl] at h2
 rw [h2,h]
theorem SitF.core_end {p:A0a}{b:A0f}{st md:List Int}{K:Nat→Tk}(S:SitF p b st md K):((F0u p b 0).bind fun v77=>Option.bind ((bif (decide (v77<0)) then some true else (J0h p ⟨st,md⟩ ⟨3,0,v77,0⟩).bind fun v80=>some v80)) fun e78=>some e78)=some true:=by
 obtain ⟨r,hr,hr'⟩:=S.res0
 rcases S.over_L1 hr F0 0 (by omega) (by omega) (by have:=F0_gt;omega) with h | ⟨u,c,h,h0,h1,hc,hlt⟩
 ·simp only [F0u,S.usable,C0h,S.hasRes,h,A0i,Option.bind_some,Bool.not_true,cond_false,Sum.elim_inl]
  rfl
 have hle:=S.gT_le u
 have e:F0u p b 0=some u:=by
  simp only [F0u,S.usable,C0h,S.hasRes,h,A0i,Option.bind_some,Bool.not_true,cond_false,Sum.elim_inr]
 have k1:((3:Int) == 1)=false:=rfl
 have k2:((3:Int) == 2)=false:=rfl
 have k3:((3:Int) == 3)=true:=rfl
 have k4:((0:Int) == 0)=true:=rfl
 have e2:N0q p ⟨3,0,u,0⟩=some true:=by
  simp only [N0q,K0s,S.dr.ok,C0h,S.hasRes,G0j,inR_t (show (0:Int)≤u∧u≤60 by omega),k1,k2,k3,k4,Option.bind_some,Bool.not_true,cond_false,cond_true]
 have e3:C0t p ⟨st,md⟩ ⟨3,0,u,0⟩=some false:=by
  simp only [C0t,S.usage,hr',hc,k1,k2,k3,Option.bind_some,cond_false,cond_true]
  rw [decide_eq_false (by omega)]
 rw [e,Option.bind_some,decide_eq_false (by omega),cond_false]
 simp only [J0h,S.form,e2,e3,Option.bind_some,cond_true,Bool.not_false]
theorem w_FnCore_true (b0:List Int):w_FnCore b0=some true:=by
 unfold w_FnCore
 by_cases hl:1048576<(b0.length:Int)
 ·rw [decide_eq_true hl,cond_true]
 obtain ⟨p,b,s,r,K,h1,h2,h3,h4,S⟩:=D1t b0 (by omega)
 have h6:=S.core_L2 (sch:=s) rfl F0 0 (by omega) (by omega) (by have:=F0_gt;omega)
 rw [decide_eq_false hl,cond_false,h1,Option.bind_some,h2,Option.bind_some,h3,Option.bind_some,h4,Option.bind_some,S.contains,Option.bind_some,Bool.not_true,cond_false,h6]
 simp only [A0i,Option.bind_some,Sum.elim_inl]
 exact S.core_end
def ov (s d x y:Int):Int:=max (min (s+d) y - max s x) 0
theorem T0g {s d x y:Int}(hs:0≤s∧s≤60)(hd:1≤d∧d≤12)(hx:0≤x∧x≤60)(hy:0≤y∧y≤60):L0z s d x y=some (ov s d x y):=by
 have e2:H0d [s,d,x,y] 0=some (.inl ()):=by
  simp only [H0d,C0d,Option.bind_some,inR_t (show (-100000:Int)≤s∧s≤100000 by omega),inR_t (show (-100000:Int)≤d∧d≤100000 by omega),inR_t (show (-100000:Int)≤x∧x≤100000 by omega),inR_t (show (-100000:Int)≤y∧y≤100000 by omega),Bool.not_true,cond_false]
 simp only [L0z,e2,A0i,Option.bind_some,Sum.elim_inl]
 rw [decide_eq_false (by omega),cond_false,W_of (n:=s+d) (by omega),W_of (n:=min (s+d) y - max s x) (by omega)]
 rfl
theorem E1g {s d x y:Int}(hd:1≤d)(h:x<y):ov s d x y=(if s≤x∧x<s+d then 1 else 0)+ov s d (x+1) y:=by
 unfold ov
 split <;> omega
theorem E1c {s d x y:Int}(hd:1≤d)(h:y≤x):ov s d x y=0:=by
 unfold ov;omega
theorem E1v {m1 m2 s d x y:Int}(h1:m1≤s)(h2:s≤m2)(hxy:x<y)(hd:1≤d):min (ov m1 d x y) (ov m2 d x y)≤ov s d x y:=by
 unfold ov;omega
theorem ov_bd {s d x y:Int}(hd:1≤d∧d≤12):0≤ov s d x y∧ov s d x y≤12:=by
 unfold ov;omega
def sumT (h:Int→Int):Int→Nat→Int
 | _,0=>0
 | t,r+1=>h t+sumT h (t+1) r
theorem C1p {f g:Int→Int}(h:∀ t,f t≤g t):∀(r:Nat)(t:Int),sumT f t r≤sumT g t r
 | 0,t=>Int.le_refl _
 | r+1,t=>by
  have h1:=h t
  have h2:=C1p h r (t+1)
  simp only [sumT];omega
theorem A1q (k:Tk)(hd:1≤k.mo.Duration):∀(r:Nat)(t y:Int),t+r=y→sumT (fun t=>fK t k) t r=k.use*ov k.s k.mo.Duration t y
 | 0,t,y,h=>by rw [E1c hd (by omega)];simp [sumT]
 | r+1,t,y,h=>by
  have ih:=A1q k hd r (t+1) y (by omega)
  rw [sumT,ih,E1g (s:=k.s) (x:=t) (y:=y) hd (by omega),Int.mul_add]
  congr 1
  unfold fK
  split <;> simp
theorem Z0e:∀(r z:Nat),sumN (fun _=>0) z r=0
 | 0,z=>rfl
 | r+1,z=>by simp only [sumN,Z0e r (z+1)];rfl
theorem Y0x (F:Int→Nat→Int)(n:Nat):∀(r:Nat)(t:Int),sumT (fun t=>sumN (F t) 0 n) t r=sumN (fun i=>sumT (fun t=>F t i) t r) 0 n
 | 0,t=>by simp only [sumT,Z0e]
 | r+1,t=>by
  have ih:=Y0x F n r (t+1)
  simp only [sumT]
  rw [ih,← A1l]
def wT (K:Nat→Tk)(n:Nat)(x y:Int):Int:=sumT (fun t=>fT K n t) x (y - x).toNat
theorem SitF.wT_eq {p:A0a}{b:A0f}{st md:List Int}{K:Nat→Tk}(S:SitF p b st md K){x y:Int}(h:x≤y):wT K p.Activities.length x y=sumN (fun i=>(K i).use*ov (K i).s (K i).mo.Duration x y) 0 p.Activities.length:=by
 unfold wT fT
 rw [Y0x (fun t i=>fK t (K i))]
 refine X0g _ _ fun i _ hi=>?_
 obtain ⟨a,ha,F⟩:=S.get (i:=i) (by omega)
 have b1:=F.b1
 exact A1q (K i) (by omega) _ x y (by omega)
theorem SitF.work_L2 {p:A0a}{b:A0f}{st md:List Int}{K:Nat→Tk}(S:SitF p b st md K){sch:A0l}(hsch:sch.Modes=md){v29 v30 y:Int}(hy:W (W (v29+1)+v30)=y):∀(r:Nat)(fuel:Nat)(a t:Int),t+r=y→0≤t→y≤60→r<fuel→0≤a∧a≤120*t→w_FnWork_L2 p sch v29 v30 fuel a t st=some (a+sumT (fun t=>fT K p.Activities.length t) t r,st)
 | 0,fuel+1,a,t,h,_,_,_,_=>by
  rw [w_FnWork_L2,hy,decide_eq_false (by omega),cond_false];simp [sumT]
 | r+1,fuel+1,a,t,h,h0,h1,hf,ha=>by
  have hb:=S.fT_bd t
  rw [w_FnWork_L2,hy,decide_eq_true (by omega),cond_true,hsch,S.fUsageAt,Option.bind_some,W_of (n:=a+fT K p.Activities.length t) (by omega),W_of (n:=t+1) (by omega),S.work_L2 hsch hy r fuel _ (t+1) (by omega) (by omega) h1 (by omega) (by omega),sumT,Int.add_assoc]
theorem SitF.cwork_L1 {p:A0a}{b:A0f}{st md:List Int}{K:Nat→Tk}(S:SitF p b st md K){y:Int}:∀(r:Nat)(fuel:Nat)(a t:Int),t+r=y→0≤t→y≤60→r<fuel→0≤a∧a≤120*t→C0f p b 0 y fuel a t=some (a+sumT (fun t=>gT K p.Activities.length t) t r)
 | 0,fuel+1,a,t,h,_,_,_,_=>by
  rw [C0f,decide_eq_false (by omega),cond_false];simp [sumT]
 | r+1,fuel+1,a,t,h,h0,h1,hf,ha=>by
  have hb:=S.gT_bd t
  rw [C0f,decide_eq_true (by omega),cond_true,S.cuse,Option.bind_some,W_of (n:=a+gT K p.Activities.length t) (by omega),W_of (n:=t+1) (by omega),S.cwork_L1 r fuel _ (t+1) (by omega) (by omega) h1 (by omega) (by omega),sumT,Int.add_assoc]
theorem SitF.done_L1 {p:A0a}{b:A0f}{st md:List Int}{K:Nat→Tk}(S:SitF p b st md K){y:Int}:∀(r:Nat)(fuel:Nat)(a t:Int),t+r=y→0≤t→y≤60→r<fuel→0≤a∧a≤120*t→B0p p ⟨st,md⟩ 0 y fuel a t=some (a+sumT (fun t=>fT K p.Activities.length t) t r)
 | 0,fuel+1,a,t,h,_,_,_,_=>by
  rw [B0p,decide_eq_false (by omega),cond_false];simp [sumT]
 | r+1,fuel+1,a,t,h,h0,h1,hf,ha=>by
  have hb:=S.fT_bd t
  rw [B0p,decide_eq_true (by omega),cond_true,S.usage,Option.bind_some,W_of (n:=a+fT K p.Activities.length t) (by omega),W_of (n:=t+1) (by omega),S.done_L1 r fuel _ (t+1) (by omega) (by omega) h1 (by omega) (by omega),sumT,Int.add_assoc]
theorem D1v {o u:Int}(h1:0≤o∧o≤12)(h2:0≤u∧u≤20):0≤o*u∧o*u≤240:=by
 have h3:o*u≤12*20:=Int.mul_le_mul h1.2 h2.2 h2.1 (by omega)
 have h4:0≤o*u:=Int.mul_nonneg h1.1 h2.1
 omega
theorem SitF.mw_L1 {p:A0a}{b:A0f}{st md:List Int}{K:Nat→Tk}(S:SitF p b st md K){x y:Int}(hx:0≤x∧x≤60)(hy:0≤y∧y≤60){i:Nat}{a:A0g}(ha:p.Activities[i]? = some a)(F:R0b p b st md i a (K i)):∀(xs:List Int)(z c:Int)(f:Bool),(∀ n∈xs,∃ k:Nat,n=k∧k<a.Modes.length)→0≤c∧c≤240→∃ v,B0w p b i 0 x y xs z c f=some v∧(0≤v∧v≤240)∧(f=true→v≤c)∧∀(k:Nat) m u,(k:Int)∈xs→a.Modes[k]? = some m→m.Usage[0]? = some u→v≤min (ov (K i).m1 m.Duration x y) (ov (K i).m2 m.Duration x y)*u
 | [],z,c,f,_,hc=>⟨c,rfl,hc,fun _=>Int.le_refl _,fun k m u hk=>by cases hk⟩
 | n::xs,z,c,f,hn,hc=>by
  obtain ⟨k,rfl,hk⟩:=hn n (List.mem_cons_self ..)
  have hA:=(S.dr.act i a ha).1
  have hm:a.Modes[k]? = some a.Modes[k]:=List.getElem?_eq_getElem hk
  have hmF:=hA.2.2 _ (List.getElem_mem hk)
  obtain ⟨u,hu,hu0⟩:=use0 S.dr hmF
  have hd:=hmF.1
  have b0:=F.b0
  have o1:=T0g (s:=(K i).m1) (by omega) hd hx hy
  have o2:=T0g (s:=(K i).m2) (by omega) hd hx hy
  have k1:=ov_bd (s:=(K i).m1) (x:=x) (y:=y) hd
  have k2:=ov_bd (s:=(K i).m2) (x:=x) (y:=y) hd
  have k3:=D1v (o:=min (ov (K i).m1 a.Modes[k].Duration x y) (ov (K i).m2 a.Modes[k].Duration x y)) (u:=u) (by omega) hu0
  have u0:idxL a.Modes[k].Usage 0=some u:=by
   have:=idxN a.Modes[k].Usage 0
   rw [show ((0:Nat):Int)=0 from rfl] at this
   rw [this,hu]
  have hn':=fun n hn2=>hn n (List.mem_cons_of_mem _ hn2)
  have hW:=W_of (n:=min (ov (K i).m1 a.Modes[k].Duration x y) (ov (K i).m2 a.Modes[k].Duration x y)*u) (by omega)
  simp only [B0w,idxN,ha,hm,F.m1,F.m2,o1,o2,u0,hW,Option.bind_some,D0y]
  generalize hq:min (ov (K i).m1 a.Modes[k].Duration x y) (ov (K i).m2 a.Modes[k].Duration x y)*u=q at *
  have same:∀(v:Int),v≤q→∀(j:Nat) m w,(j:Int)=(k:Int)→a.Modes[j]? = some m→m.Usage[0]? = some w→v≤min (ov (K i).m1 m.Duration x y) (ov (K i).m2 m.Duration x y)*w:=fun v hv j m w e1 e2 e3=>by
   have:j=k:=by omega
   subst this
   rw [hm] at e2;cases e2
   rw [hu] at e3;cases e3
   rw [hq];exact hv
  cases hc2:(bif !f then true else decide (q<c)) with
  | true=>
   rw [cond_true]
   obtain ⟨v,v1,v2,v3,v4⟩:=S.mw_L1 hx hy ha F xs (z+1) q true hn' k3
   have h5:=v3 rfl
   refine ⟨v,v1,v2,fun e=>?_,fun j m w hj h1 h2=>?_⟩
   ·subst e
    simp at hc2;omega
   rcases List.mem_cons.1 hj with e | hj
   ·exact same v h5 j m w e h1 h2
   exact v4 j m w hj h1 h2
  | false=>
   rw [cond_false]
   obtain ⟨v,v1,v2,v3,v4⟩:=S.mw_L1 hx hy ha F xs (z+1) c f hn' hc
   cases f with
   | false=>simp at hc2
   | true=>
    simp at hc2
    have h5:=v3 rfl
    refine ⟨v,v1,v2,v3,fun j m w hj h1 h2=>?_⟩
    rcases List.mem_cons.1 hj with e | hj
    ·exact same v (by omega) j m w e h1 h2
    exact v4 j m w hj h1 h2
theorem SitF.mw {p:A0a}{b:A0f}{st md:List Int}{K:Nat→Tk}(S:SitF p b st md K){x y:Int}(hx:0≤x∧x≤60)(hy:0≤y∧y≤60)(hxy:x<y){i:Nat}(hi:i<p.Activities.length):∃ v,E0p p b i 0 x y=some v∧(0≤v∧v≤240)∧v≤(K i).use*ov (K i).s (K i).mo.Duration x y:=by
 obtain ⟨a,ha,F⟩:=S.get hi
 obtain ⟨j,j1,j2⟩:=F.mo
 have hj:=(List.getElem?_eq_some_iff.1 j2).1
 have b0:=F.b0
 have b1:=F.b1
 have b2:=F.b2
 obtain ⟨v,v1,v2,_,v4⟩:=S.mw_L1 hx hy ha F (C0m a.Modes.length) 0 0 false (fun n hn=>by
  have:=X0h hn
  exact ⟨n.toNat,by omega,by omega⟩) (by omega)
 refine ⟨v,by simp only [E0p,idxN,F.ms,v1,Option.bind_some],v2,?_⟩
 have h1:=v4 j (K i).mo (K i).use (by simp only [C0m,List.mem_map,List.mem_range];exact ⟨j,hj,rfl⟩) j2 F.use
 have h2:min (ov (K i).m1 (K i).mo.Duration x y) (ov (K i).m2 (K i).mo.Duration x y)≤ov (K i).s (K i).mo.Duration x y:=E1v b0.2.1 b0.2.2.1 hxy (by omega)
 have h3:=Int.mul_le_mul_of_nonneg_right h2 (show 0≤(K i).use by omega)
 rw [Int.mul_comm (ov (K i).s (K i).mo.Duration x y)] at h3
 omega
theorem B1i (l:List Int)(hl:l.length≤1048576){n:Int}(h1:1≤n)(h2:n≤256):∃ v,N0c l n=some v∧0≤v∧v<n:=by
 obtain ⟨c,e1,e2⟩:=X0m l hl
 obtain ⟨v,d,e3,a1,a2,_⟩:=C0l (n:=n) (e2 (W (c.h+777))) h1 h2
 exact ⟨v,by simp only [N0c,e1,e3,Option.bind_some],a1,a2⟩
theorem SitF.tw_L1 {p:A0a}{b:A0f}{st md:List Int}{K:Nat→Tk}(S:SitF p b st md K){sch:A0l}(hsch:sch.Modes=md){x v30 y q:Int}(hxy:W (W (x+1)+v30)=y)(hx:0≤x∧x≤60)(hy:0≤y∧y≤60)(hlt:x<y):∀(xs:List A0g)(z:Nat)(c:Int),p.Activities.drop z=xs→(0≤c∧c≤240*(z:Int))∧z≤6→∃ v,w_FnWork_L3 p b sch x v30 (q,st) xs z c=some (.inl v)∧B0y p b 0 x y xs z c=some v∧(0≤v∧v≤1440)∧v≤c+sumN (fun i=>(K i).use*ov (K i).s (K i).mo.Duration x y) z xs.length
 | [],z,c,hd,⟨hc,hz6⟩=>⟨c,rfl,rfl,by omega,by simp [sumN]⟩
 | a::xs,z,c,hd,⟨hc,_⟩=>by
  have hn:=S.dr.na
  have ha:p.Activities[z]? = some a:=by
   have:=congrArg (fun l=>l[0]?) hd
   simpa using this
  have hd':p.Activities.drop (z+1)=xs:=by
   rw [← List.drop_drop,hd];rfl
  have hz:=(List.getElem?_eq_some_iff.1 ha).1
  have F:=S.at_ z a ha
  have b0:=F.b0
  have b1:=F.b1
  have b2:=F.b2
  obtain ⟨j,j1,j2⟩:=F.mo
  obtain ⟨m,hm,hm0,hm1⟩:=S.mw hx hy hlt hz
  have hzz:(z:Int)+1=((z+1:Nat):Int):=by omega
  have e1:M0g p b (z:Int) 0 x y=some m:=by
   simp only [M0g,S.usable,G0z,C0h,S.hasRes,S.hasAct hz,hm,Option.bind_some,Bool.not_true,cond_false]
  have e2:=T0g (s:=(K z).s) (d:=(K z).mo.Duration) (by omega) (by omega) hx hy
  have u0:idxL (K z).mo.Usage 0=some (K z).use:=by
   have:=idxN (K z).mo.Usage 0
   rw [show ((0:Nat):Int)=0 from rfl] at this
   rw [this,F.use]
  have hob:=ov_bd (s:=(K z).s) (d:=(K z).mo.Duration) (x:=x) (y:=y) (by omega)
  have hbd:=D1v hob (show 0≤(K z).use∧(K z).use≤20 by omega)
  rw [Int.mul_comm] at hbd
  obtain ⟨v,v1,v2,v3,v4⟩:=S.tw_L1 hsch (q:=q) hxy hx hy hlt xs (z+1) (c+m) hd' (by omega)
  refine ⟨v,?_,?_,v3,?_⟩
  ·rw [w_FnWork_L3,hxy,e1]
   simp only [hsch,idxN,j1,j2,u0,F.s,e2,Option.bind_some,W_of (n:=(K z).use*ov (K z).s (K z).mo.Duration x y) (by omega),W_of (n:=c+m) (by omega),hzz]
   rw [decide_eq_false (by omega),cond_false]
   exact v1
  ·rw [B0y,hm,Option.bind_some,W_of (n:=c+m) (by omega),hzz]
   exact v2
  simp only [List.length_cons,sumN]
  omega
theorem w_FnWork_true (b0:List Int):w_FnWork b0=some true:=by
 unfold w_FnWork
 by_cases hl:1048576<(b0.length:Int)
 ·rw [decide_eq_true hl,cond_true]
 obtain ⟨p,b,s,st,K,h1,h2,h3,h4,S⟩:=D1t b0 (by omega)
 obtain ⟨x,h5,x0,x1⟩:=B1i b0 (by omega) (n:=6) (by omega) (by omega)
 obtain ⟨w,h6,w0,w1⟩:=B1i b0 (by omega) (n:=9) (by omega) (by omega)
 have hxy:W (W (x+1)+w)=x+1+w:=by rw [W_of (n:=x+1) (by omega),W_of (by omega)]
 have hx:0≤x∧x≤60:=by omega
 obtain ⟨y,hy⟩:∃ y,x+1+w=y:=⟨_,rfl⟩
 rw [hy] at hxy
 have hy0:0≤y∧y≤60:=by omega
 have hlt:x<y:=by omega
 rw [← W0r] at h4
 have e1:=S.work_L2 (sch:=s) rfl hxy (y - x).toNat F0 0 x (by omega) (by omega) (by omega) (by have:=F0_gt;omega) (by omega)
 have e2:=S.cwork_L1 (y:=y) (y - x).toNat F0 0 x (by omega) (by omega) (by omega) (by have:=F0_gt;omega) (by omega)
 have e3:=S.done_L1 (y:=y) (y - x).toNat F0 0 x (by omega) (by omega) (by omega) (by have:=F0_gt;omega) (by omega)
 rw [Int.zero_add] at e1 e2 e3
 have hgf:sumT (fun t=>gT K p.Activities.length t) x (y - x).toNat≤sumT (fun t=>fT K p.Activities.length t) x (y - x).toNat:=C1p (fun t=>S.gT_le t) _ _
 have hwt:=S.wT_eq (x:=x) (y:=y) (by omega)
 unfold wT at hwt
 generalize hw':sumT (fun t=>fT K p.Activities.length t) x (y - x).toNat=work at *
 generalize hg':sumT (fun t=>gT K p.Activities.length t) x (y - x).toNat=cw at *
 obtain ⟨tw,t1,t2,t3,t4⟩:=S.tw_L1 (sch:=s) rfl (q:=work) hxy hx hy0 hlt p.Activities 0 0 rfl (by omega)
 rw [show ((0:Nat):Int)=0 from rfl] at t1 t2
 rw [Int.zero_add] at t4
 obtain ⟨r,hr,hr'⟩:=S.res0
 obtain ⟨cap,hcap⟩:=T0a r.Steps x y
 rw [← U0h] at hcap
 have ix:=inR_t hx
 have iy:=inR_t hy0
 have f1:G0v p b 0 x y=some cw:=by
  simp only [G0v,S.usable,C0h,S.hasRes,G0j,ix,iy,e2,Option.bind_some,Bool.not_true,cond_false]
 have f2:D0p p b 0 x y=some tw:=by
  simp only [D0p,t2,Option.bind_some]
 have f3:J0o p b 0 x y=some tw:=by
  simp only [J0o,S.usable,C0h,S.hasRes,f2,Option.bind_some,Bool.not_true,cond_false]
 have f4:H0q p b 0 x y=some (decide (cap<tw)):=by
  simp only [H0q,S.usable,C0h,S.hasRes,G0j,ix,iy,f2,hr',hcap,Option.bind_some,Bool.not_true,cond_false,decide_eq_false (show ¬ y≤x by omega)]
 have f5:J0g p 0 x y=some cap:=by
  simp only [J0g,K0s,S.dr.ok,C0h,S.hasRes,hr',hcap,Option.bind_some,Bool.not_true,cond_false]
 have f6:cap<tw→J0h p ⟨st,s.Modes⟩ ⟨4,0,x,y⟩=some true:=fun hc=>by
  have k1:((4:Int) == 1)=false:=rfl
  have k2:((4:Int) == 2)=false:=rfl
  have k3:((4:Int) == 3)=false:=rfl
  have k4:((4:Int) == 4)=true:=rfl
  have g1:N0q p ⟨4,0,x,y⟩=some true:=by
   simp only [N0q,K0s,S.dr.ok,C0h,S.hasRes,G0j,ix,iy,k1,k2,k3,k4,Option.bind_some,Bool.not_true,cond_false,cond_true,decide_eq_true hlt]
  have g2:F0j p ⟨st,s.Modes⟩ 0 x y=some work:=by
   simp only [F0j,e3,Option.bind_some]
  have g3:C0t p ⟨st,s.Modes⟩ ⟨4,0,x,y⟩=some false:=by
   simp only [C0t,g2,hr',hcap,k1,k2,k3,k4,Option.bind_some,cond_false,cond_true]
   rw [decide_eq_false (by omega)]
  simp only [J0h,S.form,g1,g3,Option.bind_some,cond_true,Bool.not_false]
 rw [decide_eq_false hl,cond_false,h1,Option.bind_some,h2,Option.bind_some,h3,Option.bind_some,h4,Option.bind_some,h5,Option.bind_some,h6,Option.bind_some,e1,Option.bind_some,t1]
 simp only [A0i,Option.bind_some,Sum.elim_inl,hxy,f1,f3,f4,f5,S.contains,cond_true,hr',hcap,K0y,decide_true,decide_eq_true (show tw≤work by omega),decide_eq_true (show cw≤work by omega)]
 by_cases hc:cap<tw
 ·rw [decide_eq_true hc,Bool.not_true,cond_false,f6 hc,Option.bind_some,cond_true];rfl
 rw [decide_eq_false hc,Bool.not_false,cond_true];rfl
end Go.Px.YtncedeembfcakaaGreat
