/- Printed by decomp.py: the functions. -/
import Derived.Test.YtkjlgmgfhgamlaaGreatDTypesZ
set_option linter.all false

namespace Go.D
noncomputable section
def Xdc:Option (X07) :=
 some (X07.mk 1 ([]:List X05) [0] false ([]:List X05) (X0s.mk 1 10 0) false 1)
def Xdz (a0:Int) (a1:Int) (a2:Int):Option (Xg) :=
 some (Xg.mk 1 (Xe.mk a0 a1 a2) 0 (X1n.mk 0 (Xz.mk 0 0) (V2.mk 0 0)))
def Xez (a0:Int):Option (Xg) :=
 some (Xg.mk 2 (Xe.mk 0 0 0) a0 (X1n.mk 0 (Xz.mk 0 0) (V2.mk 0 0)))
def Xho (a0:Int):Option ((List Int)×Int) :=
 bif (bif (decide (a0<(1:Int))) then true else (decide (a0>(4:Int)))) then (some (([]:List Int),2)) else (bif (a0==(1:Int)) then (some ([(-9223372036854775808)],0)) else (bif (a0==(2:Int)) then (some ([(-9223372036854775808),(-9223372036854775808)],0)) else (bif (a0==(3:Int)) then (some ([(-9223372036854775808),(-9223372036854775808),(-9223372036854775808)],0)) else (bif (a0==(4:Int)) then (some ([(-9223372036854775808),(-9223372036854775808),(-9223372036854775808),(-9223372036854775808)],0)) else none))))
def Xia (a0:Int) (a1:Int):Option (X00×Int) :=
 (Xho a1).bind fun v1=>bif (bif (bif (v1.2 != (0:Int)) then true else (decide (a0<(0:Int)))) then true else (decide (a0 >= (3:Int)))) then (some ((X00.mk (GOp.mk 0 0) 0 ([]:List X0g) ([]:List Int) ([]:List X2) ([]:List X0e) ([]:List X1n) ([]:List Xe)),2)) else (some ((X00.mk (GOp.mk 4 a0) 0 ([]:List X0g) v1.1 ([]:List X2) ([]:List X0e) ([]:List X1n) ([]:List Xe)),0))
def X9d (a0:Int):Option (Int×Int) :=
 bif (bif (decide (a0 >= (1:Int))) then (decide (a0<=(4:Int))) else false) then (some (0,0)) else (bif (bif (a0==(5:Int)) then true else (a0==(6:Int))) then (some (1,0)) else (bif (bif (decide (a0 >= (7:Int))) then (decide (a0<=(19:Int))) else false) then (some (2,0)) else (some (0,2))))
inductive X53 where
 |x0 (X08:(List Xc)) (X0l:(List Xc))
 |x1 (X1i:(List Xc))
def X26 (X30:(List X05)):List X05->Nat->(List Xc)->(List Xc)->Option X53
 |[],k,Xn,Xk=>some (.x0 Xn Xk)
 |x::xs,k,Xn,Xk=>(X9d x.Kind).bind fun v318=>(bif (v318.2 != (0:Int)) then (some (bif (v318.2 != (0:Int)) then true else false)) else (some (bif (v318.2 != (0:Int)) then true else (decide (v318.1>(List.length Xk:Int))))):Option (Bool)).bind fun Xnq=>bif Xnq then (some (.x1 Xn)) else ((X5n Xk 0 (IntKind.i64.wrap ((List.length Xk:Int) - v318.1))).bind fun m331=>(X5n Xk (IntKind.i64.wrap ((List.length Xk:Int) - v318.1)) (List.length Xk:Int)).bind fun m333=>bif (List.isEmpty m333) then ((bif (x.Kind==(1:Int)) then (some (X05.mk x.Kind (if 0>x.N then 0 else x.N) 0 0 (if 400<(if 0>x.At then 0 else x.At) then 400 else (if 0>x.At then 0 else x.At)))) else (some (X05.mk x.Kind 0 0 0 (if 400<(if 0>x.At then 0 else x.At) then 400 else (if 0>x.At then 0 else x.At)))):Option (X05)).bind fun Xnp=>bif (!(X73 Xnp x)) then (some (.x1 Xn)) else ((X2c (List.length (m331++[(Xc.mk (k:Int) 1 1)])) 24).bind fun u341=>(X2c (List.length (Xn++[(Xc.mk (k:Int) 1 1)])) 24).bind fun u343=>X26 X30 xs (k+1) (Xn++[(Xc.mk (k:Int) 1 1)]) (m331++[(Xc.mk (k:Int) 1 1)]))) else (bif ((List.length m333:Int)==(1:Int)) then ((X3b m333 0).bind fun e346=>(bif (x.Kind==(1:Int)) then (some (X05.mk x.Kind (if 0>x.N then 0 else x.N) e346.at_ 0 (if 400<(if 0>x.At then 0 else x.At) then 400 else (if 0>x.At then 0 else x.At)))) else (some (X05.mk x.Kind 0 e346.at_ 0 (if 400<(if 0>x.At then 0 else x.At) then 400 else (if 0>x.At then 0 else x.At)))):Option (X05)).bind fun Xno=>bif (!(X73 Xno x)) then (some (.x1 Xn)) else ((X2c (List.length (m331++[(Xc.mk (k:Int) (IntKind.i64.wrap (1+e346.size)) (if (IntKind.i64.wrap (e346.depth+1))>1 then (IntKind.i64.wrap (e346.depth+1)) else 1))])) 24).bind fun u353=>(X2c (List.length (Xn++[(Xc.mk (k:Int) (IntKind.i64.wrap (1+e346.size)) (if (IntKind.i64.wrap (e346.depth+1))>1 then (IntKind.i64.wrap (e346.depth+1)) else 1))])) 24).bind fun u355=>X26 X30 xs (k+1) (Xn++[(Xc.mk (k:Int) (IntKind.i64.wrap (1+e346.size)) (if (IntKind.i64.wrap (e346.depth+1))>1 then (IntKind.i64.wrap (e346.depth+1)) else 1))]) (m331++[(Xc.mk (k:Int) (IntKind.i64.wrap (1+e346.size)) (if (IntKind.i64.wrap (e346.depth+1))>1 then (IntKind.i64.wrap (e346.depth+1)) else 1))]))) else (bif ((List.length m333:Int)==(2:Int)) then ((X3b m333 0).bind fun e358=>(X3b m333 1).bind fun e360=>(bif (x.Kind==(1:Int)) then (some (X05.mk x.Kind (if 0>x.N then 0 else x.N) e358.at_ e360.at_ (if 400<(if 0>x.At then 0 else x.At) then 400 else (if 0>x.At then 0 else x.At)))) else (some (X05.mk x.Kind 0 e358.at_ e360.at_ (if 400<(if 0>x.At then 0 else x.At) then 400 else (if 0>x.At then 0 else x.At)))):Option (X05)).bind fun Xnn=>bif (!(X73 Xnn x)) then (some (.x1 Xn)) else ((X2c (List.length (m331++[(Xc.mk (k:Int) (IntKind.i64.wrap ((IntKind.i64.wrap (1+e358.size))+e360.size)) (if (IntKind.i64.wrap (e360.depth+1))>(if (IntKind.i64.wrap (e358.depth+1))>1 then (IntKind.i64.wrap (e358.depth+1)) else 1) then (IntKind.i64.wrap (e360.depth+1)) else (if (IntKind.i64.wrap (e358.depth+1))>1 then (IntKind.i64.wrap (e358.depth+1)) else 1)))])) 24).bind fun u367=>(X2c (List.length (Xn++[(Xc.mk (k:Int) (IntKind.i64.wrap ((IntKind.i64.wrap (1+e358.size))+e360.size)) (if (IntKind.i64.wrap (e360.depth+1))>(if (IntKind.i64.wrap (e358.depth+1))>1 then (IntKind.i64.wrap (e358.depth+1)) else 1) then (IntKind.i64.wrap (e360.depth+1)) else (if (IntKind.i64.wrap (e358.depth+1))>1 then (IntKind.i64.wrap (e358.depth+1)) else 1)))])) 24).bind fun u369=>X26 X30 xs (k+1) (Xn++[(Xc.mk (k:Int) (IntKind.i64.wrap ((IntKind.i64.wrap (1+e358.size))+e360.size)) (if (IntKind.i64.wrap (e360.depth+1))>(if (IntKind.i64.wrap (e358.depth+1))>1 then (IntKind.i64.wrap (e358.depth+1)) else 1) then (IntKind.i64.wrap (e360.depth+1)) else (if (IntKind.i64.wrap (e358.depth+1))>1 then (IntKind.i64.wrap (e358.depth+1)) else 1)))]) (m331++[(Xc.mk (k:Int) (IntKind.i64.wrap ((IntKind.i64.wrap (1+e358.size))+e360.size)) (if (IntKind.i64.wrap (e360.depth+1))>(if (IntKind.i64.wrap (e358.depth+1))>1 then (IntKind.i64.wrap (e358.depth+1)) else 1) then (IntKind.i64.wrap (e360.depth+1)) else (if (IntKind.i64.wrap (e358.depth+1))>1 then (IntKind.i64.wrap (e358.depth+1)) else 1)))]))) else none)))
def Xcg (a0:(List X05)):Option ((List Xc)×Bool) :=
 (X55 (List.length a0)).bind fun u1=>(X26  a0 a0 0 ([]:List Xc) ([]:List Xc)).bind fun o475=>match o475 with|.x0 X08 X0l=>(some (X08,((List.length X0l:Int)==(1:Int))))|.x1 X1i=>(some (X1i,false))
def X9c (a0:(List X05)):Option ((List Xc)×Int) :=
 bif (decide ((List.length a0:Int)>(60:Int))) then (some (([]:List Xc),4)) else ((Xcg a0).bind fun v2=>bif (!v2.2) then (some (([]:List Xc),8)) else ((X3b v2.1 (IntKind.i64.wrap ((List.length v2.1:Int) - 1))).bind fun e5=>bif (decide (e5.depth>(20:Int))) then (some (([]:List Xc),34)) else (some (v2.1,0))))
def X54 (a0:(List X05)):Option (Int) :=
 (X9c a0).bind fun v1=>some v1.2
def X5j (a0:Int):Option (Bool) :=
 some (bif (decide (a0<(0:Int))) then true else (decide (a0 >= (4:Int))))
inductive X24 where
 |x0
 |x1 (X9k:Int)
def X0p (X0y:(List Int)):List Int->Nat->Option X24
 |[],k=>some (.x0)
 |x::xs,k=>(X5j x).bind fun v10=>bif v10 then (some (.x1 (k:Int))) else (X0p X0y xs (k+1))
def X0n (a0:(List Int)):Option (Int) :=
 (X55 (List.length a0)).bind fun u1=>(X0p  a0 a0 0).bind fun o13=>match o13 with|.x0=>(some (-1))|.x1 X9k=>(some X9k)
def Xt (a0:(List Int)):Option (Bool) :=
 (X0n a0).bind fun v1=>some (decide (v1 >= (0:Int)))
def X37 (l:List Int):Option Int:=(X55 (List.length l)).bind fun _=>some ((X7z [] l).length:Int)
def X2g (a0:(List Int)) (a1:Bool):Option (Int) :=
 bif (decide ((List.length a0:Int)>(4:Int))) then (some 4) else ((bif ((List.length a0:Int)==(0:Int)) then (some (bif (bif ((List.length a0:Int)==(0:Int)) then true else false) then true else false)) else (bif a1 then (bif ((List.length a0:Int) != (2:Int)) then (some (bif (bif ((List.length a0:Int)==(0:Int)) then true else (bif a1 then ((List.length a0:Int) != (2:Int)) else false)) then true else false)) else ((Xt a0).bind fun v13=>some (bif (bif ((List.length a0:Int)==(0:Int)) then true else (bif a1 then ((List.length a0:Int) != (2:Int)) else false)) then true else v13))) else ((Xt a0).bind fun v15=>some (bif (bif ((List.length a0:Int)==(0:Int)) then true else (bif a1 then false else false)) then true else v15))):Option (Bool)).bind fun Xys=>bif Xys then (some 8) else ((X37 a0).bind fun v19=>bif (decide (v19<(List.length a0:Int))) then (some 43) else (some 0)))
def X18 (a0:X0s):Option (Int) :=
 bif (bif (decide (a0.Size<(1:Int))) then true else (decide (a0.Size>(1073741824:Int)))) then (some 8) else (bif (a0.Kind==(2:Int)) then (bif (bif (bif (decide (a0.Every >= (1:Int))) then (decide (a0.Every<=a0.Size)) else false) then (decide (a0.Size<=(IntKind.i64.wrap (16*a0.Every)))) else false) then (some 0) else (some 8)) else (bif (a0.Kind==(1:Int)) then (bif (a0.Every==(0:Int)) then (some 0) else (some 8)) else (bif (a0.Kind==(3:Int)) then (bif (a0.Every==(0:Int)) then (some 0) else (some 8)) else (some 8))))
def X76 (a0:X07):Option (Int) :=
 bif (bif (bif (decide (a0.Agg<(1:Int))) then true else (decide (a0.Agg>(4:Int)))) then true else (bif (a0.Late != (1:Int)) then (a0.Late != (2:Int)) else false)) then (some 8) else (bif (a0.Agg != (1:Int)) then ((X54 a0.Arg).bind fun v3=>bif (v3 != (0:Int)) then (some v3) else (bif (decide ((List.length a0.Where:Int)>(0:Int))) then ((X54 a0.Where).bind fun v7=>bif (v7 != (0:Int)) then (some v7) else ((X2g a0.Sources a0.Join).bind fun v10=>bif (v10 != (0:Int)) then (some v10) else (bif (bif a0.Join then (a0.Window.Kind != (1:Int)) else false) then (some 8) else ((X18 a0.Window).bind fun v14=>some v14)))) else ((X2g a0.Sources a0.Join).bind fun v16=>bif (v16 != (0:Int)) then (some v16) else (bif (bif a0.Join then (a0.Window.Kind != (1:Int)) else false) then (some 8) else ((X18 a0.Window).bind fun v20=>some v20))))) else (bif (decide ((List.length a0.Arg:Int)>(0:Int))) then (some 8) else (bif (decide ((List.length a0.Where:Int)>(0:Int))) then ((X54 a0.Where).bind fun v24=>bif (v24 != (0:Int)) then (some v24) else ((X2g a0.Sources a0.Join).bind fun v27=>bif (v27 != (0:Int)) then (some v27) else (bif (bif a0.Join then (a0.Window.Kind != (1:Int)) else false) then (some 8) else ((X18 a0.Window).bind fun v31=>some v31)))) else ((X2g a0.Sources a0.Join).bind fun v33=>bif (v33 != (0:Int)) then (some v33) else (bif (bif a0.Join then (a0.Window.Kind != (1:Int)) else false) then (some 8) else ((X18 a0.Window).bind fun v37=>some v37))))))
inductive X2b where
 |x0
 |x1
def X0a (Xk:(List Bool)) (Xbe:(V2 Bool)) (X0h:(List Int)):List Int->Nat->Option X2b
 |[],k=>some (.x0)
 |x::xs,k=>(X3b Xk x).bind fun e3011=>bif (!(e3011==false)) then (some (.x1)) else (X0a Xk Xbe X0h xs (k+1))
inductive X21 where
 |x0
 |x1
def X0b (Xk:(List Bool)) (X1q:(List Int)):List Int->Nat->Option X21
 |[],k=>some (.x0)
 |x::xs,k=>(X3b Xk x).bind fun e3127=>bif (!(e3127==true)) then (some (.x1)) else (X0b Xk X1q xs (k+1))
inductive X56 where
 |x0 (X0l:(List Bool))
 |x1 (X1i:(List Bool)) (Xj7:Int)
def X1t (X0y:(List X05)):List X05->Nat->(List Bool)->Option X56
 |[],k,Xk=>some (.x0 Xk)
 |x::xs,k,Xk=>bif (decide (x.Kind<=(4:Int))) then ((X2c (List.length (Xk++[false])) 1).bind fun u2525=>X1t X0y xs (k+1) (Xk++[false])) else (bif (x.Kind==(5:Int)) then (((X3b Xk x.A).bind fun e2546=>bif (!(e2546==false)) then (some (bif (!(bif true then false else false)) then (!(bif false then false else false)) else false)) else (some (bif (!(bif true then true else false)) then false else false)):Option (Bool)).bind fun Xkd=>bif Xkd then (some (.x1 ([]:List Bool) (k:Int))) else ((X2c (List.length (Xk++[false])) 1).bind fun u2551=>X1t X0y xs (k+1) (Xk++[false]))) else (bif (x.Kind==(6:Int)) then (((X3b Xk x.A).bind fun e2571=>bif (!(e2571==true)) then (some false) else (some true):Option (Bool)).bind fun Xkc=>bif (bif (!(bif false then false else false)) then (!(bif true then Xkc else false)) else false) then (some (.x1 ([]:List Bool) (k:Int))) else ((X2c (List.length (Xk++[true])) 1).bind fun u2576=>X1t X0y xs (k+1) (Xk++[true]))) else ((bif (decide (x.Kind<=(11:Int))) then (some ((V2.mk true false),false)) else (bif (decide (x.Kind<=(15:Int))) then (some ((V2.mk true false),true)) else (bif (decide (x.Kind<=(17:Int))) then (some ((V2.mk true true),true)) else (some ((V2.mk false true),true)))):Option ((V2 Bool)×Bool)).bind fun w2581=>(bif w2581.1.e0 then (((X55 (List.length [x.A,x.B])).bind fun u2980=>(X0a  Xk w2581.1 [x.A,x.B] [x.A,x.B] 0).bind fun o3016=>match o3016 with|.x0=>(some true)|.x1=>(some false):Option (Bool)).bind fun Xb3=>bif (!(bif w2581.1.e0 then Xb3 else false)) then (bif w2581.1.e1 then (((X55 (List.length [x.A,x.B])).bind fun u3096=>(X0b  Xk [x.A,x.B] [x.A,x.B] 0).bind fun o3132=>match o3132 with|.x0=>(some true)|.x1=>(some false):Option (Bool)).bind fun Xka=>some (bif (!(bif w2581.1.e0 then Xb3 else false)) then (!(bif w2581.1.e1 then Xka else false)) else false)) else (some (bif (!(bif w2581.1.e0 then Xb3 else false)) then (!(bif w2581.1.e1 then false else false)) else false))) else (some (bif (!(bif w2581.1.e0 then Xb3 else false)) then false else false))) else (bif (!(bif w2581.1.e0 then false else false)) then (bif w2581.1.e1 then (((X55 (List.length [x.A,x.B])).bind fun u3192=>(X0b  Xk [x.A,x.B] [x.A,x.B] 0).bind fun o3218=>match o3218 with|.x0=>(some true)|.x1=>(some false):Option (Bool)).bind fun Xk9=>some (bif (!(bif w2581.1.e0 then false else false)) then (!(bif w2581.1.e1 then Xk9 else false)) else false)) else (some (bif (!(bif w2581.1.e0 then false else false)) then (!(bif w2581.1.e1 then false else false)) else false))) else (some (bif (!(bif w2581.1.e0 then false else false)) then false else false))):Option (Bool)).bind fun Xkb=>bif Xkb then (some (.x1 ([]:List Bool) (k:Int))) else ((X2c (List.length (Xk++[w2581.2])) 1).bind fun u3223=>X1t X0y xs (k+1) (Xk++[w2581.2])))))
def Xcl (a0:(List X05)):Option ((List Bool)×Int) :=
 (X55 (List.length a0)).bind fun u1=>(X1t  a0 a0 0 ([]:List Bool)).bind fun o3784=>match o3784 with|.x0 X0l=>(some (X0l,(List.length a0:Int)))|.x1 X1i Xj7=>(some (X1i,Xj7))
def Xe1 (a0:(List X05)):Option (Bool×Int×Int) :=
 (X54 a0).bind fun v1=>bif (v1 != (0:Int)) then (some (false,0,v1)) else ((Xcl a0).bind fun v4=>bif (decide (v4.2<(List.length a0:Int))) then (some (false,v4.2,42)) else ((X3b v4.1 (IntKind.i64.wrap (v4.2 - 1))).bind fun e7=>some (e7,(IntKind.i64.wrap (v4.2 - 1)),0)))
def X8q (a0:(List X05)) (a1:Bool):Option (Int×Int) :=
 (Xe1 a0).bind fun v1=>(bif (bif (v1.2.2==(0:Int)) then (!(v1.1==a1)) else false) then (some 42) else (some v1.2.2):Option (Int)).bind fun j4_8=>some (v1.2.1,j4_8)
def X9h (a0:(List X05)):Option (Int×Int) :=
 (X8q a0 true).bind fun v1=>some (v1.1,v1.2)
def X9r (a0:(List X05)):Option (Int×Int) :=
 (X8q a0 false).bind fun v1=>some (v1.1,v1.2)
def X80 (a0:X07):Option (Int×Int) :=
 (X76 a0).bind fun v1=>bif (v1 != (0:Int)) then (some (0,v1)) else ((bif ((List.length a0.Arg:Int)==(0:Int)) then (bif ((List.length a0.Where:Int)==(0:Int)) then (some (0,0)) else ((X9h a0.Where).bind fun v25=>bif (v25.2 != (0:Int)) then ((X3b a0.Where v25.1).bind fun e28=>some (e28.At,v25.2)) else (some (0,0)))) else ((X9r a0.Arg).bind fun v30=>bif (v30.2 != (0:Int)) then ((X3b a0.Arg v30.1).bind fun e33=>some (e33.At,v30.2)) else (bif ((List.length a0.Where:Int)==(0:Int)) then (some (0,0)) else ((X9h a0.Where).bind fun v36=>bif (v36.2 != (0:Int)) then ((X3b a0.Where v36.1).bind fun e39=>some (e39.At,v36.2)) else (some (0,0))))):Option (Int×Int)).bind fun w22=>some (w22.1,w22.2))
def X6j (a0:X07):Option (Bool) :=
 (X80 a0).bind fun v1=>some (bif (v1.2==(0:Int)) then (!a0.Join) else false)
def X8x (a0:Int):Option (Int×Int×Bool×Bool×Bool×Bool) :=
 (bif (a0==(1:Int)) then (some (0,0,false,true,false,false)) else (bif (a0==(2:Int)) then (some (1,1,false,false,false,false)) else (bif (a0==(3:Int)) then (some (0,0,false,false,false,false)) else (bif (a0==(4:Int)) then (some (1,4,true,false,false,false)) else (bif (a0==(5:Int)) then (some (2,2,true,false,false,false)) else (bif (a0==(6:Int)) then (some (0,0,false,false,true,false)) else (bif (a0==(7:Int)) then (some (0,0,false,false,false,true)) else (some (1,0,false,false,false,false)))))))):Option (Int×Int×Bool×Bool×Bool×Bool)).bind fun w8=>some (w8.1,w8.2.1,w8.2.2.1,w8.2.2.2.1,w8.2.2.2.2.1,w8.2.2.2.2.2)
def X8w (a0:Bool) (a1:Int):Option (Int) :=
 bif a0 then (some a1) else (some 0)
def X43 (a0:Int):Option (Bool) :=
 some (bif (decide (a0 >= ((-1099511627776):Int))) then (decide (a0<=(1099511627776:Int))) else false)
def X4q (a0:Int):Option (Bool) :=
 (X43 a0).bind fun v1=>some (bif v1 then true else (a0==(9223372036854775807:Int)))
def X2w (a0:Xg):Option (Int) :=
 (bif (a0.Kind==(1:Int)) then (some (a0.Kind==(1:Int))) else (some (a0.Kind==(4:Int))):Option (Bool)).bind fun Xz9=>(bif Xz9 then ((X43 a0.Record.Time).bind fun v14=>some (v14,(Xg.mk ((Xg.mk a0.Kind (Xe.mk 0 0 0) 0 (X1n.mk 0 (Xz.mk 0 0) (V2.mk 0 0))).Kind) a0.Record ((Xg.mk a0.Kind (Xe.mk 0 0 0) 0 (X1n.mk 0 (Xz.mk 0 0) (V2.mk 0 0))).Time) (X1n.mk (((Xg.mk a0.Kind (Xe.mk 0 0 0) 0 (X1n.mk 0 (Xz.mk 0 0) (V2.mk 0 0))).Row).Key) (((Xg.mk a0.Kind (Xe.mk 0 0 0) 0 (X1n.mk 0 (Xz.mk 0 0) (V2.mk 0 0))).Row).Span) (((Xg.mk a0.Kind (Xe.mk 0 0 0) 0 (X1n.mk 0 (Xz.mk 0 0) (V2.mk 0 0))).Row).Values))))) else (bif (a0.Kind==(2:Int)) then ((X4q a0.Time).bind fun v17=>some (v17,(Xg.mk ((Xg.mk a0.Kind (Xe.mk 0 0 0) 0 (X1n.mk 0 (Xz.mk 0 0) (V2.mk 0 0))).Kind) ((Xg.mk a0.Kind (Xe.mk 0 0 0) 0 (X1n.mk 0 (Xz.mk 0 0) (V2.mk 0 0))).Record) a0.Time (X1n.mk (((Xg.mk a0.Kind (Xe.mk 0 0 0) 0 (X1n.mk 0 (Xz.mk 0 0) (V2.mk 0 0))).Row).Key) (((Xg.mk a0.Kind (Xe.mk 0 0 0) 0 (X1n.mk 0 (Xz.mk 0 0) (V2.mk 0 0))).Row).Span) (((Xg.mk a0.Kind (Xe.mk 0 0 0) 0 (X1n.mk 0 (Xz.mk 0 0) (V2.mk 0 0))).Row).Values))))) else (bif (a0.Kind==(3:Int)) then (some ((bif (bif (decide (((-2199023255552):Int)<=a0.Row.Span.Start)) then (decide (a0.Row.Span.Start<a0.Row.Span.End)) else false) then (decide (a0.Row.Span.End<=(2199023255552:Int))) else false),(Xg.mk ((Xg.mk a0.Kind (Xe.mk 0 0 0) 0 (X1n.mk 0 (Xz.mk 0 0) (V2.mk 0 0))).Kind) ((Xg.mk a0.Kind (Xe.mk 0 0 0) 0 (X1n.mk 0 (Xz.mk 0 0) (V2.mk 0 0))).Record) ((Xg.mk a0.Kind (Xe.mk 0 0 0) 0 (X1n.mk 0 (Xz.mk 0 0) (V2.mk 0 0))).Time) a0.Row))) else (some (false,(Xg.mk ((Xg.mk a0.Kind (Xe.mk 0 0 0) 0 (X1n.mk 0 (Xz.mk 0 0) (V2.mk 0 0))).Kind) ((Xg.mk a0.Kind (Xe.mk 0 0 0) 0 (X1n.mk 0 (Xz.mk 0 0) (V2.mk 0 0))).Record) ((Xg.mk a0.Kind (Xe.mk 0 0 0) 0 (X1n.mk 0 (Xz.mk 0 0) (V2.mk 0 0))).Time) (X1n.mk (((Xg.mk a0.Kind (Xe.mk 0 0 0) 0 (X1n.mk 0 (Xz.mk 0 0) (V2.mk 0 0))).Row).Key) (((Xg.mk a0.Kind (Xe.mk 0 0 0) 0 (X1n.mk 0 (Xz.mk 0 0) (V2.mk 0 0))).Row).Span) (((Xg.mk a0.Kind (Xe.mk 0 0 0) 0 (X1n.mk 0 (Xz.mk 0 0) (V2.mk 0 0))).Row).Values))))))):Option (Bool×Xg)).bind fun w12=>bif (bif (!w12.1) then true else (!(X7y a0 w12.2))) then (some 8) else (some 0)
inductive X6n where
 |x0
 |x1
def X4f (Xrn:(List X0g)):List X0g->Nat->Option X6n
 |[],k=>some (.x0)
 |x::xs,k=>(bif (decide (x.Out<(0:Int))) then (some (bif (bif (decide (x.Out<(0:Int))) then true else false) then true else false)) else (bif (decide (x.Out >= (3:Int))) then (some (bif (bif (decide (x.Out<(0:Int))) then true else (decide (x.Out >= (3:Int)))) then true else false)) else ((X2w x.Message).bind fun v33=>some (bif (bif (decide (x.Out<(0:Int))) then true else (decide (x.Out >= (3:Int)))) then true else (v33 != (0:Int))))):Option (Bool)).bind fun Xt8=>bif Xt8 then (some (.x1)) else (X4f Xrn xs (k+1))
def X8i (a0:(List X0g)):Option (Bool) :=
 (X55 (List.length a0)).bind fun u1=>(X4f  a0 a0 0).bind fun o37=>match o37 with|.x0=>(some true)|.x1=>(some false)
def X2n (a0:X0r):Option (Int) :=
 (bif (a0.Count==(0:Int)) then (some (X8r a0 (X0r.mk 0 0 0 0))) else (bif (a0.Count==(1:Int)) then (some (bif (a0.Sum==a0.Min) then (a0.Sum==a0.Max) else false)) else (bif (bif (decide (a0.Count>(1:Int))) then (decide (a0.Count<=(1073741824:Int))) else false) then (some (decide (a0.Min<=a0.Max))) else (some false))):Option (Bool)).bind fun j4_3=>bif (!j4_3) then (some 8) else (some 0)
def X65 (a0:X2):Option (Bool) :=
 bif (bif (bif (decide (a0.Span.Start<((-1100585369600):Int))) then true else (decide (a0.Span.End<=a0.Span.Start))) then true else (decide (a0.Span.End>(1100585369600:Int)))) then (some false) else (((X2n a0.Values.e0).bind fun v9=>bif (v9==(0:Int)) then ((X2n a0.Values.e1).bind fun v12=>bif (v12==(0:Int)) then (some (bif (bif (v9==(0:Int)) then (v12==(0:Int)) else false) then (decide ((IntKind.i64.wrap (a0.Values.e0.Count+a0.Values.e1.Count))>(0:Int))) else false)) else (some (bif (bif (v9==(0:Int)) then (v12==(0:Int)) else false) then false else false))) else (some (bif (bif (v9==(0:Int)) then false else false) then false else false)):Option (Bool)).bind fun j8_2=>some j8_2)
def X59 (a0:Int):Option (Bool) :=
 some (a0 != a0)
def X2t (a0:Int) (a1:Int):Option (Int) :=
 (X59 a0).bind fun v1=>(X59 a1).bind fun v3=>bif v1 then (bif v3 then (some 0) else (some (-1))) else (bif v3 then (some 1) else (bif (decide (a0<a1)) then (some (-1)) else (bif (decide (a0>a1)) then (some 1) else (some 0))))
inductive X74 where
 |x0
 |x1 (Xaa:Int)
def X5i (Xva:(List Int)):List Int->Nat->Option X74
 |[],k=>some (.x0)
 |x::xs,k=>bif (x != (0:Int)) then (some (.x1 x)) else (X5i Xva xs (k+1))
def Xcu (a0:(List Int)):Option (Int) :=
 (X55 (List.length a0)).bind fun u1=>(X5i  a0 a0 0).bind fun o7=>match o7 with|.x0=>(some 0)|.x1 Xaa=>(some Xaa)
def X66 (a0:X2) (a1:X2):Option (Int) :=
 (X2t a0.Span.End a1.Span.End).bind fun v1=>(X2t a0.Span.Start a1.Span.Start).bind fun v3=>(X2t a0.Key a1.Key).bind fun v5=>(Xcu [v1,v3,v5]).bind fun v7=>some v7
inductive X5y where
 |x0
 |x1
def X2v (X0y:(List X2)):List X2->Nat->Option X5y
 |[],k=>some (.x0)
 |x::xs,k=>((X65 x).bind fun v52=>bif (!v52) then (some true) else (bif (decide ((k:Int)>(0:Int))) then ((X3b X0y (IntKind.i64.wrap ((k:Int) - 1))).bind fun e56=>(X66 e56 x).bind fun v58=>some (bif (!v52) then true else (bif (decide ((k:Int)>(0:Int))) then (decide (v58 >= (0:Int))) else false))) else (some (bif (!v52) then true else false))):Option (Bool)).bind fun Xt5=>bif Xt5 then (some (.x1)) else (X2v X0y xs (k+1))
def X3y (a0:(List X2)):Option (Int) :=
 bif (decide ((List.length a0:Int)>(4000:Int))) then (some 4) else ((X55 (List.length a0)).bind fun u2=>(X2v  a0 a0 0).bind fun o62=>match o62 with|.x0=>(some 0)|.x1=>(some 8))
def X8y (a0:Int):Option (Bool) :=
 (bif (a0==((-9223372036854775808):Int)) then (some (bif (a0==((-9223372036854775808):Int)) then true else false)) else ((X2w (Xg.mk 2 (Xe.mk 0 0 0) a0 (X1n.mk 0 (Xz.mk 0 0) (V2.mk 0 0)))).bind fun v6=>some (bif (a0==((-9223372036854775808):Int)) then true else (v6==(0:Int)))):Option (Bool)).bind fun j4_2=>some j4_2
def Xck (a0:X0e):Option (Xg×Int) :=
 bif a0.Mark then (((X4q a0.Time).bind fun v6=>bif (!v6) then (some (bif (!v6) then true else false)) else (some (bif (!v6) then true else (!(X9i a0.Record (Xe.mk 0 0 0))))):Option (Bool)).bind fun Xyw=>bif Xyw then (some ((Xg.mk 0 (Xe.mk 0 0 0) 0 (X1n.mk 0 (Xz.mk 0 0) (V2.mk 0 0))),8)) else (some ((Xg.mk 2 (Xe.mk 0 0 0) a0.Time (X1n.mk 0 (Xz.mk 0 0) (V2.mk 0 0))),0))) else ((bif (a0.Time != (0:Int)) then (some (bif (a0.Time != (0:Int)) then true else false)) else ((X43 a0.Record.Time).bind fun v16=>some (bif (a0.Time != (0:Int)) then true else (!v16))):Option (Bool)).bind fun Xtd=>bif Xtd then (some ((Xg.mk 0 (Xe.mk 0 0 0) 0 (X1n.mk 0 (Xz.mk 0 0) (V2.mk 0 0))),8)) else (some ((Xg.mk 1 a0.Record 0 (X1n.mk 0 (Xz.mk 0 0) (V2.mk 0 0))),0)))
def X6u (a0:X0e):Option (Int) :=
 (Xck a0).bind fun v1=>some v1.2
inductive X93 where
 |x0 (Xem:Bool)
def X3s (Xn:X00) (Xbo:(List Int)):List Int->Nat->Bool->Option X93
 |[],k,X5e=>some (.x0 X5e)
 |x::xs,k,X5e=>(bif X5e then ((X8y x).bind fun v74=>some (bif X5e then v74 else false)) else (some (bif X5e then false else false)):Option (Bool)).bind fun Xt3=>X3s Xn Xbo xs (k+1) Xt3
inductive X92 where
 |x0 (Xel:Bool)
def X3r (Xfw:X00) (Xbn:(List X0e)):List X0e->Nat->Bool->Option X92
 |[],k,Xii=>some (.x0 Xii)
 |x::xs,k,Xii=>(bif Xii then ((X6u x).bind fun v103=>some (bif Xii then (v103==(0:Int)) else false)) else (some (bif Xii then false else false)):Option (Bool)).bind fun Xo4=>X3r Xfw Xbn xs (k+1) Xo4
inductive X91 where
 |x0 (Xek:Bool)
def X3q (Xpt:X00) (Xbm:(List X1n)):List X1n->Nat->Bool->Option X91
 |[],k,Xig=>some (.x0 Xig)
 |x::xs,k,Xig=>(bif Xig then ((X2w (Xg.mk 3 (Xe.mk 0 0 0) 0 x)).bind fun v132=>some (bif Xig then (v132==(0:Int)) else false)) else (some (bif Xig then false else false)):Option (Bool)).bind fun Xnz=>X3q Xpt Xbm xs (k+1) Xnz
inductive X90 where
 |x0 (Xej:Bool)
def X3p (Xps:X00) (Xbl:(List Xe)):List Xe->Nat->Bool->Option X90
 |[],k,Xif=>some (.x0 Xif)
 |x::xs,k,Xif=>(bif Xif then ((X2w (Xg.mk 4 x 0 (X1n.mk 0 (Xz.mk 0 0) (V2.mk 0 0)))).bind fun v161=>some (bif Xif then (v161==(0:Int)) else false)) else (some (bif Xif then false else false)):Option (Bool)).bind fun Xnu=>X3p Xps Xbl xs (k+1) Xnu
inductive X8z where
 |x0 (Xei:Bool)
def X3o (Xl3:X00) (Xbk:(List X2)):List X2->Nat->Bool->Option X8z
 |[],k,Xgy=>some (.x0 Xgy)
 |x::xs,k,Xgy=>(bif Xgy then (bif (Xl3.Op.Kind != (4:Int)) then (some (bif Xgy then (bif (Xl3.Op.Kind != (4:Int)) then true else false) else false)) else (some (bif Xgy then (bif (Xl3.Op.Kind != (4:Int)) then true else (x.Values.e1.Count==(0:Int))) else false))) else (some (bif Xgy then false else false)):Option (Bool)).bind fun Xnt=>X3o Xl3 Xbk xs (k+1) Xnt
def X8j (a0:X00):Option (Int) :=
 (X8x a0.Op.Kind).bind fun v1=>(bif (decide ((List.length a0.Pending:Int)<=(4000:Int))) then (bif (decide ((List.length a0.Marks:Int) >= v1.1)) then (bif (decide ((List.length a0.Marks:Int)<=v1.2.1)) then ((X8w v1.2.2.1 4000).bind fun v21=>bif (decide ((List.length a0.Store:Int)<=v21)) then ((X8w v1.2.2.2.1 60).bind fun v24=>bif (decide ((List.length a0.Events:Int)<=v24)) then ((X8w v1.2.2.2.2.1 4000).bind fun v27=>bif (decide ((List.length a0.Rows:Int)<=v27)) then ((X8w v1.2.2.2.2.2 4000).bind fun v30=>some (bif (bif (bif (bif (bif (bif (decide ((List.length a0.Pending:Int)<=(4000:Int))) then (decide ((List.length a0.Marks:Int) >= v1.1)) else false) then (decide ((List.length a0.Marks:Int)<=v1.2.1)) else false) then (decide ((List.length a0.Store:Int)<=v21)) else false) then (decide ((List.length a0.Events:Int)<=v24)) else false) then (decide ((List.length a0.Rows:Int)<=v27)) else false) then (decide ((List.length a0.Late:Int)<=v30)) else false)) else (some false)) else (some false)) else (some false)) else (some false)) else (some false)) else (some false):Option (Bool)).bind fun Xjp=>(bif (!(bif (bif (bif (decide (a0.Turn >= (0:Int))) then (decide (a0.Turn<(20:Int))) else false) then (decide (a0.Op.N >= (0:Int))) else false) then (decide (a0.Op.N<(4:Int))) else false)) then (some (bif (bif (bif (!(bif (bif (bif (decide (a0.Turn >= (0:Int))) then (decide (a0.Turn<(20:Int))) else false) then (decide (a0.Op.N >= (0:Int))) else false) then (decide (a0.Op.N<(4:Int))) else false)) then true else false) then true else false) then true else false)) else (bif (!Xjp) then (some (bif (bif (bif (!(bif (bif (bif (decide (a0.Turn >= (0:Int))) then (decide (a0.Turn<(20:Int))) else false) then (decide (a0.Op.N >= (0:Int))) else false) then (decide (a0.Op.N<(4:Int))) else false)) then true else (!Xjp)) then true else false) then true else false)) else ((X8i a0.Pending).bind fun v43=>bif (!v43) then (some (bif (bif (bif (!(bif (bif (bif (decide (a0.Turn >= (0:Int))) then (decide (a0.Turn<(20:Int))) else false) then (decide (a0.Op.N >= (0:Int))) else false) then (decide (a0.Op.N<(4:Int))) else false)) then true else (!Xjp)) then true else (!v43)) then true else false)) else ((X3y a0.Store).bind fun v46=>some (bif (bif (bif (!(bif (bif (bif (decide (a0.Turn >= (0:Int))) then (decide (a0.Turn<(20:Int))) else false) then (decide (a0.Op.N >= (0:Int))) else false) then (decide (a0.Op.N<(4:Int))) else false)) then true else (!Xjp)) then true else (!v43)) then true else (v46 != (0:Int)))))):Option (Bool)).bind fun Xnm=>bif Xnm then (some 8) else ((X55 (List.length a0.Marks)).bind fun u50=>(X3s  a0 a0.Marks a0.Marks 0 true).bind fun o77=>match o77 with|.x0 Xem=>((X55 (List.length a0.Events)).bind fun u79=>(X3r  a0 a0.Events a0.Events 0 Xem).bind fun o106=>match o106 with|.x0 Xel=>((X55 (List.length a0.Rows)).bind fun u108=>(X3q  a0 a0.Rows a0.Rows 0 Xel).bind fun o135=>match o135 with|.x0 Xek=>((X55 (List.length a0.Late)).bind fun u137=>(X3p  a0 a0.Late a0.Late 0 Xek).bind fun o164=>match o164 with|.x0 Xej=>((X55 (List.length a0.Store)).bind fun u166=>(X3o  a0 a0.Store a0.Store 0 Xej).bind fun o187=>match o187 with|.x0 Xei=>(bif (!Xei) then (some 8) else (some 0)))))))
def X5a (a0:Int):Option (X0r) :=
 some (X0r.mk 1 a0 a0 a0)
def X25 (a0:Int) (a1:Int):Option (Int) :=
 bif (bif (decide (a1<(1:Int))) then true else (decide (a1>(1073741824:Int)))) then (some 2) else (bif (bif (decide (a0<((-1099511627776):Int))) then true else (decide (a0>(1099511627776:Int)))) then (some 16) else (some 0))
def Xfg:List Int:=[0,1,2,2,3,3,3,3,4,4,4,4,4,4,4,4,5,5,5,5,5,5,5,5,5,5,5,5,5,5,5,5,6,6,6,6,6,6,6,6,6,6,6,6,6,6,6,6,6,6,6,6,6,6,6,6,6,6,6,6,6,6,6,6,7,7,7,7,7,7,7,7,7,7,7,7,7,7,7,7,7,7,7,7,7,7,7,7,7,7,7,7,7,7,7,7,7,7,7,7,7,7,7,7,7,7,7,7,7,7,7,7,7,7,7,7,7,7,7,7,7,7,7,7,7,7,7,7,8,8,8,8,8,8,8,8,8,8,8,8,8,8,8,8,8,8,8,8,8,8,8,8,8,8,8,8,8,8,8,8,8,8,8,8,8,8,8,8,8,8,8,8,8,8,8,8,8,8,8,8,8,8,8,8,8,8,8,8,8,8,8,8,8,8,8,8,8,8,8,8,8,8,8,8,8,8,8,8,8,8,8,8,8,8,8,8,8,8,8,8,8,8,8,8,8,8,8,8,8,8,8,8,8,8,8,8,8,8,8,8,8,8,8,8,8,8,8,8,8,8,8,8,8,8,8,8]
def X9e (a0:Int):Option (Int) :=
 (bif (decide (a0 >= (4294967296:Int))) then (some ((Int.fdiv a0 (2 ^ (min (Int.toNat 32) IntKind.u64.bits))),32)) else (some (a0,0)):Option (Int×Int)).bind fun w2=>(bif (decide (w2.1 >= (65536:Int))) then (some ((Int.fdiv w2.1 (2 ^ (min (Int.toNat 16) IntKind.u64.bits))),(IntKind.i64.wrap (w2.2+16)))) else (some (w2.1,w2.2)):Option (Int×Int)).bind fun w6=>(bif (decide (w6.1 >= (256:Int))) then (some ((Int.fdiv w6.1 (2 ^ (min (Int.toNat 8) IntKind.u64.bits))),(IntKind.i64.wrap (w6.2+8)))) else (some (w6.1,w6.2)):Option (Int×Int)).bind fun w10=>(X3b Xfg (IntKind.u8.wrap w10.1)).bind fun b13=>some (IntKind.i64.wrap (w10.2+(IntKind.i64.wrap b13)))
def X6v (a0:Int):Option (Int) :=
 (X9e a0).bind fun v1=>some v1
inductive X14 where
 |x0 (Xcy:Int)
def Xp (X0y:(List X2)) (Xn:X2) (y0_8:Int):Nat->Int->Int->Option X14
 |0,_,_=>none
 |n+1,Xj9,Xij=>bif (decide (Xj9<Xij)) then ((X3b X0y (IntKind.i64.wrap (Int.fdiv (IntKind.u64.wrap (IntKind.i64.wrap (Xj9+Xij))) (2 ^ (min (Int.toNat 1) IntKind.u64.bits))))).bind fun e15=>(X66 e15 Xn).bind fun v17=>bif (decide (v17<(0:Int))) then (Xp X0y Xn y0_8 n (IntKind.i64.wrap ((IntKind.i64.wrap (Int.fdiv (IntKind.u64.wrap (IntKind.i64.wrap (Xj9+Xij))) (2 ^ (min (Int.toNat 1) IntKind.u64.bits))))+1)) Xij) else (Xp X0y Xn y0_8 n Xj9 (IntKind.i64.wrap (Int.fdiv (IntKind.u64.wrap (IntKind.i64.wrap (Xj9+Xij))) (2 ^ (min (Int.toNat 1) IntKind.u64.bits)))))) else (some (.x0 Xj9))
def Xd (a0:(List X2)) (a1:X2):Option (Int×Bool) :=
 (Xp  a0 a1 (List.length a0:Int) FU 0 (List.length a0:Int)).bind fun o20=>match o20 with|.x0 Xcy=>((bif (decide (Xcy<(List.length a0:Int))) then ((X3b a0 Xcy).bind fun e29=>(X66 e29 a1).bind fun v31=>some (bif (decide (Xcy<(List.length a0:Int))) then (v31==(0:Int)) else false)) else (some false):Option (Bool)).bind fun Xza=>some (Xcy,Xza))
def X1v (a0:X0r) (a1:X0r):Option (X0r×Int) :=
 ((X2n a0).bind fun v7=>bif (v7 != (0:Int)) then (some (bif (v7 != (0:Int)) then true else false)) else ((X2n a1).bind fun v10=>some (bif (v7 != (0:Int)) then true else (v10 != (0:Int)))):Option (Bool)).bind fun Xyv=>bif Xyv then (some ((X0r.mk 0 0 0 0),8)) else (bif (decide ((IntKind.i64.wrap (a0.Count+a1.Count))>(1073741824:Int))) then (some ((X0r.mk 0 0 0 0),4)) else (bif (a0.Count==(0:Int)) then (some (a1,0)) else (bif (a1.Count==(0:Int)) then (some (a0,0)) else (some ((X0r.mk (IntKind.i64.wrap (a0.Count+a1.Count)) (IntKind.i64.wrap (a0.Sum+a1.Sum)) (if a1.Min<a0.Min then a1.Min else a0.Min) (if a1.Max>a0.Max then a1.Max else a0.Max)),0)))))
def X9m (a0:Int) (a1:Int):Option (Int) :=
 bif (bif (decide (a1<(1:Int))) then true else (decide (a1>(1073741824:Int)))) then (some 2) else (bif (bif (decide (a0<((-1099511627776):Int))) then true else (decide (a0>(1099511627776:Int)))) then (some 16) else (some 0))
def X6m (a0:Int) (a1:Int):Option (Int×Int) :=
 (X9m a0 a1).bind fun v1=>bif (v1 != (0:Int)) then (some (0,v1)) else ((Xts a1).bind fun u4=>(bif (decide ((Int.tmod a0 a1)<(0:Int))) then (some (IntKind.i64.wrap ((IntKind.i64.wrap (Int.tdiv a0 a1)) - 1))) else (some (IntKind.i64.wrap (Int.tdiv a0 a1))):Option (Int)).bind fun j7_7=>some (j7_7,0))
def Xac (a0:Int) (a1:Int):Option (Xz×Int) :=
 (X6m a0 a1).bind fun v1=>bif (v1.2 != (0:Int)) then (some ((Xz.mk 0 0),v1.2)) else (some ((Xz.mk (IntKind.i64.wrap (v1.1*a1)) (IntKind.i64.wrap ((IntKind.i64.wrap (v1.1+1))*a1))),0))
inductive Xa2 where
 |x0 (X08:(List Xz))
def X51 (X0y:Int) (Xdk:Int) (Xh3:Int):Nat->(List Xz)->Int->Option Xa2
 |0,_,_=>none
 |n+1,Xn,X5e=>bif (decide ((IntKind.i64.wrap (X5e+Xdk))>X0y)) then ((X2c (List.length (Xn++[(Xz.mk X5e (IntKind.i64.wrap (X5e+Xdk)))])) 16).bind fun u19=>X51 X0y Xdk Xh3 n (Xn++[(Xz.mk X5e (IntKind.i64.wrap (X5e+Xdk)))]) (IntKind.i64.wrap (X5e - Xh3))) else (some (.x0 Xn))
inductive X7f where
 |x0 (X4e:(List Xz)) (Xbj:(List Xz))
def X3e (X1q:(List Xz)):Nat->(List Xz)->Int->Option X7f
 |0,_,_=>none
 |n+1,X0h,X8s=>bif (decide (X8s >= (0:Int))) then ((X3b X1q X8s).bind fun e68=>(X2c (List.length (X0h++[e68])) 16).bind fun u72=>X3e X1q n (X0h++[e68]) (IntKind.i64.wrap (X8s - 1))) else (some (.x0 X0h X1q))
def Xbs (a0:Int) (a1:Int) (a2:Int):Option ((List Xz)×Int) :=
 bif (bif (bif (bif (decide ((if a2<a1 then a2 else a1)<(1:Int))) then true else (decide (a1>(1073741824:Int)))) then true else (decide (a2>a1))) then true else (decide (a1>(IntKind.i64.wrap (16*a2))))) then (some (([]:List Xz),2)) else ((Xac a0 a2).bind fun v2=>bif (v2.2 != (0:Int)) then (some (([]:List Xz),v2.2)) else ((X51  a0 a1 a2 FU ([]:List Xz) v2.1.Start).bind fun o24=>match o24 with|.x0 X08=>((X3e  X08 FU ([]:List Xz) (IntKind.i64.wrap ((List.length X08:Int) - 1))).bind fun o87=>match o87 with|.x0 X4e Xbj=>(some (X4e,0)))))
def Xdp (a0:X0s) (a1:Int):Option ((List Xz)×Int) :=
 (X18 a0).bind fun v1=>bif (v1 != (0:Int)) then (some (([]:List Xz),v1)) else (bif (a0.Kind==(1:Int)) then ((Xac a1 a0.Size).bind fun v5=>bif (v5.2 != (0:Int)) then (some (([]:List Xz),v5.2)) else (some ([v5.1],0))) else (bif (a0.Kind==(2:Int)) then ((Xbs a1 a0.Size a0.Every).bind fun v9=>some (v9.1,v9.2)) else (some (([]:List Xz),2))))
inductive X02 where
 |x0
 |x1 (X9k:Int)
def Xf (X0h:(List X2)) (X1q:X2):List X2->Nat->Option X02
 |[],k=>some (.x0)
 |x::xs,k=>bif (bif (bif (x.Key==X1q.Key) then (decide (x.Span.Start<X1q.Span.End)) else false) then (decide (X1q.Span.Start<x.Span.End)) else false) then (some (.x1 (k:Int))) else (Xf X0h X1q xs (k+1))
inductive X3z where
 |x0 (X4e:(List X2)) (Xgx:Int)
def X0u:Nat->(List X2)->X2->Option X3z
 |0,_,_=>none
 |n+1,X0h,X1q=>((X55 (List.length X0h)).bind fun u1330=>(Xf  X0h X1q X0h 0).bind fun o1342=>match o1342 with|.x0=>(some (-1))|.x1 X9k=>(some X9k):Option (Int)).bind fun Xcm=>bif (decide (Xcm<(0:Int))) then (((Xd X0h X1q).bind fun v1393=>bif (!v1393.2) then (bif (v1393.1==(List.length X0h:Int)) then (((X5n X0h v1393.1 (List.length X0h:Int)).bind fun m1405=>bif (List.isEmpty m1405) then ((X2c (List.length (X0h++[X1q])) 88).bind fun u1408=>some ()) else ((X2c (List.length (X0h++[X1q])) 88).bind fun u1410=>some ()):Option (Unit)).bind fun _=>some ((X0h++[X1q]),0)) else ((Xlw X0h v1393.1 X1q 88).bind fun m1413=>some (m1413,0))) else ((X3b X0h v1393.1).bind fun e1415=>((X1v e1415.Values.e0 X1q.Values.e0).bind fun v1430=>bif (v1430.2 != (0:Int)) then (some (X0h,v1430.2)) else ((X1v (((X2.mk e1415.Key e1415.Span (V2.mk v1430.1 e1415.Values.e1)).Values).e1) X1q.Values.e1).bind fun v1435=>bif (v1435.2 != (0:Int)) then (some ((List.set X0h (Int.toNat v1393.1) (X2.mk e1415.Key e1415.Span (V2.mk v1430.1 e1415.Values.e1))),v1435.2)) else (some ((List.set (List.set X0h (Int.toNat v1393.1) (X2.mk e1415.Key e1415.Span (V2.mk v1430.1 e1415.Values.e1))) (Int.toNat v1393.1) (X2.mk ((X2.mk e1415.Key e1415.Span (V2.mk v1430.1 e1415.Values.e1)).Key) ((X2.mk e1415.Key e1415.Span (V2.mk v1430.1 e1415.Values.e1)).Span) (V2.mk (((X2.mk e1415.Key e1415.Span (V2.mk v1430.1 e1415.Values.e1)).Values).e0) v1435.1))),0))):Option ((List X2)×Int)).bind fun w1427=>some (w1427.1,w1427.2)):Option ((List X2)×Int)).bind fun w1392=>some (.x0 w1392.1 w1392.2)) else ((X3b X0h Xcm).bind fun e1440=>((X1v X1q.Values.e0 e1440.Values.e0).bind fun v1455=>bif (v1455.2 != (0:Int)) then (some (X1q,v1455.2)) else ((X1v X1q.Values.e1 e1440.Values.e1).bind fun v1460=>bif (v1460.2 != (0:Int)) then (some ((X2.mk X1q.Key X1q.Span (V2.mk v1455.1 X1q.Values.e1)),v1460.2)) else (some ((X2.mk X1q.Key X1q.Span (V2.mk v1455.1 v1460.1)),0))):Option (X2×Int)).bind fun w1452=>bif (w1452.2 != (0:Int)) then (some (.x0 ([]:List X2) w1452.2)) else ((Xxp X0h Xcm).bind fun m1465=>X0u n m1465 (X2.mk w1452.1.Key (Xz.mk (if e1440.Span.Start<w1452.1.Span.Start then e1440.Span.Start else w1452.1.Span.Start) (if e1440.Span.End>w1452.1.Span.End then e1440.Span.End else w1452.1.Span.End)) w1452.1.Values)))
inductive X7r where
 |x0 (X08:(List X2))
 |x1 (X1i:(List X2)) (Xgw:Int)
def X2l (Xen:(List Xz)):List Xz->Nat->X2->(List X2)->Option X7r
 |[],k,Xn,Xk=>some (.x0 Xk)
 |x::xs,k,Xn,Xk=>((Xd Xk (X2.mk Xn.Key x Xn.Values)).bind fun v1891=>bif (!v1891.2) then (bif (v1891.1==(List.length Xk:Int)) then (((X5n Xk v1891.1 (List.length Xk:Int)).bind fun m1903=>bif (List.isEmpty m1903) then ((X2c (List.length (Xk++[(X2.mk Xn.Key x Xn.Values)])) 88).bind fun u1906=>some ()) else ((X2c (List.length (Xk++[(X2.mk Xn.Key x Xn.Values)])) 88).bind fun u1908=>some ()):Option (Unit)).bind fun _=>some ((X2.mk ((X2.mk Xn.Key x Xn.Values).Key) ((X2.mk Xn.Key x Xn.Values).Span) (V2.mk (((X2.mk Xn.Key x Xn.Values).Values).e0) (((X2.mk Xn.Key x Xn.Values).Values).e1))),(Xk++[(X2.mk Xn.Key x Xn.Values)]),0)) else ((Xlw Xk v1891.1 (X2.mk Xn.Key x Xn.Values) 88).bind fun m1911=>some ((X2.mk Xn.Key x Xn.Values),m1911,0))) else ((X3b Xk v1891.1).bind fun e1913=>((X1v e1913.Values.e0 Xn.Values.e0).bind fun v1928=>bif (v1928.2 != (0:Int)) then (some (Xk,v1928.2)) else ((X1v (((X2.mk e1913.Key e1913.Span (V2.mk v1928.1 e1913.Values.e1)).Values).e1) Xn.Values.e1).bind fun v1933=>bif (v1933.2 != (0:Int)) then (some ((List.set Xk (Int.toNat v1891.1) (X2.mk e1913.Key e1913.Span (V2.mk v1928.1 e1913.Values.e1))),v1933.2)) else (some ((List.set (List.set Xk (Int.toNat v1891.1) (X2.mk e1913.Key e1913.Span (V2.mk v1928.1 e1913.Values.e1))) (Int.toNat v1891.1) (X2.mk ((X2.mk e1913.Key e1913.Span (V2.mk v1928.1 e1913.Values.e1)).Key) ((X2.mk e1913.Key e1913.Span (V2.mk v1928.1 e1913.Values.e1)).Span) (V2.mk (((X2.mk e1913.Key e1913.Span (V2.mk v1928.1 e1913.Values.e1)).Values).e0) v1933.1))),0))):Option ((List X2)×Int)).bind fun w1925=>some ((X2.mk ((X2.mk Xn.Key x Xn.Values).Key) ((X2.mk Xn.Key x Xn.Values).Span) (V2.mk (((X2.mk Xn.Key x Xn.Values).Values).e0) (((X2.mk Xn.Key x Xn.Values).Values).e1))),w1925.1,w1925.2)):Option (X2×(List X2)×Int)).bind fun w1890=>bif (w1890.2.2 != (0:Int)) then (some (.x1 ([]:List X2) w1890.2.2)) else (X2l Xen xs (k+1) w1890.1 w1890.2.1)
def X35 (a0:(List X2)) (a1:X0s) (a2:Xe) (a3:Int):Option ((List X2)×Int) :=
 (X3y a0).bind fun v1=>bif (v1 != (0:Int)) then (some (([]:List X2),v1)) else ((X18 a1).bind fun v4=>bif (v4 != (0:Int)) then (some (([]:List X2),v4)) else (bif (bif (a3 != (0:Int)) then (a3 != (1:Int)) else false) then (some (([]:List X2),2)) else (bif (bif (decide (a2.Time<((-1099511627776):Int))) then true else (decide (a2.Time>(1099511627776:Int)))) then (some (([]:List X2),16)) else (((X5a a2.Value).bind fun v14=>bif (a3==(0:Int)) then (some (X2.mk a2.Key (Xz.mk 0 0) (V2.mk v14 (X0r.mk 0 0 0 0)))) else (bif (a3==(1:Int)) then (some (X2.mk a2.Key (Xz.mk 0 0) (V2.mk (X0r.mk 0 0 0 0) v14))) else none):Option (X2)).bind fun Xfp=>(bif (List.isEmpty a0) then (some a0) else ((X2c (List.length a0) 88).bind fun u28=>some a0):Option ((List X2))).bind fun Xfo=>bif (a1.Kind==(3:Int)) then (((X25 0 a1.Size).bind fun v51=>bif (v51 != (0:Int)) then (some (([]:List Xz),v51)) else ((X25 a2.Time a1.Size).bind fun v54=>bif (v54 != (0:Int)) then (some (([]:List Xz),v54)) else ((X6v 1).bind fun v67=>some ([(Xz.mk a2.Time (IntKind.i64.wrap (a2.Time+a1.Size)))],0))):Option ((List Xz)×Int)).bind fun w50=>bif (w50.2 != (0:Int)) then (some (([]:List X2),w50.2)) else ((X3b w50.1 0).bind fun e71=>((X0u  FU Xfo (X2.mk Xfp.Key e71 Xfp.Values)).bind fun o1548=>match o1548 with|.x0 X4e Xgx=>(some (X4e,Xgx)):Option ((List X2)×Int)).bind fun w811=>bif (w811.2 != (0:Int)) then (some (([]:List X2),w811.2)) else (bif (decide ((List.length w811.1:Int)>(4000:Int))) then (some (([]:List X2),4)) else (some (w811.1,0))))) else ((Xdp a1 a2.Time).bind fun v1558=>bif (v1558.2 != (0:Int)) then (some (([]:List X2),v1558.2)) else ((X55 (List.length v1558.1)).bind fun u1561=>(X2l  v1558.1 v1558.1 0 Xfp Xfo).bind fun o1984=>match o1984 with|.x0 X08=>(bif (decide ((List.length X08:Int)>(4000:Int))) then (some (([]:List X2),4)) else (some (X08,0)))|.x1 X1i Xgw=>(some (X1i,Xgw))))))))
def X4s (a0:(List X0g)):Option ((List X0g)) :=
 bif (List.isEmpty a0) then (some a0) else ((X2c (List.length a0) 88).bind fun u4=>some a0)
def X1j (a0:(List Int)):Option ((List Int)) :=
 bif (List.isEmpty a0) then (some a0) else ((X2c (List.length a0) 8).bind fun u4=>some a0)
def X1l (a0:(List X2)):Option ((List X2)) :=
 bif (List.isEmpty a0) then (some a0) else ((X2c (List.length a0) 88).bind fun u4=>some a0)
def X1k (a0:(List X0e)):Option ((List X0e)) :=
 bif (List.isEmpty a0) then (some a0) else ((X2c (List.length a0) 40).bind fun u4=>some a0)
def X2j (a0:(List X1n)):Option ((List X1n)) :=
 bif (List.isEmpty a0) then (some a0) else ((X2c (List.length a0) 40).bind fun u4=>some a0)
def X19 (a0:(List Xe)):Option ((List Xe)) :=
 bif (List.isEmpty a0) then (some a0) else ((X2c (List.length a0) 24).bind fun u4=>some a0)
def X4m (a0:X00) (a1:(List X0g)):Option (X00×Int) :=
 (X8j a0).bind fun v1=>bif (v1 != (0:Int)) then (some ((X00.mk (GOp.mk 0 0) 0 ([]:List X0g) ([]:List Int) ([]:List X2) ([]:List X0e) ([]:List X1n) ([]:List Xe)),v1)) else ((X8i a1).bind fun v4=>bif (!v4) then (some ((X00.mk (GOp.mk 0 0) 0 ([]:List X0g) ([]:List Int) ([]:List X2) ([]:List X0e) ([]:List X1n) ([]:List Xe)),8)) else (bif (decide ((List.length a1:Int)>(IntKind.i64.wrap (4000 - (List.length a0.Pending:Int))))) then (some ((X00.mk (GOp.mk 0 0) 0 ([]:List X0g) ([]:List Int) ([]:List X2) ([]:List X0e) ([]:List X1n) ([]:List Xe)),4)) else (bif (List.isEmpty a0.Pending) then ((X1j a0.Marks).bind fun v33=>(X1l a0.Store).bind fun v35=>(X1k a0.Events).bind fun v37=>(X2j a0.Rows).bind fun v39=>(X19 a0.Late).bind fun v41=>bif (List.isEmpty a1) then (some ((X00.mk a0.Op a0.Turn a1 v33 v35 v37 v39 v41),0)) else ((X2c (List.length a1) 88).bind fun u44=>some ((X00.mk a0.Op a0.Turn a1 v33 v35 v37 v39 v41),0))) else ((X4s a0.Pending).bind fun v46=>(X1j a0.Marks).bind fun v48=>(X1l a0.Store).bind fun v50=>(X1k a0.Events).bind fun v52=>(X2j a0.Rows).bind fun v54=>(X19 a0.Late).bind fun v56=>bif (List.isEmpty a1) then (some ((X00.mk a0.Op a0.Turn v46 v48 v50 v52 v54 v56),0)) else ((X2c (List.length (v46++a1)) 88).bind fun u59=>none)))))
def X6i (a0:Int):Option (Bool) :=
 (X2w (Xg.mk 2 (Xe.mk 0 0 0) a0 (X1n.mk 0 (Xz.mk 0 0) (V2.mk 0 0)))).bind fun v1=>some (v1==(0:Int))
inductive X60 where
 |x0
 |x1
def X45 (Xh4:(List Int)):List Int->Nat->Option X60
 |[],k=>some (.x0)
 |x::xs,k=>(bif (x != ((-9223372036854775808):Int)) then ((X6i x).bind fun v32=>some (bif (x != ((-9223372036854775808):Int)) then (!v32) else false)) else (some (bif (x != ((-9223372036854775808):Int)) then false else false)):Option (Bool)).bind fun Xt7=>bif Xt7 then (some (.x1)) else (X45 Xh4 xs (k+1))
def X9f (a0:(List Int)):Option (Int) :=
 (bif ((List.length a0:Int)==(0:Int)) then (some (bif ((List.length a0:Int)==(0:Int)) then true else false)) else (some (bif ((List.length a0:Int)==(0:Int)) then true else (decide ((List.length a0:Int)>(4:Int))))):Option (Bool)).bind fun Xz8=>bif Xz8 then (some 8) else ((X55 (List.length a0)).bind fun u6=>(X45  a0 a0 0).bind fun o36=>match o36 with|.x0=>(some 0)|.x1=>(some 8))
inductive X3f where
 |x0 (Xj8:Int)
def X0z (X0y:(List Int)):Nat->Int->Int->Option X3f
 |0,_,_=>none
 |n+1,X8s,Xmq=>bif (decide (Xmq<(List.length X0y:Int))) then ((X3b X0y Xmq).bind fun e13=>X0z X0y n (if e13<X8s then e13 else X8s) (IntKind.i64.wrap (Xmq+1))) else (some (.x0 X8s))
def X22 (a0:(List Int)):Option (Int) :=
 bif (decide ((List.length a0:Int)<(1:Int))) then none else ((X3b a0 0).bind fun e3=>(X0z  a0 FU e3 1).bind fun o15=>match o15 with|.x0 Xj8=>(some Xj8))
def X4i (a0:(List Int)):Option (Int×Int) :=
 (X9f a0).bind fun v1=>bif (v1 != (0:Int)) then (some (0,v1)) else ((X22 a0).bind fun v4=>some (v4,0))
def X7l (a0:(List Int)) (a1:Int) (a2:Int):Option ((List Int)×Bool×Int) :=
 (X4i a0).bind fun v1=>bif (v1.2 != (0:Int)) then (some (([]:List Int),false,v1.2)) else ((bif (decide (a1<(0:Int))) then (some (bif (bif (decide (a1<(0:Int))) then true else false) then true else false)) else (bif (decide (a1 >= (List.length a0:Int))) then (some (bif (bif (decide (a1<(0:Int))) then true else (decide (a1 >= (List.length a0:Int)))) then true else false)) else ((X6i a2).bind fun v11=>some (bif (bif (decide (a1<(0:Int))) then true else (decide (a1 >= (List.length a0:Int)))) then true else (!v11)))):Option (Bool)).bind fun Xyt=>bif Xyt then (some (([]:List Int),false,2)) else ((bif (List.isEmpty a0) then (some a0) else ((X2c (List.length a0) 8).bind fun u24=>some a0):Option ((List Int))).bind fun Xhv=>(X3b Xhv a1).bind fun e27=>(X22 (List.set Xhv (Int.toNat a1) (if a2>e27 then a2 else e27))).bind fun v29=>some ((List.set Xhv (Int.toNat a1) (if a2>e27 then a2 else e27)),(decide (v29>v1.1)),0)))
inductive X94 where
 |x0 (X08:(List X2)) (X0l:(List X2))
def X3t (Xdk:Int) (X30:(List X2)):List X2->Nat->(List X2)->(List X2)->Option X94
 |[],k,Xn,Xk=>some (.x0 Xn Xk)
 |x::xs,k,Xn,Xk=>(bif (decide (x.Span.End<=Xdk)) then ((X2c (List.length (Xn++[x])) 88).bind fun u110=>some ((Xn++[x]),Xk)) else ((X2c (List.length (Xk++[x])) 88).bind fun u112=>some (Xn,(Xk++[x]))):Option ((List X2)×(List X2))).bind fun w108=>X3t Xdk X30 xs (k+1) w108.1 w108.2
def X7d (a0:(List X2)) (a1:Int):Option ((List X2)×(List X2)×Int) :=
 (X3y a0).bind fun v1=>bif (v1 != (0:Int)) then (some (([]:List X2),([]:List X2),v1)) else ((X55 (List.length a0)).bind fun u4=>(X3t  a1 a0 a0 0 ([]:List X2) ([]:List X2)).bind fun o151=>match o151 with|.x0 X08 X0l=>(some (X08,X0l,0)))
def X6k (a0:Int) (a1:X0r):Option (Int×Int) :=
 bif (bif (decide (a0<(1:Int))) then true else (decide (a0>(4:Int)))) then (some (0,2)) else ((X2n a1).bind fun v2=>bif (v2 != (0:Int)) then (some (0,v2)) else (bif (a1.Count==(0:Int)) then (some (0,6)) else ((bif (a0==(0:Int)) then (some 0) else (bif (a0==(1:Int)) then (some a1.Count) else (bif (a0==(2:Int)) then (some a1.Sum) else (bif (a0==(3:Int)) then (some a1.Min) else (bif (a0==(4:Int)) then (some a1.Max) else none)))):Option (Int)).bind fun Xzc=>some (Xzc,0))))
inductive X89 where
 |x0 (Xbi:(List X0g))
def X2z (Xk:X00) (X0h:X00) (Xpu:X07) (Xh2:(List X2)):List X2->Nat->(List X0g)->Option X89
 |[],k,Xh1=>some (.x0 Xh1)
 |x::xs,k,Xh1=>(X6k Xpu.Agg x.Values.e0).bind fun v76=>(X2c (List.length (Xh1++[(X0g.mk 0 (Xg.mk 3 (Xe.mk 0 0 0) 0 (X1n.mk x.Key x.Span (V2.mk v76.1 0))))])) 88).bind fun u84=>X2z Xk X0h Xpu Xh2 xs (k+1) (Xh1++[(X0g.mk 0 (Xg.mk 3 (Xe.mk 0 0 0) 0 (X1n.mk x.Key x.Span (V2.mk v76.1 0))))])
def X3k (a0:X07) (a1:X00) (a2:Int) (a3:Xg):Option (X00×Int) :=
 (X6j a0).bind fun v1=>bif (!v1) then (some ((X00.mk (GOp.mk 0 0) 0 ([]:List X0g) ([]:List Int) ([]:List X2) ([]:List X0e) ([]:List X1n) ([]:List Xe)),8)) else ((X8j a1).bind fun v4=>bif (v4 != (0:Int)) then (some ((X00.mk (GOp.mk 0 0) 0 ([]:List X0g) ([]:List Int) ([]:List X2) ([]:List X0e) ([]:List X1n) ([]:List Xe)),v4)) else ((bif (a1.Op.Kind != (4:Int)) then (some (bif (bif (a1.Op.Kind != (4:Int)) then true else false) then true else false)) else (bif (decide (a2<(0:Int))) then (some (bif (bif (a1.Op.Kind != (4:Int)) then true else (decide (a2<(0:Int)))) then true else false)) else (some (bif (bif (a1.Op.Kind != (4:Int)) then true else (decide (a2<(0:Int)))) then true else (decide (a2 >= (List.length a1.Marks:Int)))))):Option (Bool)).bind fun Xyr=>bif Xyr then (some ((X00.mk (GOp.mk 0 0) 0 ([]:List X0g) ([]:List Int) ([]:List X2) ([]:List X0e) ([]:List X1n) ([]:List Xe)),2)) else ((X2w a3).bind fun v14=>bif (bif (v14 != (0:Int)) then true else (bif (a3.Kind != (1:Int)) then (a3.Kind != (2:Int)) else false)) then (some ((X00.mk (GOp.mk 0 0) 0 ([]:List X0g) ([]:List Int) ([]:List X2) ([]:List X0e) ([]:List X1n) ([]:List Xe)),8)) else (bif (decide ((List.length a1.Pending:Int)>(0:Int))) then (some ((X00.mk (GOp.mk 0 0) 0 ([]:List X0g) ([]:List Int) ([]:List X2) ([]:List X0e) ([]:List X1n) ([]:List Xe)),18)) else (bif (a3.Kind==(1:Int)) then ((X35 a1.Store a0.Window a3.Record 0).bind fun v19=>bif (v19.2 != (0:Int)) then (some ((X00.mk (GOp.mk 0 0) 0 ([]:List X0g) ([]:List Int) ([]:List X2) ([]:List X0e) ([]:List X1n) ([]:List Xe)),v19.2)) else ((X4m (X00.mk a1.Op a1.Turn a1.Pending a1.Marks v19.1 a1.Events a1.Rows a1.Late) ([]:List X0g)).bind fun v22=>some (v22.1,v22.2))) else ((X7l a1.Marks a2 a3.Time).bind fun v24=>bif (!v24.2.1) then ((X4m (X00.mk a1.Op a1.Turn a1.Pending v24.1 a1.Store a1.Events a1.Rows a1.Late) ([]:List X0g)).bind fun v27=>some (v27.1,v27.2)) else ((X4i v24.1).bind fun v29=>(X7d a1.Store v29.1).bind fun v31=>(X55 (List.length v31.1)).bind fun u33=>(X2z  (X00.mk a1.Op a1.Turn a1.Pending v24.1 v31.2.1 a1.Events a1.Rows a1.Late) (X00.mk ((X00.mk (GOp.mk 0 0) 0 ([]:List X0g) ([]:List Int) ([]:List X2) ([]:List X0e) ([]:List X1n) ([]:List Xe)).Op) ((X00.mk (GOp.mk 0 0) 0 ([]:List X0g) ([]:List Int) ([]:List X2) ([]:List X0e) ([]:List X1n) ([]:List Xe)).Turn) ((X00.mk (GOp.mk 0 0) 0 ([]:List X0g) ([]:List Int) ([]:List X2) ([]:List X0e) ([]:List X1n) ([]:List Xe)).Pending) ((X00.mk (GOp.mk 0 0) 0 ([]:List X0g) ([]:List Int) ([]:List X2) ([]:List X0e) ([]:List X1n) ([]:List Xe)).Marks) ((X00.mk (GOp.mk 0 0) 0 ([]:List X0g) ([]:List Int) ([]:List X2) ([]:List X0e) ([]:List X1n) ([]:List Xe)).Store) ((X00.mk (GOp.mk 0 0) 0 ([]:List X0g) ([]:List Int) ([]:List X2) ([]:List X0e) ([]:List X1n) ([]:List Xe)).Events) ((X00.mk (GOp.mk 0 0) 0 ([]:List X0g) ([]:List Int) ([]:List X2) ([]:List X0e) ([]:List X1n) ([]:List Xe)).Rows) ((X00.mk (GOp.mk 0 0) 0 ([]:List X0g) ([]:List Int) ([]:List X2) ([]:List X0e) ([]:List X1n) ([]:List Xe)).Late)) a0 v31.1 v31.1 0 ([]:List X0g)).bind fun o96=>match o96 with|.x0 Xbi=>((X4m (X00.mk a1.Op a1.Turn a1.Pending v24.1 v31.2.1 a1.Events a1.Rows a1.Late) Xbi).bind fun v98=>some (v98.1,v98.2)))))))))
inductive X87 where
 |x0 (Xas:(List X1n))
def X7s (y1_2:(List Int)) (y1_3:(List Xg)) (Xfw:X07) (Xrl:X00) (Xrk:X00) (Xrm:Int) (Xgz:X00):Nat->(List X1n)->Int->Option X87
 |0,_,_=>none
 |n+1,Xih,Xl4=>bif (decide (Xl4<(List.length Xgz.Pending:Int))) then ((X3b Xgz.Pending Xl4).bind fun e166=>(X2c (List.length (Xih++[e166.Message.Row])) 40).bind fun u168=>X7s y1_2 y1_3 Xfw Xrl Xrk Xrm Xgz n (Xih++[e166.Message.Row]) (IntKind.i64.wrap (Xl4+1))) else (some (.x0 Xih))
inductive X61 where
 |x0 (X0l:X00) (X9y:(List X1n))
 |x1 (X4z:(List X1n))
def X5v (Xh3:(List Int)) (X8s:(List Xg)) (Xn:X07) (Xk:X00):List Xg->Nat->X00->(List X1n)->Option X61
 |[],k,Xbe,X0h=>some (.x0 Xbe X0h)
 |x::xs,k,Xbe,X0h=>(X3b Xh3 (k:Int)).bind fun e139=>(X3k Xn Xbe e139 x).bind fun v141=>bif (v141.2 != (0:Int)) then (some (.x1 ([]:List X1n))) else ((X7s  Xh3 X8s Xn Xk Xbe (k:Int) v141.1 FU X0h 0).bind fun o175=>match o175 with|.x0 Xas=>(X5v Xh3 X8s Xn Xk xs (k+1) (X00.mk v141.1.Op v141.1.Turn ([]:List X0g) v141.1.Marks v141.1.Store v141.1.Events v141.1.Rows v141.1.Late) Xas))
def Xdb (a0:X07) (a1:Int) (a2:(List Int)) (a3:(List Xg)):Option (X00×(List X1n)×Bool) :=
 (Xia 0 a1).bind fun v1=>bif (v1.2 != (0:Int)) then (some ((X00.mk (GOp.mk 0 0) 0 ([]:List X0g) ([]:List Int) ([]:List X2) ([]:List X0e) ([]:List X1n) ([]:List Xe)),([]:List X1n),false)) else ((X55 (List.length a3)).bind fun u4=>(X5v  a2 a3 a0 (X00.mk (GOp.mk 0 0) 0 ([]:List X0g) ([]:List Int) ([]:List X2) ([]:List X0e) ([]:List X1n) ([]:List Xe)) a3 0 v1.1 ([]:List X1n)).bind fun o205=>match o205 with|.x0 X0l X9y=>(some (X0l,X9y,true))|.x1 X4z=>(some ((X00.mk ((X00.mk (GOp.mk 0 0) 0 ([]:List X0g) ([]:List Int) ([]:List X2) ([]:List X0e) ([]:List X1n) ([]:List Xe)).Op) ((X00.mk (GOp.mk 0 0) 0 ([]:List X0g) ([]:List Int) ([]:List X2) ([]:List X0e) ([]:List X1n) ([]:List Xe)).Turn) ((X00.mk (GOp.mk 0 0) 0 ([]:List X0g) ([]:List Int) ([]:List X2) ([]:List X0e) ([]:List X1n) ([]:List Xe)).Pending) ((X00.mk (GOp.mk 0 0) 0 ([]:List X0g) ([]:List Int) ([]:List X2) ([]:List X0e) ([]:List X1n) ([]:List Xe)).Marks) ((X00.mk (GOp.mk 0 0) 0 ([]:List X0g) ([]:List Int) ([]:List X2) ([]:List X0e) ([]:List X1n) ([]:List Xe)).Store) ((X00.mk (GOp.mk 0 0) 0 ([]:List X0g) ([]:List Int) ([]:List X2) ([]:List X0e) ([]:List X1n) ([]:List Xe)).Events) ((X00.mk (GOp.mk 0 0) 0 ([]:List X0g) ([]:List Int) ([]:List X2) ([]:List X0e) ([]:List X1n) ([]:List Xe)).Rows) ((X00.mk (GOp.mk 0 0) 0 ([]:List X0g) ([]:List Int) ([]:List X2) ([]:List X0e) ([]:List X1n) ([]:List Xe)).Late)),X4z,false)))
def Xhr (a0:Int) (a1:Int) (a2:Int):Option (X1n) :=
 some (X1n.mk a0 (Xz.mk a1 (IntKind.i64.wrap (a1+10))) (V2.mk a2 0))
inductive X6w where
 |x0
 |x1
def X6x (X0y:(List X1n)) (Xdk:(List X1n)):List X1n->Nat->Option X6w
 |[],k=>some (.x0)
 |x::xs,k=>(X3b Xdk (k:Int)).bind fun e11=>bif (!(Xkt x e11)) then (some (.x1)) else (X6x X0y Xdk xs (k+1))
def Xey (a0:(List X1n)) (a1:(List X1n)):Option (Bool) :=
 bif ((List.length a0:Int) != (List.length a1:Int)) then (some false) else ((X55 (List.length a0)).bind fun u2=>(X6x  a0 a1 a0 0).bind fun o14=>match o14 with|.x0=>(some true)|.x1=>(some false))
def Xb1:Option (Bool) :=
 (Xdc).bind fun v1=>(Xdz 0 3 0).bind fun v3=>(Xdz 0 12 0).bind fun v5=>(Xez 10).bind fun v7=>(Xdb v1 1 [0,0,0] [v3,v5,v7]).bind fun v9=>(bif v9.2.2 then ((Xhr 0 0 1).bind fun v19=>(Xey v9.2.1 [v19]).bind fun v21=>bif v21 then (some (bif (bif v9.2.2 then v21 else false) then ((List.length v9.1.Store:Int)==(1:Int)) else false)) else (some (bif (bif v9.2.2 then v21 else false) then false else false))) else (some (bif (bif v9.2.2 then false else false) then false else false)):Option (Bool)).bind fun Xzb=>some Xzb
def X9g (a0:X07):Option (Bool) :=
 (bif (decide ((List.length a0.Arg:Int)>(100:Int))) then (some (bif (bif (decide ((List.length a0.Arg:Int)>(100:Int))) then true else false) then true else false)) else (bif (decide ((List.length a0.Where:Int)>(100:Int))) then (some (bif (bif (decide ((List.length a0.Arg:Int)>(100:Int))) then true else (decide ((List.length a0.Where:Int)>(100:Int)))) then true else false)) else (some (bif (bif (decide ((List.length a0.Arg:Int)>(100:Int))) then true else (decide ((List.length a0.Where:Int)>(100:Int)))) then true else (decide ((List.length a0.Sources:Int)>(20:Int)))))):Option (Bool)).bind fun j3_2=>some j3_2
def Xax (a0:Int):Option (Int) :=
 bif (decide (a0<=(4:Int))) then (some 0) else (bif (decide (a0<=(6:Int))) then (some 1) else (some 2))
def X6a (a0:X05) (a1:Int) (a2:Int):Option (Bool) :=
 some (bif (bif (bif (bif (bif (bif (bif (decide (a0.Kind >= (1:Int))) then (decide (a0.Kind<=(19:Int))) else false) then (decide (a0.N >= (0:Int))) else false) then (bif (a0.N==(0:Int)) then true else (a0.Kind==(1:Int))) else false) then (decide (a0.At >= (0:Int))) else false) then (decide (a0.At<=(400:Int))) else false) then (a0.A==a1) else false) then (a0.B==a2) else false)
inductive X4n where
 |x0 (X08:(List Int)) (X0l:(List Int))
 |x1 (X1i:(List Int)) (X4z:(List Int))
def X1p (X0y:(List X05)):List X05->Nat->(List Int)->(List Int)->Option X4n
 |[],k,Xn,Xk=>some (.x0 Xn Xk)
 |x::xs,k,Xn,Xk=>(Xax x.Kind).bind fun v156=>bif (decide (v156>(0:Int))) then (bif (decide ((IntKind.i64.wrap ((k:Int) - 1))<(0:Int))) then (some (.x1 ([]:List Int) ([]:List Int))) else ((X3b Xn (IntKind.i64.wrap ((k:Int) - 1))).bind fun e160=>(X3b Xk (IntKind.i64.wrap ((k:Int) - 1))).bind fun e162=>bif (v156==(2:Int)) then (bif (decide ((IntKind.i64.wrap ((IntKind.i64.wrap ((k:Int) - 1)) - e160))<(0:Int))) then (some (.x1 ([]:List Int) ([]:List Int))) else ((X3b Xn (IntKind.i64.wrap ((IntKind.i64.wrap ((k:Int) - 1)) - e160))).bind fun e166=>(X3b Xk (IntKind.i64.wrap ((IntKind.i64.wrap ((k:Int) - 1)) - e160))).bind fun e168=>(X6a x (IntKind.i64.wrap ((IntKind.i64.wrap ((k:Int) - 1)) - e160)) (IntKind.i64.wrap ((k:Int) - 1))).bind fun v170=>bif (!v170) then (some (.x1 ([]:List Int) ([]:List Int))) else ((X2c (List.length (Xn++[(IntKind.i64.wrap ((IntKind.i64.wrap (1+e160))+e166))])) 8).bind fun u173=>(X2c (List.length (Xk++[(if (IntKind.i64.wrap (1+e168))>(IntKind.i64.wrap (1+e162)) then (IntKind.i64.wrap (1+e168)) else (IntKind.i64.wrap (1+e162)))])) 8).bind fun u175=>X1p X0y xs (k+1) (Xn++[(IntKind.i64.wrap ((IntKind.i64.wrap (1+e160))+e166))]) (Xk++[(if (IntKind.i64.wrap (1+e168))>(IntKind.i64.wrap (1+e162)) then (IntKind.i64.wrap (1+e168)) else (IntKind.i64.wrap (1+e162)))])))) else ((X6a x (IntKind.i64.wrap ((k:Int) - 1)) 0).bind fun v177=>bif (!v177) then (some (.x1 ([]:List Int) ([]:List Int))) else ((X2c (List.length (Xn++[(IntKind.i64.wrap (1+e160))])) 8).bind fun u180=>(X2c (List.length (Xk++[(IntKind.i64.wrap (1+e162))])) 8).bind fun u182=>X1p X0y xs (k+1) (Xn++[(IntKind.i64.wrap (1+e160))]) (Xk++[(IntKind.i64.wrap (1+e162))]))))) else ((X6a x 0 0).bind fun v184=>bif (!v184) then (some (.x1 ([]:List Int) ([]:List Int))) else ((X2c (List.length (Xn++[1])) 8).bind fun u187=>(X2c (List.length (Xk++[1])) 8).bind fun u189=>X1p X0y xs (k+1) (Xn++[1]) (Xk++[1])))
def Xaw (a0:(List X05)):Option ((List Int)×(List Int)×Bool) :=
 (X55 (List.length a0)).bind fun u1=>(X1p  a0 a0 0 ([]:List Int) ([]:List Int)).bind fun o232=>match o232 with|.x0 X08 X0l=>((bif (decide ((List.length a0:Int)>(0:Int))) then ((X3b X08 (IntKind.i64.wrap ((List.length a0:Int) - 1))).bind fun e239=>some (bif (decide ((List.length a0:Int)>(0:Int))) then (e239==(List.length a0:Int)) else false)) else (some false):Option (Bool)).bind fun Xta=>some (X08,X0l,Xta))|.x1 X1i X4z=>(some (X1i,X4z,false))
def X4h (a0:(List X05)):Option (Int) :=
 bif (decide ((List.length a0:Int)>(60:Int))) then (some 4) else ((Xaw a0).bind fun v2=>bif (!v2.2.2) then (some 8) else ((X3b v2.2.1 (IntKind.i64.wrap ((List.length a0:Int) - 1))).bind fun e5=>bif (decide (e5>(20:Int))) then (some 34) else (some 0)))
inductive X4w where
 |x0
 |x1
def X34 (X0y:(List Int)):List Int->Nat->Option X4w
 |[],k=>some (.x0)
 |x::xs,k=>(bif (decide (x<(0:Int))) then (some (bif (decide (x<(0:Int))) then true else false)) else (some (bif (decide (x<(0:Int))) then true else (decide (x>(3:Int))))):Option (Bool)).bind fun Xt9=>bif Xt9 then (some (.x1)) else (X34 X0y xs (k+1))
inductive X4u where
 |x0
 |x1
def X33 (Xxv:(List Int)) (Xxu:Int):Nat->Int->Option X4u
 |0,_=>none
 |n+1,Xx3=>bif (decide (Xx3<Xxu)) then ((X3b Xxv Xx3).bind fun e86=>(X3b Xxv Xxu).bind fun e88=>bif (e86==e88) then (some (.x0)) else (X33 Xxv Xxu n (IntKind.i64.wrap (Xx3+1)))) else (some (.x1))
inductive X4v where
 |x0
 |x1
def X2m (Xr8:(List Int)):List Int->Nat->Option X4v
 |[],k=>some (.x0)
 |x::xs,k=>(X33  Xr8 (k:Int) FU 0).bind fun o91=>match o91 with|.x0=>(some (.x1))|.x1=>(X2m Xr8 xs (k+1))
def X6s (a0:(List Int)) (a1:Bool):Option (Int) :=
 bif (decide ((List.length a0:Int)>(4:Int))) then (some 4) else ((bif ((List.length a0:Int)==(0:Int)) then (some (bif ((List.length a0:Int)==(0:Int)) then true else false)) else (bif a1 then (some (bif ((List.length a0:Int)==(0:Int)) then true else (bif a1 then ((List.length a0:Int) != (2:Int)) else false))) else (some (bif ((List.length a0:Int)==(0:Int)) then true else (bif a1 then false else false)))):Option (Bool)).bind fun Xyy=>bif Xyy then (some 8) else ((X55 (List.length a0)).bind fun u9=>(X34  a0 a0 0).bind fun o27=>match o27 with|.x0=>((X2m  a0 a0 0).bind fun o93=>match o93 with|.x0=>(some 0)|.x1=>(some 43))|.x1=>(some 8)))
def X7h (a0:X0s):Option (Bool) :=
 bif (bif (decide (a0.Size<(1:Int))) then true else (decide (a0.Size>(1073741824:Int)))) then (some false) else (bif (a0.Kind==(2:Int)) then (some (bif (bif (decide (a0.Every >= (1:Int))) then (decide (a0.Every<=a0.Size)) else false) then (decide (a0.Size<=(IntKind.i64.wrap (16*a0.Every)))) else false)) else (some (bif (bif (a0.Kind==(1:Int)) then true else (a0.Kind==(3:Int))) then (a0.Every==(0:Int)) else false)))
def X9a (a0:X07):Option (Int) :=
 bif (bif (bif (bif (decide (a0.Agg<(1:Int))) then true else (decide (a0.Agg>(4:Int)))) then true else (decide (a0.Late<(1:Int)))) then true else (decide (a0.Late>(2:Int)))) then (some 8) else ((bif (a0.Agg==(1:Int)) then (some (bif (a0.Agg==(1:Int)) then (decide ((List.length a0.Arg:Int)>(0:Int))) else false)) else (some (bif (a0.Agg==(1:Int)) then false else false)):Option (Bool)).bind fun Xz5=>bif Xz5 then (some 8) else ((bif (a0.Agg != (1:Int)) then ((X4h a0.Arg).bind fun v12=>some (bif (a0.Agg != (1:Int)) then (v12 != (0:Int)) else false)) else (some (bif (a0.Agg != (1:Int)) then false else false)):Option (Bool)).bind fun Xte=>bif Xte then ((X4h a0.Arg).bind fun v16=>some v16) else ((bif (decide ((List.length a0.Where:Int)>(0:Int))) then ((X4h a0.Where).bind fun v23=>some (bif (decide ((List.length a0.Where:Int)>(0:Int))) then (v23 != (0:Int)) else false)) else (some (bif (decide ((List.length a0.Where:Int)>(0:Int))) then false else false)):Option (Bool)).bind fun Xlu=>bif Xlu then ((X4h a0.Where).bind fun v27=>some v27) else ((X6s a0.Sources a0.Join).bind fun v29=>bif (v29 != (0:Int)) then (some v29) else ((X7h a0.Window).bind fun v32=>bif (bif (!v32) then true else (bif a0.Join then (a0.Window.Kind != (1:Int)) else false)) then (some 8) else (some 0))))))
def X69 (a0:Int):Option (Bool) :=
 some (bif (a0==(6:Int)) then true else (decide (a0 >= (12:Int))))
def Xag (a0:(List X05)) (a1:Int):Option (Bool) :=
 (X3b a0 a1).bind fun e1=>(X3b a0 e1.A).bind fun e3=>(X69 e3.Kind).bind fun v5=>(X3b a0 e1.B).bind fun e7=>(X69 e7.Kind).bind fun v9=>bif (decide (e1.Kind<=(4:Int))) then (some true) else (bif (e1.Kind==(5:Int)) then (some (!v5)) else (bif (e1.Kind==(6:Int)) then (some v5) else (bif (bif (e1.Kind==(16:Int)) then true else (e1.Kind==(17:Int))) then (some (v5==v9)) else (bif (decide (e1.Kind >= (18:Int))) then (some (bif v5 then v9 else false)) else (some (bif (!v5) then (!v9) else false))))))
inductive X5z where
 |x0
 |x1 (Xaa:Int)
def X42 (X0y:(List X05)):List X05->Nat->Option X5z
 |[],k=>some (.x0)
 |x::xs,k=>(Xag X0y (k:Int)).bind fun v10=>bif (!v10) then (some (.x1 (k:Int))) else (X42 X0y xs (k+1))
def Xav (a0:(List X05)):Option (Int) :=
 (X55 (List.length a0)).bind fun u1=>(X42  a0 a0 0).bind fun o13=>match o13 with|.x0=>(some (List.length a0:Int))|.x1 Xaa=>(some Xaa)
def Xdt (a0:(List X05)):Option (Bool×Int×Int) :=
 (X4h a0).bind fun v1=>bif (v1 != (0:Int)) then (some (false,0,v1)) else ((Xav a0).bind fun v4=>bif (decide (v4<(List.length a0:Int))) then (some (false,v4,42)) else ((X3b a0 (IntKind.i64.wrap ((List.length a0:Int) - 1))).bind fun e7=>(X69 e7.Kind).bind fun v9=>some (v9,(IntKind.i64.wrap ((List.length a0:Int) - 1)),0)))
def X7i (a0:(List X05)) (a1:Bool):Option (Int×Int) :=
 (Xdt a0).bind fun v1=>bif (bif (v1.2.2==(0:Int)) then (!(v1.1==a1)) else false) then (some (v1.2.1,42)) else (some (v1.2.1,v1.2.2))
def X98 (a0:X07):Option (Int×Int) :=
 bif (decide ((List.length a0.Arg:Int)>(0:Int))) then ((X7i a0.Arg false).bind fun v2=>bif (v2.2 != (0:Int)) then ((X3b a0.Arg v2.1).bind fun e5=>some (e5.At,v2.2)) else (bif (decide ((List.length a0.Where:Int)>(0:Int))) then ((X7i a0.Where true).bind fun v8=>bif (v8.2 != (0:Int)) then ((X3b a0.Where v8.1).bind fun e11=>some (e11.At,v8.2)) else (some (0,0))) else (some (0,0)))) else (bif (decide ((List.length a0.Where:Int)>(0:Int))) then ((X7i a0.Where true).bind fun v14=>bif (v14.2 != (0:Int)) then ((X3b a0.Where v14.1).bind fun e17=>some (e17.At,v14.2)) else (some (0,0))) else (some (0,0)))
def X99 (a0:X07):Option (Int×Int) :=
 (X9a a0).bind fun v1=>bif (v1 != (0:Int)) then (some (0,v1)) else ((X98 a0).bind fun v4=>some (v4.1,v4.2))
def X5q (a0:X07):Option (Bool) :=
 (X99 a0).bind fun v1=>some (v1.2==(0:Int))
inductive X6r where
 |x0
 |x1
def X4g (X0y:(List X2)) (Xdk:(List X2)):List X2->Nat->Option X6r
 |[],k=>some (.x0)
 |x::xs,k=>(X3b Xdk (k:Int)).bind fun e11=>bif (!(Xfb x e11)) then (some (.x1)) else (X4g X0y Xdk xs (k+1))
def X7g (a0:(List X2)) (a1:(List X2)):Option (Bool) :=
 bif ((List.length a0:Int) != (List.length a1:Int)) then (some false) else ((X55 (List.length a0)).bind fun u2=>(X4g  a0 a1 a0 0).bind fun o14=>match o14 with|.x0=>(some true)|.x1=>(some false))
def Xi9 (a0:X07) (a1:X2):Option (X1n×Int) :=
 ((X6j a0).bind fun v8=>bif (!v8) then (some (bif (bif (!v8) then true else false) then true else false)) else ((X3y [a1]).bind fun v11=>bif (v11 != (0:Int)) then (some (bif (bif (!v8) then true else (v11 != (0:Int))) then true else false)) else (some (bif (bif (!v8) then true else (v11 != (0:Int))) then true else (a1.Values.e1.Count != (0:Int))))):Option (Bool)).bind fun Xyu=>bif Xyu then (some ((X1n.mk 0 (Xz.mk 0 0) (V2.mk 0 0)),8)) else ((X6k a0.Agg a1.Values.e0).bind fun v16=>some ((X1n.mk a1.Key a1.Span (V2.mk v16.1 0)),0))
inductive X63 where
 |x0
 |x1
def X47 (Xmq:Int) (Xn:X07) (Xk:X00) (X5e:(List X2)) (Xpv:(List X2)):List X2->Nat->Option X63
 |[],k=>some (.x0)
 |x::xs,k=>(Xi9 Xn x).bind fun v52=>(bif (v52.2 != (0:Int)) then (some true) else ((X3b Xk.Pending (k:Int)).bind fun e60=>bif (!(Xec e60 (X0g.mk 0 (Xg.mk 3 (Xe.mk 0 0 0) 0 v52.1)))) then (some true) else (some (bif (bif (v52.2 != (0:Int)) then true else (!(Xec e60 (X0g.mk 0 (Xg.mk 3 (Xe.mk 0 0 0) 0 v52.1))))) then true else (decide (v52.1.Span.End>Xmq))))):Option (Bool)).bind fun Xt4=>bif Xt4 then (some (.x1)) else (X47 Xmq Xn Xk X5e Xpv xs (k+1))
inductive X62 where
 |x0
 |x1
def X46 (y1_4:Int) (Xh0:(List X2)):List X2->Nat->Option X62
 |[],k=>some (.x0)
 |x::xs,k=>bif (decide (x.Span.End<=y1_4)) then (some (.x1)) else (X46 y1_4 Xh0 xs (k+1))
def X6c (a0:X07) (a1:X00) (a2:X00) (a3:Int) (a4:Int):Option (Bool) :=
 bif (a4==a3) then ((bif ((List.length a2.Pending:Int)==(0:Int)) then ((X7g a2.Store a1.Store).bind fun v7=>some (bif ((List.length a2.Pending:Int)==(0:Int)) then v7 else false)) else (some (bif ((List.length a2.Pending:Int)==(0:Int)) then false else false)):Option (Bool)).bind fun Xyx=>some Xyx) else ((X7d a1.Store a4).bind fun v10=>(bif (v10.2.2 != (0:Int)) then (some (bif (bif (v10.2.2 != (0:Int)) then true else false) then true else false)) else ((X7g a2.Store v10.2.1).bind fun v18=>bif (!v18) then (some (bif (bif (v10.2.2 != (0:Int)) then true else (!v18)) then true else false)) else (some (bif (bif (v10.2.2 != (0:Int)) then true else (!v18)) then true else ((List.length a2.Pending:Int) != (List.length v10.1:Int))))):Option (Bool)).bind fun Xtb=>bif Xtb then (some false) else ((X55 (List.length v10.1)).bind fun u23=>(X47  a4 a0 a2 v10.1 v10.2.1 v10.1 0).bind fun o65=>match o65 with|.x0=>((X55 (List.length v10.2.1)).bind fun u67=>(X46  a4 v10.2.1 v10.2.1 0).bind fun o73=>match o73 with|.x0=>(some true)|.x1=>(some false))|.x1=>(some false)))
inductive X4x where
 |x0
 |x1
def X29 (Xh3:(List Int)) (X8s:(List Xg)) (Xn:X07) (Xj9:Bool):List Xg->Nat->X00->Option X4x
 |[],k,Xk=>some (.x0)
 |x::xs,k,Xk=>(X3b Xh3 (k:Int)).bind fun e92=>(X3k Xn Xk e92 x).bind fun v94=>bif (v94.2 != (0:Int)) then (X29 Xh3 X8s Xn Xj9 xs (k+1) Xk) else ((X4i Xk.Marks).bind fun v97=>(X4i v94.1.Marks).bind fun v99=>bif (bif (bif (v97.2 != (0:Int)) then true else (v99.2 != (0:Int))) then true else (decide (v99.1<v97.1))) then (some (.x1)) else (bif (x.Kind==(1:Int)) then ((X35 Xk.Store Xn.Window x.Record 0).bind fun v103=>(bif (v103.2 != (0:Int)) then (some (bif (bif (bif (v103.2 != (0:Int)) then true else false) then true else false) then true else false)) else ((X7g v94.1.Store v103.1).bind fun v112=>bif (!v112) then (some (bif (bif (bif (v103.2 != (0:Int)) then true else (!v112)) then true else false) then true else false)) else (bif ((List.length v94.1.Pending:Int) != (0:Int)) then (some (bif (bif (bif (v103.2 != (0:Int)) then true else (!v112)) then true else ((List.length v94.1.Pending:Int) != (0:Int))) then true else false)) else (some (bif (bif (bif (v103.2 != (0:Int)) then true else (!v112)) then true else ((List.length v94.1.Pending:Int) != (0:Int))) then true else (v99.1 != v97.1))))):Option (Bool)).bind fun Xkl=>bif Xkl then (some (.x1)) else (X29 Xh3 X8s Xn Xj9 xs (k+1) v94.1)) else ((X6c Xn Xk v94.1 v97.1 v99.1).bind fun v118=>bif (!v118) then (some (.x1)) else (X29 Xh3 X8s Xn Xj9 xs (k+1) (X00.mk v94.1.Op v94.1.Turn ([]:List X0g) v94.1.Marks v94.1.Store v94.1.Events v94.1.Rows v94.1.Late)))))
def X6y (a0:X07) (a1:Int) (a2:(List Int)) (a3:(List Xg)):Option (Bool) :=
 (Xb1).bind fun v1=>((X9g a0).bind fun v15=>bif v15 then (some (bif (bif (bif (bif (bif (bif (bif v15 then true else false) then true else false) then true else false) then true else false) then true else false) then true else false) then true else false)) else ((X5q a0).bind fun v18=>bif (!v18) then (some (bif (bif (bif (bif (bif (bif (bif v15 then true else (!v18)) then true else false) then true else false) then true else false) then true else false) then true else false) then true else false)) else (bif a0.Join then (some (bif (bif (bif (bif (bif (bif (bif v15 then true else (!v18)) then true else a0.Join) then true else false) then true else false) then true else false) then true else false) then true else false)) else (bif (decide (a1<(1:Int))) then (some (bif (bif (bif (bif (bif (bif (bif v15 then true else (!v18)) then true else a0.Join) then true else (decide (a1<(1:Int)))) then true else false) then true else false) then true else false) then true else false)) else (bif (decide (a1>(4:Int))) then (some (bif (bif (bif (bif (bif (bif (bif v15 then true else (!v18)) then true else a0.Join) then true else (decide (a1<(1:Int)))) then true else (decide (a1>(4:Int)))) then true else false) then true else false) then true else false)) else (bif (decide ((List.length a3:Int)>(40:Int))) then (some (bif (bif (bif (bif (bif (bif (bif v15 then true else (!v18)) then true else a0.Join) then true else (decide (a1<(1:Int)))) then true else (decide (a1>(4:Int)))) then true else (decide ((List.length a3:Int)>(40:Int)))) then true else false) then true else false)) else (bif ((List.length a2:Int) != (List.length a3:Int)) then (some (bif (bif (bif (bif (bif (bif (bif v15 then true else (!v18)) then true else a0.Join) then true else (decide (a1<(1:Int)))) then true else (decide (a1>(4:Int)))) then true else (decide ((List.length a3:Int)>(40:Int)))) then true else ((List.length a2:Int) != (List.length a3:Int))) then true else false)) else (some (bif (bif (bif (bif (bif (bif (bif v15 then true else (!v18)) then true else a0.Join) then true else (decide (a1<(1:Int)))) then true else (decide (a1>(4:Int)))) then true else (decide ((List.length a3:Int)>(40:Int)))) then true else ((List.length a2:Int) != (List.length a3:Int))) then true else (!v1))))))))):Option (Bool)).bind fun Xtc=>bif Xtc then (some v1) else ((Xia 0 a1).bind fun v28=>bif (v28.2 != (0:Int)) then (some false) else ((X55 (List.length a3)).bind fun u31=>(X29  a2 a3 a0 v1 a3 0 v28.1).bind fun o121=>match o121 with|.x0=>(some v1)|.x1=>(some false)))
end
end Go.D
