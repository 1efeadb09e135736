/- Printed by decomp.py: the functions. -/
import Derived.Test.YtkjlgmgfhgamlaaGreatDTypesZ
set_option linter.all false

namespace Go.D
noncomputable section
def Xep:Option (X06) :=
 some (X06.mk 2 [(X07.mk 4 0 0 0 0)] [0,1] true ([]:List X07) (X0n.mk 1 10 0) false 1)
def Xdp (a0:Int) (a1:Int) (a2:Int):Option (Xn) :=
 some (Xn.mk 1 (Xm.mk a0 a1 a2) 0 (X1r.mk 0 (X05.mk 0 0) (V2.mk 0 0)))
def Xag (a0:Int):Option (Xn) :=
 some (Xn.mk 2 (Xm.mk 0 0 0) a0 (X1r.mk 0 (X05.mk 0 0) (V2.mk 0 0)))
def Xh8 (a0:Int):Option ((List Int)×Int) :=
 bif (bif (decide (a0<(1:Int))) then true else (decide (a0>(4:Int)))) then (some (([]:List Int),2)) else (bif (a0==(1:Int)) then (some ([(-9223372036854775808)],0)) else (bif (a0==(2:Int)) then (some ([(-9223372036854775808),(-9223372036854775808)],0)) else (bif (a0==(3:Int)) then (some ([(-9223372036854775808),(-9223372036854775808),(-9223372036854775808)],0)) else (bif (a0==(4:Int)) then (some ([(-9223372036854775808),(-9223372036854775808),(-9223372036854775808),(-9223372036854775808)],0)) else none))))
def Xgb (a0:Int):Option (X0b×Int) :=
 bif (bif (decide (a0<(0:Int))) then true else (decide (a0 >= (3:Int)))) then (some ((X0b.mk (GOp.mk 0 0) 0 ([]:List X13) ([]:List Int) ([]:List X2) ([]:List X1e) ([]:List X1r) ([]:List Xm)),2)) else ((Xh8 2).bind fun v2=>some ((X0b.mk (GOp.mk 5 a0) 0 ([]:List X13) v2.1 ([]:List X2) ([]:List X1e) ([]:List X1r) ([]:List Xm)),0))
def X92 (a0:Int):Option (Int×Int) :=
 bif (bif (decide (a0 >= (1:Int))) then (decide (a0<=(4:Int))) else false) then (some (0,0)) else (bif (bif (a0==(5:Int)) then true else (a0==(6:Int))) then (some (1,0)) else (bif (bif (decide (a0 >= (7:Int))) then (decide (a0<=(19:Int))) else false) then (some (2,0)) else (some (0,2))))
inductive X56 where
 |x0 (X0a:(List Xg)) (X09:(List Xg))
 |x1 (X1l:(List Xg))
def X28 (X2z:(List X07)):List X07->Nat->(List Xg)->(List Xg)->Option X56
 |[],k,Xt,Xp=>some (.x0 Xt Xp)
 |x::xs,k,Xt,Xp=>(X92 x.Kind).bind fun v318=>(bif (v318.2 != (0:Int)) then (some (bif (v318.2 != (0:Int)) then true else false)) else (some (bif (v318.2 != (0:Int)) then true else (decide (v318.1>(List.length Xp:Int))))):Option (Bool)).bind fun Xn9=>bif Xn9 then (some (.x1 Xt)) else ((X74 Xp 0 (IntKind.i64.wrap ((List.length Xp:Int) - v318.1))).bind fun m331=>(X74 Xp (IntKind.i64.wrap ((List.length Xp:Int) - v318.1)) (List.length Xp:Int)).bind fun m333=>bif (List.isEmpty m333) then ((bif (x.Kind==(1:Int)) then (some (X07.mk x.Kind (if 0>x.N then 0 else x.N) 0 0 (if 400<(if 0>x.At then 0 else x.At) then 400 else (if 0>x.At then 0 else x.At)))) else (some (X07.mk x.Kind 0 0 0 (if 400<(if 0>x.At then 0 else x.At) then 400 else (if 0>x.At then 0 else x.At)))):Option (X07)).bind fun Xn8=>bif (!(X6w Xn8 x)) then (some (.x1 Xt)) else ((X26 (List.length (m331++[(Xg.mk (k:Int) 1 1)])) 24).bind fun u341=>(X26 (List.length (Xt++[(Xg.mk (k:Int) 1 1)])) 24).bind fun u343=>X28 X2z xs (k+1) (Xt++[(Xg.mk (k:Int) 1 1)]) (m331++[(Xg.mk (k:Int) 1 1)]))) else (bif ((List.length m333:Int)==(1:Int)) then ((X3c m333 0).bind fun e346=>(bif (x.Kind==(1:Int)) then (some (X07.mk x.Kind (if 0>x.N then 0 else x.N) e346.at_ 0 (if 400<(if 0>x.At then 0 else x.At) then 400 else (if 0>x.At then 0 else x.At)))) else (some (X07.mk x.Kind 0 e346.at_ 0 (if 400<(if 0>x.At then 0 else x.At) then 400 else (if 0>x.At then 0 else x.At)))):Option (X07)).bind fun Xn7=>bif (!(X6w Xn7 x)) then (some (.x1 Xt)) else ((X26 (List.length (m331++[(Xg.mk (k:Int) (IntKind.i64.wrap (1+e346.size)) (if (IntKind.i64.wrap (e346.depth+1))>1 then (IntKind.i64.wrap (e346.depth+1)) else 1))])) 24).bind fun u353=>(X26 (List.length (Xt++[(Xg.mk (k:Int) (IntKind.i64.wrap (1+e346.size)) (if (IntKind.i64.wrap (e346.depth+1))>1 then (IntKind.i64.wrap (e346.depth+1)) else 1))])) 24).bind fun u355=>X28 X2z xs (k+1) (Xt++[(Xg.mk (k:Int) (IntKind.i64.wrap (1+e346.size)) (if (IntKind.i64.wrap (e346.depth+1))>1 then (IntKind.i64.wrap (e346.depth+1)) else 1))]) (m331++[(Xg.mk (k:Int) (IntKind.i64.wrap (1+e346.size)) (if (IntKind.i64.wrap (e346.depth+1))>1 then (IntKind.i64.wrap (e346.depth+1)) else 1))]))) else (bif ((List.length m333:Int)==(2:Int)) then ((X3c m333 0).bind fun e358=>(X3c m333 1).bind fun e360=>(bif (x.Kind==(1:Int)) then (some (X07.mk x.Kind (if 0>x.N then 0 else x.N) e358.at_ e360.at_ (if 400<(if 0>x.At then 0 else x.At) then 400 else (if 0>x.At then 0 else x.At)))) else (some (X07.mk x.Kind 0 e358.at_ e360.at_ (if 400<(if 0>x.At then 0 else x.At) then 400 else (if 0>x.At then 0 else x.At)))):Option (X07)).bind fun Xn6=>bif (!(X6w Xn6 x)) then (some (.x1 Xt)) else ((X26 (List.length (m331++[(Xg.mk (k:Int) (IntKind.i64.wrap ((IntKind.i64.wrap (1+e358.size))+e360.size)) (if (IntKind.i64.wrap (e360.depth+1))>(if (IntKind.i64.wrap (e358.depth+1))>1 then (IntKind.i64.wrap (e358.depth+1)) else 1) then (IntKind.i64.wrap (e360.depth+1)) else (if (IntKind.i64.wrap (e358.depth+1))>1 then (IntKind.i64.wrap (e358.depth+1)) else 1)))])) 24).bind fun u367=>(X26 (List.length (Xt++[(Xg.mk (k:Int) (IntKind.i64.wrap ((IntKind.i64.wrap (1+e358.size))+e360.size)) (if (IntKind.i64.wrap (e360.depth+1))>(if (IntKind.i64.wrap (e358.depth+1))>1 then (IntKind.i64.wrap (e358.depth+1)) else 1) then (IntKind.i64.wrap (e360.depth+1)) else (if (IntKind.i64.wrap (e358.depth+1))>1 then (IntKind.i64.wrap (e358.depth+1)) else 1)))])) 24).bind fun u369=>X28 X2z xs (k+1) (Xt++[(Xg.mk (k:Int) (IntKind.i64.wrap ((IntKind.i64.wrap (1+e358.size))+e360.size)) (if (IntKind.i64.wrap (e360.depth+1))>(if (IntKind.i64.wrap (e358.depth+1))>1 then (IntKind.i64.wrap (e358.depth+1)) else 1) then (IntKind.i64.wrap (e360.depth+1)) else (if (IntKind.i64.wrap (e358.depth+1))>1 then (IntKind.i64.wrap (e358.depth+1)) else 1)))]) (m331++[(Xg.mk (k:Int) (IntKind.i64.wrap ((IntKind.i64.wrap (1+e358.size))+e360.size)) (if (IntKind.i64.wrap (e360.depth+1))>(if (IntKind.i64.wrap (e358.depth+1))>1 then (IntKind.i64.wrap (e358.depth+1)) else 1) then (IntKind.i64.wrap (e360.depth+1)) else (if (IntKind.i64.wrap (e358.depth+1))>1 then (IntKind.i64.wrap (e358.depth+1)) else 1)))]))) else none)))
def Xcc (a0:(List X07)):Option ((List Xg)×Bool) :=
 (X5g (List.length a0)).bind fun u1=>(X28  a0 a0 0 ([]:List Xg) ([]:List Xg)).bind fun o475=>match o475 with|.x0 X0a X09=>(some (X0a,((List.length X09:Int)==(1:Int))))|.x1 X1l=>(some (X1l,false))
def X91 (a0:(List X07)):Option ((List Xg)×Int) :=
 bif (decide ((List.length a0:Int)>(60:Int))) then (some (([]:List Xg),4)) else ((Xcc a0).bind fun v2=>bif (!v2.2) then (some (([]:List Xg),8)) else ((X3c v2.1 (IntKind.i64.wrap ((List.length v2.1:Int) - 1))).bind fun e5=>bif (decide (e5.depth>(20:Int))) then (some (([]:List Xg),34)) else (some (v2.1,0))))
def X57 (a0:(List X07)):Option (Int) :=
 (X91 a0).bind fun v1=>some v1.2
def X5l (a0:Int):Option (Bool) :=
 some (bif (decide (a0<(0:Int))) then true else (decide (a0 >= (4:Int))))
inductive X27 where
 |x0
 |x1 (X9c:Int)
def X0q (X16:(List Int)):List Int->Nat->Option X27
 |[],k=>some (.x0)
 |x::xs,k=>(X5l x).bind fun v10=>bif v10 then (some (.x1 (k:Int))) else (X0q X16 xs (k+1))
def X0p (a0:(List Int)):Option (Int) :=
 (X5g (List.length a0)).bind fun u1=>(X0q  a0 a0 0).bind fun o13=>match o13 with|.x0=>(some (-1))|.x1 X9c=>(some X9c)
def Xy (a0:(List Int)):Option (Bool) :=
 (X0p a0).bind fun v1=>some (decide (v1 >= (0:Int)))
def X38 (l:List Int):Option Int:=(X5g (List.length l)).bind fun _=>some ((X7q [] l).length:Int)
def X2i (a0:(List Int)) (a1:Bool):Option (Int) :=
 bif (decide ((List.length a0:Int)>(4:Int))) then (some 4) else ((bif ((List.length a0:Int)==(0:Int)) then (some (bif (bif ((List.length a0:Int)==(0:Int)) then true else false) then true else false)) else (bif a1 then (bif ((List.length a0:Int) != (2:Int)) then (some (bif (bif ((List.length a0:Int)==(0:Int)) then true else (bif a1 then ((List.length a0:Int) != (2:Int)) else false)) then true else false)) else ((Xy a0).bind fun v13=>some (bif (bif ((List.length a0:Int)==(0:Int)) then true else (bif a1 then ((List.length a0:Int) != (2:Int)) else false)) then true else v13))) else ((Xy a0).bind fun v15=>some (bif (bif ((List.length a0:Int)==(0:Int)) then true else (bif a1 then false else false)) then true else v15))):Option (Bool)).bind fun Xyk=>bif Xyk then (some 8) else ((X38 a0).bind fun v19=>bif (decide (v19<(List.length a0:Int))) then (some 43) else (some 0)))
def X1a (a0:X0n):Option (Int) :=
 bif (bif (decide (a0.Size<(1:Int))) then true else (decide (a0.Size>(1073741824:Int)))) then (some 8) else (bif (a0.Kind==(2:Int)) then (bif (bif (bif (decide (a0.Every >= (1:Int))) then (decide (a0.Every<=a0.Size)) else false) then (decide (a0.Size<=(IntKind.i64.wrap (16*a0.Every)))) else false) then (some 0) else (some 8)) else (bif (a0.Kind==(1:Int)) then (bif (a0.Every==(0:Int)) then (some 0) else (some 8)) else (bif (a0.Kind==(3:Int)) then (bif (a0.Every==(0:Int)) then (some 0) else (some 8)) else (some 8))))
def X6z (a0:X06):Option (Int) :=
 bif (bif (bif (decide (a0.Agg<(1:Int))) then true else (decide (a0.Agg>(4:Int)))) then true else (bif (a0.Late != (1:Int)) then (a0.Late != (2:Int)) else false)) then (some 8) else (bif (a0.Agg != (1:Int)) then ((X57 a0.Arg).bind fun v3=>bif (v3 != (0:Int)) then (some v3) else (bif (decide ((List.length a0.Where:Int)>(0:Int))) then ((X57 a0.Where).bind fun v7=>bif (v7 != (0:Int)) then (some v7) else ((X2i a0.Sources a0.Join).bind fun v10=>bif (v10 != (0:Int)) then (some v10) else (bif (bif a0.Join then (a0.Window.Kind != (1:Int)) else false) then (some 8) else ((X1a a0.Window).bind fun v14=>some v14)))) else ((X2i a0.Sources a0.Join).bind fun v16=>bif (v16 != (0:Int)) then (some v16) else (bif (bif a0.Join then (a0.Window.Kind != (1:Int)) else false) then (some 8) else ((X1a a0.Window).bind fun v20=>some v20))))) else (bif (decide ((List.length a0.Arg:Int)>(0:Int))) then (some 8) else (bif (decide ((List.length a0.Where:Int)>(0:Int))) then ((X57 a0.Where).bind fun v24=>bif (v24 != (0:Int)) then (some v24) else ((X2i a0.Sources a0.Join).bind fun v27=>bif (v27 != (0:Int)) then (some v27) else (bif (bif a0.Join then (a0.Window.Kind != (1:Int)) else false) then (some 8) else ((X1a a0.Window).bind fun v31=>some v31)))) else ((X2i a0.Sources a0.Join).bind fun v33=>bif (v33 != (0:Int)) then (some v33) else (bif (bif a0.Join then (a0.Window.Kind != (1:Int)) else false) then (some 8) else ((X1a a0.Window).bind fun v37=>some v37))))))
inductive X2c where
 |x0
 |x1
def X0d (Xp:(List Bool)) (X3k:(V2 Bool)) (X02:(List Int)):List Int->Nat->Option X2c
 |[],k=>some (.x0)
 |x::xs,k=>(X3c Xp x).bind fun e3011=>bif (!(e3011==false)) then (some (.x1)) else (X0d Xp X3k X02 xs (k+1))
inductive X23 where
 |x0
 |x1
def X0e (Xp:(List Bool)) (X1t:(List Int)):List Int->Nat->Option X23
 |[],k=>some (.x0)
 |x::xs,k=>(X3c Xp x).bind fun e3127=>bif (!(e3127==true)) then (some (.x1)) else (X0e Xp X1t xs (k+1))
inductive X5a where
 |x0 (X09:(List Bool))
 |x1 (X1l:(List Bool)) (Xip:Int)
def X1w (X16:(List X07)):List X07->Nat->(List Bool)->Option X5a
 |[],k,Xp=>some (.x0 Xp)
 |x::xs,k,Xp=>bif (decide (x.Kind<=(4:Int))) then ((X26 (List.length (Xp++[false])) 1).bind fun u2525=>X1w X16 xs (k+1) (Xp++[false])) else (bif (x.Kind==(5:Int)) then (((X3c Xp x.A).bind fun e2546=>bif (!(e2546==false)) then (some (bif (!(bif true then false else false)) then (!(bif false then false else false)) else false)) else (some (bif (!(bif true then true else false)) then false else false)):Option (Bool)).bind fun Xk4=>bif Xk4 then (some (.x1 ([]:List Bool) (k:Int))) else ((X26 (List.length (Xp++[false])) 1).bind fun u2551=>X1w X16 xs (k+1) (Xp++[false]))) else (bif (x.Kind==(6:Int)) then (((X3c Xp x.A).bind fun e2571=>bif (!(e2571==true)) then (some false) else (some true):Option (Bool)).bind fun Xk3=>bif (bif (!(bif false then false else false)) then (!(bif true then Xk3 else false)) else false) then (some (.x1 ([]:List Bool) (k:Int))) else ((X26 (List.length (Xp++[true])) 1).bind fun u2576=>X1w X16 xs (k+1) (Xp++[true]))) else ((bif (decide (x.Kind<=(11:Int))) then (some ((V2.mk true false),false)) else (bif (decide (x.Kind<=(15:Int))) then (some ((V2.mk true false),true)) else (bif (decide (x.Kind<=(17:Int))) then (some ((V2.mk true true),true)) else (some ((V2.mk false true),true)))):Option ((V2 Bool)×Bool)).bind fun w2581=>(bif w2581.1.e0 then (((X5g (List.length [x.A,x.B])).bind fun u2980=>(X0d  Xp w2581.1 [x.A,x.B] [x.A,x.B] 0).bind fun o3016=>match o3016 with|.x0=>(some true)|.x1=>(some false):Option (Bool)).bind fun Xb0=>bif (!(bif w2581.1.e0 then Xb0 else false)) then (bif w2581.1.e1 then (((X5g (List.length [x.A,x.B])).bind fun u3096=>(X0e  Xp [x.A,x.B] [x.A,x.B] 0).bind fun o3132=>match o3132 with|.x0=>(some true)|.x1=>(some false):Option (Bool)).bind fun Xk1=>some (bif (!(bif w2581.1.e0 then Xb0 else false)) then (!(bif w2581.1.e1 then Xk1 else false)) else false)) else (some (bif (!(bif w2581.1.e0 then Xb0 else false)) then (!(bif w2581.1.e1 then false else false)) else false))) else (some (bif (!(bif w2581.1.e0 then Xb0 else false)) then false else false))) else (bif (!(bif w2581.1.e0 then false else false)) then (bif w2581.1.e1 then (((X5g (List.length [x.A,x.B])).bind fun u3192=>(X0e  Xp [x.A,x.B] [x.A,x.B] 0).bind fun o3218=>match o3218 with|.x0=>(some true)|.x1=>(some false):Option (Bool)).bind fun Xk0=>some (bif (!(bif w2581.1.e0 then false else false)) then (!(bif w2581.1.e1 then Xk0 else false)) else false)) else (some (bif (!(bif w2581.1.e0 then false else false)) then (!(bif w2581.1.e1 then false else false)) else false))) else (some (bif (!(bif w2581.1.e0 then false else false)) then false else false))):Option (Bool)).bind fun Xk2=>bif Xk2 then (some (.x1 ([]:List Bool) (k:Int))) else ((X26 (List.length (Xp++[w2581.2])) 1).bind fun u3223=>X1w X16 xs (k+1) (Xp++[w2581.2])))))
def Xce (a0:(List X07)):Option ((List Bool)×Int) :=
 (X5g (List.length a0)).bind fun u1=>(X1w  a0 a0 0 ([]:List Bool)).bind fun o3784=>match o3784 with|.x0 X09=>(some (X09,(List.length a0:Int)))|.x1 X1l Xip=>(some (X1l,Xip))
def Xdt (a0:(List X07)):Option (Bool×Int×Int) :=
 (X57 a0).bind fun v1=>bif (v1 != (0:Int)) then (some (false,0,v1)) else ((Xce a0).bind fun v4=>bif (decide (v4.2<(List.length a0:Int))) then (some (false,v4.2,42)) else ((X3c v4.1 (IntKind.i64.wrap (v4.2 - 1))).bind fun e7=>some (e7,(IntKind.i64.wrap (v4.2 - 1)),0)))
def X8h (a0:(List X07)) (a1:Bool):Option (Int×Int) :=
 (Xdt a0).bind fun v1=>(bif (bif (v1.2.2==(0:Int)) then (!(v1.1==a1)) else false) then (some 42) else (some v1.2.2):Option (Int)).bind fun j4_8=>some (v1.2.1,j4_8)
def X96 (a0:(List X07)):Option (Int×Int) :=
 (X8h a0 true).bind fun v1=>some (v1.1,v1.2)
def X9j (a0:(List X07)):Option (Int×Int) :=
 (X8h a0 false).bind fun v1=>some (v1.1,v1.2)
def X7r (a0:X06):Option (Int×Int) :=
 (X6z a0).bind fun v1=>bif (v1 != (0:Int)) then (some (0,v1)) else ((bif ((List.length a0.Arg:Int)==(0:Int)) then (bif ((List.length a0.Where:Int)==(0:Int)) then (some (0,0)) else ((X96 a0.Where).bind fun v25=>bif (v25.2 != (0:Int)) then ((X3c a0.Where v25.1).bind fun e28=>some (e28.At,v25.2)) else (some (0,0)))) else ((X9j a0.Arg).bind fun v30=>bif (v30.2 != (0:Int)) then ((X3c a0.Arg v30.1).bind fun e33=>some (e33.At,v30.2)) else (bif ((List.length a0.Where:Int)==(0:Int)) then (some (0,0)) else ((X96 a0.Where).bind fun v36=>bif (v36.2 != (0:Int)) then ((X3c a0.Where v36.1).bind fun e39=>some (e39.At,v36.2)) else (some (0,0))))):Option (Int×Int)).bind fun w22=>some (w22.1,w22.2))
def X6s (a0:X06):Option (Bool) :=
 (X7r a0).bind fun v1=>some (bif (v1.2==(0:Int)) then a0.Join else false)
def X8m (a0:Int):Option (Int×Int×Bool×Bool×Bool×Bool) :=
 (bif (a0==(1:Int)) then (some (0,0,false,true,false,false)) else (bif (a0==(2:Int)) then (some (1,1,false,false,false,false)) else (bif (a0==(3:Int)) then (some (0,0,false,false,false,false)) else (bif (a0==(4:Int)) then (some (1,4,true,false,false,false)) else (bif (a0==(5:Int)) then (some (2,2,true,false,false,false)) else (bif (a0==(6:Int)) then (some (0,0,false,false,true,false)) else (bif (a0==(7:Int)) then (some (0,0,false,false,false,true)) else (some (1,0,false,false,false,false)))))))):Option (Int×Int×Bool×Bool×Bool×Bool)).bind fun w8=>some (w8.1,w8.2.1,w8.2.2.1,w8.2.2.2.1,w8.2.2.2.2.1,w8.2.2.2.2.2)
def X8l (a0:Bool) (a1:Int):Option (Int) :=
 bif a0 then (some a1) else (some 0)
def X42 (a0:Int):Option (Bool) :=
 some (bif (decide (a0 >= ((-1099511627776):Int))) then (decide (a0<=(1099511627776:Int))) else false)
def X4s (a0:Int):Option (Bool) :=
 (X42 a0).bind fun v1=>some (bif v1 then true else (a0==(9223372036854775807:Int)))
def X2v (a0:Xn):Option (Int) :=
 (bif (a0.Kind==(1:Int)) then (some (a0.Kind==(1:Int))) else (some (a0.Kind==(4:Int))):Option (Bool)).bind fun Xz6=>(bif Xz6 then ((X42 a0.Record.Time).bind fun v14=>some (v14,(Xn.mk ((Xn.mk a0.Kind (Xm.mk 0 0 0) 0 (X1r.mk 0 (X05.mk 0 0) (V2.mk 0 0))).Kind) a0.Record ((Xn.mk a0.Kind (Xm.mk 0 0 0) 0 (X1r.mk 0 (X05.mk 0 0) (V2.mk 0 0))).Time) (X1r.mk (((Xn.mk a0.Kind (Xm.mk 0 0 0) 0 (X1r.mk 0 (X05.mk 0 0) (V2.mk 0 0))).Row).Key) (((Xn.mk a0.Kind (Xm.mk 0 0 0) 0 (X1r.mk 0 (X05.mk 0 0) (V2.mk 0 0))).Row).Span) (((Xn.mk a0.Kind (Xm.mk 0 0 0) 0 (X1r.mk 0 (X05.mk 0 0) (V2.mk 0 0))).Row).Values))))) else (bif (a0.Kind==(2:Int)) then ((X4s a0.Time).bind fun v17=>some (v17,(Xn.mk ((Xn.mk a0.Kind (Xm.mk 0 0 0) 0 (X1r.mk 0 (X05.mk 0 0) (V2.mk 0 0))).Kind) ((Xn.mk a0.Kind (Xm.mk 0 0 0) 0 (X1r.mk 0 (X05.mk 0 0) (V2.mk 0 0))).Record) a0.Time (X1r.mk (((Xn.mk a0.Kind (Xm.mk 0 0 0) 0 (X1r.mk 0 (X05.mk 0 0) (V2.mk 0 0))).Row).Key) (((Xn.mk a0.Kind (Xm.mk 0 0 0) 0 (X1r.mk 0 (X05.mk 0 0) (V2.mk 0 0))).Row).Span) (((Xn.mk a0.Kind (Xm.mk 0 0 0) 0 (X1r.mk 0 (X05.mk 0 0) (V2.mk 0 0))).Row).Values))))) else (bif (a0.Kind==(3:Int)) then (some ((bif (bif (decide (((-2199023255552):Int)<=a0.Row.Span.Start)) then (decide (a0.Row.Span.Start<a0.Row.Span.End)) else false) then (decide (a0.Row.Span.End<=(2199023255552:Int))) else false),(Xn.mk ((Xn.mk a0.Kind (Xm.mk 0 0 0) 0 (X1r.mk 0 (X05.mk 0 0) (V2.mk 0 0))).Kind) ((Xn.mk a0.Kind (Xm.mk 0 0 0) 0 (X1r.mk 0 (X05.mk 0 0) (V2.mk 0 0))).Record) ((Xn.mk a0.Kind (Xm.mk 0 0 0) 0 (X1r.mk 0 (X05.mk 0 0) (V2.mk 0 0))).Time) a0.Row))) else (some (false,(Xn.mk ((Xn.mk a0.Kind (Xm.mk 0 0 0) 0 (X1r.mk 0 (X05.mk 0 0) (V2.mk 0 0))).Kind) ((Xn.mk a0.Kind (Xm.mk 0 0 0) 0 (X1r.mk 0 (X05.mk 0 0) (V2.mk 0 0))).Record) ((Xn.mk a0.Kind (Xm.mk 0 0 0) 0 (X1r.mk 0 (X05.mk 0 0) (V2.mk 0 0))).Time) (X1r.mk (((Xn.mk a0.Kind (Xm.mk 0 0 0) 0 (X1r.mk 0 (X05.mk 0 0) (V2.mk 0 0))).Row).Key) (((Xn.mk a0.Kind (Xm.mk 0 0 0) 0 (X1r.mk 0 (X05.mk 0 0) (V2.mk 0 0))).Row).Span) (((Xn.mk a0.Kind (Xm.mk 0 0 0) 0 (X1r.mk 0 (X05.mk 0 0) (V2.mk 0 0))).Row).Values))))))):Option (Bool×Xn)).bind fun w12=>bif (bif (!w12.1) then true else (!(X9o a0 w12.2))) then (some 8) else (some 0)
inductive X6k where
 |x0
 |x1
def X4h (Xr6:(List X13)):List X13->Nat->Option X6k
 |[],k=>some (.x0)
 |x::xs,k=>(bif (decide (x.Out<(0:Int))) then (some (bif (bif (decide (x.Out<(0:Int))) then true else false) then true else false)) else (bif (decide (x.Out >= (3:Int))) then (some (bif (bif (decide (x.Out<(0:Int))) then true else (decide (x.Out >= (3:Int)))) then true else false)) else ((X2v x.Message).bind fun v33=>some (bif (bif (decide (x.Out<(0:Int))) then true else (decide (x.Out >= (3:Int)))) then true else (v33 != (0:Int))))):Option (Bool)).bind fun Xsp=>bif Xsp then (some (.x1)) else (X4h Xr6 xs (k+1))
def X8a (a0:(List X13)):Option (Bool) :=
 (X5g (List.length a0)).bind fun u1=>(X4h  a0 a0 0).bind fun o37=>match o37 with|.x0=>(some true)|.x1=>(some false)
def X2n (a0:X12):Option (Int) :=
 (bif (a0.Count==(0:Int)) then (some (Xf1 a0 (X12.mk 0 0 0 0))) else (bif (a0.Count==(1:Int)) then (some (bif (a0.Sum==a0.Min) then (a0.Sum==a0.Max) else false)) else (bif (bif (decide (a0.Count>(1:Int))) then (decide (a0.Count<=(1073741824:Int))) else false) then (some (decide (a0.Min<=a0.Max))) else (some false))):Option (Bool)).bind fun j4_3=>bif (!j4_3) then (some 8) else (some 0)
def X61 (a0:X2):Option (Bool) :=
 bif (bif (bif (decide (a0.Span.Start<((-1100585369600):Int))) then true else (decide (a0.Span.End<=a0.Span.Start))) then true else (decide (a0.Span.End>(1100585369600:Int)))) then (some false) else (((X2n a0.Values.e0).bind fun v9=>bif (v9==(0:Int)) then ((X2n a0.Values.e1).bind fun v12=>bif (v12==(0:Int)) then (some (bif (bif (v9==(0:Int)) then (v12==(0:Int)) else false) then (decide ((IntKind.i64.wrap (a0.Values.e0.Count+a0.Values.e1.Count))>(0:Int))) else false)) else (some (bif (bif (v9==(0:Int)) then (v12==(0:Int)) else false) then false else false))) else (some (bif (bif (v9==(0:Int)) then false else false) then false else false)):Option (Bool)).bind fun j8_2=>some j8_2)
def X5d (a0:Int):Option (Bool) :=
 some (a0 != a0)
def X2t (a0:Int) (a1:Int):Option (Int) :=
 (X5d a0).bind fun v1=>(X5d a1).bind fun v3=>bif v1 then (bif v3 then (some 0) else (some (-1))) else (bif v3 then (some 1) else (bif (decide (a0<a1)) then (some (-1)) else (bif (decide (a0>a1)) then (some 1) else (some 0))))
inductive X6x where
 |x0
 |x1 (Xa1:Int)
def X5k (Xuq:(List Int)):List Int->Nat->Option X6x
 |[],k=>some (.x0)
 |x::xs,k=>bif (x != (0:Int)) then (some (.x1 x)) else (X5k Xuq xs (k+1))
def Xcn (a0:(List Int)):Option (Int) :=
 (X5g (List.length a0)).bind fun u1=>(X5k  a0 a0 0).bind fun o7=>match o7 with|.x0=>(some 0)|.x1 Xa1=>(some Xa1)
def X62 (a0:X2) (a1:X2):Option (Int) :=
 (X2t a0.Span.End a1.Span.End).bind fun v1=>(X2t a0.Span.Start a1.Span.Start).bind fun v3=>(X2t a0.Key a1.Key).bind fun v5=>(Xcn [v1,v3,v5]).bind fun v7=>some v7
inductive X5w where
 |x0
 |x1
def X2u (X16:(List X2)):List X2->Nat->Option X5w
 |[],k=>some (.x0)
 |x::xs,k=>((X61 x).bind fun v52=>bif (!v52) then (some true) else (bif (decide ((k:Int)>(0:Int))) then ((X3c X16 (IntKind.i64.wrap ((k:Int) - 1))).bind fun e56=>(X62 e56 x).bind fun v58=>some (bif (!v52) then true else (bif (decide ((k:Int)>(0:Int))) then (decide (v58 >= (0:Int))) else false))) else (some (bif (!v52) then true else false))):Option (Bool)).bind fun Xsm=>bif Xsm then (some (.x1)) else (X2u X16 xs (k+1))
def X4i (a0:(List X2)):Option (Int) :=
 bif (decide ((List.length a0:Int)>(4000:Int))) then (some 4) else ((X5g (List.length a0)).bind fun u2=>(X2u  a0 a0 0).bind fun o62=>match o62 with|.x0=>(some 0)|.x1=>(some 8))
def X8n (a0:Int):Option (Bool) :=
 (bif (a0==((-9223372036854775808):Int)) then (some (bif (a0==((-9223372036854775808):Int)) then true else false)) else ((X2v (Xn.mk 2 (Xm.mk 0 0 0) a0 (X1r.mk 0 (X05.mk 0 0) (V2.mk 0 0)))).bind fun v6=>some (bif (a0==((-9223372036854775808):Int)) then true else (v6==(0:Int)))):Option (Bool)).bind fun j4_2=>some j4_2
def Xcd (a0:X1e):Option (Xn×Int) :=
 bif a0.Mark then (((X4s a0.Time).bind fun v6=>bif (!v6) then (some (bif (!v6) then true else false)) else (some (bif (!v6) then true else (!(X98 a0.Record (Xm.mk 0 0 0))))):Option (Bool)).bind fun Xyn=>bif Xyn then (some ((Xn.mk 0 (Xm.mk 0 0 0) 0 (X1r.mk 0 (X05.mk 0 0) (V2.mk 0 0))),8)) else (some ((Xn.mk 2 (Xm.mk 0 0 0) a0.Time (X1r.mk 0 (X05.mk 0 0) (V2.mk 0 0))),0))) else ((bif (a0.Time != (0:Int)) then (some (bif (a0.Time != (0:Int)) then true else false)) else ((X42 a0.Record.Time).bind fun v16=>some (bif (a0.Time != (0:Int)) then true else (!v16))):Option (Bool)).bind fun Xst=>bif Xst then (some ((Xn.mk 0 (Xm.mk 0 0 0) 0 (X1r.mk 0 (X05.mk 0 0) (V2.mk 0 0))),8)) else (some ((Xn.mk 1 a0.Record 0 (X1r.mk 0 (X05.mk 0 0) (V2.mk 0 0))),0)))
def X6p (a0:X1e):Option (Int) :=
 (Xcd a0).bind fun v1=>some v1.2
inductive X8s where
 |x0 (Xea:Bool)
def X3r (Xt:X0b) (Xbn:(List Int)):List Int->Nat->Bool->Option X8s
 |[],k,X9a=>some (.x0 X9a)
 |x::xs,k,X9a=>(bif X9a then ((X8n x).bind fun v74=>some (bif X9a then v74 else false)) else (some (bif X9a then false else false)):Option (Bool)).bind fun Xsl=>X3r Xt Xbn xs (k+1) Xsl
inductive X8r where
 |x0 (Xe9:Bool)
def X3q (Xfl:X0b) (Xbm:(List X1e)):List X1e->Nat->Bool->Option X8r
 |[],k,Xi2=>some (.x0 Xi2)
 |x::xs,k,Xi2=>(bif Xi2 then ((X6p x).bind fun v103=>some (bif Xi2 then (v103==(0:Int)) else false)) else (some (bif Xi2 then false else false)):Option (Bool)).bind fun Xnn=>X3q Xfl Xbm xs (k+1) Xnn
inductive X8q where
 |x0 (Xe8:Bool)
def X3p (Xpg:X0b) (Xbl:(List X1r)):List X1r->Nat->Bool->Option X8q
 |[],k,Xi0=>some (.x0 Xi0)
 |x::xs,k,Xi0=>(bif Xi0 then ((X2v (Xn.mk 3 (Xm.mk 0 0 0) 0 x)).bind fun v132=>some (bif Xi0 then (v132==(0:Int)) else false)) else (some (bif Xi0 then false else false)):Option (Bool)).bind fun Xni=>X3p Xpg Xbl xs (k+1) Xni
inductive X8p where
 |x0 (Xe7:Bool)
def X3o (Xpf:X0b) (Xbk:(List Xm)):List Xm->Nat->Bool->Option X8p
 |[],k,Xhz=>some (.x0 Xhz)
 |x::xs,k,Xhz=>(bif Xhz then ((X2v (Xn.mk 4 x 0 (X1r.mk 0 (X05.mk 0 0) (V2.mk 0 0)))).bind fun v161=>some (bif Xhz then (v161==(0:Int)) else false)) else (some (bif Xhz then false else false)):Option (Bool)).bind fun Xnd=>X3o Xpf Xbk xs (k+1) Xnd
inductive X8o where
 |x0 (Xe6:Bool)
def X3n (Xkt:X0b) (Xbj:(List X2)):List X2->Nat->Bool->Option X8o
 |[],k,Xgj=>some (.x0 Xgj)
 |x::xs,k,Xgj=>(bif Xgj then (bif (Xkt.Op.Kind != (4:Int)) then (some (bif Xgj then (bif (Xkt.Op.Kind != (4:Int)) then true else false) else false)) else (some (bif Xgj then (bif (Xkt.Op.Kind != (4:Int)) then true else (x.Values.e1.Count==(0:Int))) else false))) else (some (bif Xgj then false else false)):Option (Bool)).bind fun Xnc=>X3n Xkt Xbj xs (k+1) Xnc
def X8b (a0:X0b):Option (Int) :=
 (X8m a0.Op.Kind).bind fun v1=>(bif (decide ((List.length a0.Pending:Int)<=(4000:Int))) then (bif (decide ((List.length a0.Marks:Int) >= v1.1)) then (bif (decide ((List.length a0.Marks:Int)<=v1.2.1)) then ((X8l v1.2.2.1 4000).bind fun v21=>bif (decide ((List.length a0.Store:Int)<=v21)) then ((X8l v1.2.2.2.1 60).bind fun v24=>bif (decide ((List.length a0.Events:Int)<=v24)) then ((X8l v1.2.2.2.2.1 4000).bind fun v27=>bif (decide ((List.length a0.Rows:Int)<=v27)) then ((X8l v1.2.2.2.2.2 4000).bind fun v30=>some (bif (bif (bif (bif (bif (bif (decide ((List.length a0.Pending:Int)<=(4000:Int))) then (decide ((List.length a0.Marks:Int) >= v1.1)) else false) then (decide ((List.length a0.Marks:Int)<=v1.2.1)) else false) then (decide ((List.length a0.Store:Int)<=v21)) else false) then (decide ((List.length a0.Events:Int)<=v24)) else false) then (decide ((List.length a0.Rows:Int)<=v27)) else false) then (decide ((List.length a0.Late:Int)<=v30)) else false)) else (some false)) else (some false)) else (some false)) else (some false)) else (some false)) else (some false):Option (Bool)).bind fun Xj7=>(bif (!(bif (bif (bif (decide (a0.Turn >= (0:Int))) then (decide (a0.Turn<(20:Int))) else false) then (decide (a0.Op.N >= (0:Int))) else false) then (decide (a0.Op.N<(4:Int))) else false)) then (some (bif (bif (bif (!(bif (bif (bif (decide (a0.Turn >= (0:Int))) then (decide (a0.Turn<(20:Int))) else false) then (decide (a0.Op.N >= (0:Int))) else false) then (decide (a0.Op.N<(4:Int))) else false)) then true else false) then true else false) then true else false)) else (bif (!Xj7) then (some (bif (bif (bif (!(bif (bif (bif (decide (a0.Turn >= (0:Int))) then (decide (a0.Turn<(20:Int))) else false) then (decide (a0.Op.N >= (0:Int))) else false) then (decide (a0.Op.N<(4:Int))) else false)) then true else (!Xj7)) then true else false) then true else false)) else ((X8a a0.Pending).bind fun v43=>bif (!v43) then (some (bif (bif (bif (!(bif (bif (bif (decide (a0.Turn >= (0:Int))) then (decide (a0.Turn<(20:Int))) else false) then (decide (a0.Op.N >= (0:Int))) else false) then (decide (a0.Op.N<(4:Int))) else false)) then true else (!Xj7)) then true else (!v43)) then true else false)) else ((X4i a0.Store).bind fun v46=>some (bif (bif (bif (!(bif (bif (bif (decide (a0.Turn >= (0:Int))) then (decide (a0.Turn<(20:Int))) else false) then (decide (a0.Op.N >= (0:Int))) else false) then (decide (a0.Op.N<(4:Int))) else false)) then true else (!Xj7)) then true else (!v43)) then true else (v46 != (0:Int)))))):Option (Bool)).bind fun Xn4=>bif Xn4 then (some 8) else ((X5g (List.length a0.Marks)).bind fun u50=>(X3r  a0 a0.Marks a0.Marks 0 true).bind fun o77=>match o77 with|.x0 Xea=>((X5g (List.length a0.Events)).bind fun u79=>(X3q  a0 a0.Events a0.Events 0 Xea).bind fun o106=>match o106 with|.x0 Xe9=>((X5g (List.length a0.Rows)).bind fun u108=>(X3p  a0 a0.Rows a0.Rows 0 Xe9).bind fun o135=>match o135 with|.x0 Xe8=>((X5g (List.length a0.Late)).bind fun u137=>(X3o  a0 a0.Late a0.Late 0 Xe8).bind fun o164=>match o164 with|.x0 Xe7=>((X5g (List.length a0.Store)).bind fun u166=>(X3n  a0 a0.Store a0.Store 0 Xe7).bind fun o187=>match o187 with|.x0 Xe6=>(bif (!Xe6) then (some 8) else (some 0)))))))
def X99 (a0:Int):Option (X12) :=
 some (X12.mk 1 a0 a0 a0)
def X3u (a0:Int) (a1:Int):Option (Int) :=
 bif (bif (decide (a1<(1:Int))) then true else (decide (a1>(1073741824:Int)))) then (some 2) else (bif (bif (decide (a0<((-1099511627776):Int))) then true else (decide (a0>(1099511627776:Int)))) then (some 16) else (some 0))
def Xf7:List Int:=[0,1,2,2,3,3,3,3,4,4,4,4,4,4,4,4,5,5,5,5,5,5,5,5,5,5,5,5,5,5,5,5,6,6,6,6,6,6,6,6,6,6,6,6,6,6,6,6,6,6,6,6,6,6,6,6,6,6,6,6,6,6,6,6,7,7,7,7,7,7,7,7,7,7,7,7,7,7,7,7,7,7,7,7,7,7,7,7,7,7,7,7,7,7,7,7,7,7,7,7,7,7,7,7,7,7,7,7,7,7,7,7,7,7,7,7,7,7,7,7,7,7,7,7,7,7,7,7,8,8,8,8,8,8,8,8,8,8,8,8,8,8,8,8,8,8,8,8,8,8,8,8,8,8,8,8,8,8,8,8,8,8,8,8,8,8,8,8,8,8,8,8,8,8,8,8,8,8,8,8,8,8,8,8,8,8,8,8,8,8,8,8,8,8,8,8,8,8,8,8,8,8,8,8,8,8,8,8,8,8,8,8,8,8,8,8,8,8,8,8,8,8,8,8,8,8,8,8,8,8,8,8,8,8,8,8,8,8,8,8,8,8,8,8,8,8,8,8,8,8,8,8,8,8,8,8]
def X93 (a0:Int):Option (Int) :=
 (bif (decide (a0 >= (4294967296:Int))) then (some ((Int.fdiv a0 (2 ^ (min (Int.toNat 32) IntKind.u64.bits))),32)) else (some (a0,0)):Option (Int×Int)).bind fun w2=>(bif (decide (w2.1 >= (65536:Int))) then (some ((Int.fdiv w2.1 (2 ^ (min (Int.toNat 16) IntKind.u64.bits))),(IntKind.i64.wrap (w2.2+16)))) else (some (w2.1,w2.2)):Option (Int×Int)).bind fun w6=>(bif (decide (w6.1 >= (256:Int))) then (some ((Int.fdiv w6.1 (2 ^ (min (Int.toNat 8) IntKind.u64.bits))),(IntKind.i64.wrap (w6.2+8)))) else (some (w6.1,w6.2)):Option (Int×Int)).bind fun w10=>(X3c Xf7 (IntKind.u8.wrap w10.1)).bind fun b13=>some (IntKind.i64.wrap (w10.2+(IntKind.i64.wrap b13)))
def X85 (a0:Int):Option (Int) :=
 (X93 a0).bind fun v1=>some v1
inductive X11 where
 |x0 (Xcr:Int)
def Xw (X16:(List X2)) (Xt:X2) (y0_8:Int):Nat->Int->Int->Option X11
 |0,_,_=>none
 |n+1,Xf4,Xi3=>bif (decide (Xf4<Xi3)) then ((X3c X16 (IntKind.i64.wrap (Int.fdiv (IntKind.u64.wrap (IntKind.i64.wrap (Xf4+Xi3))) (2 ^ (min (Int.toNat 1) IntKind.u64.bits))))).bind fun e15=>(X62 e15 Xt).bind fun v17=>bif (decide (v17<(0:Int))) then (Xw X16 Xt y0_8 n (IntKind.i64.wrap ((IntKind.i64.wrap (Int.fdiv (IntKind.u64.wrap (IntKind.i64.wrap (Xf4+Xi3))) (2 ^ (min (Int.toNat 1) IntKind.u64.bits))))+1)) Xi3) else (Xw X16 Xt y0_8 n Xf4 (IntKind.i64.wrap (Int.fdiv (IntKind.u64.wrap (IntKind.i64.wrap (Xf4+Xi3))) (2 ^ (min (Int.toNat 1) IntKind.u64.bits)))))) else (some (.x0 Xf4))
def Xj (a0:(List X2)) (a1:X2):Option (Int×Bool) :=
 (Xw  a0 a1 (List.length a0:Int) FU 0 (List.length a0:Int)).bind fun o20=>match o20 with|.x0 Xcr=>((bif (decide (Xcr<(List.length a0:Int))) then ((X3c a0 Xcr).bind fun e29=>(X62 e29 a1).bind fun v31=>some (bif (decide (Xcr<(List.length a0:Int))) then (v31==(0:Int)) else false)) else (some false):Option (Bool)).bind fun Xz7=>some (Xcr,Xz7))
def X2j (a0:X12) (a1:X12):Option (X12×Int) :=
 ((X2n a0).bind fun v7=>bif (v7 != (0:Int)) then (some (bif (v7 != (0:Int)) then true else false)) else ((X2n a1).bind fun v10=>some (bif (v7 != (0:Int)) then true else (v10 != (0:Int)))):Option (Bool)).bind fun Xym=>bif Xym then (some ((X12.mk 0 0 0 0),8)) else (bif (decide ((IntKind.i64.wrap (a0.Count+a1.Count))>(1073741824:Int))) then (some ((X12.mk 0 0 0 0),4)) else (bif (a0.Count==(0:Int)) then (some (a1,0)) else (bif (a1.Count==(0:Int)) then (some (a0,0)) else (some ((X12.mk (IntKind.i64.wrap (a0.Count+a1.Count)) (IntKind.i64.wrap (a0.Sum+a1.Sum)) (if a1.Min<a0.Min then a1.Min else a0.Min) (if a1.Max>a0.Max then a1.Max else a0.Max)),0)))))
def X9e (a0:Int) (a1:Int):Option (Int) :=
 bif (bif (decide (a1<(1:Int))) then true else (decide (a1>(1073741824:Int)))) then (some 2) else (bif (bif (decide (a0<((-1099511627776):Int))) then true else (decide (a0>(1099511627776:Int)))) then (some 16) else (some 0))
def X6i (a0:Int) (a1:Int):Option (Int×Int) :=
 (X9e a0 a1).bind fun v1=>bif (v1 != (0:Int)) then (some (0,v1)) else ((Xt9 a1).bind fun u4=>(bif (decide ((Int.tmod a0 a1)<(0:Int))) then (some (IntKind.i64.wrap ((IntKind.i64.wrap (Int.tdiv a0 a1)) - 1))) else (some (IntKind.i64.wrap (Int.tdiv a0 a1))):Option (Int)).bind fun j7_7=>some (j7_7,0))
def Xa5 (a0:Int) (a1:Int):Option (X05×Int) :=
 (X6i a0 a1).bind fun v1=>bif (v1.2 != (0:Int)) then (some ((X05.mk 0 0),v1.2)) else (some ((X05.mk (IntKind.i64.wrap (v1.1*a1)) (IntKind.i64.wrap ((IntKind.i64.wrap (v1.1+1))*a1))),0))
inductive X9u where
 |x0 (X0a:(List X05))
def X54 (X16:Int) (X8i:Int) (X7j:Int):Nat->(List X05)->Int->Option X9u
 |0,_,_=>none
 |n+1,Xt,X9a=>bif (decide ((IntKind.i64.wrap (X9a+X8i))>X16)) then ((X26 (List.length (Xt++[(X05.mk X9a (IntKind.i64.wrap (X9a+X8i)))])) 16).bind fun u19=>X54 X16 X8i X7j n (Xt++[(X05.mk X9a (IntKind.i64.wrap (X9a+X8i)))]) (IntKind.i64.wrap (X9a - X7j))) else (some (.x0 Xt))
inductive X7a where
 |x0 (X2d:(List X05)) (Xbi:(List X05))
def X3e (X1t:(List X05)):Nat->(List X05)->Int->Option X7a
 |0,_,_=>none
 |n+1,X02,Xcz=>bif (decide (Xcz >= (0:Int))) then ((X3c X1t Xcz).bind fun e68=>(X26 (List.length (X02++[e68])) 16).bind fun u72=>X3e X1t n (X02++[e68]) (IntKind.i64.wrap (Xcz - 1))) else (some (.x0 X02 X1t))
def Xbr (a0:Int) (a1:Int) (a2:Int):Option ((List X05)×Int) :=
 bif (bif (bif (bif (decide ((if a2<a1 then a2 else a1)<(1:Int))) then true else (decide (a1>(1073741824:Int)))) then true else (decide (a2>a1))) then true else (decide (a1>(IntKind.i64.wrap (16*a2))))) then (some (([]:List X05),2)) else ((Xa5 a0 a2).bind fun v2=>bif (v2.2 != (0:Int)) then (some (([]:List X05),v2.2)) else ((X54  a0 a1 a2 FU ([]:List X05) v2.1.Start).bind fun o24=>match o24 with|.x0 X0a=>((X3e  X0a FU ([]:List X05) (IntKind.i64.wrap ((List.length X0a:Int) - 1))).bind fun o87=>match o87 with|.x0 X2d Xbi=>(some (X2d,0)))))
def Xdf (a0:X0n) (a1:Int):Option ((List X05)×Int) :=
 (X1a a0).bind fun v1=>bif (v1 != (0:Int)) then (some (([]:List X05),v1)) else (bif (a0.Kind==(1:Int)) then ((Xa5 a1 a0.Size).bind fun v5=>bif (v5.2 != (0:Int)) then (some (([]:List X05),v5.2)) else (some ([v5.1],0))) else (bif (a0.Kind==(2:Int)) then ((Xbr a1 a0.Size a0.Every).bind fun v9=>some (v9.1,v9.2)) else (some (([]:List X05),2))))
inductive X03 where
 |x0
 |x1 (X9c:Int)
def Xl (X02:(List X2)) (X1t:X2):List X2->Nat->Option X03
 |[],k=>some (.x0)
 |x::xs,k=>bif (bif (bif (x.Key==X1t.Key) then (decide (x.Span.Start<X1t.Span.End)) else false) then (decide (X1t.Span.Start<x.Span.End)) else false) then (some (.x1 (k:Int))) else (Xl X02 X1t xs (k+1))
inductive X3y where
 |x0 (X2d:(List X2)) (Xgi:Int)
def X1u:Nat->(List X2)->X2->Option X3y
 |0,_,_=>none
 |n+1,X02,X1t=>((X5g (List.length X02)).bind fun u1330=>(Xl  X02 X1t X02 0).bind fun o1342=>match o1342 with|.x0=>(some (-1))|.x1 X9c=>(some X9c):Option (Int)).bind fun Xcf=>bif (decide (Xcf<(0:Int))) then (((Xj X02 X1t).bind fun v1393=>bif (!v1393.2) then (bif (v1393.1==(List.length X02:Int)) then (((X74 X02 v1393.1 (List.length X02:Int)).bind fun m1405=>bif (List.isEmpty m1405) then ((X26 (List.length (X02++[X1t])) 88).bind fun u1408=>some ()) else ((X26 (List.length (X02++[X1t])) 88).bind fun u1410=>some ()):Option (Unit)).bind fun _=>some ((X02++[X1t]),0)) else ((Xq8 X02 v1393.1 X1t 88).bind fun m1413=>some (m1413,0))) else ((X3c X02 v1393.1).bind fun e1415=>((X2j e1415.Values.e0 X1t.Values.e0).bind fun v1430=>bif (v1430.2 != (0:Int)) then (some (X02,v1430.2)) else ((X2j (((X2.mk e1415.Key e1415.Span (V2.mk v1430.1 e1415.Values.e1)).Values).e1) X1t.Values.e1).bind fun v1435=>bif (v1435.2 != (0:Int)) then (some ((List.set X02 (Int.toNat v1393.1) (X2.mk e1415.Key e1415.Span (V2.mk v1430.1 e1415.Values.e1))),v1435.2)) else (some ((List.set (List.set X02 (Int.toNat v1393.1) (X2.mk e1415.Key e1415.Span (V2.mk v1430.1 e1415.Values.e1))) (Int.toNat v1393.1) (X2.mk ((X2.mk e1415.Key e1415.Span (V2.mk v1430.1 e1415.Values.e1)).Key) ((X2.mk e1415.Key e1415.Span (V2.mk v1430.1 e1415.Values.e1)).Span) (V2.mk (((X2.mk e1415.Key e1415.Span (V2.mk v1430.1 e1415.Values.e1)).Values).e0) v1435.1))),0))):Option ((List X2)×Int)).bind fun w1427=>some (w1427.1,w1427.2)):Option ((List X2)×Int)).bind fun w1392=>some (.x0 w1392.1 w1392.2)) else ((X3c X02 Xcf).bind fun e1440=>((X2j X1t.Values.e0 e1440.Values.e0).bind fun v1455=>bif (v1455.2 != (0:Int)) then (some (X1t,v1455.2)) else ((X2j X1t.Values.e1 e1440.Values.e1).bind fun v1460=>bif (v1460.2 != (0:Int)) then (some ((X2.mk X1t.Key X1t.Span (V2.mk v1455.1 X1t.Values.e1)),v1460.2)) else (some ((X2.mk X1t.Key X1t.Span (V2.mk v1455.1 v1460.1)),0))):Option (X2×Int)).bind fun w1452=>bif (w1452.2 != (0:Int)) then (some (.x0 ([]:List X2) w1452.2)) else ((delI X02 Xcf).bind fun m1465=>X1u n m1465 (X2.mk w1452.1.Key (X05.mk (if e1440.Span.Start<w1452.1.Span.Start then e1440.Span.Start else w1452.1.Span.Start) (if e1440.Span.End>w1452.1.Span.End then e1440.Span.End else w1452.1.Span.End)) w1452.1.Values)))
inductive X7l where
 |x0 (X0a:(List X2))
 |x1 (X1l:(List X2)) (Xgh:Int)
def X4f (Xeb:(List X05)):List X05->Nat->X2->(List X2)->Option X7l
 |[],k,Xt,Xp=>some (.x0 Xp)
 |x::xs,k,Xt,Xp=>((Xj Xp (X2.mk Xt.Key x Xt.Values)).bind fun v1891=>bif (!v1891.2) then (bif (v1891.1==(List.length Xp:Int)) then (((X74 Xp v1891.1 (List.length Xp:Int)).bind fun m1903=>bif (List.isEmpty m1903) then ((X26 (List.length (Xp++[(X2.mk Xt.Key x Xt.Values)])) 88).bind fun u1906=>some ()) else ((X26 (List.length (Xp++[(X2.mk Xt.Key x Xt.Values)])) 88).bind fun u1908=>some ()):Option (Unit)).bind fun _=>some ((X2.mk ((X2.mk Xt.Key x Xt.Values).Key) ((X2.mk Xt.Key x Xt.Values).Span) (V2.mk (((X2.mk Xt.Key x Xt.Values).Values).e0) (((X2.mk Xt.Key x Xt.Values).Values).e1))),(Xp++[(X2.mk Xt.Key x Xt.Values)]),0)) else ((Xq8 Xp v1891.1 (X2.mk Xt.Key x Xt.Values) 88).bind fun m1911=>some ((X2.mk Xt.Key x Xt.Values),m1911,0))) else ((X3c Xp v1891.1).bind fun e1913=>((X2j e1913.Values.e0 Xt.Values.e0).bind fun v1928=>bif (v1928.2 != (0:Int)) then (some (Xp,v1928.2)) else ((X2j (((X2.mk e1913.Key e1913.Span (V2.mk v1928.1 e1913.Values.e1)).Values).e1) Xt.Values.e1).bind fun v1933=>bif (v1933.2 != (0:Int)) then (some ((List.set Xp (Int.toNat v1891.1) (X2.mk e1913.Key e1913.Span (V2.mk v1928.1 e1913.Values.e1))),v1933.2)) else (some ((List.set (List.set Xp (Int.toNat v1891.1) (X2.mk e1913.Key e1913.Span (V2.mk v1928.1 e1913.Values.e1))) (Int.toNat v1891.1) (X2.mk ((X2.mk e1913.Key e1913.Span (V2.mk v1928.1 e1913.Values.e1)).Key) ((X2.mk e1913.Key e1913.Span (V2.mk v1928.1 e1913.Values.e1)).Span) (V2.mk (((X2.mk e1913.Key e1913.Span (V2.mk v1928.1 e1913.Values.e1)).Values).e0) v1933.1))),0))):Option ((List X2)×Int)).bind fun w1925=>some ((X2.mk ((X2.mk Xt.Key x Xt.Values).Key) ((X2.mk Xt.Key x Xt.Values).Span) (V2.mk (((X2.mk Xt.Key x Xt.Values).Values).e0) (((X2.mk Xt.Key x Xt.Values).Values).e1))),w1925.1,w1925.2)):Option (X2×(List X2)×Int)).bind fun w1890=>bif (w1890.2.2 != (0:Int)) then (some (.x1 ([]:List X2) w1890.2.2)) else (X4f Xeb xs (k+1) w1890.1 w1890.2.1)
def X53 (a0:(List X2)) (a1:X0n) (a2:Xm) (a3:Int):Option ((List X2)×Int) :=
 (X4i a0).bind fun v1=>bif (v1 != (0:Int)) then (some (([]:List X2),v1)) else ((X1a a1).bind fun v4=>bif (v4 != (0:Int)) then (some (([]:List X2),v4)) else (bif (bif (a3 != (0:Int)) then (a3 != (1:Int)) else false) then (some (([]:List X2),2)) else (bif (bif (decide (a2.Time<((-1099511627776):Int))) then true else (decide (a2.Time>(1099511627776:Int)))) then (some (([]:List X2),16)) else (((X99 a2.Value).bind fun v14=>bif (a3==(0:Int)) then (some (X2.mk a2.Key (X05.mk 0 0) (V2.mk v14 (X12.mk 0 0 0 0)))) else (bif (a3==(1:Int)) then (some (X2.mk a2.Key (X05.mk 0 0) (V2.mk (X12.mk 0 0 0 0) v14))) else none):Option (X2)).bind fun Xff=>(bif (List.isEmpty a0) then (some a0) else ((X26 (List.length a0) 88).bind fun u28=>some a0):Option ((List X2))).bind fun Xfe=>bif (a1.Kind==(3:Int)) then (((X3u 0 a1.Size).bind fun v51=>bif (v51 != (0:Int)) then (some (([]:List X05),v51)) else ((X3u a2.Time a1.Size).bind fun v54=>bif (v54 != (0:Int)) then (some (([]:List X05),v54)) else ((X85 1).bind fun v67=>some ([(X05.mk a2.Time (IntKind.i64.wrap (a2.Time+a1.Size)))],0))):Option ((List X05)×Int)).bind fun w50=>bif (w50.2 != (0:Int)) then (some (([]:List X2),w50.2)) else ((X3c w50.1 0).bind fun e71=>((X1u  FU Xfe (X2.mk Xff.Key e71 Xff.Values)).bind fun o1548=>match o1548 with|.x0 X2d Xgi=>(some (X2d,Xgi)):Option ((List X2)×Int)).bind fun w811=>bif (w811.2 != (0:Int)) then (some (([]:List X2),w811.2)) else (bif (decide ((List.length w811.1:Int)>(4000:Int))) then (some (([]:List X2),4)) else (some (w811.1,0))))) else ((Xdf a1 a2.Time).bind fun v1558=>bif (v1558.2 != (0:Int)) then (some (([]:List X2),v1558.2)) else ((X5g (List.length v1558.1)).bind fun u1561=>(X4f  v1558.1 v1558.1 0 Xff Xfe).bind fun o1984=>match o1984 with|.x0 X0a=>(bif (decide ((List.length X0a:Int)>(4000:Int))) then (some (([]:List X2),4)) else (some (X0a,0)))|.x1 X1l Xgh=>(some (X1l,Xgh))))))))
def X4u (a0:(List X13)):Option ((List X13)) :=
 bif (List.isEmpty a0) then (some a0) else ((X26 (List.length a0) 88).bind fun u4=>some a0)
def X1m (a0:(List Int)):Option ((List Int)) :=
 bif (List.isEmpty a0) then (some a0) else ((X26 (List.length a0) 8).bind fun u4=>some a0)
def X1o (a0:(List X2)):Option ((List X2)) :=
 bif (List.isEmpty a0) then (some a0) else ((X26 (List.length a0) 88).bind fun u4=>some a0)
def X1n (a0:(List X1e)):Option ((List X1e)) :=
 bif (List.isEmpty a0) then (some a0) else ((X26 (List.length a0) 40).bind fun u4=>some a0)
def X2k (a0:(List X1r)):Option ((List X1r)) :=
 bif (List.isEmpty a0) then (some a0) else ((X26 (List.length a0) 40).bind fun u4=>some a0)
def X1c (a0:(List Xm)):Option ((List Xm)) :=
 bif (List.isEmpty a0) then (some a0) else ((X26 (List.length a0) 24).bind fun u4=>some a0)
def X3d (a0:X0b) (a1:(List X13)):Option (X0b×Int) :=
 (X8b a0).bind fun v1=>bif (v1 != (0:Int)) then (some ((X0b.mk (GOp.mk 0 0) 0 ([]:List X13) ([]:List Int) ([]:List X2) ([]:List X1e) ([]:List X1r) ([]:List Xm)),v1)) else ((X8a a1).bind fun v4=>bif (!v4) then (some ((X0b.mk (GOp.mk 0 0) 0 ([]:List X13) ([]:List Int) ([]:List X2) ([]:List X1e) ([]:List X1r) ([]:List Xm)),8)) else (bif (decide ((List.length a1:Int)>(IntKind.i64.wrap (4000 - (List.length a0.Pending:Int))))) then (some ((X0b.mk (GOp.mk 0 0) 0 ([]:List X13) ([]:List Int) ([]:List X2) ([]:List X1e) ([]:List X1r) ([]:List Xm)),4)) else (bif (List.isEmpty a0.Pending) then ((X1m a0.Marks).bind fun v33=>(X1o a0.Store).bind fun v35=>(X1n a0.Events).bind fun v37=>(X2k a0.Rows).bind fun v39=>(X1c a0.Late).bind fun v41=>bif (List.isEmpty a1) then (some ((X0b.mk a0.Op a0.Turn a1 v33 v35 v37 v39 v41),0)) else ((X26 (List.length a1) 88).bind fun u44=>some ((X0b.mk a0.Op a0.Turn a1 v33 v35 v37 v39 v41),0))) else ((X4u a0.Pending).bind fun v46=>(X1m a0.Marks).bind fun v48=>(X1o a0.Store).bind fun v50=>(X1n a0.Events).bind fun v52=>(X2k a0.Rows).bind fun v54=>(X1c a0.Late).bind fun v56=>bif (List.isEmpty a1) then (some ((X0b.mk a0.Op a0.Turn v46 v48 v50 v52 v54 v56),0)) else ((X26 (List.length (v46++a1)) 88).bind fun u59=>none)))))
def X6e (a0:Int):Option (Bool) :=
 (X2v (Xn.mk 2 (Xm.mk 0 0 0) a0 (X1r.mk 0 (X05.mk 0 0) (V2.mk 0 0)))).bind fun v1=>some (v1==(0:Int))
inductive X5y where
 |x0
 |x1
def X43 (Xgl:(List Int)):List Int->Nat->Option X5y
 |[],k=>some (.x0)
 |x::xs,k=>(bif (x != ((-9223372036854775808):Int)) then ((X6e x).bind fun v32=>some (bif (x != ((-9223372036854775808):Int)) then (!v32) else false)) else (some (bif (x != ((-9223372036854775808):Int)) then false else false)):Option (Bool)).bind fun Xso=>bif Xso then (some (.x1)) else (X43 Xgl xs (k+1))
def X94 (a0:(List Int)):Option (Int) :=
 (bif ((List.length a0:Int)==(0:Int)) then (some (bif ((List.length a0:Int)==(0:Int)) then true else false)) else (some (bif ((List.length a0:Int)==(0:Int)) then true else (decide ((List.length a0:Int)>(4:Int))))):Option (Bool)).bind fun Xz5=>bif Xz5 then (some 8) else ((X5g (List.length a0)).bind fun u6=>(X43  a0 a0 0).bind fun o36=>match o36 with|.x0=>(some 0)|.x1=>(some 8))
inductive X3f where
 |x0 (Xiq:Int)
def X0x (X16:(List Int)):Nat->Int->Int->Option X3f
 |0,_,_=>none
 |n+1,Xcz,Xwt=>bif (decide (Xwt<(List.length X16:Int))) then ((X3c X16 Xwt).bind fun e13=>X0x X16 n (if e13<Xcz then e13 else Xcz) (IntKind.i64.wrap (Xwt+1))) else (some (.x0 Xcz))
def X24 (a0:(List Int)):Option (Int) :=
 bif (decide ((List.length a0:Int)<(1:Int))) then none else ((X3c a0 0).bind fun e3=>(X0x  a0 FU e3 1).bind fun o15=>match o15 with|.x0 Xiq=>(some Xiq))
def X58 (a0:(List Int)):Option (Int×Int) :=
 (X94 a0).bind fun v1=>bif (v1 != (0:Int)) then (some (0,v1)) else ((X24 a0).bind fun v4=>some (v4,0))
def X68 (a0:(List Int)) (a1:Int) (a2:Int):Option ((List Int)×Bool×Int) :=
 (X58 a0).bind fun v1=>bif (v1.2 != (0:Int)) then (some (([]:List Int),false,v1.2)) else ((bif (decide (a1<(0:Int))) then (some (bif (bif (decide (a1<(0:Int))) then true else false) then true else false)) else (bif (decide (a1 >= (List.length a0:Int))) then (some (bif (bif (decide (a1<(0:Int))) then true else (decide (a1 >= (List.length a0:Int)))) then true else false)) else ((X6e a2).bind fun v11=>some (bif (bif (decide (a1<(0:Int))) then true else (decide (a1 >= (List.length a0:Int)))) then true else (!v11)))):Option (Bool)).bind fun Xyl=>bif Xyl then (some (([]:List Int),false,2)) else ((bif (List.isEmpty a0) then (some a0) else ((X26 (List.length a0) 8).bind fun u24=>some a0):Option ((List Int))).bind fun Xhg=>(X3c Xhg a1).bind fun e27=>(X24 (List.set Xhg (Int.toNat a1) (if a2>e27 then a2 else e27))).bind fun v29=>some ((List.set Xhg (Int.toNat a1) (if a2>e27 then a2 else e27)),(decide (v29>v1.1)),0)))
inductive X8t where
 |x0 (X0a:(List X2)) (X09:(List X2))
def X3s (X8i:Int) (X2z:(List X2)):List X2->Nat->(List X2)->(List X2)->Option X8t
 |[],k,Xt,Xp=>some (.x0 Xt Xp)
 |x::xs,k,Xt,Xp=>(bif (decide (x.Span.End<=X8i)) then ((X26 (List.length (Xt++[x])) 88).bind fun u110=>some ((Xt++[x]),Xp)) else ((X26 (List.length (Xp++[x])) 88).bind fun u112=>some (Xt,(Xp++[x]))):Option ((List X2)×(List X2))).bind fun w108=>X3s X8i X2z xs (k+1) w108.1 w108.2
def X78 (a0:(List X2)) (a1:Int):Option ((List X2)×(List X2)×Int) :=
 (X4i a0).bind fun v1=>bif (v1 != (0:Int)) then (some (([]:List X2),([]:List X2),v1)) else ((X5g (List.length a0)).bind fun u4=>(X3s  a1 a0 a0 0 ([]:List X2) ([]:List X2)).bind fun o151=>match o151 with|.x0 X0a X09=>(some (X0a,X09,0)))
def X6f (a0:Int) (a1:X12):Option (Int×Int) :=
 bif (bif (decide (a0<(1:Int))) then true else (decide (a0>(4:Int)))) then (some (0,2)) else ((X2n a1).bind fun v2=>bif (v2 != (0:Int)) then (some (0,v2)) else (bif (a1.Count==(0:Int)) then (some (0,6)) else ((bif (a0==(0:Int)) then (some 0) else (bif (a0==(1:Int)) then (some a1.Count) else (bif (a0==(2:Int)) then (some a1.Sum) else (bif (a0==(3:Int)) then (some a1.Min) else (bif (a0==(4:Int)) then (some a1.Max) else none)))):Option (Int)).bind fun Xz9=>some (Xz9,0))))
def Xdu (a0:X06) (a1:X2):Option (X1r×Bool) :=
 (X6f a0.Agg a1.Values.e0).bind fun v1=>(X6f a0.Agg a1.Values.e1).bind fun v3=>bif (bif (v1.2 != (0:Int)) then true else (v3.2 != (0:Int))) then (some ((X1r.mk 0 (X05.mk 0 0) (V2.mk 0 0)),false)) else (some ((X1r.mk a1.Key a1.Span (V2.mk v1.1 v3.1)),true))
inductive X9y where
 |x0 (X2a:(List X13))
def X3b (Xt:X06) (Xp:X0b) (X3k:X0b) (Xa3:(List X2)):List X2->Nat->(List X13)->Option X9y
 |[],k,X02=>some (.x0 X02)
 |x::xs,k,X02=>(Xdu Xt x).bind fun v70=>(bif v70.2 then ((X26 (List.length (X02++[(X13.mk 0 (Xn.mk 3 (Xm.mk 0 0 0) 0 v70.1))])) 88).bind fun u77=>some (X02++[(X13.mk 0 (Xn.mk 3 (Xm.mk 0 0 0) 0 v70.1))])) else (some X02):Option ((List X13))).bind fun Xlh=>X3b Xt Xp X3k Xa3 xs (k+1) Xlh
def X4q (a0:X06) (a1:X0b) (a2:Int) (a3:Xn):Option (X0b×Int) :=
 (X6s a0).bind fun v1=>bif (!v1) then (some ((X0b.mk (GOp.mk 0 0) 0 ([]:List X13) ([]:List Int) ([]:List X2) ([]:List X1e) ([]:List X1r) ([]:List Xm)),8)) else ((X8b a1).bind fun v4=>bif (v4 != (0:Int)) then (some ((X0b.mk (GOp.mk 0 0) 0 ([]:List X13) ([]:List Int) ([]:List X2) ([]:List X1e) ([]:List X1r) ([]:List Xm)),v4)) else (bif (bif (bif (a1.Op.Kind != (5:Int)) then true else (decide (a2<(0:Int)))) then true else (decide (a2>(1:Int)))) then (some ((X0b.mk (GOp.mk 0 0) 0 ([]:List X13) ([]:List Int) ([]:List X2) ([]:List X1e) ([]:List X1r) ([]:List Xm)),2)) else ((X2v a3).bind fun v8=>bif (bif (v8 != (0:Int)) then true else (bif (a3.Kind != (1:Int)) then (a3.Kind != (2:Int)) else false)) then (some ((X0b.mk (GOp.mk 0 0) 0 ([]:List X13) ([]:List Int) ([]:List X2) ([]:List X1e) ([]:List X1r) ([]:List Xm)),8)) else (bif (decide ((List.length a1.Pending:Int)>(0:Int))) then (some ((X0b.mk (GOp.mk 0 0) 0 ([]:List X13) ([]:List Int) ([]:List X2) ([]:List X1e) ([]:List X1r) ([]:List Xm)),18)) else (bif (a3.Kind==(1:Int)) then ((X53 a1.Store a0.Window a3.Record a2).bind fun v13=>bif (v13.2 != (0:Int)) then (some ((X0b.mk (GOp.mk 0 0) 0 ([]:List X13) ([]:List Int) ([]:List X2) ([]:List X1e) ([]:List X1r) ([]:List Xm)),v13.2)) else ((X3d (X0b.mk a1.Op a1.Turn a1.Pending a1.Marks v13.1 a1.Events a1.Rows a1.Late) ([]:List X13)).bind fun v16=>some (v16.1,v16.2))) else ((X68 a1.Marks a2 a3.Time).bind fun v18=>bif (!v18.2.1) then ((X3d (X0b.mk a1.Op a1.Turn a1.Pending v18.1 a1.Store a1.Events a1.Rows a1.Late) ([]:List X13)).bind fun v21=>some (v21.1,v21.2)) else ((X58 v18.1).bind fun v23=>(X78 a1.Store v23.1).bind fun v25=>(X5g (List.length v25.1)).bind fun u27=>(X3b  a0 (X0b.mk a1.Op a1.Turn a1.Pending v18.1 v25.2.1 a1.Events a1.Rows a1.Late) (X0b.mk (GOp.mk 0 0) 0 ([]:List X13) ([]:List Int) ([]:List X2) ([]:List X1e) ([]:List X1r) ([]:List Xm)) v25.1 v25.1 0 ([]:List X13)).bind fun o90=>match o90 with|.x0 X2a=>((X3d (X0b.mk a1.Op a1.Turn a1.Pending v18.1 v25.2.1 a1.Events a1.Rows a1.Late) X2a).bind fun v92=>some (v92.1,v92.2)))))))))
inductive X7z where
 |x0 (Xao:(List X1r))
def X44 (y1_1:(List Int)) (y1_2:(List Xn)) (Xfl:X06) (Xr4:X0b) (Xr3:X0b) (Xr5:Int) (Xgk:X0b):Nat->(List X1r)->Int->Option X7z
 |0,_,_=>none
 |n+1,Xi1,Xa2=>bif (decide (Xa2<(List.length Xgk.Pending:Int))) then ((X3c Xgk.Pending Xa2).bind fun e166=>(X26 (List.length (Xi1++[e166.Message.Row])) 40).bind fun u168=>X44 y1_1 y1_2 Xfl Xr4 Xr3 Xr5 Xgk n (Xi1++[e166.Message.Row]) (IntKind.i64.wrap (Xa2+1))) else (some (.x0 Xi1))
inductive X5z where
 |x0 (X09:X0b) (X2a:(List X1r))
 |x1 (X51:(List X1r))
def X0t (X8i:(List Int)) (X7j:(List Xn)) (Xt:X06) (Xp:X0b):List Xn->Nat->X0b->(List X1r)->Option X5z
 |[],k,X3k,X02=>some (.x0 X3k X02)
 |x::xs,k,X3k,X02=>(X3c X8i (k:Int)).bind fun e139=>(X4q Xt X3k e139 x).bind fun v141=>bif (v141.2 != (0:Int)) then (some (.x1 ([]:List X1r))) else ((X44  X8i X7j Xt Xp X3k (k:Int) v141.1 FU X02 0).bind fun o175=>match o175 with|.x0 Xao=>(X0t X8i X7j Xt Xp xs (k+1) (X0b.mk v141.1.Op v141.1.Turn ([]:List X13) v141.1.Marks v141.1.Store v141.1.Events v141.1.Rows v141.1.Late) Xao))
def X4k (a0:X06) (a1:(List Int)) (a2:(List Xn)):Option (X0b×(List X1r)×Bool) :=
 (Xgb 0).bind fun v1=>bif (v1.2 != (0:Int)) then (some ((X0b.mk (GOp.mk 0 0) 0 ([]:List X13) ([]:List Int) ([]:List X2) ([]:List X1e) ([]:List X1r) ([]:List Xm)),([]:List X1r),false)) else ((X5g (List.length a2)).bind fun u4=>(X0t  a1 a2 a0 (X0b.mk (GOp.mk 0 0) 0 ([]:List X13) ([]:List Int) ([]:List X2) ([]:List X1e) ([]:List X1r) ([]:List Xm)) a2 0 v1.1 ([]:List X1r)).bind fun o205=>match o205 with|.x0 X09 X2a=>(some (X09,X2a,true))|.x1 X51=>(some ((X0b.mk ((X0b.mk (GOp.mk 0 0) 0 ([]:List X13) ([]:List Int) ([]:List X2) ([]:List X1e) ([]:List X1r) ([]:List Xm)).Op) ((X0b.mk (GOp.mk 0 0) 0 ([]:List X13) ([]:List Int) ([]:List X2) ([]:List X1e) ([]:List X1r) ([]:List Xm)).Turn) ((X0b.mk (GOp.mk 0 0) 0 ([]:List X13) ([]:List Int) ([]:List X2) ([]:List X1e) ([]:List X1r) ([]:List Xm)).Pending) ((X0b.mk (GOp.mk 0 0) 0 ([]:List X13) ([]:List Int) ([]:List X2) ([]:List X1e) ([]:List X1r) ([]:List Xm)).Marks) ((X0b.mk (GOp.mk 0 0) 0 ([]:List X13) ([]:List Int) ([]:List X2) ([]:List X1e) ([]:List X1r) ([]:List Xm)).Store) ((X0b.mk (GOp.mk 0 0) 0 ([]:List X13) ([]:List Int) ([]:List X2) ([]:List X1e) ([]:List X1r) ([]:List Xm)).Events) ((X0b.mk (GOp.mk 0 0) 0 ([]:List X13) ([]:List Int) ([]:List X2) ([]:List X1e) ([]:List X1r) ([]:List Xm)).Rows) ((X0b.mk (GOp.mk 0 0) 0 ([]:List X13) ([]:List Int) ([]:List X2) ([]:List X1e) ([]:List X1r) ([]:List Xm)).Late)),X51,false)))
def Xhb (a0:Int) (a1:Int) (a2:Int) (a3:Int):Option (X1r) :=
 some (X1r.mk a0 (X05.mk a1 (IntKind.i64.wrap (a1+10))) (V2.mk a2 a3))
inductive X6q where
 |x0
 |x1
def X6r (X16:(List X1r)) (X8i:(List X1r)):List X1r->Nat->Option X6q
 |[],k=>some (.x0)
 |x::xs,k=>(X3c X8i (k:Int)).bind fun e11=>bif (!(Xki x e11)) then (some (.x1)) else (X6r X16 X8i xs (k+1))
def Xeq (a0:(List X1r)) (a1:(List X1r)):Option (Bool) :=
 bif ((List.length a0:Int) != (List.length a1:Int)) then (some false) else ((X5g (List.length a0)).bind fun u2=>(X6r  a0 a1 a0 0).bind fun o14=>match o14 with|.x0=>(some true)|.x1=>(some false))
def Xay:Option (Bool) :=
 (Xep).bind fun v1=>(Xdp 0 1 4).bind fun v3=>(Xdp 0 1 6).bind fun v5=>(Xag 10).bind fun v7=>(X4k v1 [0,1,0,1] [v3,v5,v7,v7]).bind fun v9=>(bif v9.2.2 then ((Xhb 0 0 4 6).bind fun v19=>(Xeq v9.2.1 [v19]).bind fun v21=>bif v21 then (some (bif (bif v9.2.2 then v21 else false) then ((List.length v9.1.Store:Int)==(0:Int)) else false)) else (some (bif (bif v9.2.2 then v21 else false) then false else false))) else (some (bif (bif v9.2.2 then false else false) then false else false)):Option (Bool)).bind fun Xz8=>some Xz8
def X95 (a0:X06):Option (Bool) :=
 (bif (decide ((List.length a0.Arg:Int)>(100:Int))) then (some (bif (bif (decide ((List.length a0.Arg:Int)>(100:Int))) then true else false) then true else false)) else (bif (decide ((List.length a0.Where:Int)>(100:Int))) then (some (bif (bif (decide ((List.length a0.Arg:Int)>(100:Int))) then true else (decide ((List.length a0.Where:Int)>(100:Int)))) then true else false)) else (some (bif (bif (decide ((List.length a0.Arg:Int)>(100:Int))) then true else (decide ((List.length a0.Where:Int)>(100:Int)))) then true else (decide ((List.length a0.Sources:Int)>(20:Int)))))):Option (Bool)).bind fun j3_2=>some j3_2
def Xau (a0:Int):Option (Int) :=
 bif (decide (a0<=(4:Int))) then (some 0) else (bif (decide (a0<=(6:Int))) then (some 1) else (some 2))
def X66 (a0:X07) (a1:Int) (a2:Int):Option (Bool) :=
 some (bif (bif (bif (bif (bif (bif (bif (decide (a0.Kind >= (1:Int))) then (decide (a0.Kind<=(19:Int))) else false) then (decide (a0.N >= (0:Int))) else false) then (bif (a0.N==(0:Int)) then true else (a0.Kind==(1:Int))) else false) then (decide (a0.At >= (0:Int))) else false) then (decide (a0.At<=(400:Int))) else false) then (a0.A==a1) else false) then (a0.B==a2) else false)
inductive X4o where
 |x0 (X0a:(List Int)) (X09:(List Int))
 |x1 (X1l:(List Int)) (X51:(List Int))
def X1s (X16:(List X07)):List X07->Nat->(List Int)->(List Int)->Option X4o
 |[],k,Xt,Xp=>some (.x0 Xt Xp)
 |x::xs,k,Xt,Xp=>(Xau x.Kind).bind fun v156=>bif (decide (v156>(0:Int))) then (bif (decide ((IntKind.i64.wrap ((k:Int) - 1))<(0:Int))) then (some (.x1 ([]:List Int) ([]:List Int))) else ((X3c Xt (IntKind.i64.wrap ((k:Int) - 1))).bind fun e160=>(X3c Xp (IntKind.i64.wrap ((k:Int) - 1))).bind fun e162=>bif (v156==(2:Int)) then (bif (decide ((IntKind.i64.wrap ((IntKind.i64.wrap ((k:Int) - 1)) - e160))<(0:Int))) then (some (.x1 ([]:List Int) ([]:List Int))) else ((X3c Xt (IntKind.i64.wrap ((IntKind.i64.wrap ((k:Int) - 1)) - e160))).bind fun e166=>(X3c Xp (IntKind.i64.wrap ((IntKind.i64.wrap ((k:Int) - 1)) - e160))).bind fun e168=>(X66 x (IntKind.i64.wrap ((IntKind.i64.wrap ((k:Int) - 1)) - e160)) (IntKind.i64.wrap ((k:Int) - 1))).bind fun v170=>bif (!v170) then (some (.x1 ([]:List Int) ([]:List Int))) else ((X26 (List.length (Xt++[(IntKind.i64.wrap ((IntKind.i64.wrap (1+e160))+e166))])) 8).bind fun u173=>(X26 (List.length (Xp++[(if (IntKind.i64.wrap (1+e168))>(IntKind.i64.wrap (1+e162)) then (IntKind.i64.wrap (1+e168)) else (IntKind.i64.wrap (1+e162)))])) 8).bind fun u175=>X1s X16 xs (k+1) (Xt++[(IntKind.i64.wrap ((IntKind.i64.wrap (1+e160))+e166))]) (Xp++[(if (IntKind.i64.wrap (1+e168))>(IntKind.i64.wrap (1+e162)) then (IntKind.i64.wrap (1+e168)) else (IntKind.i64.wrap (1+e162)))])))) else ((X66 x (IntKind.i64.wrap ((k:Int) - 1)) 0).bind fun v177=>bif (!v177) then (some (.x1 ([]:List Int) ([]:List Int))) else ((X26 (List.length (Xt++[(IntKind.i64.wrap (1+e160))])) 8).bind fun u180=>(X26 (List.length (Xp++[(IntKind.i64.wrap (1+e162))])) 8).bind fun u182=>X1s X16 xs (k+1) (Xt++[(IntKind.i64.wrap (1+e160))]) (Xp++[(IntKind.i64.wrap (1+e162))]))))) else ((X66 x 0 0).bind fun v184=>bif (!v184) then (some (.x1 ([]:List Int) ([]:List Int))) else ((X26 (List.length (Xt++[1])) 8).bind fun u187=>(X26 (List.length (Xp++[1])) 8).bind fun u189=>X1s X16 xs (k+1) (Xt++[1]) (Xp++[1])))
def Xat (a0:(List X07)):Option ((List Int)×(List Int)×Bool) :=
 (X5g (List.length a0)).bind fun u1=>(X1s  a0 a0 0 ([]:List Int) ([]:List Int)).bind fun o232=>match o232 with|.x0 X0a X09=>((bif (decide ((List.length a0:Int)>(0:Int))) then ((X3c X0a (IntKind.i64.wrap ((List.length a0:Int) - 1))).bind fun e239=>some (bif (decide ((List.length a0:Int)>(0:Int))) then (e239==(List.length a0:Int)) else false)) else (some false):Option (Bool)).bind fun Xsr=>some (X0a,X09,Xsr))|.x1 X1l X51=>(some (X1l,X51,false))
def X4j (a0:(List X07)):Option (Int) :=
 bif (decide ((List.length a0:Int)>(60:Int))) then (some 4) else ((Xat a0).bind fun v2=>bif (!v2.2.2) then (some 8) else ((X3c v2.2.1 (IntKind.i64.wrap ((List.length a0:Int) - 1))).bind fun e5=>bif (decide (e5>(20:Int))) then (some 34) else (some 0)))
inductive X4z where
 |x0
 |x1
def X34 (X16:(List Int)):List Int->Nat->Option X4z
 |[],k=>some (.x0)
 |x::xs,k=>(bif (decide (x<(0:Int))) then (some (bif (decide (x<(0:Int))) then true else false)) else (some (bif (decide (x<(0:Int))) then true else (decide (x>(3:Int))))):Option (Bool)).bind fun Xsq=>bif Xsq then (some (.x1)) else (X34 X16 xs (k+1))
inductive X4x where
 |x0
 |x1
def X33 (Xxm:(List Int)) (Xxl:Int):Nat->Int->Option X4x
 |0,_=>none
 |n+1,Xws=>bif (decide (Xws<Xxl)) then ((X3c Xxm Xws).bind fun e86=>(X3c Xxm Xxl).bind fun e88=>bif (e86==e88) then (some (.x0)) else (X33 Xxm Xxl n (IntKind.i64.wrap (Xws+1)))) else (some (.x1))
inductive X4y where
 |x0
 |x1
def X2m (Xqq:(List Int)):List Int->Nat->Option X4y
 |[],k=>some (.x0)
 |x::xs,k=>(X33  Xqq (k:Int) FU 0).bind fun o91=>match o91 with|.x0=>(some (.x1))|.x1=>(X2m Xqq xs (k+1))
def X6n (a0:(List Int)) (a1:Bool):Option (Int) :=
 bif (decide ((List.length a0:Int)>(4:Int))) then (some 4) else ((bif ((List.length a0:Int)==(0:Int)) then (some (bif ((List.length a0:Int)==(0:Int)) then true else false)) else (bif a1 then (some (bif ((List.length a0:Int)==(0:Int)) then true else (bif a1 then ((List.length a0:Int) != (2:Int)) else false))) else (some (bif ((List.length a0:Int)==(0:Int)) then true else (bif a1 then false else false)))):Option (Bool)).bind fun Xyr=>bif Xyr then (some 8) else ((X5g (List.length a0)).bind fun u9=>(X34  a0 a0 0).bind fun o27=>match o27 with|.x0=>((X2m  a0 a0 0).bind fun o93=>match o93 with|.x0=>(some 0)|.x1=>(some 43))|.x1=>(some 8)))
def X7b (a0:X0n):Option (Bool) :=
 bif (bif (decide (a0.Size<(1:Int))) then true else (decide (a0.Size>(1073741824:Int)))) then (some false) else (bif (a0.Kind==(2:Int)) then (some (bif (bif (decide (a0.Every >= (1:Int))) then (decide (a0.Every<=a0.Size)) else false) then (decide (a0.Size<=(IntKind.i64.wrap (16*a0.Every)))) else false)) else (some (bif (bif (a0.Kind==(1:Int)) then true else (a0.Kind==(3:Int))) then (a0.Every==(0:Int)) else false)))
def X8z (a0:X06):Option (Int) :=
 bif (bif (bif (bif (decide (a0.Agg<(1:Int))) then true else (decide (a0.Agg>(4:Int)))) then true else (decide (a0.Late<(1:Int)))) then true else (decide (a0.Late>(2:Int)))) then (some 8) else ((bif (a0.Agg==(1:Int)) then (some (bif (a0.Agg==(1:Int)) then (decide ((List.length a0.Arg:Int)>(0:Int))) else false)) else (some (bif (a0.Agg==(1:Int)) then false else false)):Option (Bool)).bind fun Xz2=>bif Xz2 then (some 8) else ((bif (a0.Agg != (1:Int)) then ((X4j a0.Arg).bind fun v12=>some (bif (a0.Agg != (1:Int)) then (v12 != (0:Int)) else false)) else (some (bif (a0.Agg != (1:Int)) then false else false)):Option (Bool)).bind fun Xsu=>bif Xsu then ((X4j a0.Arg).bind fun v16=>some v16) else ((bif (decide ((List.length a0.Where:Int)>(0:Int))) then ((X4j a0.Where).bind fun v23=>some (bif (decide ((List.length a0.Where:Int)>(0:Int))) then (v23 != (0:Int)) else false)) else (some (bif (decide ((List.length a0.Where:Int)>(0:Int))) then false else false)):Option (Bool)).bind fun Xli=>bif Xli then ((X4j a0.Where).bind fun v27=>some v27) else ((X6n a0.Sources a0.Join).bind fun v29=>bif (v29 != (0:Int)) then (some v29) else ((X7b a0.Window).bind fun v32=>bif (bif (!v32) then true else (bif a0.Join then (a0.Window.Kind != (1:Int)) else false)) then (some 8) else (some 0))))))
def X65 (a0:Int):Option (Bool) :=
 some (bif (a0==(6:Int)) then true else (decide (a0 >= (12:Int))))
def Xab (a0:(List X07)) (a1:Int):Option (Bool) :=
 (X3c a0 a1).bind fun e1=>(X3c a0 e1.A).bind fun e3=>(X65 e3.Kind).bind fun v5=>(X3c a0 e1.B).bind fun e7=>(X65 e7.Kind).bind fun v9=>bif (decide (e1.Kind<=(4:Int))) then (some true) else (bif (e1.Kind==(5:Int)) then (some (!v5)) else (bif (e1.Kind==(6:Int)) then (some v5) else (bif (bif (e1.Kind==(16:Int)) then true else (e1.Kind==(17:Int))) then (some (v5==v9)) else (bif (decide (e1.Kind >= (18:Int))) then (some (bif v5 then v9 else false)) else (some (bif (!v5) then (!v9) else false))))))
inductive X5x where
 |x0
 |x1 (Xa1:Int)
def X41 (X16:(List X07)):List X07->Nat->Option X5x
 |[],k=>some (.x0)
 |x::xs,k=>(Xab X16 (k:Int)).bind fun v10=>bif (!v10) then (some (.x1 (k:Int))) else (X41 X16 xs (k+1))
def Xas (a0:(List X07)):Option (Int) :=
 (X5g (List.length a0)).bind fun u1=>(X41  a0 a0 0).bind fun o13=>match o13 with|.x0=>(some (List.length a0:Int))|.x1 Xa1=>(some Xa1)
def Xdk (a0:(List X07)):Option (Bool×Int×Int) :=
 (X4j a0).bind fun v1=>bif (v1 != (0:Int)) then (some (false,0,v1)) else ((Xas a0).bind fun v4=>bif (decide (v4<(List.length a0:Int))) then (some (false,v4,42)) else ((X3c a0 (IntKind.i64.wrap ((List.length a0:Int) - 1))).bind fun e7=>(X65 e7.Kind).bind fun v9=>some (v9,(IntKind.i64.wrap ((List.length a0:Int) - 1)),0)))
def X7c (a0:(List X07)) (a1:Bool):Option (Int×Int) :=
 (Xdk a0).bind fun v1=>bif (bif (v1.2.2==(0:Int)) then (!(v1.1==a1)) else false) then (some (v1.2.1,42)) else (some (v1.2.1,v1.2.2))
def X8x (a0:X06):Option (Int×Int) :=
 bif (decide ((List.length a0.Arg:Int)>(0:Int))) then ((X7c a0.Arg false).bind fun v2=>bif (v2.2 != (0:Int)) then ((X3c a0.Arg v2.1).bind fun e5=>some (e5.At,v2.2)) else (bif (decide ((List.length a0.Where:Int)>(0:Int))) then ((X7c a0.Where true).bind fun v8=>bif (v8.2 != (0:Int)) then ((X3c a0.Where v8.1).bind fun e11=>some (e11.At,v8.2)) else (some (0,0))) else (some (0,0)))) else (bif (decide ((List.length a0.Where:Int)>(0:Int))) then ((X7c a0.Where true).bind fun v14=>bif (v14.2 != (0:Int)) then ((X3c a0.Where v14.1).bind fun e17=>some (e17.At,v14.2)) else (some (0,0))) else (some (0,0)))
def X8y (a0:X06):Option (Int×Int) :=
 (X8z a0).bind fun v1=>bif (v1 != (0:Int)) then (some (0,v1)) else ((X8x a0).bind fun v4=>some (v4.1,v4.2))
def X5q (a0:X06):Option (Bool) :=
 (X8y a0).bind fun v1=>some (v1.2==(0:Int))
def Xaa (a0:Int):Option (Bool) :=
 some (bif (bif (decide (a0 >= ((-1099511627776):Int))) then (decide (a0<=(1099511627776:Int))) else false) then true else (a0==(9223372036854775807:Int)))
def X8w (a0:Xm):Option (Bool) :=
 some (bif (decide (a0.Time >= ((-1099511627776):Int))) then (decide (a0.Time<=(1099511627776:Int))) else false)
inductive X49 where
 |x0 (X09:(List Xn)) (X2a:(List Int)) (X2d:(List Int))
 |x1
def X19 (X8i:(List Int)) (X7j:(List Xm)) (Xcz:Int) (Xt:X06) (Xf4:Bool):List Xm->Nat->(List Xn)->(List Int)->(List Int)->Option X49
 |[],k,Xp,X3k,X02=>some (.x0 Xp X3k X02)
 |x::xs,k,Xp,X3k,X02=>((X8w x).bind fun v408=>bif (!v408) then (some (bif (bif (!v408) then true else false) then true else false)) else ((X3c X8i (k:Int)).bind fun e411=>bif (decide (e411<(0:Int))) then (some (bif (bif (!v408) then true else (decide (e411<(0:Int)))) then true else false)) else (some (bif (bif (!v408) then true else (decide (e411<(0:Int)))) then true else (decide (e411>(1:Int)))))):Option (Bool)).bind fun Xn5=>bif Xn5 then (some (.x1)) else ((X26 (List.length (Xp++[(Xn.mk 1 x 0 (X1r.mk 0 (X05.mk 0 0) (V2.mk 0 0)))])) 80).bind fun u416=>(X3c X8i (k:Int)).bind fun e418=>(X26 (List.length (X3k++[e418])) 8).bind fun u420=>(X26 (List.length (X02++[(IntKind.i64.wrap (1 - e418))])) 8).bind fun u422=>X19 X8i X7j Xcz Xt Xf4 xs (k+1) (Xp++[(Xn.mk 1 x 0 (X1r.mk 0 (X05.mk 0 0) (V2.mk 0 0)))]) (X3k++[e418]) (X02++[(IntKind.i64.wrap (1 - e418))]))
inductive X48 where
 |x0
 |x1
def X2h (y1_9:Bool) (Xa2:(List X1r)) (Xph:(List X1r)):List X1r->Nat->Option X48
 |[],k=>some (.x0)
 |x::xs,k=>((X3c Xph (k:Int)).bind fun e641=>bif (x.Key != e641.Key) then (some true) else (bif (!(Xai x.Span e641.Span)) then (some true) else (bif (x.Values.e0 != e641.Values.e1) then (some true) else (some (bif (bif (bif (x.Key != e641.Key) then true else (!(Xai x.Span e641.Span))) then true else (x.Values.e0 != e641.Values.e1)) then true else (x.Values.e1 != e641.Values.e0))))):Option (Bool)).bind fun Xjy=>bif Xjy then (some (.x1)) else (X2h y1_9 Xa2 Xph xs (k+1))
def X59 (a0:X06) (a1:(List Int)) (a2:(List Xm)) (a3:Int):Option (Bool) :=
 (Xay).bind fun v1=>((X95 a0).bind fun v16=>bif v16 then (some (bif (bif (bif (bif (bif (bif v16 then true else false) then true else false) then true else false) then true else false) then true else false) then true else false)) else ((X5q a0).bind fun v19=>bif (!v19) then (some (bif (bif (bif (bif (bif (bif v16 then true else (!v19)) then true else false) then true else false) then true else false) then true else false) then true else false)) else (bif (!a0.Join) then (some (bif (bif (bif (bif (bif (bif v16 then true else (!v19)) then true else (!a0.Join)) then true else false) then true else false) then true else false) then true else false)) else (bif (decide ((List.length a2:Int)>(20:Int))) then (some (bif (bif (bif (bif (bif (bif v16 then true else (!v19)) then true else (!a0.Join)) then true else (decide ((List.length a2:Int)>(20:Int)))) then true else false) then true else false) then true else false)) else (bif ((List.length a1:Int) != (List.length a2:Int)) then (some (bif (bif (bif (bif (bif (bif v16 then true else (!v19)) then true else (!a0.Join)) then true else (decide ((List.length a2:Int)>(20:Int)))) then true else ((List.length a1:Int) != (List.length a2:Int))) then true else false) then true else false)) else ((Xaa a3).bind fun v25=>bif (!v25) then (some (bif (bif (bif (bif (bif (bif v16 then true else (!v19)) then true else (!a0.Join)) then true else (decide ((List.length a2:Int)>(20:Int)))) then true else ((List.length a1:Int) != (List.length a2:Int))) then true else (!v25)) then true else false)) else (some (bif (bif (bif (bif (bif (bif v16 then true else (!v19)) then true else (!a0.Join)) then true else (decide ((List.length a2:Int)>(20:Int)))) then true else ((List.length a1:Int) != (List.length a2:Int))) then true else (!v25)) then true else (!v1)))))))):Option (Bool)).bind fun Xss=>bif Xss then (some v1) else ((X5g (List.length a2)).bind fun u30=>(X19  a1 a2 a3 a0 v1 a2 0 ([]:List Xn) ([]:List Int) ([]:List Int)).bind fun o585=>match o585 with|.x0 X09 X2a X2d=>((Xag a3).bind fun v587=>(X26 (List.length (X09++[v587,v587])) 80).bind fun u589=>(X26 (List.length (X2a++[0,1])) 8).bind fun u591=>(X4k a0 (X2a++[0,1]) (X09++[v587,v587])).bind fun v593=>(X26 (List.length (X2d++[1,0])) 8).bind fun u595=>(X4k a0 (X2d++[1,0]) (X09++[v587,v587])).bind fun v597=>(bif (!v593.2.2) then (some (bif (bif (!v593.2.2) then true else false) then true else false)) else (bif (!v597.2.2) then (some (bif (bif (!v593.2.2) then true else (!v597.2.2)) then true else false)) else (some (bif (bif (!v593.2.2) then true else (!v597.2.2)) then true else ((List.length v593.2.1:Int) != (List.length v597.2.1:Int))))):Option (Bool)).bind fun Xjz=>bif Xjz then (some false) else ((X5g (List.length v593.2.1)).bind fun u606=>(X2h  v1 v593.2.1 v597.2.1 v593.2.1 0).bind fun o648=>match o648 with|.x0=>(some v1)|.x1=>(some false)))|.x1=>(some v1))
end
end Go.D
