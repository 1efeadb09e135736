/- Printed by decomp.py: the functions. -/
import Derived.Test.YtkjlgmgfhgamlaaGreatDTypesZ
set_option linter.all false

namespace Go.D
noncomputable section
def Xen:Option (X06) :=
 some (X06.mk 2 [(X07.mk 4 0 0 0 0)] [0,1] true ([]:List X07) (X0n.mk 1 10 0) false 1)
def Xdl (a0:Int) (a1:Int) (a2:Int):Option (Xh) :=
 some (Xh.mk 1 (Xl.mk a0 a1 a2) 0 (X1x.mk 0 (X05.mk 0 0) (V2.mk 0 0)))
def Xae (a0:Int):Option (Xh) :=
 some (Xh.mk 2 (Xl.mk 0 0 0) a0 (X1x.mk 0 (X05.mk 0 0) (V2.mk 0 0)))
def Xh3 (a0:Int):Option ((List Int)×Int) :=
 bif (bif (decide (a0<(1:Int))) then true else (decide (a0>(4:Int)))) then (some (([]:List Int),2)) else (bif (a0==(1:Int)) then (some ([(-9223372036854775808)],0)) else (bif (a0==(2:Int)) then (some ([(-9223372036854775808),(-9223372036854775808)],0)) else (bif (a0==(3:Int)) then (some ([(-9223372036854775808),(-9223372036854775808),(-9223372036854775808)],0)) else (bif (a0==(4:Int)) then (some ([(-9223372036854775808),(-9223372036854775808),(-9223372036854775808),(-9223372036854775808)],0)) else none))))
def Xg7 (a0:Int):Option (X0a×Int) :=
 bif (bif (decide (a0<(0:Int))) then true else (decide (a0 >= (3:Int)))) then (some ((X0a.mk (GOp.mk 0 0) 0 ([]:List X13) ([]:List Int) ([]:List X2) ([]:List X1e) ([]:List X1x) ([]:List Xl)),2)) else ((Xh3 2).bind fun v2=>some ((X0a.mk (GOp.mk 5 a0) 0 ([]:List X13) v2.1 ([]:List X2) ([]:List X1e) ([]:List X1x) ([]:List Xl)),0))
def X92 (a0:Int):Option (Int×Int) :=
 bif (bif (decide (a0 >= (1:Int))) then (decide (a0<=(4:Int))) else false) then (some (0,0)) else (bif (bif (a0==(5:Int)) then true else (a0==(6:Int))) then (some (1,0)) else (bif (bif (decide (a0 >= (7:Int))) then (decide (a0<=(19:Int))) else false) then (some (2,0)) else (some (0,2))))
inductive X57 where
 |x0 (X09:(List Xg)) (X0b:(List Xg))
 |x1 (X1l:(List Xg))
def X27 (X2z:(List X07)):List X07->Nat->(List Xg)->(List Xg)->Option X57
 |[],k,Xo,Xn=>some (.x0 Xo Xn)
 |x::xs,k,Xo,Xn=>(X92 x.Kind).bind fun v318=>(bif (v318.2 != (0:Int)) then (some (bif (v318.2 != (0:Int)) then true else false)) else (some (bif (v318.2 != (0:Int)) then true else (decide (v318.1>(List.length Xn:Int))))):Option (Bool)).bind fun Xn7=>bif Xn7 then (some (.x1 Xo)) else ((X76 Xn 0 (IntKind.i64.wrap ((List.length Xn:Int) - v318.1))).bind fun m331=>(X76 Xn (IntKind.i64.wrap ((List.length Xn:Int) - v318.1)) (List.length Xn:Int)).bind fun m333=>bif (List.isEmpty m333) then ((bif (x.Kind==(1:Int)) then (some (X07.mk x.Kind (if 0>x.N then 0 else x.N) 0 0 (if 400<(if 0>x.At then 0 else x.At) then 400 else (if 0>x.At then 0 else x.At)))) else (some (X07.mk x.Kind 0 0 0 (if 400<(if 0>x.At then 0 else x.At) then 400 else (if 0>x.At then 0 else x.At)))):Option (X07)).bind fun Xn6=>bif (!(X6w Xn6 x)) then (some (.x1 Xo)) else ((X1w (List.length (m331++[(Xg.mk (k:Int) 1 1)])) 24).bind fun u341=>(X1w (List.length (Xo++[(Xg.mk (k:Int) 1 1)])) 24).bind fun u343=>X27 X2z xs (k+1) (Xo++[(Xg.mk (k:Int) 1 1)]) (m331++[(Xg.mk (k:Int) 1 1)]))) else (bif ((List.length m333:Int)==(1:Int)) then ((X3c m333 0).bind fun e346=>(bif (x.Kind==(1:Int)) then (some (X07.mk x.Kind (if 0>x.N then 0 else x.N) e346.at_ 0 (if 400<(if 0>x.At then 0 else x.At) then 400 else (if 0>x.At then 0 else x.At)))) else (some (X07.mk x.Kind 0 e346.at_ 0 (if 400<(if 0>x.At then 0 else x.At) then 400 else (if 0>x.At then 0 else x.At)))):Option (X07)).bind fun Xn5=>bif (!(X6w Xn5 x)) then (some (.x1 Xo)) else ((X1w (List.length (m331++[(Xg.mk (k:Int) (IntKind.i64.wrap (1+e346.size)) (if (IntKind.i64.wrap (e346.depth+1))>1 then (IntKind.i64.wrap (e346.depth+1)) else 1))])) 24).bind fun u353=>(X1w (List.length (Xo++[(Xg.mk (k:Int) (IntKind.i64.wrap (1+e346.size)) (if (IntKind.i64.wrap (e346.depth+1))>1 then (IntKind.i64.wrap (e346.depth+1)) else 1))])) 24).bind fun u355=>X27 X2z xs (k+1) (Xo++[(Xg.mk (k:Int) (IntKind.i64.wrap (1+e346.size)) (if (IntKind.i64.wrap (e346.depth+1))>1 then (IntKind.i64.wrap (e346.depth+1)) else 1))]) (m331++[(Xg.mk (k:Int) (IntKind.i64.wrap (1+e346.size)) (if (IntKind.i64.wrap (e346.depth+1))>1 then (IntKind.i64.wrap (e346.depth+1)) else 1))]))) else (bif ((List.length m333:Int)==(2:Int)) then ((X3c m333 0).bind fun e358=>(X3c m333 1).bind fun e360=>(bif (x.Kind==(1:Int)) then (some (X07.mk x.Kind (if 0>x.N then 0 else x.N) e358.at_ e360.at_ (if 400<(if 0>x.At then 0 else x.At) then 400 else (if 0>x.At then 0 else x.At)))) else (some (X07.mk x.Kind 0 e358.at_ e360.at_ (if 400<(if 0>x.At then 0 else x.At) then 400 else (if 0>x.At then 0 else x.At)))):Option (X07)).bind fun Xn4=>bif (!(X6w Xn4 x)) then (some (.x1 Xo)) else ((X1w (List.length (m331++[(Xg.mk (k:Int) (IntKind.i64.wrap ((IntKind.i64.wrap (1+e358.size))+e360.size)) (if (IntKind.i64.wrap (e360.depth+1))>(if (IntKind.i64.wrap (e358.depth+1))>1 then (IntKind.i64.wrap (e358.depth+1)) else 1) then (IntKind.i64.wrap (e360.depth+1)) else (if (IntKind.i64.wrap (e358.depth+1))>1 then (IntKind.i64.wrap (e358.depth+1)) else 1)))])) 24).bind fun u367=>(X1w (List.length (Xo++[(Xg.mk (k:Int) (IntKind.i64.wrap ((IntKind.i64.wrap (1+e358.size))+e360.size)) (if (IntKind.i64.wrap (e360.depth+1))>(if (IntKind.i64.wrap (e358.depth+1))>1 then (IntKind.i64.wrap (e358.depth+1)) else 1) then (IntKind.i64.wrap (e360.depth+1)) else (if (IntKind.i64.wrap (e358.depth+1))>1 then (IntKind.i64.wrap (e358.depth+1)) else 1)))])) 24).bind fun u369=>X27 X2z xs (k+1) (Xo++[(Xg.mk (k:Int) (IntKind.i64.wrap ((IntKind.i64.wrap (1+e358.size))+e360.size)) (if (IntKind.i64.wrap (e360.depth+1))>(if (IntKind.i64.wrap (e358.depth+1))>1 then (IntKind.i64.wrap (e358.depth+1)) else 1) then (IntKind.i64.wrap (e360.depth+1)) else (if (IntKind.i64.wrap (e358.depth+1))>1 then (IntKind.i64.wrap (e358.depth+1)) else 1)))]) (m331++[(Xg.mk (k:Int) (IntKind.i64.wrap ((IntKind.i64.wrap (1+e358.size))+e360.size)) (if (IntKind.i64.wrap (e360.depth+1))>(if (IntKind.i64.wrap (e358.depth+1))>1 then (IntKind.i64.wrap (e358.depth+1)) else 1) then (IntKind.i64.wrap (e360.depth+1)) else (if (IntKind.i64.wrap (e358.depth+1))>1 then (IntKind.i64.wrap (e358.depth+1)) else 1)))]))) else none)))
def Xc8 (a0:(List X07)):Option ((List Xg)×Bool) :=
 (X5q (List.length a0)).bind fun u1=>(X27  a0 a0 0 ([]:List Xg) ([]:List Xg)).bind fun o475=>match o475 with|.x0 X09 X0b=>(some (X09,((List.length X0b:Int)==(1:Int))))|.x1 X1l=>(some (X1l,false))
def X91 (a0:(List X07)):Option ((List Xg)×Int) :=
 bif (decide ((List.length a0:Int)>(60:Int))) then (some (([]:List Xg),4)) else ((Xc8 a0).bind fun v2=>bif (!v2.2) then (some (([]:List Xg),8)) else ((X3c v2.1 (IntKind.i64.wrap ((List.length v2.1:Int) - 1))).bind fun e5=>bif (decide (e5.depth>(20:Int))) then (some (([]:List Xg),34)) else (some (v2.1,0))))
def X58 (a0:(List X07)):Option (Int) :=
 (X91 a0).bind fun v1=>some v1.2
def X5m (a0:Int):Option (Bool) :=
 some (bif (decide (a0<(0:Int))) then true else (decide (a0 >= (4:Int))))
inductive X26 where
 |x0
 |x1 (X9c:Int)
def X0q (X19:(List Int)):List Int->Nat->Option X26
 |[],k=>some (.x0)
 |x::xs,k=>(X5m x).bind fun v10=>bif v10 then (some (.x1 (k:Int))) else (X0q X19 xs (k+1))
def X0p (a0:(List Int)):Option (Int) :=
 (X5q (List.length a0)).bind fun u1=>(X0q  a0 a0 0).bind fun o13=>match o13 with|.x0=>(some (-1))|.x1 X9c=>(some X9c)
def Xx (a0:(List Int)):Option (Bool) :=
 (X0p a0).bind fun v1=>some (decide (v1 >= (0:Int)))
def X38 (l:List Int):Option Int:=(X5q (List.length l)).bind fun _=>some ((X7p [] l).length:Int)
def X2h (a0:(List Int)) (a1:Bool):Option (Int) :=
 bif (decide ((List.length a0:Int)>(4:Int))) then (some 4) else ((bif ((List.length a0:Int)==(0:Int)) then (some (bif (bif ((List.length a0:Int)==(0:Int)) then true else false) then true else false)) else (bif a1 then (bif ((List.length a0:Int) != (2:Int)) then (some (bif (bif ((List.length a0:Int)==(0:Int)) then true else (bif a1 then ((List.length a0:Int) != (2:Int)) else false)) then true else false)) else ((Xx a0).bind fun v13=>some (bif (bif ((List.length a0:Int)==(0:Int)) then true else (bif a1 then ((List.length a0:Int) != (2:Int)) else false)) then true else v13))) else ((Xx a0).bind fun v15=>some (bif (bif ((List.length a0:Int)==(0:Int)) then true else (bif a1 then false else false)) then true else v15))):Option (Bool)).bind fun Xyk=>bif Xyk then (some 8) else ((X38 a0).bind fun v19=>bif (decide (v19<(List.length a0:Int))) then (some 43) else (some 0)))
def X18 (a0:X0n):Option (Int) :=
 bif (bif (decide (a0.Size<(1:Int))) then true else (decide (a0.Size>(1073741824:Int)))) then (some 8) else (bif (a0.Kind==(2:Int)) then (bif (bif (bif (decide (a0.Every >= (1:Int))) then (decide (a0.Every<=a0.Size)) else false) then (decide (a0.Size<=(IntKind.i64.wrap (16*a0.Every)))) else false) then (some 0) else (some 8)) else (bif (a0.Kind==(1:Int)) then (bif (a0.Every==(0:Int)) then (some 0) else (some 8)) else (bif (a0.Kind==(3:Int)) then (bif (a0.Every==(0:Int)) then (some 0) else (some 8)) else (some 8))))
def X6z (a0:X06):Option (Int) :=
 bif (bif (bif (decide (a0.Agg<(1:Int))) then true else (decide (a0.Agg>(4:Int)))) then true else (bif (a0.Late != (1:Int)) then (a0.Late != (2:Int)) else false)) then (some 8) else (bif (a0.Agg != (1:Int)) then ((X58 a0.Arg).bind fun v3=>bif (v3 != (0:Int)) then (some v3) else (bif (decide ((List.length a0.Where:Int)>(0:Int))) then ((X58 a0.Where).bind fun v7=>bif (v7 != (0:Int)) then (some v7) else ((X2h a0.Sources a0.Join).bind fun v10=>bif (v10 != (0:Int)) then (some v10) else (bif (bif a0.Join then (a0.Window.Kind != (1:Int)) else false) then (some 8) else ((X18 a0.Window).bind fun v14=>some v14)))) else ((X2h a0.Sources a0.Join).bind fun v16=>bif (v16 != (0:Int)) then (some v16) else (bif (bif a0.Join then (a0.Window.Kind != (1:Int)) else false) then (some 8) else ((X18 a0.Window).bind fun v20=>some v20))))) else (bif (decide ((List.length a0.Arg:Int)>(0:Int))) then (some 8) else (bif (decide ((List.length a0.Where:Int)>(0:Int))) then ((X58 a0.Where).bind fun v24=>bif (v24 != (0:Int)) then (some v24) else ((X2h a0.Sources a0.Join).bind fun v27=>bif (v27 != (0:Int)) then (some v27) else (bif (bif a0.Join then (a0.Window.Kind != (1:Int)) else false) then (some 8) else ((X18 a0.Window).bind fun v31=>some v31)))) else ((X2h a0.Sources a0.Join).bind fun v33=>bif (v33 != (0:Int)) then (some v33) else (bif (bif a0.Join then (a0.Window.Kind != (1:Int)) else false) then (some 8) else ((X18 a0.Window).bind fun v37=>some v37))))))
inductive X2c where
 |x0
 |x1
def X0d (Xn:(List Bool)) (X2t:(V2 Bool)) (X02:(List Int)):List Int->Nat->Option X2c
 |[],k=>some (.x0)
 |x::xs,k=>(X3c Xn x).bind fun e3011=>bif (!(e3011==false)) then (some (.x1)) else (X0d Xn X2t X02 xs (k+1))
inductive X23 where
 |x0
 |x1
def X0e (Xn:(List Bool)) (X0k:(List Int)):List Int->Nat->Option X23
 |[],k=>some (.x0)
 |x::xs,k=>(X3c Xn x).bind fun e3127=>bif (!(e3127==true)) then (some (.x1)) else (X0e Xn X0k xs (k+1))
inductive X5b where
 |x0 (X0b:(List Bool))
 |x1 (X1l:(List Bool)) (Xin:Int)
def X1t (X19:(List X07)):List X07->Nat->(List Bool)->Option X5b
 |[],k,Xn=>some (.x0 Xn)
 |x::xs,k,Xn=>bif (decide (x.Kind<=(4:Int))) then ((X1w (List.length (Xn++[false])) 1).bind fun u2525=>X1t X19 xs (k+1) (Xn++[false])) else (bif (x.Kind==(5:Int)) then (((X3c Xn x.A).bind fun e2546=>bif (!(e2546==false)) then (some (bif (!(bif true then false else false)) then (!(bif false then false else false)) else false)) else (some (bif (!(bif true then true else false)) then false else false)):Option (Bool)).bind fun Xk1=>bif Xk1 then (some (.x1 ([]:List Bool) (k:Int))) else ((X1w (List.length (Xn++[false])) 1).bind fun u2551=>X1t X19 xs (k+1) (Xn++[false]))) else (bif (x.Kind==(6:Int)) then (((X3c Xn x.A).bind fun e2571=>bif (!(e2571==true)) then (some false) else (some true):Option (Bool)).bind fun Xk0=>bif (bif (!(bif false then false else false)) then (!(bif true then Xk0 else false)) else false) then (some (.x1 ([]:List Bool) (k:Int))) else ((X1w (List.length (Xn++[true])) 1).bind fun u2576=>X1t X19 xs (k+1) (Xn++[true]))) else ((bif (decide (x.Kind<=(11:Int))) then (some ((V2.mk true false),false)) else (bif (decide (x.Kind<=(15:Int))) then (some ((V2.mk true false),true)) else (bif (decide (x.Kind<=(17:Int))) then (some ((V2.mk true true),true)) else (some ((V2.mk false true),true)))):Option ((V2 Bool)×Bool)).bind fun w2581=>(bif w2581.1.e0 then (((X5q (List.length [x.A,x.B])).bind fun u2980=>(X0d  Xn w2581.1 [x.A,x.B] [x.A,x.B] 0).bind fun o3016=>match o3016 with|.x0=>(some true)|.x1=>(some false):Option (Bool)).bind fun Xaz=>bif (!(bif w2581.1.e0 then Xaz else false)) then (bif w2581.1.e1 then (((X5q (List.length [x.A,x.B])).bind fun u3096=>(X0e  Xn [x.A,x.B] [x.A,x.B] 0).bind fun o3132=>match o3132 with|.x0=>(some true)|.x1=>(some false):Option (Bool)).bind fun Xjy=>some (bif (!(bif w2581.1.e0 then Xaz else false)) then (!(bif w2581.1.e1 then Xjy else false)) else false)) else (some (bif (!(bif w2581.1.e0 then Xaz else false)) then (!(bif w2581.1.e1 then false else false)) else false))) else (some (bif (!(bif w2581.1.e0 then Xaz else false)) then false else false))) else (bif (!(bif w2581.1.e0 then false else false)) then (bif w2581.1.e1 then (((X5q (List.length [x.A,x.B])).bind fun u3192=>(X0e  Xn [x.A,x.B] [x.A,x.B] 0).bind fun o3218=>match o3218 with|.x0=>(some true)|.x1=>(some false):Option (Bool)).bind fun Xjx=>some (bif (!(bif w2581.1.e0 then false else false)) then (!(bif w2581.1.e1 then Xjx else false)) else false)) else (some (bif (!(bif w2581.1.e0 then false else false)) then (!(bif w2581.1.e1 then false else false)) else false))) else (some (bif (!(bif w2581.1.e0 then false else false)) then false else false))):Option (Bool)).bind fun Xjz=>bif Xjz then (some (.x1 ([]:List Bool) (k:Int))) else ((X1w (List.length (Xn++[w2581.2])) 1).bind fun u3223=>X1t X19 xs (k+1) (Xn++[w2581.2])))))
def Xca (a0:(List X07)):Option ((List Bool)×Int) :=
 (X5q (List.length a0)).bind fun u1=>(X1t  a0 a0 0 ([]:List Bool)).bind fun o3784=>match o3784 with|.x0 X0b=>(some (X0b,(List.length a0:Int)))|.x1 X1l Xin=>(some (X1l,Xin))
def Xdp (a0:(List X07)):Option (Bool×Int×Int) :=
 (X58 a0).bind fun v1=>bif (v1 != (0:Int)) then (some (false,0,v1)) else ((Xca a0).bind fun v4=>bif (decide (v4.2<(List.length a0:Int))) then (some (false,v4.2,42)) else ((X3c v4.1 (IntKind.i64.wrap (v4.2 - 1))).bind fun e7=>some (e7,(IntKind.i64.wrap (v4.2 - 1)),0)))
def X8i (a0:(List X07)) (a1:Bool):Option (Int×Int) :=
 (Xdp a0).bind fun v1=>(bif (bif (v1.2.2==(0:Int)) then (!(v1.1==a1)) else false) then (some 42) else (some v1.2.2):Option (Int)).bind fun j4_8=>some (v1.2.1,j4_8)
def X96 (a0:(List X07)):Option (Int×Int) :=
 (X8i a0 true).bind fun v1=>some (v1.1,v1.2)
def X9j (a0:(List X07)):Option (Int×Int) :=
 (X8i a0 false).bind fun v1=>some (v1.1,v1.2)
def X7q (a0:X06):Option (Int×Int) :=
 (X6z a0).bind fun v1=>bif (v1 != (0:Int)) then (some (0,v1)) else ((bif ((List.length a0.Arg:Int)==(0:Int)) then (bif ((List.length a0.Where:Int)==(0:Int)) then (some (0,0)) else ((X96 a0.Where).bind fun v25=>bif (v25.2 != (0:Int)) then ((X3c a0.Where v25.1).bind fun e28=>some (e28.At,v25.2)) else (some (0,0)))) else ((X9j a0.Arg).bind fun v30=>bif (v30.2 != (0:Int)) then ((X3c a0.Arg v30.1).bind fun e33=>some (e33.At,v30.2)) else (bif ((List.length a0.Where:Int)==(0:Int)) then (some (0,0)) else ((X96 a0.Where).bind fun v36=>bif (v36.2 != (0:Int)) then ((X3c a0.Where v36.1).bind fun e39=>some (e39.At,v36.2)) else (some (0,0))))):Option (Int×Int)).bind fun w22=>some (w22.1,w22.2))
def X6s (a0:X06):Option (Bool) :=
 (X7q a0).bind fun v1=>some (bif (v1.2==(0:Int)) then a0.Join else false)
def X8m (a0:Int):Option (Int×Int×Bool×Bool×Bool×Bool) :=
 (bif (a0==(1:Int)) then (some (0,0,false,true,false,false)) else (bif (a0==(2:Int)) then (some (1,1,false,false,false,false)) else (bif (a0==(3:Int)) then (some (0,0,false,false,false,false)) else (bif (a0==(4:Int)) then (some (1,4,true,false,false,false)) else (bif (a0==(5:Int)) then (some (2,2,true,false,false,false)) else (bif (a0==(6:Int)) then (some (0,0,false,false,true,false)) else (bif (a0==(7:Int)) then (some (0,0,false,false,false,true)) else (some (1,0,false,false,false,false)))))))):Option (Int×Int×Bool×Bool×Bool×Bool)).bind fun w8=>some (w8.1,w8.2.1,w8.2.2.1,w8.2.2.2.1,w8.2.2.2.2.1,w8.2.2.2.2.2)
def X8l (a0:Bool) (a1:Int):Option (Int) :=
 bif a0 then (some a1) else (some 0)
def X41 (a0:Int):Option (Bool) :=
 some (bif (decide (a0 >= ((-1099511627776):Int))) then (decide (a0<=(1099511627776:Int))) else false)
def X4s (a0:Int):Option (Bool) :=
 (X41 a0).bind fun v1=>some (bif v1 then true else (a0==(9223372036854775807:Int)))
def X2v (a0:Xh):Option (Int) :=
 (bif (a0.Kind==(1:Int)) then (some (a0.Kind==(1:Int))) else (some (a0.Kind==(4:Int))):Option (Bool)).bind fun Xz0=>(bif Xz0 then ((X41 a0.Record.Time).bind fun v14=>some (v14,(Xh.mk ((Xh.mk a0.Kind (Xl.mk 0 0 0) 0 (X1x.mk 0 (X05.mk 0 0) (V2.mk 0 0))).Kind) a0.Record ((Xh.mk a0.Kind (Xl.mk 0 0 0) 0 (X1x.mk 0 (X05.mk 0 0) (V2.mk 0 0))).Time) (X1x.mk (((Xh.mk a0.Kind (Xl.mk 0 0 0) 0 (X1x.mk 0 (X05.mk 0 0) (V2.mk 0 0))).Row).Key) (((Xh.mk a0.Kind (Xl.mk 0 0 0) 0 (X1x.mk 0 (X05.mk 0 0) (V2.mk 0 0))).Row).Span) (((Xh.mk a0.Kind (Xl.mk 0 0 0) 0 (X1x.mk 0 (X05.mk 0 0) (V2.mk 0 0))).Row).Values))))) else (bif (a0.Kind==(2:Int)) then ((X4s a0.Time).bind fun v17=>some (v17,(Xh.mk ((Xh.mk a0.Kind (Xl.mk 0 0 0) 0 (X1x.mk 0 (X05.mk 0 0) (V2.mk 0 0))).Kind) ((Xh.mk a0.Kind (Xl.mk 0 0 0) 0 (X1x.mk 0 (X05.mk 0 0) (V2.mk 0 0))).Record) a0.Time (X1x.mk (((Xh.mk a0.Kind (Xl.mk 0 0 0) 0 (X1x.mk 0 (X05.mk 0 0) (V2.mk 0 0))).Row).Key) (((Xh.mk a0.Kind (Xl.mk 0 0 0) 0 (X1x.mk 0 (X05.mk 0 0) (V2.mk 0 0))).Row).Span) (((Xh.mk a0.Kind (Xl.mk 0 0 0) 0 (X1x.mk 0 (X05.mk 0 0) (V2.mk 0 0))).Row).Values))))) else (bif (a0.Kind==(3:Int)) then (some ((bif (bif (decide (((-2199023255552):Int)<=a0.Row.Span.Start)) then (decide (a0.Row.Span.Start<a0.Row.Span.End)) else false) then (decide (a0.Row.Span.End<=(2199023255552:Int))) else false),(Xh.mk ((Xh.mk a0.Kind (Xl.mk 0 0 0) 0 (X1x.mk 0 (X05.mk 0 0) (V2.mk 0 0))).Kind) ((Xh.mk a0.Kind (Xl.mk 0 0 0) 0 (X1x.mk 0 (X05.mk 0 0) (V2.mk 0 0))).Record) ((Xh.mk a0.Kind (Xl.mk 0 0 0) 0 (X1x.mk 0 (X05.mk 0 0) (V2.mk 0 0))).Time) a0.Row))) else (some (false,(Xh.mk ((Xh.mk a0.Kind (Xl.mk 0 0 0) 0 (X1x.mk 0 (X05.mk 0 0) (V2.mk 0 0))).Kind) ((Xh.mk a0.Kind (Xl.mk 0 0 0) 0 (X1x.mk 0 (X05.mk 0 0) (V2.mk 0 0))).Record) ((Xh.mk a0.Kind (Xl.mk 0 0 0) 0 (X1x.mk 0 (X05.mk 0 0) (V2.mk 0 0))).Time) (X1x.mk (((Xh.mk a0.Kind (Xl.mk 0 0 0) 0 (X1x.mk 0 (X05.mk 0 0) (V2.mk 0 0))).Row).Key) (((Xh.mk a0.Kind (Xl.mk 0 0 0) 0 (X1x.mk 0 (X05.mk 0 0) (V2.mk 0 0))).Row).Span) (((Xh.mk a0.Kind (Xl.mk 0 0 0) 0 (X1x.mk 0 (X05.mk 0 0) (V2.mk 0 0))).Row).Values))))))):Option (Bool×Xh)).bind fun w12=>bif (bif (!w12.1) then true else (!(X9o a0 w12.2))) then (some 8) else (some 0)
inductive X6l where
 |x0
 |x1
def X4g (Xr3:(List X13)):List X13->Nat->Option X6l
 |[],k=>some (.x0)
 |x::xs,k=>(bif (decide (x.Out<(0:Int))) then (some (bif (bif (decide (x.Out<(0:Int))) then true else false) then true else false)) else (bif (decide (x.Out >= (3:Int))) then (some (bif (bif (decide (x.Out<(0:Int))) then true else (decide (x.Out >= (3:Int)))) then true else false)) else ((X2v x.Message).bind fun v33=>some (bif (bif (decide (x.Out<(0:Int))) then true else (decide (x.Out >= (3:Int)))) then true else (v33 != (0:Int))))):Option (Bool)).bind fun Xsl=>bif Xsl then (some (.x1)) else (X4g Xr3 xs (k+1))
def X8a (a0:(List X13)):Option (Bool) :=
 (X5q (List.length a0)).bind fun u1=>(X4g  a0 a0 0).bind fun o37=>match o37 with|.x0=>(some true)|.x1=>(some false)
def X2m (a0:X15):Option (Int) :=
 (bif (a0.Count==(0:Int)) then (some (Xez a0 (X15.mk 0 0 0 0))) else (bif (a0.Count==(1:Int)) then (some (bif (a0.Sum==a0.Min) then (a0.Sum==a0.Max) else false)) else (bif (bif (decide (a0.Count>(1:Int))) then (decide (a0.Count<=(1073741824:Int))) else false) then (some (decide (a0.Min<=a0.Max))) else (some false))):Option (Bool)).bind fun j4_3=>bif (!j4_3) then (some 8) else (some 0)
def X64 (a0:X2):Option (Bool) :=
 bif (bif (bif (decide (a0.Span.Start<((-1100585369600):Int))) then true else (decide (a0.Span.End<=a0.Span.Start))) then true else (decide (a0.Span.End>(1100585369600:Int)))) then (some false) else (((X2m a0.Values.e0).bind fun v9=>bif (v9==(0:Int)) then ((X2m a0.Values.e1).bind fun v12=>bif (v12==(0:Int)) then (some (bif (bif (v9==(0:Int)) then (v12==(0:Int)) else false) then (decide ((IntKind.i64.wrap (a0.Values.e0.Count+a0.Values.e1.Count))>(0:Int))) else false)) else (some (bif (bif (v9==(0:Int)) then (v12==(0:Int)) else false) then false else false))) else (some (bif (bif (v9==(0:Int)) then false else false) then false else false)):Option (Bool)).bind fun j8_2=>some j8_2)
def X5e (a0:Int):Option (Bool) :=
 some (a0 != a0)
def X2s (a0:Int) (a1:Int):Option (Int) :=
 (X5e a0).bind fun v1=>(X5e a1).bind fun v3=>bif v1 then (bif v3 then (some 0) else (some (-1))) else (bif v3 then (some 1) else (bif (decide (a0<a1)) then (some (-1)) else (bif (decide (a0>a1)) then (some 1) else (some 0))))
inductive X6x where
 |x0
 |x1 (Xa1:Int)
def X5l (Xum:(List Int)):List Int->Nat->Option X6x
 |[],k=>some (.x0)
 |x::xs,k=>bif (x != (0:Int)) then (some (.x1 x)) else (X5l Xum xs (k+1))
def Xci (a0:(List Int)):Option (Int) :=
 (X5q (List.length a0)).bind fun u1=>(X5l  a0 a0 0).bind fun o7=>match o7 with|.x0=>(some 0)|.x1 Xa1=>(some Xa1)
def X65 (a0:X2) (a1:X2):Option (Int) :=
 (X2s a0.Span.End a1.Span.End).bind fun v1=>(X2s a0.Span.Start a1.Span.Start).bind fun v3=>(X2s a0.Key a1.Key).bind fun v5=>(Xci [v1,v3,v5]).bind fun v7=>some v7
inductive X5z where
 |x0
 |x1
def X2u (X19:(List X2)):List X2->Nat->Option X5z
 |[],k=>some (.x0)
 |x::xs,k=>((X64 x).bind fun v52=>bif (!v52) then (some true) else (bif (decide ((k:Int)>(0:Int))) then ((X3c X19 (IntKind.i64.wrap ((k:Int) - 1))).bind fun e56=>(X65 e56 x).bind fun v58=>some (bif (!v52) then true else (bif (decide ((k:Int)>(0:Int))) then (decide (v58 >= (0:Int))) else false))) else (some (bif (!v52) then true else false))):Option (Bool)).bind fun Xsi=>bif Xsi then (some (.x1)) else (X2u X19 xs (k+1))
def X4h (a0:(List X2)):Option (Int) :=
 bif (decide ((List.length a0:Int)>(4000:Int))) then (some 4) else ((X5q (List.length a0)).bind fun u2=>(X2u  a0 a0 0).bind fun o62=>match o62 with|.x0=>(some 0)|.x1=>(some 8))
def X8n (a0:Int):Option (Bool) :=
 (bif (a0==((-9223372036854775808):Int)) then (some (bif (a0==((-9223372036854775808):Int)) then true else false)) else ((X2v (Xh.mk 2 (Xl.mk 0 0 0) a0 (X1x.mk 0 (X05.mk 0 0) (V2.mk 0 0)))).bind fun v6=>some (bif (a0==((-9223372036854775808):Int)) then true else (v6==(0:Int)))):Option (Bool)).bind fun j4_2=>some j4_2
def Xc9 (a0:X1e):Option (Xh×Int) :=
 bif a0.Mark then (((X4s a0.Time).bind fun v6=>bif (!v6) then (some (bif (!v6) then true else false)) else (some (bif (!v6) then true else (!(X98 a0.Record (Xl.mk 0 0 0))))):Option (Bool)).bind fun Xyo=>bif Xyo then (some ((Xh.mk 0 (Xl.mk 0 0 0) 0 (X1x.mk 0 (X05.mk 0 0) (V2.mk 0 0))),8)) else (some ((Xh.mk 2 (Xl.mk 0 0 0) a0.Time (X1x.mk 0 (X05.mk 0 0) (V2.mk 0 0))),0))) else ((bif (a0.Time != (0:Int)) then (some (bif (a0.Time != (0:Int)) then true else false)) else ((X41 a0.Record.Time).bind fun v16=>some (bif (a0.Time != (0:Int)) then true else (!v16))):Option (Bool)).bind fun Xso=>bif Xso then (some ((Xh.mk 0 (Xl.mk 0 0 0) 0 (X1x.mk 0 (X05.mk 0 0) (V2.mk 0 0))),8)) else (some ((Xh.mk 1 a0.Record 0 (X1x.mk 0 (X05.mk 0 0) (V2.mk 0 0))),0)))
def X6q (a0:X1e):Option (Int) :=
 (Xc9 a0).bind fun v1=>some v1.2
inductive X8s where
 |x0 (Xe9:Bool)
def X3q (Xo:X0a) (Xbk:(List Int)):List Int->Nat->Bool->Option X8s
 |[],k,X9a=>some (.x0 X9a)
 |x::xs,k,X9a=>(bif X9a then ((X8n x).bind fun v74=>some (bif X9a then v74 else false)) else (some (bif X9a then false else false)):Option (Bool)).bind fun Xsh=>X3q Xo Xbk xs (k+1) Xsh
inductive X8r where
 |x0 (Xe8:Bool)
def X3p (Xfi:X0a) (Xbj:(List X1e)):List X1e->Nat->Bool->Option X8r
 |[],k,Xhy=>some (.x0 Xhy)
 |x::xs,k,Xhy=>(bif Xhy then ((X6q x).bind fun v103=>some (bif Xhy then (v103==(0:Int)) else false)) else (some (bif Xhy then false else false)):Option (Bool)).bind fun Xnm=>X3p Xfi Xbj xs (k+1) Xnm
inductive X8q where
 |x0 (Xe7:Bool)
def X3o (Xpd:X0a) (Xbi:(List X1x)):List X1x->Nat->Bool->Option X8q
 |[],k,Xhw=>some (.x0 Xhw)
 |x::xs,k,Xhw=>(bif Xhw then ((X2v (Xh.mk 3 (Xl.mk 0 0 0) 0 x)).bind fun v132=>some (bif Xhw then (v132==(0:Int)) else false)) else (some (bif Xhw then false else false)):Option (Bool)).bind fun Xnh=>X3o Xpd Xbi xs (k+1) Xnh
inductive X8p where
 |x0 (Xe6:Bool)
def X3n (Xpc:X0a) (Xbh:(List Xl)):List Xl->Nat->Bool->Option X8p
 |[],k,Xhv=>some (.x0 Xhv)
 |x::xs,k,Xhv=>(bif Xhv then ((X2v (Xh.mk 4 x 0 (X1x.mk 0 (X05.mk 0 0) (V2.mk 0 0)))).bind fun v161=>some (bif Xhv then (v161==(0:Int)) else false)) else (some (bif Xhv then false else false)):Option (Bool)).bind fun Xnb=>X3n Xpc Xbh xs (k+1) Xnb
inductive X8o where
 |x0 (Xe5:Bool)
def X3m (Xkp:X0a) (Xbg:(List X2)):List X2->Nat->Bool->Option X8o
 |[],k,Xgf=>some (.x0 Xgf)
 |x::xs,k,Xgf=>(bif Xgf then (bif (Xkp.Op.Kind != (4:Int)) then (some (bif Xgf then (bif (Xkp.Op.Kind != (4:Int)) then true else false) else false)) else (some (bif Xgf then (bif (Xkp.Op.Kind != (4:Int)) then true else (x.Values.e1.Count==(0:Int))) else false))) else (some (bif Xgf then false else false)):Option (Bool)).bind fun Xna=>X3m Xkp Xbg xs (k+1) Xna
def X8b (a0:X0a):Option (Int) :=
 (X8m a0.Op.Kind).bind fun v1=>(bif (decide ((List.length a0.Pending:Int)<=(4000:Int))) then (bif (decide ((List.length a0.Marks:Int) >= v1.1)) then (bif (decide ((List.length a0.Marks:Int)<=v1.2.1)) then ((X8l v1.2.2.1 4000).bind fun v21=>bif (decide ((List.length a0.Store:Int)<=v21)) then ((X8l v1.2.2.2.1 60).bind fun v24=>bif (decide ((List.length a0.Events:Int)<=v24)) then ((X8l v1.2.2.2.2.1 4000).bind fun v27=>bif (decide ((List.length a0.Rows:Int)<=v27)) then ((X8l v1.2.2.2.2.2 4000).bind fun v30=>some (bif (bif (bif (bif (bif (bif (decide ((List.length a0.Pending:Int)<=(4000:Int))) then (decide ((List.length a0.Marks:Int) >= v1.1)) else false) then (decide ((List.length a0.Marks:Int)<=v1.2.1)) else false) then (decide ((List.length a0.Store:Int)<=v21)) else false) then (decide ((List.length a0.Events:Int)<=v24)) else false) then (decide ((List.length a0.Rows:Int)<=v27)) else false) then (decide ((List.length a0.Late:Int)<=v30)) else false)) else (some false)) else (some false)) else (some false)) else (some false)) else (some false)) else (some false):Option (Bool)).bind fun Xj7=>(bif (!(bif (bif (bif (decide (a0.Turn >= (0:Int))) then (decide (a0.Turn<(20:Int))) else false) then (decide (a0.Op.N >= (0:Int))) else false) then (decide (a0.Op.N<(4:Int))) else false)) then (some (bif (bif (bif (!(bif (bif (bif (decide (a0.Turn >= (0:Int))) then (decide (a0.Turn<(20:Int))) else false) then (decide (a0.Op.N >= (0:Int))) else false) then (decide (a0.Op.N<(4:Int))) else false)) then true else false) then true else false) then true else false)) else (bif (!Xj7) then (some (bif (bif (bif (!(bif (bif (bif (decide (a0.Turn >= (0:Int))) then (decide (a0.Turn<(20:Int))) else false) then (decide (a0.Op.N >= (0:Int))) else false) then (decide (a0.Op.N<(4:Int))) else false)) then true else (!Xj7)) then true else false) then true else false)) else ((X8a a0.Pending).bind fun v43=>bif (!v43) then (some (bif (bif (bif (!(bif (bif (bif (decide (a0.Turn >= (0:Int))) then (decide (a0.Turn<(20:Int))) else false) then (decide (a0.Op.N >= (0:Int))) else false) then (decide (a0.Op.N<(4:Int))) else false)) then true else (!Xj7)) then true else (!v43)) then true else false)) else ((X4h a0.Store).bind fun v46=>some (bif (bif (bif (!(bif (bif (bif (decide (a0.Turn >= (0:Int))) then (decide (a0.Turn<(20:Int))) else false) then (decide (a0.Op.N >= (0:Int))) else false) then (decide (a0.Op.N<(4:Int))) else false)) then true else (!Xj7)) then true else (!v43)) then true else (v46 != (0:Int)))))):Option (Bool)).bind fun Xn3=>bif Xn3 then (some 8) else ((X5q (List.length a0.Marks)).bind fun u50=>(X3q  a0 a0.Marks a0.Marks 0 true).bind fun o77=>match o77 with|.x0 Xe9=>((X5q (List.length a0.Events)).bind fun u79=>(X3p  a0 a0.Events a0.Events 0 Xe9).bind fun o106=>match o106 with|.x0 Xe8=>((X5q (List.length a0.Rows)).bind fun u108=>(X3o  a0 a0.Rows a0.Rows 0 Xe8).bind fun o135=>match o135 with|.x0 Xe7=>((X5q (List.length a0.Late)).bind fun u137=>(X3n  a0 a0.Late a0.Late 0 Xe7).bind fun o164=>match o164 with|.x0 Xe6=>((X5q (List.length a0.Store)).bind fun u166=>(X3m  a0 a0.Store a0.Store 0 Xe6).bind fun o187=>match o187 with|.x0 Xe5=>(bif (!Xe5) then (some 8) else (some 0)))))))
def X99 (a0:Int):Option (X15) :=
 some (X15.mk 1 a0 a0 a0)
def X3t (a0:Int) (a1:Int):Option (Int) :=
 bif (bif (decide (a1<(1:Int))) then true else (decide (a1>(1073741824:Int)))) then (some 2) else (bif (bif (decide (a0<((-1099511627776):Int))) then true else (decide (a0>(1099511627776:Int)))) then (some 16) else (some 0))
def Xf4:List Int:=[0,1,2,2,3,3,3,3,4,4,4,4,4,4,4,4,5,5,5,5,5,5,5,5,5,5,5,5,5,5,5,5,6,6,6,6,6,6,6,6,6,6,6,6,6,6,6,6,6,6,6,6,6,6,6,6,6,6,6,6,6,6,6,6,7,7,7,7,7,7,7,7,7,7,7,7,7,7,7,7,7,7,7,7,7,7,7,7,7,7,7,7,7,7,7,7,7,7,7,7,7,7,7,7,7,7,7,7,7,7,7,7,7,7,7,7,7,7,7,7,7,7,7,7,7,7,7,7,8,8,8,8,8,8,8,8,8,8,8,8,8,8,8,8,8,8,8,8,8,8,8,8,8,8,8,8,8,8,8,8,8,8,8,8,8,8,8,8,8,8,8,8,8,8,8,8,8,8,8,8,8,8,8,8,8,8,8,8,8,8,8,8,8,8,8,8,8,8,8,8,8,8,8,8,8,8,8,8,8,8,8,8,8,8,8,8,8,8,8,8,8,8,8,8,8,8,8,8,8,8,8,8,8,8,8,8,8,8,8,8,8,8,8,8,8,8,8,8,8,8,8,8,8,8,8,8]
def X93 (a0:Int):Option (Int) :=
 (bif (decide (a0 >= (4294967296:Int))) then (some ((Int.fdiv a0 (2 ^ (min (Int.toNat 32) IntKind.u64.bits))),32)) else (some (a0,0)):Option (Int×Int)).bind fun w2=>(bif (decide (w2.1 >= (65536:Int))) then (some ((Int.fdiv w2.1 (2 ^ (min (Int.toNat 16) IntKind.u64.bits))),(IntKind.i64.wrap (w2.2+16)))) else (some (w2.1,w2.2)):Option (Int×Int)).bind fun w6=>(bif (decide (w6.1 >= (256:Int))) then (some ((Int.fdiv w6.1 (2 ^ (min (Int.toNat 8) IntKind.u64.bits))),(IntKind.i64.wrap (w6.2+8)))) else (some (w6.1,w6.2)):Option (Int×Int)).bind fun w10=>(X3c Xf4 (IntKind.u8.wrap w10.1)).bind fun b13=>some (IntKind.i64.wrap (w10.2+(IntKind.i64.wrap b13)))
def X84 (a0:Int):Option (Int) :=
 (X93 a0).bind fun v1=>some v1
inductive X12 where
 |x0 (Xcm:Int)
def Xu (X19:(List X2)) (Xo:X2) (y0_8:Int):Nat->Int->Int->Option X12
 |0,_,_=>none
 |n+1,Xr2,Xhz=>bif (decide (Xr2<Xhz)) then ((X3c X19 (IntKind.i64.wrap (Int.fdiv (IntKind.u64.wrap (IntKind.i64.wrap (Xr2+Xhz))) (2 ^ (min (Int.toNat 1) IntKind.u64.bits))))).bind fun e15=>(X65 e15 Xo).bind fun v17=>bif (decide (v17<(0:Int))) then (Xu X19 Xo y0_8 n (IntKind.i64.wrap ((IntKind.i64.wrap (Int.fdiv (IntKind.u64.wrap (IntKind.i64.wrap (Xr2+Xhz))) (2 ^ (min (Int.toNat 1) IntKind.u64.bits))))+1)) Xhz) else (Xu X19 Xo y0_8 n Xr2 (IntKind.i64.wrap (Int.fdiv (IntKind.u64.wrap (IntKind.i64.wrap (Xr2+Xhz))) (2 ^ (min (Int.toNat 1) IntKind.u64.bits)))))) else (some (.x0 Xr2))
def Xi (a0:(List X2)) (a1:X2):Option (Int×Bool) :=
 (Xu  a0 a1 (List.length a0:Int) FU 0 (List.length a0:Int)).bind fun o20=>match o20 with|.x0 Xcm=>((bif (decide (Xcm<(List.length a0:Int))) then ((X3c a0 Xcm).bind fun e29=>(X65 e29 a1).bind fun v31=>some (bif (decide (Xcm<(List.length a0:Int))) then (v31==(0:Int)) else false)) else (some false):Option (Bool)).bind fun Xz1=>some (Xcm,Xz1))
def X2i (a0:X15) (a1:X15):Option (X15×Int) :=
 ((X2m a0).bind fun v7=>bif (v7 != (0:Int)) then (some (bif (v7 != (0:Int)) then true else false)) else ((X2m a1).bind fun v10=>some (bif (v7 != (0:Int)) then true else (v10 != (0:Int)))):Option (Bool)).bind fun Xyn=>bif Xyn then (some ((X15.mk 0 0 0 0),8)) else (bif (decide ((IntKind.i64.wrap (a0.Count+a1.Count))>(1073741824:Int))) then (some ((X15.mk 0 0 0 0),4)) else (bif (a0.Count==(0:Int)) then (some (a1,0)) else (bif (a1.Count==(0:Int)) then (some (a0,0)) else (some ((X15.mk (IntKind.i64.wrap (a0.Count+a1.Count)) (IntKind.i64.wrap (a0.Sum+a1.Sum)) (if a1.Min<a0.Min then a1.Min else a0.Min) (if a1.Max>a0.Max then a1.Max else a0.Max)),0)))))
def X9e (a0:Int) (a1:Int):Option (Int) :=
 bif (bif (decide (a1<(1:Int))) then true else (decide (a1>(1073741824:Int)))) then (some 2) else (bif (bif (decide (a0<((-1099511627776):Int))) then true else (decide (a0>(1099511627776:Int)))) then (some 16) else (some 0))
def X6k (a0:Int) (a1:Int):Option (Int×Int) :=
 (X9e a0 a1).bind fun v1=>bif (v1 != (0:Int)) then (some (0,v1)) else ((Xt5 a1).bind fun u4=>(bif (decide ((Int.tmod a0 a1)<(0:Int))) then (some (IntKind.i64.wrap ((IntKind.i64.wrap (Int.tdiv a0 a1)) - 1))) else (some (IntKind.i64.wrap (Int.tdiv a0 a1))):Option (Int)).bind fun j7_7=>some (j7_7,0))
def Xa4 (a0:Int) (a1:Int):Option (X05×Int) :=
 (X6k a0 a1).bind fun v1=>bif (v1.2 != (0:Int)) then (some ((X05.mk 0 0),v1.2)) else (some ((X05.mk (IntKind.i64.wrap (v1.1*a1)) (IntKind.i64.wrap ((IntKind.i64.wrap (v1.1+1))*a1))),0))
inductive X9u where
 |x0 (X09:(List X05))
def X55 (X19:Int) (X75:Int) (X2p:Int):Nat->(List X05)->Int->Option X9u
 |0,_,_=>none
 |n+1,Xo,X9a=>bif (decide ((IntKind.i64.wrap (X9a+X75))>X19)) then ((X1w (List.length (Xo++[(X05.mk X9a (IntKind.i64.wrap (X9a+X75)))])) 16).bind fun u19=>X55 X19 X75 X2p n (Xo++[(X05.mk X9a (IntKind.i64.wrap (X9a+X75)))]) (IntKind.i64.wrap (X9a - X2p))) else (some (.x0 Xo))
inductive X7c where
 |x0 (X2d:(List X05)) (X4u:(List X05))
def X3e (X0k:(List X05)):Nat->(List X05)->Int->Option X7c
 |0,_,_=>none
 |n+1,X02,Xkr=>bif (decide (Xkr >= (0:Int))) then ((X3c X0k Xkr).bind fun e68=>(X1w (List.length (X02++[e68])) 16).bind fun u72=>X3e X0k n (X02++[e68]) (IntKind.i64.wrap (Xkr - 1))) else (some (.x0 X02 X0k))
def Xbo (a0:Int) (a1:Int) (a2:Int):Option ((List X05)×Int) :=
 bif (bif (bif (bif (decide ((if a2<a1 then a2 else a1)<(1:Int))) then true else (decide (a1>(1073741824:Int)))) then true else (decide (a2>a1))) then true else (decide (a1>(IntKind.i64.wrap (16*a2))))) then (some (([]:List X05),2)) else ((Xa4 a0 a2).bind fun v2=>bif (v2.2 != (0:Int)) then (some (([]:List X05),v2.2)) else ((X55  a0 a1 a2 FU ([]:List X05) v2.1.Start).bind fun o24=>match o24 with|.x0 X09=>((X3e  X09 FU ([]:List X05) (IntKind.i64.wrap ((List.length X09:Int) - 1))).bind fun o87=>match o87 with|.x0 X2d X4u=>(some (X2d,0)))))
def Xdb (a0:X0n) (a1:Int):Option ((List X05)×Int) :=
 (X18 a0).bind fun v1=>bif (v1 != (0:Int)) then (some (([]:List X05),v1)) else (bif (a0.Kind==(1:Int)) then ((Xa4 a1 a0.Size).bind fun v5=>bif (v5.2 != (0:Int)) then (some (([]:List X05),v5.2)) else (some ([v5.1],0))) else (bif (a0.Kind==(2:Int)) then ((Xbo a1 a0.Size a0.Every).bind fun v9=>some (v9.1,v9.2)) else (some (([]:List X05),2))))
inductive X03 where
 |x0
 |x1 (X9c:Int)
def Xk (X02:(List X2)) (X0k:X2):List X2->Nat->Option X03
 |[],k=>some (.x0)
 |x::xs,k=>bif (bif (bif (x.Key==X0k.Key) then (decide (x.Span.Start<X0k.Span.End)) else false) then (decide (X0k.Span.Start<x.Span.End)) else false) then (some (.x1 (k:Int))) else (Xk X02 X0k xs (k+1))
inductive X3x where
 |x0 (X2d:(List X2)) (Xge:Int)
def X1r:Nat->(List X2)->X2->Option X3x
 |0,_,_=>none
 |n+1,X02,X0k=>((X5q (List.length X02)).bind fun u1330=>(Xk  X02 X0k X02 0).bind fun o1342=>match o1342 with|.x0=>(some (-1))|.x1 X9c=>(some X9c):Option (Int)).bind fun Xcb=>bif (decide (Xcb<(0:Int))) then (((Xi X02 X0k).bind fun v1393=>bif (!v1393.2) then (bif (v1393.1==(List.length X02:Int)) then (((X76 X02 v1393.1 (List.length X02:Int)).bind fun m1405=>bif (List.isEmpty m1405) then ((X1w (List.length (X02++[X0k])) 88).bind fun u1408=>some ()) else ((X1w (List.length (X02++[X0k])) 88).bind fun u1410=>some ()):Option (Unit)).bind fun _=>some ((X02++[X0k]),0)) else ((Xq3 X02 v1393.1 X0k 88).bind fun m1413=>some (m1413,0))) else ((X3c X02 v1393.1).bind fun e1415=>((X2i e1415.Values.e0 X0k.Values.e0).bind fun v1430=>bif (v1430.2 != (0:Int)) then (some (X02,v1430.2)) else ((X2i (((X2.mk e1415.Key e1415.Span (V2.mk v1430.1 e1415.Values.e1)).Values).e1) X0k.Values.e1).bind fun v1435=>bif (v1435.2 != (0:Int)) then (some ((List.set X02 (Int.toNat v1393.1) (X2.mk e1415.Key e1415.Span (V2.mk v1430.1 e1415.Values.e1))),v1435.2)) else (some ((List.set (List.set X02 (Int.toNat v1393.1) (X2.mk e1415.Key e1415.Span (V2.mk v1430.1 e1415.Values.e1))) (Int.toNat v1393.1) (X2.mk ((X2.mk e1415.Key e1415.Span (V2.mk v1430.1 e1415.Values.e1)).Key) ((X2.mk e1415.Key e1415.Span (V2.mk v1430.1 e1415.Values.e1)).Span) (V2.mk (((X2.mk e1415.Key e1415.Span (V2.mk v1430.1 e1415.Values.e1)).Values).e0) v1435.1))),0))):Option ((List X2)×Int)).bind fun w1427=>some (w1427.1,w1427.2)):Option ((List X2)×Int)).bind fun w1392=>some (.x0 w1392.1 w1392.2)) else ((X3c X02 Xcb).bind fun e1440=>((X2i X0k.Values.e0 e1440.Values.e0).bind fun v1455=>bif (v1455.2 != (0:Int)) then (some (X0k,v1455.2)) else ((X2i X0k.Values.e1 e1440.Values.e1).bind fun v1460=>bif (v1460.2 != (0:Int)) then (some ((X2.mk X0k.Key X0k.Span (V2.mk v1455.1 X0k.Values.e1)),v1460.2)) else (some ((X2.mk X0k.Key X0k.Span (V2.mk v1455.1 v1460.1)),0))):Option (X2×Int)).bind fun w1452=>bif (w1452.2 != (0:Int)) then (some (.x0 ([]:List X2) w1452.2)) else ((delI X02 Xcb).bind fun m1465=>X1r n m1465 (X2.mk w1452.1.Key (X05.mk (if e1440.Span.Start<w1452.1.Span.Start then e1440.Span.Start else w1452.1.Span.Start) (if e1440.Span.End>w1452.1.Span.End then e1440.Span.End else w1452.1.Span.End)) w1452.1.Values)))
inductive X7k where
 |x0 (X09:(List X2))
 |x1 (X1l:(List X2)) (Xgd:Int)
def X4e (Xea:(List X05)):List X05->Nat->X2->(List X2)->Option X7k
 |[],k,Xo,Xn=>some (.x0 Xn)
 |x::xs,k,Xo,Xn=>((Xi Xn (X2.mk Xo.Key x Xo.Values)).bind fun v1891=>bif (!v1891.2) then (bif (v1891.1==(List.length Xn:Int)) then (((X76 Xn v1891.1 (List.length Xn:Int)).bind fun m1903=>bif (List.isEmpty m1903) then ((X1w (List.length (Xn++[(X2.mk Xo.Key x Xo.Values)])) 88).bind fun u1906=>some ()) else ((X1w (List.length (Xn++[(X2.mk Xo.Key x Xo.Values)])) 88).bind fun u1908=>some ()):Option (Unit)).bind fun _=>some ((X2.mk ((X2.mk Xo.Key x Xo.Values).Key) ((X2.mk Xo.Key x Xo.Values).Span) (V2.mk (((X2.mk Xo.Key x Xo.Values).Values).e0) (((X2.mk Xo.Key x Xo.Values).Values).e1))),(Xn++[(X2.mk Xo.Key x Xo.Values)]),0)) else ((Xq3 Xn v1891.1 (X2.mk Xo.Key x Xo.Values) 88).bind fun m1911=>some ((X2.mk Xo.Key x Xo.Values),m1911,0))) else ((X3c Xn v1891.1).bind fun e1913=>((X2i e1913.Values.e0 Xo.Values.e0).bind fun v1928=>bif (v1928.2 != (0:Int)) then (some (Xn,v1928.2)) else ((X2i (((X2.mk e1913.Key e1913.Span (V2.mk v1928.1 e1913.Values.e1)).Values).e1) Xo.Values.e1).bind fun v1933=>bif (v1933.2 != (0:Int)) then (some ((List.set Xn (Int.toNat v1891.1) (X2.mk e1913.Key e1913.Span (V2.mk v1928.1 e1913.Values.e1))),v1933.2)) else (some ((List.set (List.set Xn (Int.toNat v1891.1) (X2.mk e1913.Key e1913.Span (V2.mk v1928.1 e1913.Values.e1))) (Int.toNat v1891.1) (X2.mk ((X2.mk e1913.Key e1913.Span (V2.mk v1928.1 e1913.Values.e1)).Key) ((X2.mk e1913.Key e1913.Span (V2.mk v1928.1 e1913.Values.e1)).Span) (V2.mk (((X2.mk e1913.Key e1913.Span (V2.mk v1928.1 e1913.Values.e1)).Values).e0) v1933.1))),0))):Option ((List X2)×Int)).bind fun w1925=>some ((X2.mk ((X2.mk Xo.Key x Xo.Values).Key) ((X2.mk Xo.Key x Xo.Values).Span) (V2.mk (((X2.mk Xo.Key x Xo.Values).Values).e0) (((X2.mk Xo.Key x Xo.Values).Values).e1))),w1925.1,w1925.2)):Option (X2×(List X2)×Int)).bind fun w1890=>bif (w1890.2.2 != (0:Int)) then (some (.x1 ([]:List X2) w1890.2.2)) else (X4e Xea xs (k+1) w1890.1 w1890.2.1)
def X54 (a0:(List X2)) (a1:X0n) (a2:Xl) (a3:Int):Option ((List X2)×Int) :=
 (X4h a0).bind fun v1=>bif (v1 != (0:Int)) then (some (([]:List X2),v1)) else ((X18 a1).bind fun v4=>bif (v4 != (0:Int)) then (some (([]:List X2),v4)) else (bif (bif (a3 != (0:Int)) then (a3 != (1:Int)) else false) then (some (([]:List X2),2)) else (bif (bif (decide (a2.Time<((-1099511627776):Int))) then true else (decide (a2.Time>(1099511627776:Int)))) then (some (([]:List X2),16)) else (((X99 a2.Value).bind fun v14=>bif (a3==(0:Int)) then (some (X2.mk a2.Key (X05.mk 0 0) (V2.mk v14 (X15.mk 0 0 0 0)))) else (bif (a3==(1:Int)) then (some (X2.mk a2.Key (X05.mk 0 0) (V2.mk (X15.mk 0 0 0 0) v14))) else none):Option (X2)).bind fun Xfc=>(bif (List.isEmpty a0) then (some a0) else ((X1w (List.length a0) 88).bind fun u28=>some a0):Option ((List X2))).bind fun Xfb=>bif (a1.Kind==(3:Int)) then (((X3t 0 a1.Size).bind fun v51=>bif (v51 != (0:Int)) then (some (([]:List X05),v51)) else ((X3t a2.Time a1.Size).bind fun v54=>bif (v54 != (0:Int)) then (some (([]:List X05),v54)) else ((X84 1).bind fun v67=>some ([(X05.mk a2.Time (IntKind.i64.wrap (a2.Time+a1.Size)))],0))):Option ((List X05)×Int)).bind fun w50=>bif (w50.2 != (0:Int)) then (some (([]:List X2),w50.2)) else ((X3c w50.1 0).bind fun e71=>((X1r  FU Xfb (X2.mk Xfc.Key e71 Xfc.Values)).bind fun o1548=>match o1548 with|.x0 X2d Xge=>(some (X2d,Xge)):Option ((List X2)×Int)).bind fun w811=>bif (w811.2 != (0:Int)) then (some (([]:List X2),w811.2)) else (bif (decide ((List.length w811.1:Int)>(4000:Int))) then (some (([]:List X2),4)) else (some (w811.1,0))))) else ((Xdb a1 a2.Time).bind fun v1558=>bif (v1558.2 != (0:Int)) then (some (([]:List X2),v1558.2)) else ((X5q (List.length v1558.1)).bind fun u1561=>(X4e  v1558.1 v1558.1 0 Xfc Xfb).bind fun o1984=>match o1984 with|.x0 X09=>(bif (decide ((List.length X09:Int)>(4000:Int))) then (some (([]:List X2),4)) else (some (X09,0)))|.x1 X1l Xgd=>(some (X1l,Xgd))))))))
def X4v (a0:(List X13)):Option ((List X13)) :=
 bif (List.isEmpty a0) then (some a0) else ((X1w (List.length a0) 88).bind fun u4=>some a0)
def X1m (a0:(List Int)):Option ((List Int)) :=
 bif (List.isEmpty a0) then (some a0) else ((X1w (List.length a0) 8).bind fun u4=>some a0)
def X1o (a0:(List X2)):Option ((List X2)) :=
 bif (List.isEmpty a0) then (some a0) else ((X1w (List.length a0) 88).bind fun u4=>some a0)
def X1n (a0:(List X1e)):Option ((List X1e)) :=
 bif (List.isEmpty a0) then (some a0) else ((X1w (List.length a0) 40).bind fun u4=>some a0)
def X2j (a0:(List X1x)):Option ((List X1x)) :=
 bif (List.isEmpty a0) then (some a0) else ((X1w (List.length a0) 40).bind fun u4=>some a0)
def X1b (a0:(List Xl)):Option ((List Xl)) :=
 bif (List.isEmpty a0) then (some a0) else ((X1w (List.length a0) 24).bind fun u4=>some a0)
def X3d (a0:X0a) (a1:(List X13)):Option (X0a×Int) :=
 (X8b a0).bind fun v1=>bif (v1 != (0:Int)) then (some ((X0a.mk (GOp.mk 0 0) 0 ([]:List X13) ([]:List Int) ([]:List X2) ([]:List X1e) ([]:List X1x) ([]:List Xl)),v1)) else ((X8a a1).bind fun v4=>bif (!v4) then (some ((X0a.mk (GOp.mk 0 0) 0 ([]:List X13) ([]:List Int) ([]:List X2) ([]:List X1e) ([]:List X1x) ([]:List Xl)),8)) else (bif (decide ((List.length a1:Int)>(IntKind.i64.wrap (4000 - (List.length a0.Pending:Int))))) then (some ((X0a.mk (GOp.mk 0 0) 0 ([]:List X13) ([]:List Int) ([]:List X2) ([]:List X1e) ([]:List X1x) ([]:List Xl)),4)) else (bif (List.isEmpty a0.Pending) then ((X1m a0.Marks).bind fun v33=>(X1o a0.Store).bind fun v35=>(X1n a0.Events).bind fun v37=>(X2j a0.Rows).bind fun v39=>(X1b a0.Late).bind fun v41=>bif (List.isEmpty a1) then (some ((X0a.mk a0.Op a0.Turn a1 v33 v35 v37 v39 v41),0)) else ((X1w (List.length a1) 88).bind fun u44=>some ((X0a.mk a0.Op a0.Turn a1 v33 v35 v37 v39 v41),0))) else ((X4v a0.Pending).bind fun v46=>(X1m a0.Marks).bind fun v48=>(X1o a0.Store).bind fun v50=>(X1n a0.Events).bind fun v52=>(X2j a0.Rows).bind fun v54=>(X1b a0.Late).bind fun v56=>bif (List.isEmpty a1) then (some ((X0a.mk a0.Op a0.Turn v46 v48 v50 v52 v54 v56),0)) else ((X1w (List.length (v46++a1)) 88).bind fun u59=>none)))))
def X6g (a0:Int):Option (Bool) :=
 (X2v (Xh.mk 2 (Xl.mk 0 0 0) a0 (X1x.mk 0 (X05.mk 0 0) (V2.mk 0 0)))).bind fun v1=>some (v1==(0:Int))
inductive X61 where
 |x0
 |x1
def X42 (Xgh:(List Int)):List Int->Nat->Option X61
 |[],k=>some (.x0)
 |x::xs,k=>(bif (x != ((-9223372036854775808):Int)) then ((X6g x).bind fun v32=>some (bif (x != ((-9223372036854775808):Int)) then (!v32) else false)) else (some (bif (x != ((-9223372036854775808):Int)) then false else false)):Option (Bool)).bind fun Xsk=>bif Xsk then (some (.x1)) else (X42 Xgh xs (k+1))
def X94 (a0:(List Int)):Option (Int) :=
 (bif ((List.length a0:Int)==(0:Int)) then (some (bif ((List.length a0:Int)==(0:Int)) then true else false)) else (some (bif ((List.length a0:Int)==(0:Int)) then true else (decide ((List.length a0:Int)>(4:Int))))):Option (Bool)).bind fun Xyz=>bif Xyz then (some 8) else ((X5q (List.length a0)).bind fun u6=>(X42  a0 a0 0).bind fun o36=>match o36 with|.x0=>(some 0)|.x1=>(some 8))
inductive X3f where
 |x0 (Xio:Int)
def X0y (X19:(List Int)):Nat->Int->Int->Option X3f
 |0,_,_=>none
 |n+1,Xkr,Xwv=>bif (decide (Xwv<(List.length X19:Int))) then ((X3c X19 Xwv).bind fun e13=>X0y X19 n (if e13<Xkr then e13 else Xkr) (IntKind.i64.wrap (Xwv+1))) else (some (.x0 Xkr))
def X24 (a0:(List Int)):Option (Int) :=
 bif (decide ((List.length a0:Int)<(1:Int))) then none else ((X3c a0 0).bind fun e3=>(X0y  a0 FU e3 1).bind fun o15=>match o15 with|.x0 Xio=>(some Xio))
def X59 (a0:(List Int)):Option (Int×Int) :=
 (X94 a0).bind fun v1=>bif (v1 != (0:Int)) then (some (0,v1)) else ((X24 a0).bind fun v4=>some (v4,0))
def X6b (a0:(List Int)) (a1:Int) (a2:Int):Option ((List Int)×Bool×Int) :=
 (X59 a0).bind fun v1=>bif (v1.2 != (0:Int)) then (some (([]:List Int),false,v1.2)) else ((bif (decide (a1<(0:Int))) then (some (bif (bif (decide (a1<(0:Int))) then true else false) then true else false)) else (bif (decide (a1 >= (List.length a0:Int))) then (some (bif (bif (decide (a1<(0:Int))) then true else (decide (a1 >= (List.length a0:Int)))) then true else false)) else ((X6g a2).bind fun v11=>some (bif (bif (decide (a1<(0:Int))) then true else (decide (a1 >= (List.length a0:Int)))) then true else (!v11)))):Option (Bool)).bind fun Xym=>bif Xym then (some (([]:List Int),false,2)) else ((bif (List.isEmpty a0) then (some a0) else ((X1w (List.length a0) 8).bind fun u24=>some a0):Option ((List Int))).bind fun Xhb=>(X3c Xhb a1).bind fun e27=>(X24 (List.set Xhb (Int.toNat a1) (if a2>e27 then a2 else e27))).bind fun v29=>some ((List.set Xhb (Int.toNat a1) (if a2>e27 then a2 else e27)),(decide (v29>v1.1)),0)))
inductive X8t where
 |x0 (X09:(List X2)) (X0b:(List X2))
def X3r (X75:Int) (X2z:(List X2)):List X2->Nat->(List X2)->(List X2)->Option X8t
 |[],k,Xo,Xn=>some (.x0 Xo Xn)
 |x::xs,k,Xo,Xn=>(bif (decide (x.Span.End<=X75)) then ((X1w (List.length (Xo++[x])) 88).bind fun u110=>some ((Xo++[x]),Xn)) else ((X1w (List.length (Xn++[x])) 88).bind fun u112=>some (Xo,(Xn++[x]))):Option ((List X2)×(List X2))).bind fun w108=>X3r X75 X2z xs (k+1) w108.1 w108.2
def X7a (a0:(List X2)) (a1:Int):Option ((List X2)×(List X2)×Int) :=
 (X4h a0).bind fun v1=>bif (v1 != (0:Int)) then (some (([]:List X2),([]:List X2),v1)) else ((X5q (List.length a0)).bind fun u4=>(X3r  a1 a0 a0 0 ([]:List X2) ([]:List X2)).bind fun o151=>match o151 with|.x0 X09 X0b=>(some (X09,X0b,0)))
def X6h (a0:Int) (a1:X15):Option (Int×Int) :=
 bif (bif (decide (a0<(1:Int))) then true else (decide (a0>(4:Int)))) then (some (0,2)) else ((X2m a1).bind fun v2=>bif (v2 != (0:Int)) then (some (0,v2)) else (bif (a1.Count==(0:Int)) then (some (0,6)) else ((bif (a0==(0:Int)) then (some 0) else (bif (a0==(1:Int)) then (some a1.Count) else (bif (a0==(2:Int)) then (some a1.Sum) else (bif (a0==(3:Int)) then (some a1.Min) else (bif (a0==(4:Int)) then (some a1.Max) else none)))):Option (Int)).bind fun Xz3=>some (Xz3,0))))
def Xdq (a0:X06) (a1:X2):Option (X1x×Bool) :=
 (X6h a0.Agg a1.Values.e0).bind fun v1=>(X6h a0.Agg a1.Values.e1).bind fun v3=>bif (bif (v1.2 != (0:Int)) then true else (v3.2 != (0:Int))) then (some ((X1x.mk 0 (X05.mk 0 0) (V2.mk 0 0)),false)) else (some ((X1x.mk a1.Key a1.Span (V2.mk v1.1 v3.1)),true))
inductive X9y where
 |x0 (X2a:(List X13))
def X3b (Xo:X06) (Xn:X0a) (X2t:X0a) (Xa2:(List X2)):List X2->Nat->(List X13)->Option X9y
 |[],k,X02=>some (.x0 X02)
 |x::xs,k,X02=>(Xdq Xo x).bind fun v70=>(bif v70.2 then ((X1w (List.length (X02++[(X13.mk 0 (Xh.mk 3 (Xl.mk 0 0 0) 0 v70.1))])) 88).bind fun u77=>some (X02++[(X13.mk 0 (Xh.mk 3 (Xl.mk 0 0 0) 0 v70.1))])) else (some X02):Option ((List X13))).bind fun Xli=>X3b Xo Xn X2t Xa2 xs (k+1) Xli
def X4q (a0:X06) (a1:X0a) (a2:Int) (a3:Xh):Option (X0a×Int) :=
 (X6s a0).bind fun v1=>bif (!v1) then (some ((X0a.mk (GOp.mk 0 0) 0 ([]:List X13) ([]:List Int) ([]:List X2) ([]:List X1e) ([]:List X1x) ([]:List Xl)),8)) else ((X8b a1).bind fun v4=>bif (v4 != (0:Int)) then (some ((X0a.mk (GOp.mk 0 0) 0 ([]:List X13) ([]:List Int) ([]:List X2) ([]:List X1e) ([]:List X1x) ([]:List Xl)),v4)) else (bif (bif (bif (a1.Op.Kind != (5:Int)) then true else (decide (a2<(0:Int)))) then true else (decide (a2>(1:Int)))) then (some ((X0a.mk (GOp.mk 0 0) 0 ([]:List X13) ([]:List Int) ([]:List X2) ([]:List X1e) ([]:List X1x) ([]:List Xl)),2)) else ((X2v a3).bind fun v8=>bif (bif (v8 != (0:Int)) then true else (bif (a3.Kind != (1:Int)) then (a3.Kind != (2:Int)) else false)) then (some ((X0a.mk (GOp.mk 0 0) 0 ([]:List X13) ([]:List Int) ([]:List X2) ([]:List X1e) ([]:List X1x) ([]:List Xl)),8)) else (bif (decide ((List.length a1.Pending:Int)>(0:Int))) then (some ((X0a.mk (GOp.mk 0 0) 0 ([]:List X13) ([]:List Int) ([]:List X2) ([]:List X1e) ([]:List X1x) ([]:List Xl)),18)) else (bif (a3.Kind==(1:Int)) then ((X54 a1.Store a0.Window a3.Record a2).bind fun v13=>bif (v13.2 != (0:Int)) then (some ((X0a.mk (GOp.mk 0 0) 0 ([]:List X13) ([]:List Int) ([]:List X2) ([]:List X1e) ([]:List X1x) ([]:List Xl)),v13.2)) else ((X3d (X0a.mk a1.Op a1.Turn a1.Pending a1.Marks v13.1 a1.Events a1.Rows a1.Late) ([]:List X13)).bind fun v16=>some (v16.1,v16.2))) else ((X6b a1.Marks a2 a3.Time).bind fun v18=>bif (!v18.2.1) then ((X3d (X0a.mk a1.Op a1.Turn a1.Pending v18.1 a1.Store a1.Events a1.Rows a1.Late) ([]:List X13)).bind fun v21=>some (v21.1,v21.2)) else ((X59 v18.1).bind fun v23=>(X7a a1.Store v23.1).bind fun v25=>(X5q (List.length v25.1)).bind fun u27=>(X3b  a0 (X0a.mk a1.Op a1.Turn a1.Pending v18.1 v25.2.1 a1.Events a1.Rows a1.Late) (X0a.mk (GOp.mk 0 0) 0 ([]:List X13) ([]:List Int) ([]:List X2) ([]:List X1e) ([]:List X1x) ([]:List Xl)) v25.1 v25.1 0 ([]:List X13)).bind fun o90=>match o90 with|.x0 X2a=>((X3d (X0a.mk a1.Op a1.Turn a1.Pending v18.1 v25.2.1 a1.Events a1.Rows a1.Late) X2a).bind fun v92=>some (v92.1,v92.2)))))))))
inductive X7y where
 |x0 (Xam:(List X1x))
def X43 (y1_1:(List Int)) (y1_2:(List Xh)) (Xfi:X06) (Xr0:X0a) (Xqz:X0a) (Xr1:Int) (Xgg:X0a):Nat->(List X1x)->Int->Option X7y
 |0,_,_=>none
 |n+1,Xhx,Xkq=>bif (decide (Xkq<(List.length Xgg.Pending:Int))) then ((X3c Xgg.Pending Xkq).bind fun e166=>(X1w (List.length (Xhx++[e166.Message.Row])) 40).bind fun u168=>X43 y1_1 y1_2 Xfi Xr0 Xqz Xr1 Xgg n (Xhx++[e166.Message.Row]) (IntKind.i64.wrap (Xkq+1))) else (some (.x0 Xhx))
inductive X62 where
 |x0 (X0b:X0a) (X2a:(List X1x))
 |x1 (X52:(List X1x))
def X0s (X75:(List Int)) (X2p:(List Xh)) (Xo:X06) (Xn:X0a):List Xh->Nat->X0a->(List X1x)->Option X62
 |[],k,X2t,X02=>some (.x0 X2t X02)
 |x::xs,k,X2t,X02=>(X3c X75 (k:Int)).bind fun e139=>(X4q Xo X2t e139 x).bind fun v141=>bif (v141.2 != (0:Int)) then (some (.x1 ([]:List X1x))) else ((X43  X75 X2p Xo Xn X2t (k:Int) v141.1 FU X02 0).bind fun o175=>match o175 with|.x0 Xam=>(X0s X75 X2p Xo Xn xs (k+1) (X0a.mk v141.1.Op v141.1.Turn ([]:List X13) v141.1.Marks v141.1.Store v141.1.Events v141.1.Rows v141.1.Late) Xam))
def X4j (a0:X06) (a1:(List Int)) (a2:(List Xh)):Option (X0a×(List X1x)×Bool) :=
 (Xg7 0).bind fun v1=>bif (v1.2 != (0:Int)) then (some ((X0a.mk (GOp.mk 0 0) 0 ([]:List X13) ([]:List Int) ([]:List X2) ([]:List X1e) ([]:List X1x) ([]:List Xl)),([]:List X1x),false)) else ((X5q (List.length a2)).bind fun u4=>(X0s  a1 a2 a0 (X0a.mk (GOp.mk 0 0) 0 ([]:List X13) ([]:List Int) ([]:List X2) ([]:List X1e) ([]:List X1x) ([]:List Xl)) a2 0 v1.1 ([]:List X1x)).bind fun o205=>match o205 with|.x0 X0b X2a=>(some (X0b,X2a,true))|.x1 X52=>(some ((X0a.mk ((X0a.mk (GOp.mk 0 0) 0 ([]:List X13) ([]:List Int) ([]:List X2) ([]:List X1e) ([]:List X1x) ([]:List Xl)).Op) ((X0a.mk (GOp.mk 0 0) 0 ([]:List X13) ([]:List Int) ([]:List X2) ([]:List X1e) ([]:List X1x) ([]:List Xl)).Turn) ((X0a.mk (GOp.mk 0 0) 0 ([]:List X13) ([]:List Int) ([]:List X2) ([]:List X1e) ([]:List X1x) ([]:List Xl)).Pending) ((X0a.mk (GOp.mk 0 0) 0 ([]:List X13) ([]:List Int) ([]:List X2) ([]:List X1e) ([]:List X1x) ([]:List Xl)).Marks) ((X0a.mk (GOp.mk 0 0) 0 ([]:List X13) ([]:List Int) ([]:List X2) ([]:List X1e) ([]:List X1x) ([]:List Xl)).Store) ((X0a.mk (GOp.mk 0 0) 0 ([]:List X13) ([]:List Int) ([]:List X2) ([]:List X1e) ([]:List X1x) ([]:List Xl)).Events) ((X0a.mk (GOp.mk 0 0) 0 ([]:List X13) ([]:List Int) ([]:List X2) ([]:List X1e) ([]:List X1x) ([]:List Xl)).Rows) ((X0a.mk (GOp.mk 0 0) 0 ([]:List X13) ([]:List Int) ([]:List X2) ([]:List X1e) ([]:List X1x) ([]:List Xl)).Late)),X52,false)))
def Xh6 (a0:Int) (a1:Int) (a2:Int) (a3:Int):Option (X1x) :=
 some (X1x.mk a0 (X05.mk a1 (IntKind.i64.wrap (a1+10))) (V2.mk a2 a3))
inductive X6r where
 |x0
 |x1
def X4k (X19:(List X1x)) (X75:(List X1x)):List X1x->Nat->Option X6r
 |[],k=>some (.x0)
 |x::xs,k=>(X3c X75 (k:Int)).bind fun e11=>bif (!(Xdz x e11)) then (some (.x1)) else (X4k X19 X75 xs (k+1))
def X8h (a0:(List X1x)) (a1:(List X1x)):Option (Bool) :=
 bif ((List.length a0:Int) != (List.length a1:Int)) then (some false) else ((X5q (List.length a0)).bind fun u2=>(X4k  a0 a1 a0 0).bind fun o14=>match o14 with|.x0=>(some true)|.x1=>(some false))
def Xax:Option (Bool) :=
 (Xen).bind fun v1=>(Xdl 0 1 4).bind fun v3=>(Xdl 0 1 6).bind fun v5=>(Xae 10).bind fun v7=>(X4j v1 [0,1,0,1] [v3,v5,v7,v7]).bind fun v9=>(bif v9.2.2 then ((Xh6 0 0 4 6).bind fun v19=>(X8h v9.2.1 [v19]).bind fun v21=>bif v21 then (some (bif (bif v9.2.2 then v21 else false) then ((List.length v9.1.Store:Int)==(0:Int)) else false)) else (some (bif (bif v9.2.2 then v21 else false) then false else false))) else (some (bif (bif v9.2.2 then false else false) then false else false)):Option (Bool)).bind fun Xz2=>some Xz2
def X95 (a0:X06):Option (Bool) :=
 (bif (decide ((List.length a0.Arg:Int)>(100:Int))) then (some (bif (bif (decide ((List.length a0.Arg:Int)>(100:Int))) then true else false) then true else false)) else (bif (decide ((List.length a0.Where:Int)>(100:Int))) then (some (bif (bif (decide ((List.length a0.Arg:Int)>(100:Int))) then true else (decide ((List.length a0.Where:Int)>(100:Int)))) then true else false)) else (some (bif (bif (decide ((List.length a0.Arg:Int)>(100:Int))) then true else (decide ((List.length a0.Where:Int)>(100:Int)))) then true else (decide ((List.length a0.Sources:Int)>(20:Int)))))):Option (Bool)).bind fun j3_2=>some j3_2
def Xat (a0:Int):Option (Int) :=
 bif (decide (a0<=(4:Int))) then (some 0) else (bif (decide (a0<=(6:Int))) then (some 1) else (some 2))
def X69 (a0:X07) (a1:Int) (a2:Int):Option (Bool) :=
 some (bif (bif (bif (bif (bif (bif (bif (decide (a0.Kind >= (1:Int))) then (decide (a0.Kind<=(19:Int))) else false) then (decide (a0.N >= (0:Int))) else false) then (bif (a0.N==(0:Int)) then true else (a0.Kind==(1:Int))) else false) then (decide (a0.At >= (0:Int))) else false) then (decide (a0.At<=(400:Int))) else false) then (a0.A==a1) else false) then (a0.B==a2) else false)
inductive X4o where
 |x0 (X09:(List Int)) (X0b:(List Int))
 |x1 (X1l:(List Int)) (X52:(List Int))
def X1q (X19:(List X07)):List X07->Nat->(List Int)->(List Int)->Option X4o
 |[],k,Xo,Xn=>some (.x0 Xo Xn)
 |x::xs,k,Xo,Xn=>(Xat x.Kind).bind fun v156=>bif (decide (v156>(0:Int))) then (bif (decide ((IntKind.i64.wrap ((k:Int) - 1))<(0:Int))) then (some (.x1 ([]:List Int) ([]:List Int))) else ((X3c Xo (IntKind.i64.wrap ((k:Int) - 1))).bind fun e160=>(X3c Xn (IntKind.i64.wrap ((k:Int) - 1))).bind fun e162=>bif (v156==(2:Int)) then (bif (decide ((IntKind.i64.wrap ((IntKind.i64.wrap ((k:Int) - 1)) - e160))<(0:Int))) then (some (.x1 ([]:List Int) ([]:List Int))) else ((X3c Xo (IntKind.i64.wrap ((IntKind.i64.wrap ((k:Int) - 1)) - e160))).bind fun e166=>(X3c Xn (IntKind.i64.wrap ((IntKind.i64.wrap ((k:Int) - 1)) - e160))).bind fun e168=>(X69 x (IntKind.i64.wrap ((IntKind.i64.wrap ((k:Int) - 1)) - e160)) (IntKind.i64.wrap ((k:Int) - 1))).bind fun v170=>bif (!v170) then (some (.x1 ([]:List Int) ([]:List Int))) else ((X1w (List.length (Xo++[(IntKind.i64.wrap ((IntKind.i64.wrap (1+e160))+e166))])) 8).bind fun u173=>(X1w (List.length (Xn++[(if (IntKind.i64.wrap (1+e168))>(IntKind.i64.wrap (1+e162)) then (IntKind.i64.wrap (1+e168)) else (IntKind.i64.wrap (1+e162)))])) 8).bind fun u175=>X1q X19 xs (k+1) (Xo++[(IntKind.i64.wrap ((IntKind.i64.wrap (1+e160))+e166))]) (Xn++[(if (IntKind.i64.wrap (1+e168))>(IntKind.i64.wrap (1+e162)) then (IntKind.i64.wrap (1+e168)) else (IntKind.i64.wrap (1+e162)))])))) else ((X69 x (IntKind.i64.wrap ((k:Int) - 1)) 0).bind fun v177=>bif (!v177) then (some (.x1 ([]:List Int) ([]:List Int))) else ((X1w (List.length (Xo++[(IntKind.i64.wrap (1+e160))])) 8).bind fun u180=>(X1w (List.length (Xn++[(IntKind.i64.wrap (1+e162))])) 8).bind fun u182=>X1q X19 xs (k+1) (Xo++[(IntKind.i64.wrap (1+e160))]) (Xn++[(IntKind.i64.wrap (1+e162))]))))) else ((X69 x 0 0).bind fun v184=>bif (!v184) then (some (.x1 ([]:List Int) ([]:List Int))) else ((X1w (List.length (Xo++[1])) 8).bind fun u187=>(X1w (List.length (Xn++[1])) 8).bind fun u189=>X1q X19 xs (k+1) (Xo++[1]) (Xn++[1])))
def Xas (a0:(List X07)):Option ((List Int)×(List Int)×Bool) :=
 (X5q (List.length a0)).bind fun u1=>(X1q  a0 a0 0 ([]:List Int) ([]:List Int)).bind fun o232=>match o232 with|.x0 X09 X0b=>((bif (decide ((List.length a0:Int)>(0:Int))) then ((X3c X09 (IntKind.i64.wrap ((List.length a0:Int) - 1))).bind fun e239=>some (bif (decide ((List.length a0:Int)>(0:Int))) then (e239==(List.length a0:Int)) else false)) else (some false):Option (Bool)).bind fun Xsn=>some (X09,X0b,Xsn))|.x1 X1l X52=>(some (X1l,X52,false))
def X4i (a0:(List X07)):Option (Int) :=
 bif (decide ((List.length a0:Int)>(60:Int))) then (some 4) else ((Xas a0).bind fun v2=>bif (!v2.2.2) then (some 8) else ((X3c v2.2.1 (IntKind.i64.wrap ((List.length a0:Int) - 1))).bind fun e5=>bif (decide (e5>(20:Int))) then (some 34) else (some 0)))
inductive X50 where
 |x0
 |x1
def X34 (X19:(List Int)):List Int->Nat->Option X50
 |[],k=>some (.x0)
 |x::xs,k=>(bif (decide (x<(0:Int))) then (some (bif (decide (x<(0:Int))) then true else false)) else (some (bif (decide (x<(0:Int))) then true else (decide (x>(3:Int))))):Option (Bool)).bind fun Xsm=>bif Xsm then (some (.x1)) else (X34 X19 xs (k+1))
inductive X4y where
 |x0
 |x1
def X33 (Xxp:(List Int)) (Xxo:Int):Nat->Int->Option X4y
 |0,_=>none
 |n+1,Xwu=>bif (decide (Xwu<Xxo)) then ((X3c Xxp Xwu).bind fun e86=>(X3c Xxp Xxo).bind fun e88=>bif (e86==e88) then (some (.x0)) else (X33 Xxp Xxo n (IntKind.i64.wrap (Xwu+1)))) else (some (.x1))
inductive X4z where
 |x0
 |x1
def X2l (Xqm:(List Int)):List Int->Nat->Option X4z
 |[],k=>some (.x0)
 |x::xs,k=>(X33  Xqm (k:Int) FU 0).bind fun o91=>match o91 with|.x0=>(some (.x1))|.x1=>(X2l Xqm xs (k+1))
def X6o (a0:(List Int)) (a1:Bool):Option (Int) :=
 bif (decide ((List.length a0:Int)>(4:Int))) then (some 4) else ((bif ((List.length a0:Int)==(0:Int)) then (some (bif ((List.length a0:Int)==(0:Int)) then true else false)) else (bif a1 then (some (bif ((List.length a0:Int)==(0:Int)) then true else (bif a1 then ((List.length a0:Int) != (2:Int)) else false))) else (some (bif ((List.length a0:Int)==(0:Int)) then true else (bif a1 then false else false)))):Option (Bool)).bind fun Xyp=>bif Xyp then (some 8) else ((X5q (List.length a0)).bind fun u9=>(X34  a0 a0 0).bind fun o27=>match o27 with|.x0=>((X2l  a0 a0 0).bind fun o93=>match o93 with|.x0=>(some 0)|.x1=>(some 43))|.x1=>(some 8)))
def X7d (a0:X0n):Option (Bool) :=
 bif (bif (decide (a0.Size<(1:Int))) then true else (decide (a0.Size>(1073741824:Int)))) then (some false) else (bif (a0.Kind==(2:Int)) then (some (bif (bif (decide (a0.Every >= (1:Int))) then (decide (a0.Every<=a0.Size)) else false) then (decide (a0.Size<=(IntKind.i64.wrap (16*a0.Every)))) else false)) else (some (bif (bif (a0.Kind==(1:Int)) then true else (a0.Kind==(3:Int))) then (a0.Every==(0:Int)) else false)))
def X8z (a0:X06):Option (Int) :=
 bif (bif (bif (bif (decide (a0.Agg<(1:Int))) then true else (decide (a0.Agg>(4:Int)))) then true else (decide (a0.Late<(1:Int)))) then true else (decide (a0.Late>(2:Int)))) then (some 8) else ((bif (a0.Agg==(1:Int)) then (some (bif (a0.Agg==(1:Int)) then (decide ((List.length a0.Arg:Int)>(0:Int))) else false)) else (some (bif (a0.Agg==(1:Int)) then false else false)):Option (Bool)).bind fun Xyw=>bif Xyw then (some 8) else ((bif (a0.Agg != (1:Int)) then ((X4i a0.Arg).bind fun v12=>some (bif (a0.Agg != (1:Int)) then (v12 != (0:Int)) else false)) else (some (bif (a0.Agg != (1:Int)) then false else false)):Option (Bool)).bind fun Xsq=>bif Xsq then ((X4i a0.Arg).bind fun v16=>some v16) else ((bif (decide ((List.length a0.Where:Int)>(0:Int))) then ((X4i a0.Where).bind fun v23=>some (bif (decide ((List.length a0.Where:Int)>(0:Int))) then (v23 != (0:Int)) else false)) else (some (bif (decide ((List.length a0.Where:Int)>(0:Int))) then false else false)):Option (Bool)).bind fun Xlj=>bif Xlj then ((X4i a0.Where).bind fun v27=>some v27) else ((X6o a0.Sources a0.Join).bind fun v29=>bif (v29 != (0:Int)) then (some v29) else ((X7d a0.Window).bind fun v32=>bif (bif (!v32) then true else (bif a0.Join then (a0.Window.Kind != (1:Int)) else false)) then (some 8) else (some 0))))))
def X68 (a0:Int):Option (Bool) :=
 some (bif (a0==(6:Int)) then true else (decide (a0 >= (12:Int))))
def Xa9 (a0:(List X07)) (a1:Int):Option (Bool) :=
 (X3c a0 a1).bind fun e1=>(X3c a0 e1.A).bind fun e3=>(X68 e3.Kind).bind fun v5=>(X3c a0 e1.B).bind fun e7=>(X68 e7.Kind).bind fun v9=>bif (decide (e1.Kind<=(4:Int))) then (some true) else (bif (e1.Kind==(5:Int)) then (some (!v5)) else (bif (e1.Kind==(6:Int)) then (some v5) else (bif (bif (e1.Kind==(16:Int)) then true else (e1.Kind==(17:Int))) then (some (v5==v9)) else (bif (decide (e1.Kind >= (18:Int))) then (some (bif v5 then v9 else false)) else (some (bif (!v5) then (!v9) else false))))))
inductive X60 where
 |x0
 |x1 (Xa1:Int)
def X40 (X19:(List X07)):List X07->Nat->Option X60
 |[],k=>some (.x0)
 |x::xs,k=>(Xa9 X19 (k:Int)).bind fun v10=>bif (!v10) then (some (.x1 (k:Int))) else (X40 X19 xs (k+1))
def Xar (a0:(List X07)):Option (Int) :=
 (X5q (List.length a0)).bind fun u1=>(X40  a0 a0 0).bind fun o13=>match o13 with|.x0=>(some (List.length a0:Int))|.x1 Xa1=>(some Xa1)
def Xdg (a0:(List X07)):Option (Bool×Int×Int) :=
 (X4i a0).bind fun v1=>bif (v1 != (0:Int)) then (some (false,0,v1)) else ((Xar a0).bind fun v4=>bif (decide (v4<(List.length a0:Int))) then (some (false,v4,42)) else ((X3c a0 (IntKind.i64.wrap ((List.length a0:Int) - 1))).bind fun e7=>(X68 e7.Kind).bind fun v9=>some (v9,(IntKind.i64.wrap ((List.length a0:Int) - 1)),0)))
def X7e (a0:(List X07)) (a1:Bool):Option (Int×Int) :=
 (Xdg a0).bind fun v1=>bif (bif (v1.2.2==(0:Int)) then (!(v1.1==a1)) else false) then (some (v1.2.1,42)) else (some (v1.2.1,v1.2.2))
def X8x (a0:X06):Option (Int×Int) :=
 bif (decide ((List.length a0.Arg:Int)>(0:Int))) then ((X7e a0.Arg false).bind fun v2=>bif (v2.2 != (0:Int)) then ((X3c a0.Arg v2.1).bind fun e5=>some (e5.At,v2.2)) else (bif (decide ((List.length a0.Where:Int)>(0:Int))) then ((X7e a0.Where true).bind fun v8=>bif (v8.2 != (0:Int)) then ((X3c a0.Where v8.1).bind fun e11=>some (e11.At,v8.2)) else (some (0,0))) else (some (0,0)))) else (bif (decide ((List.length a0.Where:Int)>(0:Int))) then ((X7e a0.Where true).bind fun v14=>bif (v14.2 != (0:Int)) then ((X3c a0.Where v14.1).bind fun e17=>some (e17.At,v14.2)) else (some (0,0))) else (some (0,0)))
def X8y (a0:X06):Option (Int×Int) :=
 (X8z a0).bind fun v1=>bif (v1 != (0:Int)) then (some (0,v1)) else ((X8x a0).bind fun v4=>some (v4.1,v4.2))
def X5t (a0:X06):Option (Bool) :=
 (X8y a0).bind fun v1=>some (v1.2==(0:Int))
def X8w (a0:Xl):Option (Bool) :=
 some (bif (decide (a0.Time >= ((-1099511627776):Int))) then (decide (a0.Time<=(1099511627776:Int))) else false)
inductive X46 where
 |x0 (X0b:(List Xh)) (X2a:(List Xh)) (X2d:(List Int)) (X4u:(List Int))
 |x1
def X1k (X75:(List Int)) (X2p:(List Xl)) (Xo:X06) (Xht:Bool):List Xl->Nat->(List Xh)->(List Xh)->(List Int)->(List Int)->Option X46
 |[],k,Xn,X2t,X02,X0k=>some (.x0 Xn X2t X02 X0k)
 |x::xs,k,Xn,X2t,X02,X0k=>((X8w x).bind fun v962=>bif (!v962) then (some (bif (bif (!v962) then true else false) then true else false)) else ((X3c X75 (k:Int)).bind fun e965=>bif (decide (e965<(0:Int))) then (some (bif (bif (!v962) then true else (decide (e965<(0:Int)))) then true else false)) else (some (bif (bif (!v962) then true else (decide (e965<(0:Int)))) then true else (decide (e965>(1:Int)))))):Option (Bool)).bind fun Xn2=>bif Xn2 then (some (.x1)) else ((X1w (List.length (Xn++[(Xh.mk 1 x 0 (X1x.mk 0 (X05.mk 0 0) (V2.mk 0 0)))])) 80).bind fun u970=>(X3c X2p (IntKind.i64.wrap ((IntKind.i64.wrap ((List.length X2p:Int) - 1)) - (k:Int)))).bind fun e972=>(X1w (List.length (X2t++[(Xh.mk 1 e972 0 (X1x.mk 0 (X05.mk 0 0) (V2.mk 0 0)))])) 80).bind fun u974=>(X3c X75 (k:Int)).bind fun e976=>(X1w (List.length (X02++[e976])) 8).bind fun u978=>(X3c X75 (IntKind.i64.wrap ((IntKind.i64.wrap ((List.length X2p:Int) - 1)) - (k:Int)))).bind fun e980=>(X1w (List.length (X0k++[e980])) 8).bind fun u982=>X1k X75 X2p Xo Xht xs (k+1) (Xn++[(Xh.mk 1 x 0 (X1x.mk 0 (X05.mk 0 0) (V2.mk 0 0)))]) (X2t++[(Xh.mk 1 e972 0 (X1x.mk 0 (X05.mk 0 0) (V2.mk 0 0)))]) (X02++[e976]) (X0k++[e980]))
def X5a (a0:X06) (a1:(List Int)) (a2:(List Xl)):Option (Bool) :=
 (Xax).bind fun v1=>((X95 a0).bind fun v13=>bif v13 then (some (bif (bif (bif (bif (bif v13 then true else false) then true else false) then true else false) then true else false) then true else false)) else ((X5t a0).bind fun v16=>bif (!v16) then (some (bif (bif (bif (bif (bif v13 then true else (!v16)) then true else false) then true else false) then true else false) then true else false)) else (bif (!a0.Join) then (some (bif (bif (bif (bif (bif v13 then true else (!v16)) then true else (!a0.Join)) then true else false) then true else false) then true else false)) else (bif (decide ((List.length a2:Int)>(20:Int))) then (some (bif (bif (bif (bif (bif v13 then true else (!v16)) then true else (!a0.Join)) then true else (decide ((List.length a2:Int)>(20:Int)))) then true else false) then true else false)) else (bif ((List.length a1:Int) != (List.length a2:Int)) then (some (bif (bif (bif (bif (bif v13 then true else (!v16)) then true else (!a0.Join)) then true else (decide ((List.length a2:Int)>(20:Int)))) then true else ((List.length a1:Int) != (List.length a2:Int))) then true else false)) else (some (bif (bif (bif (bif (bif v13 then true else (!v16)) then true else (!a0.Join)) then true else (decide ((List.length a2:Int)>(20:Int)))) then true else ((List.length a1:Int) != (List.length a2:Int))) then true else (!v1))))))):Option (Bool)).bind fun Xsp=>bif Xsp then (some v1) else ((X5q (List.length a2)).bind fun u24=>(X1k  a1 a2 a0 v1 a2 0 ([]:List Xh) ([]:List Xh) ([]:List Int) ([]:List Int)).bind fun o1419=>match o1419 with|.x0 X0b X2a X2d X4u=>((Xae 9223372036854775807).bind fun v1421=>(X1w (List.length (X2d++[0,1])) 8).bind fun u1423=>(X1w (List.length (X0b++[v1421,v1421])) 80).bind fun u1425=>(X4j a0 (X2d++[0,1]) (X0b++[v1421,v1421])).bind fun v1427=>(X1w (List.length (X4u++[0,1])) 8).bind fun u1429=>(X1w (List.length (X2a++[v1421,v1421])) 80).bind fun u1431=>(X4j a0 (X4u++[0,1]) (X2a++[v1421,v1421])).bind fun v1433=>(bif v1 then (bif v1427.2.2 then (bif v1433.2.2 then ((X8h v1427.2.1 v1433.2.1).bind fun v1446=>bif v1446 then (bif ((List.length v1427.1.Store:Int)==(0:Int)) then (some (bif (bif (bif (bif (bif v1 then v1427.2.2 else false) then v1433.2.2 else false) then v1446 else false) then ((List.length v1427.1.Store:Int)==(0:Int)) else false) then ((List.length v1433.1.Store:Int)==(0:Int)) else false)) else (some (bif (bif (bif (bif (bif v1 then v1427.2.2 else false) then v1433.2.2 else false) then v1446 else false) then ((List.length v1427.1.Store:Int)==(0:Int)) else false) then false else false))) else (some (bif (bif (bif (bif (bif v1 then v1427.2.2 else false) then v1433.2.2 else false) then v1446 else false) then false else false) then false else false))) else (some (bif (bif (bif (bif (bif v1 then v1427.2.2 else false) then v1433.2.2 else false) then false else false) then false else false) then false else false))) else (some (bif (bif (bif (bif (bif v1 then v1427.2.2 else false) then false else false) then false else false) then false else false) then false else false))) else (some (bif (bif (bif (bif (bif v1 then false else false) then false else false) then false else false) then false else false) then false else false)):Option (Bool)).bind fun Xne=>some Xne)|.x1=>(some v1))
end
end Go.D
