/- Printed by decomp.py: the functions. -/
import Derived.Test.YtkjlgmgfhgamlaaGreatDTypesZ
set_option linter.all false

namespace Go.D
noncomputable section
def Xev:Option (X03) :=
 some (X03.mk 2 [(X04.mk 4 0 0 0 0)] [0,1] true ([]:List X04) (X0s.mk 1 10 0) false 1)
def Xdv (a0:Int) (a1:Int) (a2:Int):Option (Xg) :=
 some (Xg.mk 1 (Xl.mk a0 a1 a2) 0 (X28.mk 0 (X00.mk 0 0) (V2.mk 0 0)))
def Xex (a0:Int):Option (Xg) :=
 some (Xg.mk 2 (Xl.mk 0 0 0) a0 (X28.mk 0 (X00.mk 0 0) (V2.mk 0 0)))
def Xhh (a0:Int):Option ((List Int)×Int) :=
 bif (bif (decide (a0<(1:Int))) then true else (decide (a0>(4:Int)))) then (some (([]:List Int),2)) else (bif (a0==(1:Int)) then (some ([(-9223372036854775808)],0)) else (bif (a0==(2:Int)) then (some ([(-9223372036854775808),(-9223372036854775808)],0)) else (bif (a0==(3:Int)) then (some ([(-9223372036854775808),(-9223372036854775808),(-9223372036854775808)],0)) else (bif (a0==(4:Int)) then (some ([(-9223372036854775808),(-9223372036854775808),(-9223372036854775808),(-9223372036854775808)],0)) else none))))
def Xdz (a0:Int):Option (X08×Int) :=
 bif (bif (decide (a0<(0:Int))) then true else (decide (a0 >= (3:Int)))) then (some ((X08.mk (GOp.mk 0 0) 0 ([]:List X0v) ([]:List Int) ([]:List X2) ([]:List X1b) ([]:List X28) ([]:List Xl)),2)) else ((Xhh 2).bind fun v2=>some ((X08.mk (GOp.mk 5 a0) 0 ([]:List X0v) v2.1 ([]:List X2) ([]:List X1b) ([]:List X28) ([]:List Xl)),0))
def X9d (a0:Int):Option (Int×Int) :=
 bif (bif (decide (a0 >= (1:Int))) then (decide (a0<=(4:Int))) else false) then (some (0,0)) else (bif (bif (a0==(5:Int)) then true else (a0==(6:Int))) then (some (1,0)) else (bif (bif (decide (a0 >= (7:Int))) then (decide (a0<=(19:Int))) else false) then (some (2,0)) else (some (0,2))))
inductive X54 where
 |x0 (X06:(List Xa)) (X0i:(List Xa))
 |x1 (X1g:(List Xa))
def X24 (X2y:(List X04)):List X04->Nat->(List Xa)->(List Xa)->Option X54
 |[],k,Xj,Xh=>some (.x0 Xj Xh)
 |x::xs,k,Xj,Xh=>(X9d x.Kind).bind fun v318=>(bif (v318.2 != (0:Int)) then (some (bif (v318.2 != (0:Int)) then true else false)) else (some (bif (v318.2 != (0:Int)) then true else (decide (v318.1>(List.length Xh:Int))))):Option (Bool)).bind fun Xnj=>bif Xnj then (some (.x1 Xj)) else ((X6d Xh 0 (IntKind.i64.wrap ((List.length Xh:Int) - v318.1))).bind fun m331=>(X6d Xh (IntKind.i64.wrap ((List.length Xh:Int) - v318.1)) (List.length Xh:Int)).bind fun m333=>bif (List.isEmpty m333) then ((bif (x.Kind==(1:Int)) then (some (X04.mk x.Kind (if 0>x.N then 0 else x.N) 0 0 (if 400<(if 0>x.At then 0 else x.At) then 400 else (if 0>x.At then 0 else x.At)))) else (some (X04.mk x.Kind 0 0 0 (if 400<(if 0>x.At then 0 else x.At) then 400 else (if 0>x.At then 0 else x.At)))):Option (X04)).bind fun Xni=>bif (!(X6x Xni x)) then (some (.x1 Xj)) else ((X2b (List.length (m331++[(Xa.mk (k:Int) 1 1)])) 24).bind fun u341=>(X2b (List.length (Xj++[(Xa.mk (k:Int) 1 1)])) 24).bind fun u343=>X24 X2y xs (k+1) (Xj++[(Xa.mk (k:Int) 1 1)]) (m331++[(Xa.mk (k:Int) 1 1)]))) else (bif ((List.length m333:Int)==(1:Int)) then ((X3b m333 0).bind fun e346=>(bif (x.Kind==(1:Int)) then (some (X04.mk x.Kind (if 0>x.N then 0 else x.N) e346.at_ 0 (if 400<(if 0>x.At then 0 else x.At) then 400 else (if 0>x.At then 0 else x.At)))) else (some (X04.mk x.Kind 0 e346.at_ 0 (if 400<(if 0>x.At then 0 else x.At) then 400 else (if 0>x.At then 0 else x.At)))):Option (X04)).bind fun Xnh=>bif (!(X6x Xnh x)) then (some (.x1 Xj)) else ((X2b (List.length (m331++[(Xa.mk (k:Int) (IntKind.i64.wrap (1+e346.size)) (if (IntKind.i64.wrap (e346.depth+1))>1 then (IntKind.i64.wrap (e346.depth+1)) else 1))])) 24).bind fun u353=>(X2b (List.length (Xj++[(Xa.mk (k:Int) (IntKind.i64.wrap (1+e346.size)) (if (IntKind.i64.wrap (e346.depth+1))>1 then (IntKind.i64.wrap (e346.depth+1)) else 1))])) 24).bind fun u355=>X24 X2y xs (k+1) (Xj++[(Xa.mk (k:Int) (IntKind.i64.wrap (1+e346.size)) (if (IntKind.i64.wrap (e346.depth+1))>1 then (IntKind.i64.wrap (e346.depth+1)) else 1))]) (m331++[(Xa.mk (k:Int) (IntKind.i64.wrap (1+e346.size)) (if (IntKind.i64.wrap (e346.depth+1))>1 then (IntKind.i64.wrap (e346.depth+1)) else 1))]))) else (bif ((List.length m333:Int)==(2:Int)) then ((X3b m333 0).bind fun e358=>(X3b m333 1).bind fun e360=>(bif (x.Kind==(1:Int)) then (some (X04.mk x.Kind (if 0>x.N then 0 else x.N) e358.at_ e360.at_ (if 400<(if 0>x.At then 0 else x.At) then 400 else (if 0>x.At then 0 else x.At)))) else (some (X04.mk x.Kind 0 e358.at_ e360.at_ (if 400<(if 0>x.At then 0 else x.At) then 400 else (if 0>x.At then 0 else x.At)))):Option (X04)).bind fun Xng=>bif (!(X6x Xng x)) then (some (.x1 Xj)) else ((X2b (List.length (m331++[(Xa.mk (k:Int) (IntKind.i64.wrap ((IntKind.i64.wrap (1+e358.size))+e360.size)) (if (IntKind.i64.wrap (e360.depth+1))>(if (IntKind.i64.wrap (e358.depth+1))>1 then (IntKind.i64.wrap (e358.depth+1)) else 1) then (IntKind.i64.wrap (e360.depth+1)) else (if (IntKind.i64.wrap (e358.depth+1))>1 then (IntKind.i64.wrap (e358.depth+1)) else 1)))])) 24).bind fun u367=>(X2b (List.length (Xj++[(Xa.mk (k:Int) (IntKind.i64.wrap ((IntKind.i64.wrap (1+e358.size))+e360.size)) (if (IntKind.i64.wrap (e360.depth+1))>(if (IntKind.i64.wrap (e358.depth+1))>1 then (IntKind.i64.wrap (e358.depth+1)) else 1) then (IntKind.i64.wrap (e360.depth+1)) else (if (IntKind.i64.wrap (e358.depth+1))>1 then (IntKind.i64.wrap (e358.depth+1)) else 1)))])) 24).bind fun u369=>X24 X2y xs (k+1) (Xj++[(Xa.mk (k:Int) (IntKind.i64.wrap ((IntKind.i64.wrap (1+e358.size))+e360.size)) (if (IntKind.i64.wrap (e360.depth+1))>(if (IntKind.i64.wrap (e358.depth+1))>1 then (IntKind.i64.wrap (e358.depth+1)) else 1) then (IntKind.i64.wrap (e360.depth+1)) else (if (IntKind.i64.wrap (e358.depth+1))>1 then (IntKind.i64.wrap (e358.depth+1)) else 1)))]) (m331++[(Xa.mk (k:Int) (IntKind.i64.wrap ((IntKind.i64.wrap (1+e358.size))+e360.size)) (if (IntKind.i64.wrap (e360.depth+1))>(if (IntKind.i64.wrap (e358.depth+1))>1 then (IntKind.i64.wrap (e358.depth+1)) else 1) then (IntKind.i64.wrap (e360.depth+1)) else (if (IntKind.i64.wrap (e358.depth+1))>1 then (IntKind.i64.wrap (e358.depth+1)) else 1)))]))) else none)))
def Xcc (a0:(List X04)):Option ((List Xa)×Bool) :=
 (X5d (List.length a0)).bind fun u1=>(X24  a0 a0 0 ([]:List Xa) ([]:List Xa)).bind fun o475=>match o475 with|.x0 X06 X0i=>(some (X06,((List.length X0i:Int)==(1:Int))))|.x1 X1g=>(some (X1g,false))
def X9c (a0:(List X04)):Option ((List Xa)×Int) :=
 bif (decide ((List.length a0:Int)>(60:Int))) then (some (([]:List Xa),4)) else ((Xcc a0).bind fun v2=>bif (!v2.2) then (some (([]:List Xa),8)) else ((X3b v2.1 (IntKind.i64.wrap ((List.length v2.1:Int) - 1))).bind fun e5=>bif (decide (e5.depth>(20:Int))) then (some (([]:List Xa),34)) else (some (v2.1,0))))
def X55 (a0:(List X04)):Option (Int) :=
 (X9c a0).bind fun v1=>some v1.2
def X5j (a0:Int):Option (Bool) :=
 some (bif (decide (a0<(0:Int))) then true else (decide (a0 >= (4:Int))))
inductive X23 where
 |x0
 |x1 (X9l:Int)
def X0m (X0u:(List Int)):List Int->Nat->Option X23
 |[],k=>some (.x0)
 |x::xs,k=>(X5j x).bind fun v10=>bif v10 then (some (.x1 (k:Int))) else (X0m X0u xs (k+1))
def X0k (a0:(List Int)):Option (Int) :=
 (X5d (List.length a0)).bind fun u1=>(X0m  a0 a0 0).bind fun o13=>match o13 with|.x0=>(some (-1))|.x1 X9l=>(some X9l)
def Xt (a0:(List Int)):Option (Bool) :=
 (X0k a0).bind fun v1=>some (decide (v1 >= (0:Int)))
def X35 (l:List Int):Option Int:=(X5d (List.length l)).bind fun _=>some ((X7y [] l).length:Int)
def X2f (a0:(List Int)) (a1:Bool):Option (Int) :=
 bif (decide ((List.length a0:Int)>(4:Int))) then (some 4) else ((bif ((List.length a0:Int)==(0:Int)) then (some (bif (bif ((List.length a0:Int)==(0:Int)) then true else false) then true else false)) else (bif a1 then (bif ((List.length a0:Int) != (2:Int)) then (some (bif (bif ((List.length a0:Int)==(0:Int)) then true else (bif a1 then ((List.length a0:Int) != (2:Int)) else false)) then true else false)) else ((Xt a0).bind fun v13=>some (bif (bif ((List.length a0:Int)==(0:Int)) then true else (bif a1 then ((List.length a0:Int) != (2:Int)) else false)) then true else v13))) else ((Xt a0).bind fun v15=>some (bif (bif ((List.length a0:Int)==(0:Int)) then true else (bif a1 then false else false)) then true else v15))):Option (Bool)).bind fun Xyq=>bif Xyq then (some 8) else ((X35 a0).bind fun v19=>bif (decide (v19<(List.length a0:Int))) then (some 43) else (some 0)))
def X17 (a0:X0s):Option (Int) :=
 bif (bif (decide (a0.Size<(1:Int))) then true else (decide (a0.Size>(1073741824:Int)))) then (some 8) else (bif (a0.Kind==(2:Int)) then (bif (bif (bif (decide (a0.Every >= (1:Int))) then (decide (a0.Every<=a0.Size)) else false) then (decide (a0.Size<=(IntKind.i64.wrap (16*a0.Every)))) else false) then (some 0) else (some 8)) else (bif (a0.Kind==(1:Int)) then (bif (a0.Every==(0:Int)) then (some 0) else (some 8)) else (bif (a0.Kind==(3:Int)) then (bif (a0.Every==(0:Int)) then (some 0) else (some 8)) else (some 8))))
def X70 (a0:X03):Option (Int) :=
 bif (bif (bif (decide (a0.Agg<(1:Int))) then true else (decide (a0.Agg>(4:Int)))) then true else (bif (a0.Late != (1:Int)) then (a0.Late != (2:Int)) else false)) then (some 8) else (bif (a0.Agg != (1:Int)) then ((X55 a0.Arg).bind fun v3=>bif (v3 != (0:Int)) then (some v3) else (bif (decide ((List.length a0.Where:Int)>(0:Int))) then ((X55 a0.Where).bind fun v7=>bif (v7 != (0:Int)) then (some v7) else ((X2f a0.Sources a0.Join).bind fun v10=>bif (v10 != (0:Int)) then (some v10) else (bif (bif a0.Join then (a0.Window.Kind != (1:Int)) else false) then (some 8) else ((X17 a0.Window).bind fun v14=>some v14)))) else ((X2f a0.Sources a0.Join).bind fun v16=>bif (v16 != (0:Int)) then (some v16) else (bif (bif a0.Join then (a0.Window.Kind != (1:Int)) else false) then (some 8) else ((X17 a0.Window).bind fun v20=>some v20))))) else (bif (decide ((List.length a0.Arg:Int)>(0:Int))) then (some 8) else (bif (decide ((List.length a0.Where:Int)>(0:Int))) then ((X55 a0.Where).bind fun v24=>bif (v24 != (0:Int)) then (some v24) else ((X2f a0.Sources a0.Join).bind fun v27=>bif (v27 != (0:Int)) then (some v27) else (bif (bif a0.Join then (a0.Window.Kind != (1:Int)) else false) then (some 8) else ((X17 a0.Window).bind fun v31=>some v31)))) else ((X2f a0.Sources a0.Join).bind fun v33=>bif (v33 != (0:Int)) then (some v33) else (bif (bif a0.Join then (a0.Window.Kind != (1:Int)) else false) then (some 8) else ((X17 a0.Window).bind fun v37=>some v37))))))
inductive X2a where
 |x0
 |x1
def X09 (Xh:(List Bool)) (X7r:(V2 Bool)) (X0d:(List Int)):List Int->Nat->Option X2a
 |[],k=>some (.x0)
 |x::xs,k=>(X3b Xh x).bind fun e3011=>bif (!(e3011==false)) then (some (.x1)) else (X09 Xh X7r X0d xs (k+1))
inductive X21 where
 |x0
 |x1
def X0a (Xh:(List Bool)) (X1n:(List Int)):List Int->Nat->Option X21
 |[],k=>some (.x0)
 |x::xs,k=>(X3b Xh x).bind fun e3127=>bif (!(e3127==true)) then (some (.x1)) else (X0a Xh X1n xs (k+1))
inductive X57 where
 |x0 (X0i:(List Bool))
 |x1 (X1g:(List Bool)) (Xj1:Int)
def X1r (X0u:(List X04)):List X04->Nat->(List Bool)->Option X57
 |[],k,Xh=>some (.x0 Xh)
 |x::xs,k,Xh=>bif (decide (x.Kind<=(4:Int))) then ((X2b (List.length (Xh++[false])) 1).bind fun u2525=>X1r X0u xs (k+1) (Xh++[false])) else (bif (x.Kind==(5:Int)) then (((X3b Xh x.A).bind fun e2546=>bif (!(e2546==false)) then (some (bif (!(bif true then false else false)) then (!(bif false then false else false)) else false)) else (some (bif (!(bif true then true else false)) then false else false)):Option (Bool)).bind fun Xk7=>bif Xk7 then (some (.x1 ([]:List Bool) (k:Int))) else ((X2b (List.length (Xh++[false])) 1).bind fun u2551=>X1r X0u xs (k+1) (Xh++[false]))) else (bif (x.Kind==(6:Int)) then (((X3b Xh x.A).bind fun e2571=>bif (!(e2571==true)) then (some false) else (some true):Option (Bool)).bind fun Xk6=>bif (bif (!(bif false then false else false)) then (!(bif true then Xk6 else false)) else false) then (some (.x1 ([]:List Bool) (k:Int))) else ((X2b (List.length (Xh++[true])) 1).bind fun u2576=>X1r X0u xs (k+1) (Xh++[true]))) else ((bif (decide (x.Kind<=(11:Int))) then (some ((V2.mk true false),false)) else (bif (decide (x.Kind<=(15:Int))) then (some ((V2.mk true false),true)) else (bif (decide (x.Kind<=(17:Int))) then (some ((V2.mk true true),true)) else (some ((V2.mk false true),true)))):Option ((V2 Bool)×Bool)).bind fun w2581=>(bif w2581.1.e0 then (((X5d (List.length [x.A,x.B])).bind fun u2980=>(X09  Xh w2581.1 [x.A,x.B] [x.A,x.B] 0).bind fun o3016=>match o3016 with|.x0=>(some true)|.x1=>(some false):Option (Bool)).bind fun Xb2=>bif (!(bif w2581.1.e0 then Xb2 else false)) then (bif w2581.1.e1 then (((X5d (List.length [x.A,x.B])).bind fun u3096=>(X0a  Xh [x.A,x.B] [x.A,x.B] 0).bind fun o3132=>match o3132 with|.x0=>(some true)|.x1=>(some false):Option (Bool)).bind fun Xk4=>some (bif (!(bif w2581.1.e0 then Xb2 else false)) then (!(bif w2581.1.e1 then Xk4 else false)) else false)) else (some (bif (!(bif w2581.1.e0 then Xb2 else false)) then (!(bif w2581.1.e1 then false else false)) else false))) else (some (bif (!(bif w2581.1.e0 then Xb2 else false)) then false else false))) else (bif (!(bif w2581.1.e0 then false else false)) then (bif w2581.1.e1 then (((X5d (List.length [x.A,x.B])).bind fun u3192=>(X0a  Xh [x.A,x.B] [x.A,x.B] 0).bind fun o3218=>match o3218 with|.x0=>(some true)|.x1=>(some false):Option (Bool)).bind fun Xk3=>some (bif (!(bif w2581.1.e0 then false else false)) then (!(bif w2581.1.e1 then Xk3 else false)) else false)) else (some (bif (!(bif w2581.1.e0 then false else false)) then (!(bif w2581.1.e1 then false else false)) else false))) else (some (bif (!(bif w2581.1.e0 then false else false)) then false else false))):Option (Bool)).bind fun Xk5=>bif Xk5 then (some (.x1 ([]:List Bool) (k:Int))) else ((X2b (List.length (Xh++[w2581.2])) 1).bind fun u3223=>X1r X0u xs (k+1) (Xh++[w2581.2])))))
def Xcf (a0:(List X04)):Option ((List Bool)×Int) :=
 (X5d (List.length a0)).bind fun u1=>(X1r  a0 a0 0 ([]:List Bool)).bind fun o3784=>match o3784 with|.x0 X0i=>(some (X0i,(List.length a0:Int)))|.x1 X1g Xj1=>(some (X1g,Xj1))
def Xdx (a0:(List X04)):Option (Bool×Int×Int) :=
 (X55 a0).bind fun v1=>bif (v1 != (0:Int)) then (some (false,0,v1)) else ((Xcf a0).bind fun v4=>bif (decide (v4.2<(List.length a0:Int))) then (some (false,v4.2,42)) else ((X3b v4.1 (IntKind.i64.wrap (v4.2 - 1))).bind fun e7=>some (e7,(IntKind.i64.wrap (v4.2 - 1)),0)))
def X8p (a0:(List X04)) (a1:Bool):Option (Int×Int) :=
 (Xdx a0).bind fun v1=>(bif (bif (v1.2.2==(0:Int)) then (!(v1.1==a1)) else false) then (some 42) else (some v1.2.2):Option (Int)).bind fun j4_8=>some (v1.2.1,j4_8)
def X9h (a0:(List X04)):Option (Int×Int) :=
 (X8p a0 true).bind fun v1=>some (v1.1,v1.2)
def X9r (a0:(List X04)):Option (Int×Int) :=
 (X8p a0 false).bind fun v1=>some (v1.1,v1.2)
def X7z (a0:X03):Option (Int×Int) :=
 (X70 a0).bind fun v1=>bif (v1 != (0:Int)) then (some (0,v1)) else ((bif ((List.length a0.Arg:Int)==(0:Int)) then (bif ((List.length a0.Where:Int)==(0:Int)) then (some (0,0)) else ((X9h a0.Where).bind fun v25=>bif (v25.2 != (0:Int)) then ((X3b a0.Where v25.1).bind fun e28=>some (e28.At,v25.2)) else (some (0,0)))) else ((X9r a0.Arg).bind fun v30=>bif (v30.2 != (0:Int)) then ((X3b a0.Arg v30.1).bind fun e33=>some (e33.At,v30.2)) else (bif ((List.length a0.Where:Int)==(0:Int)) then (some (0,0)) else ((X9h a0.Where).bind fun v36=>bif (v36.2 != (0:Int)) then ((X3b a0.Where v36.1).bind fun e39=>some (e39.At,v36.2)) else (some (0,0))))):Option (Int×Int)).bind fun w22=>some (w22.1,w22.2))
def X5e (a0:X03):Option (Bool) :=
 (X7z a0).bind fun v1=>some (bif (v1.2==(0:Int)) then a0.Join else false)
def X8x (a0:Int):Option (Int×Int×Bool×Bool×Bool×Bool) :=
 (bif (a0==(1:Int)) then (some (0,0,false,true,false,false)) else (bif (a0==(2:Int)) then (some (1,1,false,false,false,false)) else (bif (a0==(3:Int)) then (some (0,0,false,false,false,false)) else (bif (a0==(4:Int)) then (some (1,4,true,false,false,false)) else (bif (a0==(5:Int)) then (some (2,2,true,false,false,false)) else (bif (a0==(6:Int)) then (some (0,0,false,false,true,false)) else (bif (a0==(7:Int)) then (some (0,0,false,false,false,true)) else (some (1,0,false,false,false,false)))))))):Option (Int×Int×Bool×Bool×Bool×Bool)).bind fun w8=>some (w8.1,w8.2.1,w8.2.2.1,w8.2.2.2.1,w8.2.2.2.2.1,w8.2.2.2.2.2)
def X8w (a0:Bool) (a1:Int):Option (Int) :=
 bif a0 then (some a1) else (some 0)
def X42 (a0:Int):Option (Bool) :=
 some (bif (decide (a0 >= ((-1099511627776):Int))) then (decide (a0<=(1099511627776:Int))) else false)
def X4r (a0:Int):Option (Bool) :=
 (X42 a0).bind fun v1=>some (bif v1 then true else (a0==(9223372036854775807:Int)))
def X2s (a0:Xg):Option (Int) :=
 (bif (a0.Kind==(1:Int)) then (some (a0.Kind==(1:Int))) else (some (a0.Kind==(4:Int))):Option (Bool)).bind fun Xz7=>(bif Xz7 then ((X42 a0.Record.Time).bind fun v14=>some (v14,(Xg.mk ((Xg.mk a0.Kind (Xl.mk 0 0 0) 0 (X28.mk 0 (X00.mk 0 0) (V2.mk 0 0))).Kind) a0.Record ((Xg.mk a0.Kind (Xl.mk 0 0 0) 0 (X28.mk 0 (X00.mk 0 0) (V2.mk 0 0))).Time) (X28.mk (((Xg.mk a0.Kind (Xl.mk 0 0 0) 0 (X28.mk 0 (X00.mk 0 0) (V2.mk 0 0))).Row).Key) (((Xg.mk a0.Kind (Xl.mk 0 0 0) 0 (X28.mk 0 (X00.mk 0 0) (V2.mk 0 0))).Row).Span) (((Xg.mk a0.Kind (Xl.mk 0 0 0) 0 (X28.mk 0 (X00.mk 0 0) (V2.mk 0 0))).Row).Values))))) else (bif (a0.Kind==(2:Int)) then ((X4r a0.Time).bind fun v17=>some (v17,(Xg.mk ((Xg.mk a0.Kind (Xl.mk 0 0 0) 0 (X28.mk 0 (X00.mk 0 0) (V2.mk 0 0))).Kind) ((Xg.mk a0.Kind (Xl.mk 0 0 0) 0 (X28.mk 0 (X00.mk 0 0) (V2.mk 0 0))).Record) a0.Time (X28.mk (((Xg.mk a0.Kind (Xl.mk 0 0 0) 0 (X28.mk 0 (X00.mk 0 0) (V2.mk 0 0))).Row).Key) (((Xg.mk a0.Kind (Xl.mk 0 0 0) 0 (X28.mk 0 (X00.mk 0 0) (V2.mk 0 0))).Row).Span) (((Xg.mk a0.Kind (Xl.mk 0 0 0) 0 (X28.mk 0 (X00.mk 0 0) (V2.mk 0 0))).Row).Values))))) else (bif (a0.Kind==(3:Int)) then (some ((bif (bif (decide (((-2199023255552):Int)<=a0.Row.Span.Start)) then (decide (a0.Row.Span.Start<a0.Row.Span.End)) else false) then (decide (a0.Row.Span.End<=(2199023255552:Int))) else false),(Xg.mk ((Xg.mk a0.Kind (Xl.mk 0 0 0) 0 (X28.mk 0 (X00.mk 0 0) (V2.mk 0 0))).Kind) ((Xg.mk a0.Kind (Xl.mk 0 0 0) 0 (X28.mk 0 (X00.mk 0 0) (V2.mk 0 0))).Record) ((Xg.mk a0.Kind (Xl.mk 0 0 0) 0 (X28.mk 0 (X00.mk 0 0) (V2.mk 0 0))).Time) a0.Row))) else (some (false,(Xg.mk ((Xg.mk a0.Kind (Xl.mk 0 0 0) 0 (X28.mk 0 (X00.mk 0 0) (V2.mk 0 0))).Kind) ((Xg.mk a0.Kind (Xl.mk 0 0 0) 0 (X28.mk 0 (X00.mk 0 0) (V2.mk 0 0))).Record) ((Xg.mk a0.Kind (Xl.mk 0 0 0) 0 (X28.mk 0 (X00.mk 0 0) (V2.mk 0 0))).Time) (X28.mk (((Xg.mk a0.Kind (Xl.mk 0 0 0) 0 (X28.mk 0 (X00.mk 0 0) (V2.mk 0 0))).Row).Key) (((Xg.mk a0.Kind (Xl.mk 0 0 0) 0 (X28.mk 0 (X00.mk 0 0) (V2.mk 0 0))).Row).Span) (((Xg.mk a0.Kind (Xl.mk 0 0 0) 0 (X28.mk 0 (X00.mk 0 0) (V2.mk 0 0))).Row).Values))))))):Option (Bool×Xg)).bind fun w12=>bif (bif (!w12.1) then true else (!(X7x a0 w12.2))) then (some 8) else (some 0)
inductive X6l where
 |x0
 |x1
def X4c (Xrd:(List X0v)):List X0v->Nat->Option X6l
 |[],k=>some (.x0)
 |x::xs,k=>(bif (decide (x.Out<(0:Int))) then (some (bif (bif (decide (x.Out<(0:Int))) then true else false) then true else false)) else (bif (decide (x.Out >= (3:Int))) then (some (bif (bif (decide (x.Out<(0:Int))) then true else (decide (x.Out >= (3:Int)))) then true else false)) else ((X2s x.Message).bind fun v33=>some (bif (bif (decide (x.Out<(0:Int))) then true else (decide (x.Out >= (3:Int)))) then true else (v33 != (0:Int))))):Option (Bool)).bind fun Xt0=>bif Xt0 then (some (.x1)) else (X4c Xrd xs (k+1))
def X8h (a0:(List X0v)):Option (Bool) :=
 (X5d (List.length a0)).bind fun u1=>(X4c  a0 a0 0).bind fun o37=>match o37 with|.x0=>(some true)|.x1=>(some false)
def X2l (a0:X0t):Option (Int) :=
 (bif (a0.Count==(0:Int)) then (some (X8q a0 (X0t.mk 0 0 0 0))) else (bif (a0.Count==(1:Int)) then (some (bif (a0.Sum==a0.Min) then (a0.Sum==a0.Max) else false)) else (bif (bif (decide (a0.Count>(1:Int))) then (decide (a0.Count<=(1073741824:Int))) else false) then (some (decide (a0.Min<=a0.Max))) else (some false))):Option (Bool)).bind fun j4_3=>bif (!j4_3) then (some 8) else (some 0)
def X62 (a0:X2):Option (Bool) :=
 bif (bif (bif (decide (a0.Span.Start<((-1100585369600):Int))) then true else (decide (a0.Span.End<=a0.Span.Start))) then true else (decide (a0.Span.End>(1100585369600:Int)))) then (some false) else (((X2l a0.Values.e0).bind fun v9=>bif (v9==(0:Int)) then ((X2l a0.Values.e1).bind fun v12=>bif (v12==(0:Int)) then (some (bif (bif (v9==(0:Int)) then (v12==(0:Int)) else false) then (decide ((IntKind.i64.wrap (a0.Values.e0.Count+a0.Values.e1.Count))>(0:Int))) else false)) else (some (bif (bif (v9==(0:Int)) then (v12==(0:Int)) else false) then false else false))) else (some (bif (bif (v9==(0:Int)) then false else false) then false else false)):Option (Bool)).bind fun j8_2=>some j8_2)
def X5a (a0:Int):Option (Bool) :=
 some (a0 != a0)
def X2q (a0:Int) (a1:Int):Option (Int) :=
 (X5a a0).bind fun v1=>(X5a a1).bind fun v3=>bif v1 then (bif v3 then (some 0) else (some (-1))) else (bif v3 then (some 1) else (bif (decide (a0<a1)) then (some (-1)) else (bif (decide (a0>a1)) then (some 1) else (some 0))))
inductive X6y where
 |x0
 |x1 (Xa8:Int)
def X5i (Xv4:(List Int)):List Int->Nat->Option X6y
 |[],k=>some (.x0)
 |x::xs,k=>bif (x != (0:Int)) then (some (.x1 x)) else (X5i Xv4 xs (k+1))
def Xco (a0:(List Int)):Option (Int) :=
 (X5d (List.length a0)).bind fun u1=>(X5i  a0 a0 0).bind fun o7=>match o7 with|.x0=>(some 0)|.x1 Xa8=>(some Xa8)
def X63 (a0:X2) (a1:X2):Option (Int) :=
 (X2q a0.Span.End a1.Span.End).bind fun v1=>(X2q a0.Span.Start a1.Span.Start).bind fun v3=>(X2q a0.Key a1.Key).bind fun v5=>(Xco [v1,v3,v5]).bind fun v7=>some v7
inductive X5w where
 |x0
 |x1
def X2r (X0u:(List X2)):List X2->Nat->Option X5w
 |[],k=>some (.x0)
 |x::xs,k=>((X62 x).bind fun v52=>bif (!v52) then (some true) else (bif (decide ((k:Int)>(0:Int))) then ((X3b X0u (IntKind.i64.wrap ((k:Int) - 1))).bind fun e56=>(X63 e56 x).bind fun v58=>some (bif (!v52) then true else (bif (decide ((k:Int)>(0:Int))) then (decide (v58 >= (0:Int))) else false))) else (some (bif (!v52) then true else false))):Option (Bool)).bind fun Xsx=>bif Xsx then (some (.x1)) else (X2r X0u xs (k+1))
def X3x (a0:(List X2)):Option (Int) :=
 bif (decide ((List.length a0:Int)>(4000:Int))) then (some 4) else ((X5d (List.length a0)).bind fun u2=>(X2r  a0 a0 0).bind fun o62=>match o62 with|.x0=>(some 0)|.x1=>(some 8))
def X8y (a0:Int):Option (Bool) :=
 (bif (a0==((-9223372036854775808):Int)) then (some (bif (a0==((-9223372036854775808):Int)) then true else false)) else ((X2s (Xg.mk 2 (Xl.mk 0 0 0) a0 (X28.mk 0 (X00.mk 0 0) (V2.mk 0 0)))).bind fun v6=>some (bif (a0==((-9223372036854775808):Int)) then true else (v6==(0:Int)))):Option (Bool)).bind fun j4_2=>some j4_2
def Xce (a0:X1b):Option (Xg×Int) :=
 bif a0.Mark then (((X4r a0.Time).bind fun v6=>bif (!v6) then (some (bif (!v6) then true else false)) else (some (bif (!v6) then true else (!(X9j a0.Record (Xl.mk 0 0 0))))):Option (Bool)).bind fun Xyv=>bif Xyv then (some ((Xg.mk 0 (Xl.mk 0 0 0) 0 (X28.mk 0 (X00.mk 0 0) (V2.mk 0 0))),8)) else (some ((Xg.mk 2 (Xl.mk 0 0 0) a0.Time (X28.mk 0 (X00.mk 0 0) (V2.mk 0 0))),0))) else ((bif (a0.Time != (0:Int)) then (some (bif (a0.Time != (0:Int)) then true else false)) else ((X42 a0.Record.Time).bind fun v16=>some (bif (a0.Time != (0:Int)) then true else (!v16))):Option (Bool)).bind fun Xt4=>bif Xt4 then (some ((Xg.mk 0 (Xl.mk 0 0 0) 0 (X28.mk 0 (X00.mk 0 0) (V2.mk 0 0))),8)) else (some ((Xg.mk 1 a0.Record 0 (X28.mk 0 (X00.mk 0 0) (V2.mk 0 0))),0)))
def X6r (a0:X1b):Option (Int) :=
 (Xce a0).bind fun v1=>some v1.2
inductive X93 where
 |x0 (Xej:Bool)
def X3o (Xj:X08) (Xbn:(List Int)):List Int->Nat->Bool->Option X93
 |[],k,X4z=>some (.x0 X4z)
 |x::xs,k,X4z=>(bif X4z then ((X8y x).bind fun v74=>some (bif X4z then v74 else false)) else (some (bif X4z then false else false)):Option (Bool)).bind fun Xsv=>X3o Xj Xbn xs (k+1) Xsv
inductive X92 where
 |x0 (Xeh:Bool)
def X3n (Xfu:X08) (Xbl:(List X1b)):List X1b->Nat->Bool->Option X92
 |[],k,Xid=>some (.x0 Xid)
 |x::xs,k,Xid=>(bif Xid then ((X6r x).bind fun v103=>some (bif Xid then (v103==(0:Int)) else false)) else (some (bif Xid then false else false)):Option (Bool)).bind fun Xnx=>X3n Xfu Xbl xs (k+1) Xnx
inductive X91 where
 |x0 (Xeg:Bool)
def X3m (Xpo:X08) (Xbk:(List X28)):List X28->Nat->Bool->Option X91
 |[],k,Xib=>some (.x0 Xib)
 |x::xs,k,Xib=>(bif Xib then ((X2s (Xg.mk 3 (Xl.mk 0 0 0) 0 x)).bind fun v132=>some (bif Xib then (v132==(0:Int)) else false)) else (some (bif Xib then false else false)):Option (Bool)).bind fun Xns=>X3m Xpo Xbk xs (k+1) Xns
inductive X90 where
 |x0 (Xef:Bool)
def X3l (Xpn:X08) (Xbj:(List Xl)):List Xl->Nat->Bool->Option X90
 |[],k,Xia=>some (.x0 Xia)
 |x::xs,k,Xia=>(bif Xia then ((X2s (Xg.mk 4 x 0 (X28.mk 0 (X00.mk 0 0) (V2.mk 0 0)))).bind fun v161=>some (bif Xia then (v161==(0:Int)) else false)) else (some (bif Xia then false else false)):Option (Bool)).bind fun Xnn=>X3l Xpn Xbj xs (k+1) Xnn
inductive X8z where
 |x0 (Xee:Bool)
def X3k (Xkx:X08) (Xbi:(List X2)):List X2->Nat->Bool->Option X8z
 |[],k,Xgu=>some (.x0 Xgu)
 |x::xs,k,Xgu=>(bif Xgu then (bif (Xkx.Op.Kind != (4:Int)) then (some (bif Xgu then (bif (Xkx.Op.Kind != (4:Int)) then true else false) else false)) else (some (bif Xgu then (bif (Xkx.Op.Kind != (4:Int)) then true else (x.Values.e1.Count==(0:Int))) else false))) else (some (bif Xgu then false else false)):Option (Bool)).bind fun Xnm=>X3k Xkx Xbi xs (k+1) Xnm
def X8i (a0:X08):Option (Int) :=
 (X8x a0.Op.Kind).bind fun v1=>(bif (decide ((List.length a0.Pending:Int)<=(4000:Int))) then (bif (decide ((List.length a0.Marks:Int) >= v1.1)) then (bif (decide ((List.length a0.Marks:Int)<=v1.2.1)) then ((X8w v1.2.2.1 4000).bind fun v21=>bif (decide ((List.length a0.Store:Int)<=v21)) then ((X8w v1.2.2.2.1 60).bind fun v24=>bif (decide ((List.length a0.Events:Int)<=v24)) then ((X8w v1.2.2.2.2.1 4000).bind fun v27=>bif (decide ((List.length a0.Rows:Int)<=v27)) then ((X8w v1.2.2.2.2.2 4000).bind fun v30=>some (bif (bif (bif (bif (bif (bif (decide ((List.length a0.Pending:Int)<=(4000:Int))) then (decide ((List.length a0.Marks:Int) >= v1.1)) else false) then (decide ((List.length a0.Marks:Int)<=v1.2.1)) else false) then (decide ((List.length a0.Store:Int)<=v21)) else false) then (decide ((List.length a0.Events:Int)<=v24)) else false) then (decide ((List.length a0.Rows:Int)<=v27)) else false) then (decide ((List.length a0.Late:Int)<=v30)) else false)) else (some false)) else (some false)) else (some false)) else (some false)) else (some false)) else (some false):Option (Bool)).bind fun Xji=>(bif (!(bif (bif (bif (decide (a0.Turn >= (0:Int))) then (decide (a0.Turn<(20:Int))) else false) then (decide (a0.Op.N >= (0:Int))) else false) then (decide (a0.Op.N<(4:Int))) else false)) then (some (bif (bif (bif (!(bif (bif (bif (decide (a0.Turn >= (0:Int))) then (decide (a0.Turn<(20:Int))) else false) then (decide (a0.Op.N >= (0:Int))) else false) then (decide (a0.Op.N<(4:Int))) else false)) then true else false) then true else false) then true else false)) else (bif (!Xji) then (some (bif (bif (bif (!(bif (bif (bif (decide (a0.Turn >= (0:Int))) then (decide (a0.Turn<(20:Int))) else false) then (decide (a0.Op.N >= (0:Int))) else false) then (decide (a0.Op.N<(4:Int))) else false)) then true else (!Xji)) then true else false) then true else false)) else ((X8h a0.Pending).bind fun v43=>bif (!v43) then (some (bif (bif (bif (!(bif (bif (bif (decide (a0.Turn >= (0:Int))) then (decide (a0.Turn<(20:Int))) else false) then (decide (a0.Op.N >= (0:Int))) else false) then (decide (a0.Op.N<(4:Int))) else false)) then true else (!Xji)) then true else (!v43)) then true else false)) else ((X3x a0.Store).bind fun v46=>some (bif (bif (bif (!(bif (bif (bif (decide (a0.Turn >= (0:Int))) then (decide (a0.Turn<(20:Int))) else false) then (decide (a0.Op.N >= (0:Int))) else false) then (decide (a0.Op.N<(4:Int))) else false)) then true else (!Xji)) then true else (!v43)) then true else (v46 != (0:Int)))))):Option (Bool)).bind fun Xnf=>bif Xnf then (some 8) else ((X5d (List.length a0.Marks)).bind fun u50=>(X3o  a0 a0.Marks a0.Marks 0 true).bind fun o77=>match o77 with|.x0 Xej=>((X5d (List.length a0.Events)).bind fun u79=>(X3n  a0 a0.Events a0.Events 0 Xej).bind fun o106=>match o106 with|.x0 Xeh=>((X5d (List.length a0.Rows)).bind fun u108=>(X3m  a0 a0.Rows a0.Rows 0 Xeh).bind fun o135=>match o135 with|.x0 Xeg=>((X5d (List.length a0.Late)).bind fun u137=>(X3l  a0 a0.Late a0.Late 0 Xeg).bind fun o164=>match o164 with|.x0 Xef=>((X5d (List.length a0.Store)).bind fun u166=>(X3k  a0 a0.Store a0.Store 0 Xef).bind fun o187=>match o187 with|.x0 Xee=>(bif (!Xee) then (some 8) else (some 0)))))))
def X71 (a0:Int):Option (X0t) :=
 some (X0t.mk 1 a0 a0 a0)
def X3s (a0:Int) (a1:Int):Option (Int) :=
 bif (bif (decide (a1<(1:Int))) then true else (decide (a1>(1073741824:Int)))) then (some 2) else (bif (bif (decide (a0<((-1099511627776):Int))) then true else (decide (a0>(1099511627776:Int)))) then (some 16) else (some 0))
def Xfg:List Int:=[0,1,2,2,3,3,3,3,4,4,4,4,4,4,4,4,5,5,5,5,5,5,5,5,5,5,5,5,5,5,5,5,6,6,6,6,6,6,6,6,6,6,6,6,6,6,6,6,6,6,6,6,6,6,6,6,6,6,6,6,6,6,6,6,7,7,7,7,7,7,7,7,7,7,7,7,7,7,7,7,7,7,7,7,7,7,7,7,7,7,7,7,7,7,7,7,7,7,7,7,7,7,7,7,7,7,7,7,7,7,7,7,7,7,7,7,7,7,7,7,7,7,7,7,7,7,7,7,8,8,8,8,8,8,8,8,8,8,8,8,8,8,8,8,8,8,8,8,8,8,8,8,8,8,8,8,8,8,8,8,8,8,8,8,8,8,8,8,8,8,8,8,8,8,8,8,8,8,8,8,8,8,8,8,8,8,8,8,8,8,8,8,8,8,8,8,8,8,8,8,8,8,8,8,8,8,8,8,8,8,8,8,8,8,8,8,8,8,8,8,8,8,8,8,8,8,8,8,8,8,8,8,8,8,8,8,8,8,8,8,8,8,8,8,8,8,8,8,8,8,8,8,8,8,8,8]
def X9e (a0:Int):Option (Int) :=
 (bif (decide (a0 >= (4294967296:Int))) then (some ((Int.fdiv a0 (2 ^ (min (Int.toNat 32) IntKind.u64.bits))),32)) else (some (a0,0)):Option (Int×Int)).bind fun w2=>(bif (decide (w2.1 >= (65536:Int))) then (some ((Int.fdiv w2.1 (2 ^ (min (Int.toNat 16) IntKind.u64.bits))),(IntKind.i64.wrap (w2.2+16)))) else (some (w2.1,w2.2)):Option (Int×Int)).bind fun w6=>(bif (decide (w6.1 >= (256:Int))) then (some ((Int.fdiv w6.1 (2 ^ (min (Int.toNat 8) IntKind.u64.bits))),(IntKind.i64.wrap (w6.2+8)))) else (some (w6.1,w6.2)):Option (Int×Int)).bind fun w10=>(X3b Xfg (IntKind.u8.wrap w10.1)).bind fun b13=>some (IntKind.i64.wrap (w10.2+(IntKind.i64.wrap b13)))
def X8c (a0:Int):Option (Int) :=
 (X9e a0).bind fun v1=>some v1
inductive X11 where
 |x0 (Xct:Int)
def Xo (X0u:(List X2)) (Xj:X2) (y0_8:Int):Nat->Int->Int->Option X11
 |0,_,_=>none
 |n+1,Xrc,Xie=>bif (decide (Xrc<Xie)) then ((X3b X0u (IntKind.i64.wrap (Int.fdiv (IntKind.u64.wrap (IntKind.i64.wrap (Xrc+Xie))) (2 ^ (min (Int.toNat 1) IntKind.u64.bits))))).bind fun e15=>(X63 e15 Xj).bind fun v17=>bif (decide (v17<(0:Int))) then (Xo X0u Xj y0_8 n (IntKind.i64.wrap ((IntKind.i64.wrap (Int.fdiv (IntKind.u64.wrap (IntKind.i64.wrap (Xrc+Xie))) (2 ^ (min (Int.toNat 1) IntKind.u64.bits))))+1)) Xie) else (Xo X0u Xj y0_8 n Xrc (IntKind.i64.wrap (Int.fdiv (IntKind.u64.wrap (IntKind.i64.wrap (Xrc+Xie))) (2 ^ (min (Int.toNat 1) IntKind.u64.bits)))))) else (some (.x0 Xrc))
def Xc (a0:(List X2)) (a1:X2):Option (Int×Bool) :=
 (Xo  a0 a1 (List.length a0:Int) FU 0 (List.length a0:Int)).bind fun o20=>match o20 with|.x0 Xct=>((bif (decide (Xct<(List.length a0:Int))) then ((X3b a0 Xct).bind fun e29=>(X63 e29 a1).bind fun v31=>some (bif (decide (Xct<(List.length a0:Int))) then (v31==(0:Int)) else false)) else (some false):Option (Bool)).bind fun Xz8=>some (Xct,Xz8))
def X1u (a0:X0t) (a1:X0t):Option (X0t×Int) :=
 ((X2l a0).bind fun v7=>bif (v7 != (0:Int)) then (some (bif (v7 != (0:Int)) then true else false)) else ((X2l a1).bind fun v10=>some (bif (v7 != (0:Int)) then true else (v10 != (0:Int)))):Option (Bool)).bind fun Xyt=>bif Xyt then (some ((X0t.mk 0 0 0 0),8)) else (bif (decide ((IntKind.i64.wrap (a0.Count+a1.Count))>(1073741824:Int))) then (some ((X0t.mk 0 0 0 0),4)) else (bif (a0.Count==(0:Int)) then (some (a1,0)) else (bif (a1.Count==(0:Int)) then (some (a0,0)) else (some ((X0t.mk (IntKind.i64.wrap (a0.Count+a1.Count)) (IntKind.i64.wrap (a0.Sum+a1.Sum)) (if a1.Min<a0.Min then a1.Min else a0.Min) (if a1.Max>a0.Max then a1.Max else a0.Max)),0)))))
def X9n (a0:Int) (a1:Int):Option (Int) :=
 bif (bif (decide (a1<(1:Int))) then true else (decide (a1>(1073741824:Int)))) then (some 2) else (bif (bif (decide (a0<((-1099511627776):Int))) then true else (decide (a0>(1099511627776:Int)))) then (some 16) else (some 0))
def X6k (a0:Int) (a1:Int):Option (Int×Int) :=
 (X9n a0 a1).bind fun v1=>bif (v1 != (0:Int)) then (some (0,v1)) else ((Xtm a1).bind fun u4=>(bif (decide ((Int.tmod a0 a1)<(0:Int))) then (some (IntKind.i64.wrap ((IntKind.i64.wrap (Int.tdiv a0 a1)) - 1))) else (some (IntKind.i64.wrap (Int.tdiv a0 a1))):Option (Int)).bind fun j7_7=>some (j7_7,0))
def Xab (a0:Int) (a1:Int):Option (X00×Int) :=
 (X6k a0 a1).bind fun v1=>bif (v1.2 != (0:Int)) then (some ((X00.mk 0 0),v1.2)) else (some ((X00.mk (IntKind.i64.wrap (v1.1*a1)) (IntKind.i64.wrap ((IntKind.i64.wrap (v1.1+1))*a1))),0))
inductive Xa1 where
 |x0 (X06:(List X00))
def X52 (X0u:Int) (X8s:Int) (Xbm:Int):Nat->(List X00)->Int->Option Xa1
 |0,_,_=>none
 |n+1,Xj,X4z=>bif (decide ((IntKind.i64.wrap (X4z+X8s))>X0u)) then ((X2b (List.length (Xj++[(X00.mk X4z (IntKind.i64.wrap (X4z+X8s)))])) 16).bind fun u19=>X52 X0u X8s Xbm n (Xj++[(X00.mk X4z (IntKind.i64.wrap (X4z+X8s)))]) (IntKind.i64.wrap (X4z - Xbm))) else (some (.x0 Xj))
inductive X7b where
 |x0 (X4a:(List X00)) (Xbh:(List X00))
def X3d (X1n:(List X00)):Nat->(List X00)->Int->Option X7b
 |0,_,_=>none
 |n+1,X0d,Xkz=>bif (decide (Xkz >= (0:Int))) then ((X3b X1n Xkz).bind fun e68=>(X2b (List.length (X0d++[e68])) 16).bind fun u72=>X3d X1n n (X0d++[e68]) (IntKind.i64.wrap (Xkz - 1))) else (some (.x0 X0d X1n))
def Xbr (a0:Int) (a1:Int) (a2:Int):Option ((List X00)×Int) :=
 bif (bif (bif (bif (decide ((if a2<a1 then a2 else a1)<(1:Int))) then true else (decide (a1>(1073741824:Int)))) then true else (decide (a2>a1))) then true else (decide (a1>(IntKind.i64.wrap (16*a2))))) then (some (([]:List X00),2)) else ((Xab a0 a2).bind fun v2=>bif (v2.2 != (0:Int)) then (some (([]:List X00),v2.2)) else ((X52  a0 a1 a2 FU ([]:List X00) v2.1.Start).bind fun o24=>match o24 with|.x0 X06=>((X3d  X06 FU ([]:List X00) (IntKind.i64.wrap ((List.length X06:Int) - 1))).bind fun o87=>match o87 with|.x0 X4a Xbh=>(some (X4a,0)))))
def Xdk (a0:X0s) (a1:Int):Option ((List X00)×Int) :=
 (X17 a0).bind fun v1=>bif (v1 != (0:Int)) then (some (([]:List X00),v1)) else (bif (a0.Kind==(1:Int)) then ((Xab a1 a0.Size).bind fun v5=>bif (v5.2 != (0:Int)) then (some (([]:List X00),v5.2)) else (some ([v5.1],0))) else (bif (a0.Kind==(2:Int)) then ((Xbr a1 a0.Size a0.Every).bind fun v9=>some (v9.1,v9.2)) else (some (([]:List X00),2))))
inductive X01 where
 |x0
 |x1 (X9l:Int)
def Xd (X0d:(List X2)) (X1n:X2):List X2->Nat->Option X01
 |[],k=>some (.x0)
 |x::xs,k=>bif (bif (bif (x.Key==X1n.Key) then (decide (x.Span.Start<X1n.Span.End)) else false) then (decide (X1n.Span.Start<x.Span.End)) else false) then (some (.x1 (k:Int))) else (Xd X0d X1n xs (k+1))
inductive X3y where
 |x0 (X4a:(List X2)) (Xgt:Int)
def X1o:Nat->(List X2)->X2->Option X3y
 |0,_,_=>none
 |n+1,X0d,X1n=>((X5d (List.length X0d)).bind fun u1330=>(Xd  X0d X1n X0d 0).bind fun o1342=>match o1342 with|.x0=>(some (-1))|.x1 X9l=>(some X9l):Option (Int)).bind fun Xch=>bif (decide (Xch<(0:Int))) then (((Xc X0d X1n).bind fun v1393=>bif (!v1393.2) then (bif (v1393.1==(List.length X0d:Int)) then (((X6d X0d v1393.1 (List.length X0d:Int)).bind fun m1405=>bif (List.isEmpty m1405) then ((X2b (List.length (X0d++[X1n])) 88).bind fun u1408=>some ()) else ((X2b (List.length (X0d++[X1n])) 88).bind fun u1410=>some ()):Option (Unit)).bind fun _=>some ((X0d++[X1n]),0)) else ((Xnz X0d v1393.1 X1n 88).bind fun m1413=>some (m1413,0))) else ((X3b X0d v1393.1).bind fun e1415=>((X1u e1415.Values.e0 X1n.Values.e0).bind fun v1430=>bif (v1430.2 != (0:Int)) then (some (X0d,v1430.2)) else ((X1u (((X2.mk e1415.Key e1415.Span (V2.mk v1430.1 e1415.Values.e1)).Values).e1) X1n.Values.e1).bind fun v1435=>bif (v1435.2 != (0:Int)) then (some ((List.set X0d (Int.toNat v1393.1) (X2.mk e1415.Key e1415.Span (V2.mk v1430.1 e1415.Values.e1))),v1435.2)) else (some ((List.set (List.set X0d (Int.toNat v1393.1) (X2.mk e1415.Key e1415.Span (V2.mk v1430.1 e1415.Values.e1))) (Int.toNat v1393.1) (X2.mk ((X2.mk e1415.Key e1415.Span (V2.mk v1430.1 e1415.Values.e1)).Key) ((X2.mk e1415.Key e1415.Span (V2.mk v1430.1 e1415.Values.e1)).Span) (V2.mk (((X2.mk e1415.Key e1415.Span (V2.mk v1430.1 e1415.Values.e1)).Values).e0) v1435.1))),0))):Option ((List X2)×Int)).bind fun w1427=>some (w1427.1,w1427.2)):Option ((List X2)×Int)).bind fun w1392=>some (.x0 w1392.1 w1392.2)) else ((X3b X0d Xch).bind fun e1440=>((X1u X1n.Values.e0 e1440.Values.e0).bind fun v1455=>bif (v1455.2 != (0:Int)) then (some (X1n,v1455.2)) else ((X1u X1n.Values.e1 e1440.Values.e1).bind fun v1460=>bif (v1460.2 != (0:Int)) then (some ((X2.mk X1n.Key X1n.Span (V2.mk v1455.1 X1n.Values.e1)),v1460.2)) else (some ((X2.mk X1n.Key X1n.Span (V2.mk v1455.1 v1460.1)),0))):Option (X2×Int)).bind fun w1452=>bif (w1452.2 != (0:Int)) then (some (.x0 ([]:List X2) w1452.2)) else ((delI X0d Xch).bind fun m1465=>X1o n m1465 (X2.mk w1452.1.Key (X00.mk (if e1440.Span.Start<w1452.1.Span.Start then e1440.Span.Start else w1452.1.Span.Start) (if e1440.Span.End>w1452.1.Span.End then e1440.Span.End else w1452.1.Span.End)) w1452.1.Values)))
inductive X7o where
 |x0 (X06:(List X2))
 |x1 (X1g:(List X2)) (Xgs:Int)
def X2j (Xek:(List X00)):List X00->Nat->X2->(List X2)->Option X7o
 |[],k,Xj,Xh=>some (.x0 Xh)
 |x::xs,k,Xj,Xh=>((Xc Xh (X2.mk Xj.Key x Xj.Values)).bind fun v1891=>bif (!v1891.2) then (bif (v1891.1==(List.length Xh:Int)) then (((X6d Xh v1891.1 (List.length Xh:Int)).bind fun m1903=>bif (List.isEmpty m1903) then ((X2b (List.length (Xh++[(X2.mk Xj.Key x Xj.Values)])) 88).bind fun u1906=>some ()) else ((X2b (List.length (Xh++[(X2.mk Xj.Key x Xj.Values)])) 88).bind fun u1908=>some ()):Option (Unit)).bind fun _=>some ((X2.mk ((X2.mk Xj.Key x Xj.Values).Key) ((X2.mk Xj.Key x Xj.Values).Span) (V2.mk (((X2.mk Xj.Key x Xj.Values).Values).e0) (((X2.mk Xj.Key x Xj.Values).Values).e1))),(Xh++[(X2.mk Xj.Key x Xj.Values)]),0)) else ((Xnz Xh v1891.1 (X2.mk Xj.Key x Xj.Values) 88).bind fun m1911=>some ((X2.mk Xj.Key x Xj.Values),m1911,0))) else ((X3b Xh v1891.1).bind fun e1913=>((X1u e1913.Values.e0 Xj.Values.e0).bind fun v1928=>bif (v1928.2 != (0:Int)) then (some (Xh,v1928.2)) else ((X1u (((X2.mk e1913.Key e1913.Span (V2.mk v1928.1 e1913.Values.e1)).Values).e1) Xj.Values.e1).bind fun v1933=>bif (v1933.2 != (0:Int)) then (some ((List.set Xh (Int.toNat v1891.1) (X2.mk e1913.Key e1913.Span (V2.mk v1928.1 e1913.Values.e1))),v1933.2)) else (some ((List.set (List.set Xh (Int.toNat v1891.1) (X2.mk e1913.Key e1913.Span (V2.mk v1928.1 e1913.Values.e1))) (Int.toNat v1891.1) (X2.mk ((X2.mk e1913.Key e1913.Span (V2.mk v1928.1 e1913.Values.e1)).Key) ((X2.mk e1913.Key e1913.Span (V2.mk v1928.1 e1913.Values.e1)).Span) (V2.mk (((X2.mk e1913.Key e1913.Span (V2.mk v1928.1 e1913.Values.e1)).Values).e0) v1933.1))),0))):Option ((List X2)×Int)).bind fun w1925=>some ((X2.mk ((X2.mk Xj.Key x Xj.Values).Key) ((X2.mk Xj.Key x Xj.Values).Span) (V2.mk (((X2.mk Xj.Key x Xj.Values).Values).e0) (((X2.mk Xj.Key x Xj.Values).Values).e1))),w1925.1,w1925.2)):Option (X2×(List X2)×Int)).bind fun w1890=>bif (w1890.2.2 != (0:Int)) then (some (.x1 ([]:List X2) w1890.2.2)) else (X2j Xek xs (k+1) w1890.1 w1890.2.1)
def X3q (a0:(List X2)) (a1:X0s) (a2:Xl) (a3:Int):Option ((List X2)×Int) :=
 (X3x a0).bind fun v1=>bif (v1 != (0:Int)) then (some (([]:List X2),v1)) else ((X17 a1).bind fun v4=>bif (v4 != (0:Int)) then (some (([]:List X2),v4)) else (bif (bif (a3 != (0:Int)) then (a3 != (1:Int)) else false) then (some (([]:List X2),2)) else (bif (bif (decide (a2.Time<((-1099511627776):Int))) then true else (decide (a2.Time>(1099511627776:Int)))) then (some (([]:List X2),16)) else (((X71 a2.Value).bind fun v14=>bif (a3==(0:Int)) then (some (X2.mk a2.Key (X00.mk 0 0) (V2.mk v14 (X0t.mk 0 0 0 0)))) else (bif (a3==(1:Int)) then (some (X2.mk a2.Key (X00.mk 0 0) (V2.mk (X0t.mk 0 0 0 0) v14))) else none):Option (X2)).bind fun Xfn=>(bif (List.isEmpty a0) then (some a0) else ((X2b (List.length a0) 88).bind fun u28=>some a0):Option ((List X2))).bind fun Xfm=>bif (a1.Kind==(3:Int)) then (((X3s 0 a1.Size).bind fun v51=>bif (v51 != (0:Int)) then (some (([]:List X00),v51)) else ((X3s a2.Time a1.Size).bind fun v54=>bif (v54 != (0:Int)) then (some (([]:List X00),v54)) else ((X8c 1).bind fun v67=>some ([(X00.mk a2.Time (IntKind.i64.wrap (a2.Time+a1.Size)))],0))):Option ((List X00)×Int)).bind fun w50=>bif (w50.2 != (0:Int)) then (some (([]:List X2),w50.2)) else ((X3b w50.1 0).bind fun e71=>((X1o  FU Xfm (X2.mk Xfn.Key e71 Xfn.Values)).bind fun o1548=>match o1548 with|.x0 X4a Xgt=>(some (X4a,Xgt)):Option ((List X2)×Int)).bind fun w811=>bif (w811.2 != (0:Int)) then (some (([]:List X2),w811.2)) else (bif (decide ((List.length w811.1:Int)>(4000:Int))) then (some (([]:List X2),4)) else (some (w811.1,0))))) else ((Xdk a1 a2.Time).bind fun v1558=>bif (v1558.2 != (0:Int)) then (some (([]:List X2),v1558.2)) else ((X5d (List.length v1558.1)).bind fun u1561=>(X2j  v1558.1 v1558.1 0 Xfn Xfm).bind fun o1984=>match o1984 with|.x0 X06=>(bif (decide ((List.length X06:Int)>(4000:Int))) then (some (([]:List X2),4)) else (some (X06,0)))|.x1 X1g Xgs=>(some (X1g,Xgs))))))))
def X4t (a0:(List X0v)):Option ((List X0v)) :=
 bif (List.isEmpty a0) then (some a0) else ((X2b (List.length a0) 88).bind fun u4=>some a0)
def X1h (a0:(List Int)):Option ((List Int)) :=
 bif (List.isEmpty a0) then (some a0) else ((X2b (List.length a0) 8).bind fun u4=>some a0)
def X1j (a0:(List X2)):Option ((List X2)) :=
 bif (List.isEmpty a0) then (some a0) else ((X2b (List.length a0) 88).bind fun u4=>some a0)
def X1i (a0:(List X1b)):Option ((List X1b)) :=
 bif (List.isEmpty a0) then (some a0) else ((X2b (List.length a0) 40).bind fun u4=>some a0)
def X2h (a0:(List X28)):Option ((List X28)) :=
 bif (List.isEmpty a0) then (some a0) else ((X2b (List.length a0) 40).bind fun u4=>some a0)
def X18 (a0:(List Xl)):Option ((List Xl)) :=
 bif (List.isEmpty a0) then (some a0) else ((X2b (List.length a0) 24).bind fun u4=>some a0)
def X4m (a0:X08) (a1:(List X0v)):Option (X08×Int) :=
 (X8i a0).bind fun v1=>bif (v1 != (0:Int)) then (some ((X08.mk (GOp.mk 0 0) 0 ([]:List X0v) ([]:List Int) ([]:List X2) ([]:List X1b) ([]:List X28) ([]:List Xl)),v1)) else ((X8h a1).bind fun v4=>bif (!v4) then (some ((X08.mk (GOp.mk 0 0) 0 ([]:List X0v) ([]:List Int) ([]:List X2) ([]:List X1b) ([]:List X28) ([]:List Xl)),8)) else (bif (decide ((List.length a1:Int)>(IntKind.i64.wrap (4000 - (List.length a0.Pending:Int))))) then (some ((X08.mk (GOp.mk 0 0) 0 ([]:List X0v) ([]:List Int) ([]:List X2) ([]:List X1b) ([]:List X28) ([]:List Xl)),4)) else (bif (List.isEmpty a0.Pending) then ((X1h a0.Marks).bind fun v33=>(X1j a0.Store).bind fun v35=>(X1i a0.Events).bind fun v37=>(X2h a0.Rows).bind fun v39=>(X18 a0.Late).bind fun v41=>bif (List.isEmpty a1) then (some ((X08.mk a0.Op a0.Turn a1 v33 v35 v37 v39 v41),0)) else ((X2b (List.length a1) 88).bind fun u44=>some ((X08.mk a0.Op a0.Turn a1 v33 v35 v37 v39 v41),0))) else ((X4t a0.Pending).bind fun v46=>(X1h a0.Marks).bind fun v48=>(X1j a0.Store).bind fun v50=>(X1i a0.Events).bind fun v52=>(X2h a0.Rows).bind fun v54=>(X18 a0.Late).bind fun v56=>bif (List.isEmpty a1) then (some ((X08.mk a0.Op a0.Turn v46 v48 v50 v52 v54 v56),0)) else ((X2b (List.length (v46++a1)) 88).bind fun u59=>none)))))
def X6h (a0:Int):Option (Bool) :=
 (X2s (Xg.mk 2 (Xl.mk 0 0 0) a0 (X28.mk 0 (X00.mk 0 0) (V2.mk 0 0)))).bind fun v1=>some (v1==(0:Int))
inductive X5y where
 |x0
 |x1
def X44 (Xgw:(List Int)):List Int->Nat->Option X5y
 |[],k=>some (.x0)
 |x::xs,k=>(bif (x != ((-9223372036854775808):Int)) then ((X6h x).bind fun v32=>some (bif (x != ((-9223372036854775808):Int)) then (!v32) else false)) else (some (bif (x != ((-9223372036854775808):Int)) then false else false)):Option (Bool)).bind fun Xsz=>bif Xsz then (some (.x1)) else (X44 Xgw xs (k+1))
def X9f (a0:(List Int)):Option (Int) :=
 (bif ((List.length a0:Int)==(0:Int)) then (some (bif ((List.length a0:Int)==(0:Int)) then true else false)) else (some (bif ((List.length a0:Int)==(0:Int)) then true else (decide ((List.length a0:Int)>(4:Int))))):Option (Bool)).bind fun Xz6=>bif Xz6 then (some 8) else ((X5d (List.length a0)).bind fun u6=>(X44  a0 a0 0).bind fun o36=>match o36 with|.x0=>(some 0)|.x1=>(some 8))
inductive X3e where
 |x0 (Xj2:Int)
def X0w (X0u:(List Int)):Nat->Int->Int->Option X3e
 |0,_,_=>none
 |n+1,Xkz,Xwz=>bif (decide (Xwz<(List.length X0u:Int))) then ((X3b X0u Xwz).bind fun e13=>X0w X0u n (if e13<Xkz then e13 else Xkz) (IntKind.i64.wrap (Xwz+1))) else (some (.x0 Xkz))
def X22 (a0:(List Int)):Option (Int) :=
 bif (decide ((List.length a0:Int)<(1:Int))) then none else ((X3b a0 0).bind fun e3=>(X0w  a0 FU e3 1).bind fun o15=>match o15 with|.x0 Xj2=>(some Xj2))
def X4g (a0:(List Int)):Option (Int×Int) :=
 (X9f a0).bind fun v1=>bif (v1 != (0:Int)) then (some (0,v1)) else ((X22 a0).bind fun v4=>some (v4,0))
def X7h (a0:(List Int)) (a1:Int) (a2:Int):Option ((List Int)×Bool×Int) :=
 (X4g a0).bind fun v1=>bif (v1.2 != (0:Int)) then (some (([]:List Int),false,v1.2)) else ((bif (decide (a1<(0:Int))) then (some (bif (bif (decide (a1<(0:Int))) then true else false) then true else false)) else (bif (decide (a1 >= (List.length a0:Int))) then (some (bif (bif (decide (a1<(0:Int))) then true else (decide (a1 >= (List.length a0:Int)))) then true else false)) else ((X6h a2).bind fun v11=>some (bif (bif (decide (a1<(0:Int))) then true else (decide (a1 >= (List.length a0:Int)))) then true else (!v11)))):Option (Bool)).bind fun Xyr=>bif Xyr then (some (([]:List Int),false,2)) else ((bif (List.isEmpty a0) then (some a0) else ((X2b (List.length a0) 8).bind fun u24=>some a0):Option ((List Int))).bind fun Xhr=>(X3b Xhr a1).bind fun e27=>(X22 (List.set Xhr (Int.toNat a1) (if a2>e27 then a2 else e27))).bind fun v29=>some ((List.set Xhr (Int.toNat a1) (if a2>e27 then a2 else e27)),(decide (v29>v1.1)),0)))
inductive X94 where
 |x0 (X06:(List X2)) (X0i:(List X2))
def X3p (X8s:Int) (X2y:(List X2)):List X2->Nat->(List X2)->(List X2)->Option X94
 |[],k,Xj,Xh=>some (.x0 Xj Xh)
 |x::xs,k,Xj,Xh=>(bif (decide (x.Span.End<=X8s)) then ((X2b (List.length (Xj++[x])) 88).bind fun u110=>some ((Xj++[x]),Xh)) else ((X2b (List.length (Xh++[x])) 88).bind fun u112=>some (Xj,(Xh++[x]))):Option ((List X2)×(List X2))).bind fun w108=>X3p X8s X2y xs (k+1) w108.1 w108.2
def X79 (a0:(List X2)) (a1:Int):Option ((List X2)×(List X2)×Int) :=
 (X3x a0).bind fun v1=>bif (v1 != (0:Int)) then (some (([]:List X2),([]:List X2),v1)) else ((X5d (List.length a0)).bind fun u4=>(X3p  a1 a0 a0 0 ([]:List X2) ([]:List X2)).bind fun o151=>match o151 with|.x0 X06 X0i=>(some (X06,X0i,0)))
def X6i (a0:Int) (a1:X0t):Option (Int×Int) :=
 bif (bif (decide (a0<(1:Int))) then true else (decide (a0>(4:Int)))) then (some (0,2)) else ((X2l a1).bind fun v2=>bif (v2 != (0:Int)) then (some (0,v2)) else (bif (a1.Count==(0:Int)) then (some (0,6)) else ((bif (a0==(0:Int)) then (some 0) else (bif (a0==(1:Int)) then (some a1.Count) else (bif (a0==(2:Int)) then (some a1.Sum) else (bif (a0==(3:Int)) then (some a1.Min) else (bif (a0==(4:Int)) then (some a1.Max) else none)))):Option (Int)).bind fun Xza=>some (Xza,0))))
def Xcg (a0:X03) (a1:X2):Option (X28×Bool) :=
 (X6i a0.Agg a1.Values.e0).bind fun v1=>(X6i a0.Agg a1.Values.e1).bind fun v3=>bif (bif (v1.2 != (0:Int)) then true else (v3.2 != (0:Int))) then (some ((X28.mk 0 (X00.mk 0 0) (V2.mk 0 0)),false)) else (some ((X28.mk a1.Key a1.Span (V2.mk v1.1 v3.1)),true))
inductive Xa5 where
 |x0 (X4b:(List X0v))
def X3t (Xj:X03) (Xh:X08) (X7r:X08) (Xa9:(List X2)):List X2->Nat->(List X0v)->Option Xa5
 |[],k,X0d=>some (.x0 X0d)
 |x::xs,k,X0d=>(Xcg Xj x).bind fun v70=>(bif v70.2 then ((X2b (List.length (X0d++[(X0v.mk 0 (Xg.mk 3 (Xl.mk 0 0 0) 0 v70.1))])) 88).bind fun u77=>some (X0d++[(X0v.mk 0 (Xg.mk 3 (Xl.mk 0 0 0) 0 v70.1))])) else (some X0d):Option ((List X0v))).bind fun Xlo=>X3t Xj Xh X7r Xa9 xs (k+1) Xlo
def X2n (a0:X03) (a1:X08) (a2:Int) (a3:Xg):Option (X08×Int) :=
 (X5e a0).bind fun v1=>bif (!v1) then (some ((X08.mk (GOp.mk 0 0) 0 ([]:List X0v) ([]:List Int) ([]:List X2) ([]:List X1b) ([]:List X28) ([]:List Xl)),8)) else ((X8i a1).bind fun v4=>bif (v4 != (0:Int)) then (some ((X08.mk (GOp.mk 0 0) 0 ([]:List X0v) ([]:List Int) ([]:List X2) ([]:List X1b) ([]:List X28) ([]:List Xl)),v4)) else (bif (bif (bif (a1.Op.Kind != (5:Int)) then true else (decide (a2<(0:Int)))) then true else (decide (a2>(1:Int)))) then (some ((X08.mk (GOp.mk 0 0) 0 ([]:List X0v) ([]:List Int) ([]:List X2) ([]:List X1b) ([]:List X28) ([]:List Xl)),2)) else ((X2s a3).bind fun v8=>bif (bif (v8 != (0:Int)) then true else (bif (a3.Kind != (1:Int)) then (a3.Kind != (2:Int)) else false)) then (some ((X08.mk (GOp.mk 0 0) 0 ([]:List X0v) ([]:List Int) ([]:List X2) ([]:List X1b) ([]:List X28) ([]:List Xl)),8)) else (bif (decide ((List.length a1.Pending:Int)>(0:Int))) then (some ((X08.mk (GOp.mk 0 0) 0 ([]:List X0v) ([]:List Int) ([]:List X2) ([]:List X1b) ([]:List X28) ([]:List Xl)),18)) else (bif (a3.Kind==(1:Int)) then ((X3q a1.Store a0.Window a3.Record a2).bind fun v13=>bif (v13.2 != (0:Int)) then (some ((X08.mk (GOp.mk 0 0) 0 ([]:List X0v) ([]:List Int) ([]:List X2) ([]:List X1b) ([]:List X28) ([]:List Xl)),v13.2)) else ((X4m (X08.mk a1.Op a1.Turn a1.Pending a1.Marks v13.1 a1.Events a1.Rows a1.Late) ([]:List X0v)).bind fun v16=>some (v16.1,v16.2))) else ((X7h a1.Marks a2 a3.Time).bind fun v18=>bif (!v18.2.1) then ((X4m (X08.mk a1.Op a1.Turn a1.Pending v18.1 a1.Store a1.Events a1.Rows a1.Late) ([]:List X0v)).bind fun v21=>some (v21.1,v21.2)) else ((X4g v18.1).bind fun v23=>(X79 a1.Store v23.1).bind fun v25=>(X5d (List.length v25.1)).bind fun u27=>(X3t  a0 (X08.mk a1.Op a1.Turn a1.Pending v18.1 v25.2.1 a1.Events a1.Rows a1.Late) (X08.mk (GOp.mk 0 0) 0 ([]:List X0v) ([]:List Int) ([]:List X2) ([]:List X1b) ([]:List X28) ([]:List Xl)) v25.1 v25.1 0 ([]:List X0v)).bind fun o90=>match o90 with|.x0 X4b=>((X4m (X08.mk a1.Op a1.Turn a1.Pending v18.1 v25.2.1 a1.Events a1.Rows a1.Late) X4b).bind fun v92=>some (v92.1,v92.2)))))))))
inductive X86 where
 |x0 (Xar:(List X28))
def X7p (y1_1:(List Int)) (y1_2:(List Xg)) (Xfu:X03) (Xra:X08) (Xr9:X08) (Xrb:Int) (Xgv:X08):Nat->(List X28)->Int->Option X86
 |0,_,_=>none
 |n+1,Xic,Xky=>bif (decide (Xky<(List.length Xgv.Pending:Int))) then ((X3b Xgv.Pending Xky).bind fun e166=>(X2b (List.length (Xic++[e166.Message.Row])) 40).bind fun u168=>X7p y1_1 y1_2 Xfu Xra Xr9 Xrb Xgv n (Xic++[e166.Message.Row]) (IntKind.i64.wrap (Xky+1))) else (some (.x0 Xic))
inductive X5z where
 |x0 (X0i:X08) (X4b:(List X28))
 |x1 (X50:(List X28))
def X5s (X8s:(List Int)) (Xbm:(List Xg)) (Xj:X03) (Xh:X08):List Xg->Nat->X08->(List X28)->Option X5z
 |[],k,X7r,X0d=>some (.x0 X7r X0d)
 |x::xs,k,X7r,X0d=>(X3b X8s (k:Int)).bind fun e139=>(X2n Xj X7r e139 x).bind fun v141=>bif (v141.2 != (0:Int)) then (some (.x1 ([]:List X28))) else ((X7p  X8s Xbm Xj Xh X7r (k:Int) v141.1 FU X0d 0).bind fun o175=>match o175 with|.x0 Xar=>(X5s X8s Xbm Xj Xh xs (k+1) (X08.mk v141.1.Op v141.1.Turn ([]:List X0v) v141.1.Marks v141.1.Store v141.1.Events v141.1.Rows v141.1.Late) Xar))
def Xd6 (a0:X03) (a1:(List Int)) (a2:(List Xg)):Option (X08×(List X28)×Bool) :=
 (Xdz 0).bind fun v1=>bif (v1.2 != (0:Int)) then (some ((X08.mk (GOp.mk 0 0) 0 ([]:List X0v) ([]:List Int) ([]:List X2) ([]:List X1b) ([]:List X28) ([]:List Xl)),([]:List X28),false)) else ((X5d (List.length a2)).bind fun u4=>(X5s  a1 a2 a0 (X08.mk (GOp.mk 0 0) 0 ([]:List X0v) ([]:List Int) ([]:List X2) ([]:List X1b) ([]:List X28) ([]:List Xl)) a2 0 v1.1 ([]:List X28)).bind fun o205=>match o205 with|.x0 X0i X4b=>(some (X0i,X4b,true))|.x1 X50=>(some ((X08.mk ((X08.mk (GOp.mk 0 0) 0 ([]:List X0v) ([]:List Int) ([]:List X2) ([]:List X1b) ([]:List X28) ([]:List Xl)).Op) ((X08.mk (GOp.mk 0 0) 0 ([]:List X0v) ([]:List Int) ([]:List X2) ([]:List X1b) ([]:List X28) ([]:List Xl)).Turn) ((X08.mk (GOp.mk 0 0) 0 ([]:List X0v) ([]:List Int) ([]:List X2) ([]:List X1b) ([]:List X28) ([]:List Xl)).Pending) ((X08.mk (GOp.mk 0 0) 0 ([]:List X0v) ([]:List Int) ([]:List X2) ([]:List X1b) ([]:List X28) ([]:List Xl)).Marks) ((X08.mk (GOp.mk 0 0) 0 ([]:List X0v) ([]:List Int) ([]:List X2) ([]:List X1b) ([]:List X28) ([]:List Xl)).Store) ((X08.mk (GOp.mk 0 0) 0 ([]:List X0v) ([]:List Int) ([]:List X2) ([]:List X1b) ([]:List X28) ([]:List Xl)).Events) ((X08.mk (GOp.mk 0 0) 0 ([]:List X0v) ([]:List Int) ([]:List X2) ([]:List X1b) ([]:List X28) ([]:List Xl)).Rows) ((X08.mk (GOp.mk 0 0) 0 ([]:List X0v) ([]:List Int) ([]:List X2) ([]:List X1b) ([]:List X28) ([]:List Xl)).Late)),X50,false)))
def Xhk (a0:Int) (a1:Int) (a2:Int) (a3:Int):Option (X28) :=
 some (X28.mk a0 (X00.mk a1 (IntKind.i64.wrap (a1+10))) (V2.mk a2 a3))
inductive X6s where
 |x0
 |x1
def X6t (X0u:(List X28)) (X8s:(List X28)):List X28->Nat->Option X6s
 |[],k=>some (.x0)
 |x::xs,k=>(X3b X8s (k:Int)).bind fun e11=>bif (!(Xkn x e11)) then (some (.x1)) else (X6t X0u X8s xs (k+1))
def Xew (a0:(List X28)) (a1:(List X28)):Option (Bool) :=
 bif ((List.length a0:Int) != (List.length a1:Int)) then (some false) else ((X5d (List.length a0)).bind fun u2=>(X6t  a0 a1 a0 0).bind fun o14=>match o14 with|.x0=>(some true)|.x1=>(some false))
def Xb0:Option (Bool) :=
 (Xev).bind fun v1=>(Xdv 0 1 4).bind fun v3=>(Xdv 0 1 6).bind fun v5=>(Xex 10).bind fun v7=>(Xd6 v1 [0,1,0,1] [v3,v5,v7,v7]).bind fun v9=>(bif v9.2.2 then ((Xhk 0 0 4 6).bind fun v19=>(Xew v9.2.1 [v19]).bind fun v21=>bif v21 then (some (bif (bif v9.2.2 then v21 else false) then ((List.length v9.1.Store:Int)==(0:Int)) else false)) else (some (bif (bif v9.2.2 then v21 else false) then false else false))) else (some (bif (bif v9.2.2 then false else false) then false else false)):Option (Bool)).bind fun Xz9=>some Xz9
def X9g (a0:X03):Option (Bool) :=
 (bif (decide ((List.length a0.Arg:Int)>(100:Int))) then (some (bif (bif (decide ((List.length a0.Arg:Int)>(100:Int))) then true else false) then true else false)) else (bif (decide ((List.length a0.Where:Int)>(100:Int))) then (some (bif (bif (decide ((List.length a0.Arg:Int)>(100:Int))) then true else (decide ((List.length a0.Where:Int)>(100:Int)))) then true else false)) else (some (bif (bif (decide ((List.length a0.Arg:Int)>(100:Int))) then true else (decide ((List.length a0.Where:Int)>(100:Int)))) then true else (decide ((List.length a0.Sources:Int)>(20:Int)))))):Option (Bool)).bind fun j3_2=>some j3_2
def Xaw (a0:Int):Option (Int) :=
 bif (decide (a0<=(4:Int))) then (some 0) else (bif (decide (a0<=(6:Int))) then (some 1) else (some 2))
def X67 (a0:X04) (a1:Int) (a2:Int):Option (Bool) :=
 some (bif (bif (bif (bif (bif (bif (bif (decide (a0.Kind >= (1:Int))) then (decide (a0.Kind<=(19:Int))) else false) then (decide (a0.N >= (0:Int))) else false) then (bif (a0.N==(0:Int)) then true else (a0.Kind==(1:Int))) else false) then (decide (a0.At >= (0:Int))) else false) then (decide (a0.At<=(400:Int))) else false) then (a0.A==a1) else false) then (a0.B==a2) else false)
inductive X4n where
 |x0 (X06:(List Int)) (X0i:(List Int))
 |x1 (X1g:(List Int)) (X50:(List Int))
def X1m (X0u:(List X04)):List X04->Nat->(List Int)->(List Int)->Option X4n
 |[],k,Xj,Xh=>some (.x0 Xj Xh)
 |x::xs,k,Xj,Xh=>(Xaw x.Kind).bind fun v156=>bif (decide (v156>(0:Int))) then (bif (decide ((IntKind.i64.wrap ((k:Int) - 1))<(0:Int))) then (some (.x1 ([]:List Int) ([]:List Int))) else ((X3b Xj (IntKind.i64.wrap ((k:Int) - 1))).bind fun e160=>(X3b Xh (IntKind.i64.wrap ((k:Int) - 1))).bind fun e162=>bif (v156==(2:Int)) then (bif (decide ((IntKind.i64.wrap ((IntKind.i64.wrap ((k:Int) - 1)) - e160))<(0:Int))) then (some (.x1 ([]:List Int) ([]:List Int))) else ((X3b Xj (IntKind.i64.wrap ((IntKind.i64.wrap ((k:Int) - 1)) - e160))).bind fun e166=>(X3b Xh (IntKind.i64.wrap ((IntKind.i64.wrap ((k:Int) - 1)) - e160))).bind fun e168=>(X67 x (IntKind.i64.wrap ((IntKind.i64.wrap ((k:Int) - 1)) - e160)) (IntKind.i64.wrap ((k:Int) - 1))).bind fun v170=>bif (!v170) then (some (.x1 ([]:List Int) ([]:List Int))) else ((X2b (List.length (Xj++[(IntKind.i64.wrap ((IntKind.i64.wrap (1+e160))+e166))])) 8).bind fun u173=>(X2b (List.length (Xh++[(if (IntKind.i64.wrap (1+e168))>(IntKind.i64.wrap (1+e162)) then (IntKind.i64.wrap (1+e168)) else (IntKind.i64.wrap (1+e162)))])) 8).bind fun u175=>X1m X0u xs (k+1) (Xj++[(IntKind.i64.wrap ((IntKind.i64.wrap (1+e160))+e166))]) (Xh++[(if (IntKind.i64.wrap (1+e168))>(IntKind.i64.wrap (1+e162)) then (IntKind.i64.wrap (1+e168)) else (IntKind.i64.wrap (1+e162)))])))) else ((X67 x (IntKind.i64.wrap ((k:Int) - 1)) 0).bind fun v177=>bif (!v177) then (some (.x1 ([]:List Int) ([]:List Int))) else ((X2b (List.length (Xj++[(IntKind.i64.wrap (1+e160))])) 8).bind fun u180=>(X2b (List.length (Xh++[(IntKind.i64.wrap (1+e162))])) 8).bind fun u182=>X1m X0u xs (k+1) (Xj++[(IntKind.i64.wrap (1+e160))]) (Xh++[(IntKind.i64.wrap (1+e162))]))))) else ((X67 x 0 0).bind fun v184=>bif (!v184) then (some (.x1 ([]:List Int) ([]:List Int))) else ((X2b (List.length (Xj++[1])) 8).bind fun u187=>(X2b (List.length (Xh++[1])) 8).bind fun u189=>X1m X0u xs (k+1) (Xj++[1]) (Xh++[1])))
def Xav (a0:(List X04)):Option ((List Int)×(List Int)×Bool) :=
 (X5d (List.length a0)).bind fun u1=>(X1m  a0 a0 0 ([]:List Int) ([]:List Int)).bind fun o232=>match o232 with|.x0 X06 X0i=>((bif (decide ((List.length a0:Int)>(0:Int))) then ((X3b X06 (IntKind.i64.wrap ((List.length a0:Int) - 1))).bind fun e239=>some (bif (decide ((List.length a0:Int)>(0:Int))) then (e239==(List.length a0:Int)) else false)) else (some false):Option (Bool)).bind fun Xt2=>some (X06,X0i,Xt2))|.x1 X1g X50=>(some (X1g,X50,false))
def X4f (a0:(List X04)):Option (Int) :=
 bif (decide ((List.length a0:Int)>(60:Int))) then (some 4) else ((Xav a0).bind fun v2=>bif (!v2.2.2) then (some 8) else ((X3b v2.2.1 (IntKind.i64.wrap ((List.length a0:Int) - 1))).bind fun e5=>bif (decide (e5>(20:Int))) then (some 34) else (some 0)))
inductive X4x where
 |x0
 |x1
def X33 (X0u:(List Int)):List Int->Nat->Option X4x
 |[],k=>some (.x0)
 |x::xs,k=>(bif (decide (x<(0:Int))) then (some (bif (decide (x<(0:Int))) then true else false)) else (some (bif (decide (x<(0:Int))) then true else (decide (x>(3:Int))))):Option (Bool)).bind fun Xt1=>bif Xt1 then (some (.x1)) else (X33 X0u xs (k+1))
inductive X4v where
 |x0
 |x1
def X32 (Xxr:(List Int)) (Xxq:Int):Nat->Int->Option X4v
 |0,_=>none
 |n+1,Xwx=>bif (decide (Xwx<Xxq)) then ((X3b Xxr Xwx).bind fun e86=>(X3b Xxr Xxq).bind fun e88=>bif (e86==e88) then (some (.x0)) else (X32 Xxr Xxq n (IntKind.i64.wrap (Xwx+1)))) else (some (.x1))
inductive X4w where
 |x0
 |x1
def X2k (Xqx:(List Int)):List Int->Nat->Option X4w
 |[],k=>some (.x0)
 |x::xs,k=>(X32  Xqx (k:Int) FU 0).bind fun o91=>match o91 with|.x0=>(some (.x1))|.x1=>(X2k Xqx xs (k+1))
def X6p (a0:(List Int)) (a1:Bool):Option (Int) :=
 bif (decide ((List.length a0:Int)>(4:Int))) then (some 4) else ((bif ((List.length a0:Int)==(0:Int)) then (some (bif ((List.length a0:Int)==(0:Int)) then true else false)) else (bif a1 then (some (bif ((List.length a0:Int)==(0:Int)) then true else (bif a1 then ((List.length a0:Int) != (2:Int)) else false))) else (some (bif ((List.length a0:Int)==(0:Int)) then true else (bif a1 then false else false)))):Option (Bool)).bind fun Xyw=>bif Xyw then (some 8) else ((X5d (List.length a0)).bind fun u9=>(X33  a0 a0 0).bind fun o27=>match o27 with|.x0=>((X2k  a0 a0 0).bind fun o93=>match o93 with|.x0=>(some 0)|.x1=>(some 43))|.x1=>(some 8)))
def X7d (a0:X0s):Option (Bool) :=
 bif (bif (decide (a0.Size<(1:Int))) then true else (decide (a0.Size>(1073741824:Int)))) then (some false) else (bif (a0.Kind==(2:Int)) then (some (bif (bif (decide (a0.Every >= (1:Int))) then (decide (a0.Every<=a0.Size)) else false) then (decide (a0.Size<=(IntKind.i64.wrap (16*a0.Every)))) else false)) else (some (bif (bif (a0.Kind==(1:Int)) then true else (a0.Kind==(3:Int))) then (a0.Every==(0:Int)) else false)))
def X9a (a0:X03):Option (Int) :=
 bif (bif (bif (bif (decide (a0.Agg<(1:Int))) then true else (decide (a0.Agg>(4:Int)))) then true else (decide (a0.Late<(1:Int)))) then true else (decide (a0.Late>(2:Int)))) then (some 8) else ((bif (a0.Agg==(1:Int)) then (some (bif (a0.Agg==(1:Int)) then (decide ((List.length a0.Arg:Int)>(0:Int))) else false)) else (some (bif (a0.Agg==(1:Int)) then false else false)):Option (Bool)).bind fun Xz3=>bif Xz3 then (some 8) else ((bif (a0.Agg != (1:Int)) then ((X4f a0.Arg).bind fun v12=>some (bif (a0.Agg != (1:Int)) then (v12 != (0:Int)) else false)) else (some (bif (a0.Agg != (1:Int)) then false else false)):Option (Bool)).bind fun Xt6=>bif Xt6 then ((X4f a0.Arg).bind fun v16=>some v16) else ((bif (decide ((List.length a0.Where:Int)>(0:Int))) then ((X4f a0.Where).bind fun v23=>some (bif (decide ((List.length a0.Where:Int)>(0:Int))) then (v23 != (0:Int)) else false)) else (some (bif (decide ((List.length a0.Where:Int)>(0:Int))) then false else false)):Option (Bool)).bind fun Xlp=>bif Xlp then ((X4f a0.Where).bind fun v27=>some v27) else ((X6p a0.Sources a0.Join).bind fun v29=>bif (v29 != (0:Int)) then (some v29) else ((X7d a0.Window).bind fun v32=>bif (bif (!v32) then true else (bif a0.Join then (a0.Window.Kind != (1:Int)) else false)) then (some 8) else (some 0))))))
def X66 (a0:Int):Option (Bool) :=
 some (bif (a0==(6:Int)) then true else (decide (a0 >= (12:Int))))
def Xaf (a0:(List X04)) (a1:Int):Option (Bool) :=
 (X3b a0 a1).bind fun e1=>(X3b a0 e1.A).bind fun e3=>(X66 e3.Kind).bind fun v5=>(X3b a0 e1.B).bind fun e7=>(X66 e7.Kind).bind fun v9=>bif (decide (e1.Kind<=(4:Int))) then (some true) else (bif (e1.Kind==(5:Int)) then (some (!v5)) else (bif (e1.Kind==(6:Int)) then (some v5) else (bif (bif (e1.Kind==(16:Int)) then true else (e1.Kind==(17:Int))) then (some (v5==v9)) else (bif (decide (e1.Kind >= (18:Int))) then (some (bif v5 then v9 else false)) else (some (bif (!v5) then (!v9) else false))))))
inductive X5x where
 |x0
 |x1 (Xa8:Int)
def X41 (X0u:(List X04)):List X04->Nat->Option X5x
 |[],k=>some (.x0)
 |x::xs,k=>(Xaf X0u (k:Int)).bind fun v10=>bif (!v10) then (some (.x1 (k:Int))) else (X41 X0u xs (k+1))
def Xau (a0:(List X04)):Option (Int) :=
 (X5d (List.length a0)).bind fun u1=>(X41  a0 a0 0).bind fun o13=>match o13 with|.x0=>(some (List.length a0:Int))|.x1 Xa8=>(some Xa8)
def Xdp (a0:(List X04)):Option (Bool×Int×Int) :=
 (X4f a0).bind fun v1=>bif (v1 != (0:Int)) then (some (false,0,v1)) else ((Xau a0).bind fun v4=>bif (decide (v4<(List.length a0:Int))) then (some (false,v4,42)) else ((X3b a0 (IntKind.i64.wrap ((List.length a0:Int) - 1))).bind fun e7=>(X66 e7.Kind).bind fun v9=>some (v9,(IntKind.i64.wrap ((List.length a0:Int) - 1)),0)))
def X7e (a0:(List X04)) (a1:Bool):Option (Int×Int) :=
 (Xdp a0).bind fun v1=>bif (bif (v1.2.2==(0:Int)) then (!(v1.1==a1)) else false) then (some (v1.2.1,42)) else (some (v1.2.1,v1.2.2))
def X98 (a0:X03):Option (Int×Int) :=
 bif (decide ((List.length a0.Arg:Int)>(0:Int))) then ((X7e a0.Arg false).bind fun v2=>bif (v2.2 != (0:Int)) then ((X3b a0.Arg v2.1).bind fun e5=>some (e5.At,v2.2)) else (bif (decide ((List.length a0.Where:Int)>(0:Int))) then ((X7e a0.Where true).bind fun v8=>bif (v8.2 != (0:Int)) then ((X3b a0.Where v8.1).bind fun e11=>some (e11.At,v8.2)) else (some (0,0))) else (some (0,0)))) else (bif (decide ((List.length a0.Where:Int)>(0:Int))) then ((X7e a0.Where true).bind fun v14=>bif (v14.2 != (0:Int)) then ((X3b a0.Where v14.1).bind fun e17=>some (e17.At,v14.2)) else (some (0,0))) else (some (0,0)))
def X99 (a0:X03):Option (Int×Int) :=
 (X9a a0).bind fun v1=>bif (v1 != (0:Int)) then (some (0,v1)) else ((X98 a0).bind fun v4=>some (v4.1,v4.2))
def X5o (a0:X03):Option (Bool) :=
 (X99 a0).bind fun v1=>some (v1.2==(0:Int))
inductive X6o where
 |x0
 |x1
def X4e (X0u:(List X2)) (X8s:(List X2)):List X2->Nat->Option X6o
 |[],k=>some (.x0)
 |x::xs,k=>(X3b X8s (k:Int)).bind fun e11=>bif (!(Xfc x e11)) then (some (.x1)) else (X4e X0u X8s xs (k+1))
def X7c (a0:(List X2)) (a1:(List X2)):Option (Bool) :=
 bif ((List.length a0:Int) != (List.length a1:Int)) then (some false) else ((X5d (List.length a0)).bind fun u2=>(X4e  a0 a1 a0 0).bind fun o14=>match o14 with|.x0=>(some true)|.x1=>(some false))
def Xdy (a0:X03) (a1:X2):Option (X28×Bool×Int) :=
 ((X5e a0).bind fun v7=>bif (!v7) then (some (bif (!v7) then true else false)) else ((X3x [a1]).bind fun v10=>some (bif (!v7) then true else (v10 != (0:Int)))):Option (Bool)).bind fun Xys=>bif Xys then (some ((X28.mk 0 (X00.mk 0 0) (V2.mk 0 0)),false,8)) else ((Xcg a0 a1).bind fun v14=>some (v14.1,v14.2,0))
inductive X60 where
 |x0 (Xei:Int)
 |x1
def X2t (Xj:X03) (Xh:X08) (X4z:(List X2)):List X2->Nat->Int->Option X60
 |[],k,Xde=>some (.x0 Xde)
 |x::xs,k,Xde=>(Xdy Xj x).bind fun v60=>(bif (decide (x.Values.e0.Count>(0:Int))) then (some (bif (decide (x.Values.e0.Count>(0:Int))) then (decide (x.Values.e1.Count>(0:Int))) else false)) else (some (bif (decide (x.Values.e0.Count>(0:Int))) then false else false)):Option (Bool)).bind fun Xsw=>bif (bif (v60.2.2 != (0:Int)) then true else (!(v60.2.1==Xsw))) then (some (.x1)) else (bif v60.2.1 then ((bif (decide (Xde >= (List.length Xh.Pending:Int))) then (some true) else ((X3b Xh.Pending Xde).bind fun e73=>some (bif (decide (Xde >= (List.length Xh.Pending:Int))) then true else (!(Xhw e73 (X0v.mk 0 (Xg.mk 3 (Xl.mk 0 0 0) 0 v60.1)))))):Option (Bool)).bind fun Xne=>bif Xne then (some (.x1)) else (X2t Xj Xh X4z xs (k+1) (IntKind.i64.wrap (Xde+1)))) else (X2t Xj Xh X4z xs (k+1) Xde))
def X69 (a0:X03) (a1:X08) (a2:X08) (a3:Int) (a4:Int):Option (Bool) :=
 bif (decide (a4<=a3)) then ((bif (a4==a3) then (bif ((List.length a2.Pending:Int)==(0:Int)) then ((X7c a2.Store a1.Store).bind fun v9=>some (bif (bif (a4==a3) then ((List.length a2.Pending:Int)==(0:Int)) else false) then v9 else false)) else (some (bif (bif (a4==a3) then ((List.length a2.Pending:Int)==(0:Int)) else false) then false else false))) else (some (bif (bif (a4==a3) then false else false) then false else false)):Option (Bool)).bind fun Xyu=>some Xyu) else ((X79 a1.Store a4).bind fun v12=>(bif (v12.2.2 != (0:Int)) then (some (bif (v12.2.2 != (0:Int)) then true else false)) else ((X7c a2.Store v12.2.1).bind fun v19=>some (bif (v12.2.2 != (0:Int)) then true else (!v19))):Option (Bool)).bind fun Xt3=>bif Xt3 then (some false) else ((X5d (List.length v12.1)).bind fun u23=>(X2t  a0 a2 v12.1 v12.1 0 0).bind fun o77=>match o77 with|.x0 Xei=>(some (Xei==(List.length a2.Pending:Int)))|.x1=>(some false)))
inductive X4h where
 |x0
 |x1
def X1p (X8s:(List Int)) (Xbm:(List Xg)) (Xj:X03) (Xwy:Bool):List Xg->Nat->X08->Option X4h
 |[],k,Xh=>some (.x0)
 |x::xs,k,Xh=>(X3b X8s (k:Int)).bind fun e84=>(X2n Xj Xh e84 x).bind fun v86=>bif (v86.2 != (0:Int)) then (X1p X8s Xbm Xj Xwy xs (k+1) Xh) else ((X4g Xh.Marks).bind fun v89=>(X4g v86.1.Marks).bind fun v91=>bif (bif (v89.2 != (0:Int)) then true else (v91.2 != (0:Int))) then (some (.x1)) else (bif (x.Kind==(1:Int)) then ((X3q Xh.Store Xj.Window x.Record e84).bind fun v95=>(bif (v95.2 != (0:Int)) then (some (bif (bif (v95.2 != (0:Int)) then true else false) then true else false)) else ((X7c v86.1.Store v95.1).bind fun v103=>bif (!v103) then (some (bif (bif (v95.2 != (0:Int)) then true else (!v103)) then true else false)) else (some (bif (bif (v95.2 != (0:Int)) then true else (!v103)) then true else ((List.length v86.1.Pending:Int) != (0:Int))))):Option (Bool)).bind fun Xkf=>bif Xkf then (some (.x1)) else (X1p X8s Xbm Xj Xwy xs (k+1) (X08.mk v86.1.Op v86.1.Turn ([]:List X0v) v86.1.Marks v86.1.Store v86.1.Events v86.1.Rows v86.1.Late))) else ((X69 Xj Xh v86.1 v89.1 v91.1).bind fun v108=>bif (!v108) then (some (.x1)) else (X1p X8s Xbm Xj Xwy xs (k+1) (X08.mk v86.1.Op v86.1.Turn ([]:List X0v) v86.1.Marks v86.1.Store v86.1.Events v86.1.Rows v86.1.Late)))))
def X5t (a0:X03) (a1:(List Int)) (a2:(List Xg)):Option (Bool) :=
 (Xb0).bind fun v1=>((X9g a0).bind fun v13=>bif v13 then (some (bif (bif (bif (bif (bif v13 then true else false) then true else false) then true else false) then true else false) then true else false)) else ((X5o a0).bind fun v16=>bif (!v16) then (some (bif (bif (bif (bif (bif v13 then true else (!v16)) then true else false) then true else false) then true else false) then true else false)) else (bif (!a0.Join) then (some (bif (bif (bif (bif (bif v13 then true else (!v16)) then true else (!a0.Join)) then true else false) then true else false) then true else false)) else (bif (decide ((List.length a2:Int)>(40:Int))) then (some (bif (bif (bif (bif (bif v13 then true else (!v16)) then true else (!a0.Join)) then true else (decide ((List.length a2:Int)>(40:Int)))) then true else false) then true else false)) else (bif ((List.length a1:Int) != (List.length a2:Int)) then (some (bif (bif (bif (bif (bif v13 then true else (!v16)) then true else (!a0.Join)) then true else (decide ((List.length a2:Int)>(40:Int)))) then true else ((List.length a1:Int) != (List.length a2:Int))) then true else false)) else (some (bif (bif (bif (bif (bif v13 then true else (!v16)) then true else (!a0.Join)) then true else (decide ((List.length a2:Int)>(40:Int)))) then true else ((List.length a1:Int) != (List.length a2:Int))) then true else (!v1))))))):Option (Bool)).bind fun Xt5=>bif Xt5 then (some v1) else ((Xdz 0).bind fun v24=>bif (v24.2 != (0:Int)) then (some false) else ((X5d (List.length a2)).bind fun u27=>(X1p  a1 a2 a0 v1 a2 0 v24.1).bind fun o111=>match o111 with|.x0=>(some v1)|.x1=>(some false)))
end
end Go.D
