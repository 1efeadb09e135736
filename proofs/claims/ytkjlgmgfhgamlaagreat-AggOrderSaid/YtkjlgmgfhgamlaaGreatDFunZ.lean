/- Printed by decomp.py: the functions. -/
import Derived.Test.YtkjlgmgfhgamlaaGreatDTypesZ
set_option linter.all false

namespace Go.D
noncomputable section
def Xdh:Option (X08) :=
 some (X08.mk 1 ([]:List X05) [0] false ([]:List X05) (X0l.mk 1 10 0) false 1)
def Xe5 (a0:Int) (a1:Int) (a2:Int):Option (Xd) :=
 some (Xd.mk 1 (X8.mk a0 a1 a2) 0 (X19.mk 0 (X04.mk 0 0) (V2.mk 0 0)))
def Xao (a0:Int):Option (Xd) :=
 some (Xd.mk 2 (X8.mk 0 0 0) a0 (X19.mk 0 (X04.mk 0 0) (V2.mk 0 0)))
def Xi1 (a0:Int):Option ((List Int)×Int) :=
 bif (bif (decide (a0<(1:Int))) then true else (decide (a0>(4:Int)))) then (some (([]:List Int),2)) else (bif (a0==(1:Int)) then (some ([(-9223372036854775808)],0)) else (bif (a0==(2:Int)) then (some ([(-9223372036854775808),(-9223372036854775808)],0)) else (bif (a0==(3:Int)) then (some ([(-9223372036854775808),(-9223372036854775808),(-9223372036854775808)],0)) else (bif (a0==(4:Int)) then (some ([(-9223372036854775808),(-9223372036854775808),(-9223372036854775808),(-9223372036854775808)],0)) else none))))
def Xlk (a0:Int) (a1:Int):Option (Xp×Int) :=
 (Xi1 a1).bind λv1=>bif (bif (bif (v1.2 != (0:Int)) then true else (decide (a0<(0:Int)))) then true else (decide (a0 >= (3:Int)))) then (some ((Xp.mk (GOp.mk 0 0) 0 ([]:List X0a) ([]:List Int) ([]:List X1) ([]:List X0h) ([]:List X19) ([]:List X8)),2)) else (some ((Xp.mk (GOp.mk 4 a0) 0 ([]:List X0a) v1.1 ([]:List X1) ([]:List X0h) ([]:List X19) ([]:List X8)),0))
def X9c (a0:Int):Option (Int×Int) :=
 bif (bif (decide (a0 >= (1:Int))) then (decide (a0<=(4:Int))) else false) then (some (0,0)) else (bif (bif (a0==(5:Int)) then true else (a0==(6:Int))) then (some (1,0)) else (bif (bif (decide (a0 >= (7:Int))) then (decide (a0<=(19:Int))) else false) then (some (2,0)) else (some (0,2))))
inductive X4x where
 |x0 (X07:(List Xb)) (X09:(List Xb))
 |x1 (X1a:(List Xb))
def X1y (X2k:(List X05)):List X05->Nat->(List Xb)->(List Xb)->Option X4x
 |[],k,Xn,Xi=>some (.x0 Xn Xi)
 |x::xs,k,Xn,Xi=>(X9c x.Kind).bind λv318=>(bif (v318.2 != (0:Int)) then (some (bif (v318.2 != (0:Int)) then true else false)) else (some (bif (v318.2 != (0:Int)) then true else (decide (v318.1>(List.length Xi:Int))))):Option (Bool)).bind λXo8=>bif Xo8 then (some (.x1 Xn)) else ((X74 Xi 0 (IntKind.i64.wrap ((List.length Xi:Int) - v318.1))).bind λm331=>(X74 Xi (IntKind.i64.wrap ((List.length Xi:Int) - v318.1)) (List.length Xi:Int)).bind λm333=>bif (List.isEmpty m333) then ((bif (x.Kind==(1:Int)) then (some (X05.mk x.Kind (if 0>x.N then 0 else x.N) 0 0 (if 400<(if 0>x.At then 0 else x.At) then 400 else (if 0>x.At then 0 else x.At)))) else (some (X05.mk x.Kind 0 0 0 (if 400<(if 0>x.At then 0 else x.At) then 400 else (if 0>x.At then 0 else x.At)))):Option (X05)).bind λXo7=>bif (!(X6u Xo7 x)) then (some (.x1 Xn)) else ((X1v (List.length (m331++[(Xb.mk (k:Int) 1 1)])) 24).bind λu341=>(X1v (List.length (Xn++[(Xb.mk (k:Int) 1 1)])) 24).bind λu343=>X1y X2k xs (k+1) (Xn++[(Xb.mk (k:Int) 1 1)]) (m331++[(Xb.mk (k:Int) 1 1)]))) else (bif ((List.length m333:Int)==(1:Int)) then ((X1o m333 0).bind λe346=>(bif (x.Kind==(1:Int)) then (some (X05.mk x.Kind (if 0>x.N then 0 else x.N) e346.at_ 0 (if 400<(if 0>x.At then 0 else x.At) then 400 else (if 0>x.At then 0 else x.At)))) else (some (X05.mk x.Kind 0 e346.at_ 0 (if 400<(if 0>x.At then 0 else x.At) then 400 else (if 0>x.At then 0 else x.At)))):Option (X05)).bind λXo6=>bif (!(X6u Xo6 x)) then (some (.x1 Xn)) else ((X1v (List.length (m331++[(Xb.mk (k:Int) (IntKind.i64.wrap (1+e346.size)) (if (IntKind.i64.wrap (e346.depth+1))>1 then (IntKind.i64.wrap (e346.depth+1)) else 1))])) 24).bind λu353=>(X1v (List.length (Xn++[(Xb.mk (k:Int) (IntKind.i64.wrap (1+e346.size)) (if (IntKind.i64.wrap (e346.depth+1))>1 then (IntKind.i64.wrap (e346.depth+1)) else 1))])) 24).bind λu355=>X1y X2k xs (k+1) (Xn++[(Xb.mk (k:Int) (IntKind.i64.wrap (1+e346.size)) (if (IntKind.i64.wrap (e346.depth+1))>1 then (IntKind.i64.wrap (e346.depth+1)) else 1))]) (m331++[(Xb.mk (k:Int) (IntKind.i64.wrap (1+e346.size)) (if (IntKind.i64.wrap (e346.depth+1))>1 then (IntKind.i64.wrap (e346.depth+1)) else 1))]))) else (bif ((List.length m333:Int)==(2:Int)) then ((X1o m333 0).bind λe358=>(X1o m333 1).bind λe360=>(bif (x.Kind==(1:Int)) then (some (X05.mk x.Kind (if 0>x.N then 0 else x.N) e358.at_ e360.at_ (if 400<(if 0>x.At then 0 else x.At) then 400 else (if 0>x.At then 0 else x.At)))) else (some (X05.mk x.Kind 0 e358.at_ e360.at_ (if 400<(if 0>x.At then 0 else x.At) then 400 else (if 0>x.At then 0 else x.At)))):Option (X05)).bind λXo5=>bif (!(X6u Xo5 x)) then (some (.x1 Xn)) else ((X1v (List.length (m331++[(Xb.mk (k:Int) (IntKind.i64.wrap ((IntKind.i64.wrap (1+e358.size))+e360.size)) (if (IntKind.i64.wrap (e360.depth+1))>(if (IntKind.i64.wrap (e358.depth+1))>1 then (IntKind.i64.wrap (e358.depth+1)) else 1) then (IntKind.i64.wrap (e360.depth+1)) else (if (IntKind.i64.wrap (e358.depth+1))>1 then (IntKind.i64.wrap (e358.depth+1)) else 1)))])) 24).bind λu367=>(X1v (List.length (Xn++[(Xb.mk (k:Int) (IntKind.i64.wrap ((IntKind.i64.wrap (1+e358.size))+e360.size)) (if (IntKind.i64.wrap (e360.depth+1))>(if (IntKind.i64.wrap (e358.depth+1))>1 then (IntKind.i64.wrap (e358.depth+1)) else 1) then (IntKind.i64.wrap (e360.depth+1)) else (if (IntKind.i64.wrap (e358.depth+1))>1 then (IntKind.i64.wrap (e358.depth+1)) else 1)))])) 24).bind λu369=>X1y X2k xs (k+1) (Xn++[(Xb.mk (k:Int) (IntKind.i64.wrap ((IntKind.i64.wrap (1+e358.size))+e360.size)) (if (IntKind.i64.wrap (e360.depth+1))>(if (IntKind.i64.wrap (e358.depth+1))>1 then (IntKind.i64.wrap (e358.depth+1)) else 1) then (IntKind.i64.wrap (e360.depth+1)) else (if (IntKind.i64.wrap (e358.depth+1))>1 then (IntKind.i64.wrap (e358.depth+1)) else 1)))]) (m331++[(Xb.mk (k:Int) (IntKind.i64.wrap ((IntKind.i64.wrap (1+e358.size))+e360.size)) (if (IntKind.i64.wrap (e360.depth+1))>(if (IntKind.i64.wrap (e358.depth+1))>1 then (IntKind.i64.wrap (e358.depth+1)) else 1) then (IntKind.i64.wrap (e360.depth+1)) else (if (IntKind.i64.wrap (e358.depth+1))>1 then (IntKind.i64.wrap (e358.depth+1)) else 1)))]))) else none)))
def Xcn (a0:(List X05)):Option ((List Xb)×Bool) :=
 (X5a (List.length a0)).bind λu1=>(X1y  a0 a0 0 ([]:List Xb) ([]:List Xb)).bind λo475=>match o475 with|.x0 X07 X09=>(some (X07,((List.length X09:Int)==(1:Int))))|.x1 X1a=>(some (X1a,false))
def X9b (a0:(List X05)):Option ((List Xb)×Int) :=
 bif (decide ((List.length a0:Int)>(60:Int))) then (some (([]:List Xb),4)) else ((Xcn a0).bind λv2=>bif (!v2.2) then (some (([]:List Xb),8)) else ((X1o v2.1 (IntKind.i64.wrap ((List.length v2.1:Int) - 1))).bind λe5=>bif (decide (e5.depth>(20:Int))) then (some (([]:List Xb),34)) else (some (v2.1,0))))
def X4y (a0:(List X05)):Option (Int) :=
 (X9b a0).bind λv1=>some v1.2
def X5g (a0:Int):Option (Bool) :=
 some (bif (decide (a0<(0:Int))) then true else (decide (a0 >= (4:Int))))
inductive X1x where
 |x0
 |x1 (X9m:Int)
def X0n (X0u:(List Int)):List Int->Nat->Option X1x
 |[],k=>some (.x0)
 |x::xs,k=>(X5g x).bind λv10=>bif v10 then (some (.x1 (k:Int))) else (X0n X0u xs (k+1))
def X0m (a0:(List Int)):Option (Int) :=
 (X5a (List.length a0)).bind λu1=>(X0n  a0 a0 0).bind λo13=>match o13 with|.x0=>(some (-1))|.x1 X9m=>(some X9m)
def Xv (a0:(List Int)):Option (Bool) :=
 (X0m a0).bind λv1=>some (decide (v1 >= (0:Int)))
def X2t (l:List Int):Option Int:=(X5a (List.length l)).bind λ_=>some ((X7s [] l).length:Int)
def X24 (a0:(List Int)) (a1:Bool):Option (Int) :=
 bif (decide ((List.length a0:Int)>(4:Int))) then (some 4) else ((bif ((List.length a0:Int)==(0:Int)) then (some (bif (bif ((List.length a0:Int)==(0:Int)) then true else false) then true else false)) else (bif a1 then (bif ((List.length a0:Int) != (2:Int)) then (some (bif (bif ((List.length a0:Int)==(0:Int)) then true else (bif a1 then ((List.length a0:Int) != (2:Int)) else false)) then true else false)) else ((Xv a0).bind λv13=>some (bif (bif ((List.length a0:Int)==(0:Int)) then true else (bif a1 then ((List.length a0:Int) != (2:Int)) else false)) then true else v13))) else ((Xv a0).bind λv15=>some (bif (bif ((List.length a0:Int)==(0:Int)) then true else (bif a1 then false else false)) then true else v15))):Option (Bool)).bind λXz5=>bif Xz5 then (some 8) else ((X2t a0).bind λv19=>bif (decide (v19<(List.length a0:Int))) then (some 43) else (some 0)))
def X14 (a0:X0l):Option (Int) :=
 bif (bif (decide (a0.Size<(1:Int))) then true else (decide (a0.Size>(1073741824:Int)))) then (some 8) else (bif (a0.Kind==(2:Int)) then (bif (bif (bif (decide (a0.Every >= (1:Int))) then (decide (a0.Every<=a0.Size)) else false) then (decide (a0.Size<=(IntKind.i64.wrap (16*a0.Every)))) else false) then (some 0) else (some 8)) else (bif (a0.Kind==(1:Int)) then (bif (a0.Every==(0:Int)) then (some 0) else (some 8)) else (bif (a0.Kind==(3:Int)) then (bif (a0.Every==(0:Int)) then (some 0) else (some 8)) else (some 8))))
def X6x (a0:X08):Option (Int) :=
 bif (bif (bif (decide (a0.Agg<(1:Int))) then true else (decide (a0.Agg>(4:Int)))) then true else (bif (a0.Late != (1:Int)) then (a0.Late != (2:Int)) else false)) then (some 8) else (bif (a0.Agg != (1:Int)) then ((X4y a0.Arg).bind λv3=>bif (v3 != (0:Int)) then (some v3) else (bif (decide ((List.length a0.Where:Int)>(0:Int))) then ((X4y a0.Where).bind λv7=>bif (v7 != (0:Int)) then (some v7) else ((X24 a0.Sources a0.Join).bind λv10=>bif (v10 != (0:Int)) then (some v10) else (bif (bif a0.Join then (a0.Window.Kind != (1:Int)) else false) then (some 8) else ((X14 a0.Window).bind λv14=>some v14)))) else ((X24 a0.Sources a0.Join).bind λv16=>bif (v16 != (0:Int)) then (some v16) else (bif (bif a0.Join then (a0.Window.Kind != (1:Int)) else false) then (some 8) else ((X14 a0.Window).bind λv20=>some v20))))) else (bif (decide ((List.length a0.Arg:Int)>(0:Int))) then (some 8) else (bif (decide ((List.length a0.Where:Int)>(0:Int))) then ((X4y a0.Where).bind λv24=>bif (v24 != (0:Int)) then (some v24) else ((X24 a0.Sources a0.Join).bind λv27=>bif (v27 != (0:Int)) then (some v27) else (bif (bif a0.Join then (a0.Window.Kind != (1:Int)) else false) then (some 8) else ((X14 a0.Window).bind λv31=>some v31)))) else ((X24 a0.Sources a0.Join).bind λv33=>bif (v33 != (0:Int)) then (some v33) else (bif (bif a0.Join then (a0.Window.Kind != (1:Int)) else false) then (some 8) else ((X14 a0.Window).bind λv37=>some v37))))))
inductive X20 where
 |x0
 |x1
def X0b (Xi:(List Bool)) (X6c:(V2 Bool)) (X0c:(List Int)):List Int->Nat->Option X20
 |[],k=>some (.x0)
 |x::xs,k=>(X1o Xi x).bind λe3011=>bif (!(e3011==false)) then (some (.x1)) else (X0b Xi X6c X0c xs (k+1))
inductive X1s where
 |x0
 |x1
def X0d (Xi:(List Bool)) (X1h:(List Int)):List Int->Nat->Option X1s
 |[],k=>some (.x0)
 |x::xs,k=>(X1o Xi x).bind λe3127=>bif (!(e3127==true)) then (some (.x1)) else (X0d Xi X1h xs (k+1))
inductive X50 where
 |x0 (X09:(List Bool))
 |x1 (X1a:(List Bool)) (Xjl:Int)
def X1l (X0u:(List X05)):List X05->Nat->(List Bool)->Option X50
 |[],k,Xi=>some (.x0 Xi)
 |x::xs,k,Xi=>bif (decide (x.Kind<=(4:Int))) then ((X1v (List.length (Xi++[false])) 1).bind λu2525=>X1l X0u xs (k+1) (Xi++[false])) else (bif (x.Kind==(5:Int)) then (((X1o Xi x.A).bind λe2546=>bif (!(e2546==false)) then (some (bif (!(bif true then false else false)) then (!(bif false then false else false)) else false)) else (some (bif (!(bif true then true else false)) then false else false)):Option (Bool)).bind λXkx=>bif Xkx then (some (.x1 ([]:List Bool) (k:Int))) else ((X1v (List.length (Xi++[false])) 1).bind λu2551=>X1l X0u xs (k+1) (Xi++[false]))) else (bif (x.Kind==(6:Int)) then (((X1o Xi x.A).bind λe2571=>bif (!(e2571==true)) then (some false) else (some true):Option (Bool)).bind λXkw=>bif (bif (!(bif false then false else false)) then (!(bif true then Xkw else false)) else false) then (some (.x1 ([]:List Bool) (k:Int))) else ((X1v (List.length (Xi++[true])) 1).bind λu2576=>X1l X0u xs (k+1) (Xi++[true]))) else ((bif (decide (x.Kind<=(11:Int))) then (some ((V2.mk true false),false)) else (bif (decide (x.Kind<=(15:Int))) then (some ((V2.mk true false),true)) else (bif (decide (x.Kind<=(17:Int))) then (some ((V2.mk true true),true)) else (some ((V2.mk false true),true)))):Option ((V2 Bool)×Bool)).bind λw2581=>(bif w2581.1.e0 then (((X5a (List.length [x.A,x.B])).bind λu2980=>(X0b  Xi w2581.1 [x.A,x.B] [x.A,x.B] 0).bind λo3016=>match o3016 with|.x0=>(some true)|.x1=>(some false):Option (Bool)).bind λXb9=>bif (!(bif w2581.1.e0 then Xb9 else false)) then (bif w2581.1.e1 then (((X5a (List.length [x.A,x.B])).bind λu3096=>(X0d  Xi [x.A,x.B] [x.A,x.B] 0).bind λo3132=>match o3132 with|.x0=>(some true)|.x1=>(some false):Option (Bool)).bind λXku=>some (bif (!(bif w2581.1.e0 then Xb9 else false)) then (!(bif w2581.1.e1 then Xku else false)) else false)) else (some (bif (!(bif w2581.1.e0 then Xb9 else false)) then (!(bif w2581.1.e1 then false else false)) else false))) else (some (bif (!(bif w2581.1.e0 then Xb9 else false)) then false else false))) else (bif (!(bif w2581.1.e0 then false else false)) then (bif w2581.1.e1 then (((X5a (List.length [x.A,x.B])).bind λu3192=>(X0d  Xi [x.A,x.B] [x.A,x.B] 0).bind λo3218=>match o3218 with|.x0=>(some true)|.x1=>(some false):Option (Bool)).bind λXkt=>some (bif (!(bif w2581.1.e0 then false else false)) then (!(bif w2581.1.e1 then Xkt else false)) else false)) else (some (bif (!(bif w2581.1.e0 then false else false)) then (!(bif w2581.1.e1 then false else false)) else false))) else (some (bif (!(bif w2581.1.e0 then false else false)) then false else false))):Option (Bool)).bind λXkv=>bif Xkv then (some (.x1 ([]:List Bool) (k:Int))) else ((X1v (List.length (Xi++[w2581.2])) 1).bind λu3223=>X1l X0u xs (k+1) (Xi++[w2581.2])))))
def Xcr (a0:(List X05)):Option ((List Bool)×Int) :=
 (X5a (List.length a0)).bind λu1=>(X1l  a0 a0 0 ([]:List Bool)).bind λo3784=>match o3784 with|.x0 X09=>(some (X09,(List.length a0:Int)))|.x1 X1a Xjl=>(some (X1a,Xjl))
def Xe7 (a0:(List X05)):Option (Bool×Int×Int) :=
 (X4y a0).bind λv1=>bif (v1 != (0:Int)) then (some (false,0,v1)) else ((Xcr a0).bind λv4=>bif (decide (v4.2<(List.length a0:Int))) then (some (false,v4.2,42)) else ((X1o v4.1 (IntKind.i64.wrap (v4.2 - 1))).bind λe7=>some (e7,(IntKind.i64.wrap (v4.2 - 1)),0)))
def X8q (a0:(List X05)) (a1:Bool):Option (Int×Int) :=
 (Xe7 a0).bind λv1=>(bif (bif (v1.2.2==(0:Int)) then (!(v1.1==a1)) else false) then (some 42) else (some v1.2.2):Option (Int)).bind λj4_8=>some (v1.2.1,j4_8)
def X9g (a0:(List X05)):Option (Int×Int) :=
 (X8q a0 true).bind λv1=>some (v1.1,v1.2)
def X9t (a0:(List X05)):Option (Int×Int) :=
 (X8q a0 false).bind λv1=>some (v1.1,v1.2)
def X7t (a0:X08):Option (Int×Int) :=
 (X6x a0).bind λv1=>bif (v1 != (0:Int)) then (some (0,v1)) else ((bif ((List.length a0.Arg:Int)==(0:Int)) then (bif ((List.length a0.Where:Int)==(0:Int)) then (some (0,0)) else ((X9g a0.Where).bind λv25=>bif (v25.2 != (0:Int)) then ((X1o a0.Where v25.1).bind λe28=>some (e28.At,v25.2)) else (some (0,0)))) else ((X9t a0.Arg).bind λv30=>bif (v30.2 != (0:Int)) then ((X1o a0.Arg v30.1).bind λe33=>some (e33.At,v30.2)) else (bif ((List.length a0.Where:Int)==(0:Int)) then (some (0,0)) else ((X9g a0.Where).bind λv36=>bif (v36.2 != (0:Int)) then ((X1o a0.Where v36.1).bind λe39=>some (e39.At,v36.2)) else (some (0,0))))):Option (Int×Int)).bind λw22=>some (w22.1,w22.2))
def X7u (a0:X08):Option (Bool) :=
 (X7t a0).bind λv1=>some (bif (v1.2==(0:Int)) then (!a0.Join) else false)
def X8w (a0:Int):Option (Int×Int×Bool×Bool×Bool×Bool) :=
 (bif (a0==(1:Int)) then (some (0,0,false,true,false,false)) else (bif (a0==(2:Int)) then (some (1,1,false,false,false,false)) else (bif (a0==(3:Int)) then (some (0,0,false,false,false,false)) else (bif (a0==(4:Int)) then (some (1,4,true,false,false,false)) else (bif (a0==(5:Int)) then (some (2,2,true,false,false,false)) else (bif (a0==(6:Int)) then (some (0,0,false,false,true,false)) else (bif (a0==(7:Int)) then (some (0,0,false,false,false,true)) else (some (1,0,false,false,false,false)))))))):Option (Int×Int×Bool×Bool×Bool×Bool)).bind λw8=>some (w8.1,w8.2.1,w8.2.2.1,w8.2.2.2.1,w8.2.2.2.2.1,w8.2.2.2.2.2)
def X8v (a0:Bool) (a1:Int):Option (Int) :=
 bif a0 then (some a1) else (some 0)
def X3m (a0:Int):Option (Bool) :=
 some (bif (decide (a0 >= ((-1099511627776):Int))) then (decide (a0<=(1099511627776:Int))) else false)
def X4g (a0:Int):Option (Bool) :=
 (X3m a0).bind λv1=>some (bif v1 then true else (a0==(9223372036854775807:Int)))
def X2g (a0:Xd):Option (Int) :=
 (bif (a0.Kind==(1:Int)) then (some (a0.Kind==(1:Int))) else (some (a0.Kind==(4:Int))):Option (Bool)).bind λXzk=>(bif Xzk then ((X3m a0.Record.Time).bind λv14=>some (v14,(Xd.mk ((Xd.mk a0.Kind (X8.mk 0 0 0) 0 (X19.mk 0 (X04.mk 0 0) (V2.mk 0 0))).Kind) a0.Record ((Xd.mk a0.Kind (X8.mk 0 0 0) 0 (X19.mk 0 (X04.mk 0 0) (V2.mk 0 0))).Time) (X19.mk (((Xd.mk a0.Kind (X8.mk 0 0 0) 0 (X19.mk 0 (X04.mk 0 0) (V2.mk 0 0))).Row).Key) (((Xd.mk a0.Kind (X8.mk 0 0 0) 0 (X19.mk 0 (X04.mk 0 0) (V2.mk 0 0))).Row).Span) (((Xd.mk a0.Kind (X8.mk 0 0 0) 0 (X19.mk 0 (X04.mk 0 0) (V2.mk 0 0))).Row).Values))))) else (bif (a0.Kind==(2:Int)) then ((X4g a0.Time).bind λv17=>some (v17,(Xd.mk ((Xd.mk a0.Kind (X8.mk 0 0 0) 0 (X19.mk 0 (X04.mk 0 0) (V2.mk 0 0))).Kind) ((Xd.mk a0.Kind (X8.mk 0 0 0) 0 (X19.mk 0 (X04.mk 0 0) (V2.mk 0 0))).Record) a0.Time (X19.mk (((Xd.mk a0.Kind (X8.mk 0 0 0) 0 (X19.mk 0 (X04.mk 0 0) (V2.mk 0 0))).Row).Key) (((Xd.mk a0.Kind (X8.mk 0 0 0) 0 (X19.mk 0 (X04.mk 0 0) (V2.mk 0 0))).Row).Span) (((Xd.mk a0.Kind (X8.mk 0 0 0) 0 (X19.mk 0 (X04.mk 0 0) (V2.mk 0 0))).Row).Values))))) else (bif (a0.Kind==(3:Int)) then (some ((bif (bif (decide (((-2199023255552):Int)<=a0.Row.Span.Start)) then (decide (a0.Row.Span.Start<a0.Row.Span.End)) else false) then (decide (a0.Row.Span.End<=(2199023255552:Int))) else false),(Xd.mk ((Xd.mk a0.Kind (X8.mk 0 0 0) 0 (X19.mk 0 (X04.mk 0 0) (V2.mk 0 0))).Kind) ((Xd.mk a0.Kind (X8.mk 0 0 0) 0 (X19.mk 0 (X04.mk 0 0) (V2.mk 0 0))).Record) ((Xd.mk a0.Kind (X8.mk 0 0 0) 0 (X19.mk 0 (X04.mk 0 0) (V2.mk 0 0))).Time) a0.Row))) else (some (false,(Xd.mk ((Xd.mk a0.Kind (X8.mk 0 0 0) 0 (X19.mk 0 (X04.mk 0 0) (V2.mk 0 0))).Kind) ((Xd.mk a0.Kind (X8.mk 0 0 0) 0 (X19.mk 0 (X04.mk 0 0) (V2.mk 0 0))).Record) ((Xd.mk a0.Kind (X8.mk 0 0 0) 0 (X19.mk 0 (X04.mk 0 0) (V2.mk 0 0))).Time) (X19.mk (((Xd.mk a0.Kind (X8.mk 0 0 0) 0 (X19.mk 0 (X04.mk 0 0) (V2.mk 0 0))).Row).Key) (((Xd.mk a0.Kind (X8.mk 0 0 0) 0 (X19.mk 0 (X04.mk 0 0) (V2.mk 0 0))).Row).Span) (((Xd.mk a0.Kind (X8.mk 0 0 0) 0 (X19.mk 0 (X04.mk 0 0) (V2.mk 0 0))).Row).Values))))))):Option (Bool×Xd)).bind λw12=>bif (bif (!w12.1) then true else (!(X7r a0 w12.2))) then (some 8) else (some 0)
inductive X6f where
 |x0
 |x1
def X40 (Xiy:(List X0a)):List X0a->Nat->Option X6f
 |[],k=>some (.x0)
 |x::xs,k=>(bif (decide (x.Out<(0:Int))) then (some (bif (bif (decide (x.Out<(0:Int))) then true else false) then true else false)) else (bif (decide (x.Out >= (3:Int))) then (some (bif (bif (decide (x.Out<(0:Int))) then true else (decide (x.Out >= (3:Int)))) then true else false)) else ((X2g x.Message).bind λv33=>some (bif (bif (decide (x.Out<(0:Int))) then true else (decide (x.Out >= (3:Int)))) then true else (v33 != (0:Int))))):Option (Bool)).bind λXtj=>bif Xtj then (some (.x1)) else (X40 Xiy xs (k+1))
def X8g (a0:(List X0a)):Option (Bool) :=
 (X5a (List.length a0)).bind λu1=>(X40  a0 a0 0).bind λo37=>match o37 with|.x0=>(some true)|.x1=>(some false)
def X2b (a0:X11):Option (Int) :=
 (bif (a0.Count==(0:Int)) then (some (X8r a0 (X11.mk 0 0 0 0))) else (bif (a0.Count==(1:Int)) then (some (bif (a0.Sum==a0.Min) then (a0.Sum==a0.Max) else false)) else (bif (bif (decide (a0.Count>(1:Int))) then (decide (a0.Count<=(1073741824:Int))) else false) then (some (decide (a0.Min<=a0.Max))) else (some false))):Option (Bool)).bind λj4_3=>bif (!j4_3) then (some 8) else (some 0)
def X5x (a0:X1):Option (Bool) :=
 bif (bif (bif (decide (a0.Span.Start<((-1100585369600):Int))) then true else (decide (a0.Span.End<=a0.Span.Start))) then true else (decide (a0.Span.End>(1100585369600:Int)))) then (some false) else (((X2b a0.Values.e0).bind λv9=>bif (v9==(0:Int)) then ((X2b a0.Values.e1).bind λv12=>bif (v12==(0:Int)) then (some (bif (bif (v9==(0:Int)) then (v12==(0:Int)) else false) then (decide ((IntKind.i64.wrap (a0.Values.e0.Count+a0.Values.e1.Count))>(0:Int))) else false)) else (some (bif (bif (v9==(0:Int)) then (v12==(0:Int)) else false) then false else false))) else (some (bif (bif (v9==(0:Int)) then false else false) then false else false)):Option (Bool)).bind λj8_2=>some j8_2)
def X53 (a0:Int):Option (Bool) :=
 some (a0 != a0)
def X2e (a0:Int) (a1:Int):Option (Int) :=
 (X53 a0).bind λv1=>(X53 a1).bind λv3=>bif v1 then (bif v3 then (some 0) else (some (-1))) else (bif v3 then (some 1) else (bif (decide (a0<a1)) then (some (-1)) else (bif (decide (a0>a1)) then (some 1) else (some 0))))
inductive X6v where
 |x0
 |x1 (Xab:Int)
def X5f (Xvn:(List Int)):List Int->Nat->Option X6v
 |[],k=>some (.x0)
 |x::xs,k=>bif (x != (0:Int)) then (some (.x1 x)) else (X5f Xvn xs (k+1))
def Xcz (a0:(List Int)):Option (Int) :=
 (X5a (List.length a0)).bind λu1=>(X5f  a0 a0 0).bind λo7=>match o7 with|.x0=>(some 0)|.x1 Xab=>(some Xab)
def X5y (a0:X1) (a1:X1):Option (Int) :=
 (X2e a0.Span.End a1.Span.End).bind λv1=>(X2e a0.Span.Start a1.Span.Start).bind λv3=>(X2e a0.Key a1.Key).bind λv5=>(Xcz [v1,v3,v5]).bind λv7=>some v7
inductive X5s where
 |x0
 |x1
def X2f (X0u:(List X1)):List X1->Nat->Option X5s
 |[],k=>some (.x0)
 |x::xs,k=>((X5x x).bind λv52=>bif (!v52) then (some true) else (bif (decide ((k:Int)>(0:Int))) then ((X1o X0u (IntKind.i64.wrap ((k:Int) - 1))).bind λe56=>(X5y e56 x).bind λv58=>some (bif (!v52) then true else (bif (decide ((k:Int)>(0:Int))) then (decide (v58 >= (0:Int))) else false))) else (some (bif (!v52) then true else false))):Option (Bool)).bind λXtf=>bif Xtf then (some (.x1)) else (X2f X0u xs (k+1))
def X41 (a0:(List X1)):Option (Int) :=
 bif (decide ((List.length a0:Int)>(4000:Int))) then (some 4) else ((X5a (List.length a0)).bind λu2=>(X2f  a0 a0 0).bind λo62=>match o62 with|.x0=>(some 0)|.x1=>(some 8))
def X8x (a0:Int):Option (Bool) :=
 (bif (a0==((-9223372036854775808):Int)) then (some (bif (a0==((-9223372036854775808):Int)) then true else false)) else ((X2g (Xd.mk 2 (X8.mk 0 0 0) a0 (X19.mk 0 (X04.mk 0 0) (V2.mk 0 0)))).bind λv6=>some (bif (a0==((-9223372036854775808):Int)) then true else (v6==(0:Int)))):Option (Bool)).bind λj4_2=>some j4_2
def Xcq (a0:X0h):Option (Xd×Int) :=
 bif a0.Mark then (((X4g a0.Time).bind λv6=>bif (!v6) then (some (bif (!v6) then true else false)) else (some (bif (!v6) then true else (!(X3p a0.Record (X8.mk 0 0 0))))):Option (Bool)).bind λXz8=>bif Xz8 then (some ((Xd.mk 0 (X8.mk 0 0 0) 0 (X19.mk 0 (X04.mk 0 0) (V2.mk 0 0))),8)) else (some ((Xd.mk 2 (X8.mk 0 0 0) a0.Time (X19.mk 0 (X04.mk 0 0) (V2.mk 0 0))),0))) else ((bif (a0.Time != (0:Int)) then (some (bif (a0.Time != (0:Int)) then true else false)) else ((X3m a0.Record.Time).bind λv16=>some (bif (a0.Time != (0:Int)) then true else (!v16))):Option (Bool)).bind λXtn=>bif Xtn then (some ((Xd.mk 0 (X8.mk 0 0 0) 0 (X19.mk 0 (X04.mk 0 0) (V2.mk 0 0))),8)) else (some ((Xd.mk 1 a0.Record 0 (X19.mk 0 (X04.mk 0 0) (V2.mk 0 0))),0)))
def X6p (a0:X0h):Option (Int) :=
 (Xcq a0).bind λv1=>some v1.2
inductive X92 where
 |x0 (Xeq:Bool)
def X3c (Xn:Xp) (Xbv:(List Int)):List Int->Nat->Bool->Option X92
 |[],k,X9k=>some (.x0 X9k)
 |x::xs,k,X9k=>(bif X9k then ((X8x x).bind λv74=>some (bif X9k then v74 else false)) else (some (bif X9k then false else false)):Option (Bool)).bind λXte=>X3c Xn Xbv xs (k+1) Xte
inductive X91 where
 |x0 (Xep:Bool)
def X3b (X8s:Xp) (Xbu:(List X0h)):List X0h->Nat->Bool->Option X91
 |[],k,Xix=>some (.x0 Xix)
 |x::xs,k,Xix=>(bif Xix then ((X6p x).bind λv103=>some (bif Xix then (v103==(0:Int)) else false)) else (some (bif Xix then false else false)):Option (Bool)).bind λXom=>X3b X8s Xbu xs (k+1) Xom
inductive X90 where
 |x0 (Xeo:Bool)
def X3a (Xbs:Xp) (Xbt:(List X19)):List X19->Nat->Bool->Option X90
 |[],k,Xiv=>some (.x0 Xiv)
 |x::xs,k,Xiv=>(bif Xiv then ((X2g (Xd.mk 3 (X8.mk 0 0 0) 0 x)).bind λv132=>some (bif Xiv then (v132==(0:Int)) else false)) else (some (bif Xiv then false else false)):Option (Bool)).bind λXoh=>X3a Xbs Xbt xs (k+1) Xoh
inductive X8z where
 |x0 (Xen:Bool)
def X39 (Xbq:Xp) (Xbr:(List X8)):List X8->Nat->Bool->Option X8z
 |[],k,Xiu=>some (.x0 Xiu)
 |x::xs,k,Xiu=>(bif Xiu then ((X2g (Xd.mk 4 x 0 (X19.mk 0 (X04.mk 0 0) (V2.mk 0 0)))).bind λv161=>some (bif Xiu then (v161==(0:Int)) else false)) else (some (bif Xiu then false else false)):Option (Bool)).bind λXoc=>X39 Xbq Xbr xs (k+1) Xoc
inductive X8y where
 |x0 (Xem:Bool)
def X38 (Xbi:Xp) (Xbp:(List X1)):List X1->Nat->Bool->Option X8y
 |[],k,Xh8=>some (.x0 Xh8)
 |x::xs,k,Xh8=>(bif Xh8 then (bif (Xbi.Op.Kind != (4:Int)) then (some (bif Xh8 then (bif (Xbi.Op.Kind != (4:Int)) then true else false) else false)) else (some (bif Xh8 then (bif (Xbi.Op.Kind != (4:Int)) then true else (x.Values.e1.Count==(0:Int))) else false))) else (some (bif Xh8 then false else false)):Option (Bool)).bind λXob=>X38 Xbi Xbp xs (k+1) Xob
def X8h (a0:Xp):Option (Int) :=
 (X8w a0.Op.Kind).bind λv1=>(bif (decide ((List.length a0.Pending:Int)<=(4000:Int))) then (bif (decide ((List.length a0.Marks:Int) >= v1.1)) then (bif (decide ((List.length a0.Marks:Int)<=v1.2.1)) then ((X8v v1.2.2.1 4000).bind λv21=>bif (decide ((List.length a0.Store:Int)<=v21)) then ((X8v v1.2.2.2.1 60).bind λv24=>bif (decide ((List.length a0.Events:Int)<=v24)) then ((X8v v1.2.2.2.2.1 4000).bind λv27=>bif (decide ((List.length a0.Rows:Int)<=v27)) then ((X8v v1.2.2.2.2.2 4000).bind λv30=>some (bif (bif (bif (bif (bif (bif (decide ((List.length a0.Pending:Int)<=(4000:Int))) then (decide ((List.length a0.Marks:Int) >= v1.1)) else false) then (decide ((List.length a0.Marks:Int)<=v1.2.1)) else false) then (decide ((List.length a0.Store:Int)<=v21)) else false) then (decide ((List.length a0.Events:Int)<=v24)) else false) then (decide ((List.length a0.Rows:Int)<=v27)) else false) then (decide ((List.length a0.Late:Int)<=v30)) else false)) else (some false)) else (some false)) else (some false)) else (some false)) else (some false)) else (some false):Option (Bool)).bind λXk5=>(bif (!(bif (bif (bif (decide (a0.Turn >= (0:Int))) then (decide (a0.Turn<(20:Int))) else false) then (decide (a0.Op.N >= (0:Int))) else false) then (decide (a0.Op.N<(4:Int))) else false)) then (some (bif (bif (bif (!(bif (bif (bif (decide (a0.Turn >= (0:Int))) then (decide (a0.Turn<(20:Int))) else false) then (decide (a0.Op.N >= (0:Int))) else false) then (decide (a0.Op.N<(4:Int))) else false)) then true else false) then true else false) then true else false)) else (bif (!Xk5) then (some (bif (bif (bif (!(bif (bif (bif (decide (a0.Turn >= (0:Int))) then (decide (a0.Turn<(20:Int))) else false) then (decide (a0.Op.N >= (0:Int))) else false) then (decide (a0.Op.N<(4:Int))) else false)) then true else (!Xk5)) then true else false) then true else false)) else ((X8g a0.Pending).bind λv43=>bif (!v43) then (some (bif (bif (bif (!(bif (bif (bif (decide (a0.Turn >= (0:Int))) then (decide (a0.Turn<(20:Int))) else false) then (decide (a0.Op.N >= (0:Int))) else false) then (decide (a0.Op.N<(4:Int))) else false)) then true else (!Xk5)) then true else (!v43)) then true else false)) else ((X41 a0.Store).bind λv46=>some (bif (bif (bif (!(bif (bif (bif (decide (a0.Turn >= (0:Int))) then (decide (a0.Turn<(20:Int))) else false) then (decide (a0.Op.N >= (0:Int))) else false) then (decide (a0.Op.N<(4:Int))) else false)) then true else (!Xk5)) then true else (!v43)) then true else (v46 != (0:Int)))))):Option (Bool)).bind λXo4=>bif Xo4 then (some 8) else ((X5a (List.length a0.Marks)).bind λu50=>(X3c  a0 a0.Marks a0.Marks 0 true).bind λo77=>match o77 with|.x0 Xeq=>((X5a (List.length a0.Events)).bind λu79=>(X3b  a0 a0.Events a0.Events 0 Xeq).bind λo106=>match o106 with|.x0 Xep=>((X5a (List.length a0.Rows)).bind λu108=>(X3a  a0 a0.Rows a0.Rows 0 Xep).bind λo135=>match o135 with|.x0 Xeo=>((X5a (List.length a0.Late)).bind λu137=>(X39  a0 a0.Late a0.Late 0 Xeo).bind λo164=>match o164 with|.x0 Xen=>((X5a (List.length a0.Store)).bind λu166=>(X38  a0 a0.Store a0.Store 0 Xen).bind λo187=>match o187 with|.x0 Xem=>(bif (!Xem) then (some 8) else (some 0)))))))
def X9i (a0:Int):Option (X11) :=
 some (X11.mk 1 a0 a0 a0)
def X3f (a0:Int) (a1:Int):Option (Int) :=
 bif (bif (decide (a1<(1:Int))) then true else (decide (a1>(1073741824:Int)))) then (some 2) else (bif (bif (decide (a0<((-1099511627776):Int))) then true else (decide (a0>(1099511627776:Int)))) then (some 16) else (some 0))
def Xfq:List Int:=[0,1,2,2,3,3,3,3,4,4,4,4,4,4,4,4,5,5,5,5,5,5,5,5,5,5,5,5,5,5,5,5,6,6,6,6,6,6,6,6,6,6,6,6,6,6,6,6,6,6,6,6,6,6,6,6,6,6,6,6,6,6,6,6,7,7,7,7,7,7,7,7,7,7,7,7,7,7,7,7,7,7,7,7,7,7,7,7,7,7,7,7,7,7,7,7,7,7,7,7,7,7,7,7,7,7,7,7,7,7,7,7,7,7,7,7,7,7,7,7,7,7,7,7,7,7,7,7,8,8,8,8,8,8,8,8,8,8,8,8,8,8,8,8,8,8,8,8,8,8,8,8,8,8,8,8,8,8,8,8,8,8,8,8,8,8,8,8,8,8,8,8,8,8,8,8,8,8,8,8,8,8,8,8,8,8,8,8,8,8,8,8,8,8,8,8,8,8,8,8,8,8,8,8,8,8,8,8,8,8,8,8,8,8,8,8,8,8,8,8,8,8,8,8,8,8,8,8,8,8,8,8,8,8,8,8,8,8,8,8,8,8,8,8,8,8,8,8,8,8,8,8,8,8,8,8]
def X9d (a0:Int):Option (Int) :=
 (bif (decide (a0 >= (4294967296:Int))) then (some ((Int.fdiv a0 (2 ^ (min (Int.toNat 32) IntKind.u64.bits))),32)) else (some (a0,0)):Option (Int×Int)).bind λw2=>(bif (decide (w2.1 >= (65536:Int))) then (some ((Int.fdiv w2.1 (2 ^ (min (Int.toNat 16) IntKind.u64.bits))),(IntKind.i64.wrap (w2.2+16)))) else (some (w2.1,w2.2)):Option (Int×Int)).bind λw6=>(bif (decide (w6.1 >= (256:Int))) then (some ((Int.fdiv w6.1 (2 ^ (min (Int.toNat 8) IntKind.u64.bits))),(IntKind.i64.wrap (w6.2+8)))) else (some (w6.1,w6.2)):Option (Int×Int)).bind λw10=>(X1o Xfq (IntKind.u8.wrap w10.1)).bind λb13=>some (IntKind.i64.wrap (w10.2+(IntKind.i64.wrap b13)))
def X8b (a0:Int):Option (Int) :=
 (X9d a0).bind λv1=>some v1
inductive X10 where
 |x0 (Xd4:Int)
def Xs (X0u:(List X1)) (Xn:X1) (y0_8:Int):Nat->Int->Int->Option X10
 |0,_,_=>none
 |n+1,Xs1,Xiz=>bif (decide (Xs1<Xiz)) then ((X1o X0u (IntKind.i64.wrap (Int.fdiv (IntKind.u64.wrap (IntKind.i64.wrap (Xs1+Xiz))) (2 ^ (min (Int.toNat 1) IntKind.u64.bits))))).bind λe15=>(X5y e15 Xn).bind λv17=>bif (decide (v17<(0:Int))) then (Xs X0u Xn y0_8 n (IntKind.i64.wrap ((IntKind.i64.wrap (Int.fdiv (IntKind.u64.wrap (IntKind.i64.wrap (Xs1+Xiz))) (2 ^ (min (Int.toNat 1) IntKind.u64.bits))))+1)) Xiz) else (Xs X0u Xn y0_8 n Xs1 (IntKind.i64.wrap (Int.fdiv (IntKind.u64.wrap (IntKind.i64.wrap (Xs1+Xiz))) (2 ^ (min (Int.toNat 1) IntKind.u64.bits)))))) else (some (.x0 Xs1))
def Xc (a0:(List X1)) (a1:X1):Option (Int×Bool) :=
 (Xs  a0 a1 (List.length a0:Int) FU 0 (List.length a0:Int)).bind λo20=>match o20 with|.x0 Xd4=>((bif (decide (Xd4<(List.length a0:Int))) then ((X1o a0 Xd4).bind λe29=>(X5y e29 a1).bind λv31=>some (bif (decide (Xd4<(List.length a0:Int))) then (v31==(0:Int)) else false)) else (some false):Option (Bool)).bind λXzl=>some (Xd4,Xzl))
def X25 (a0:X11) (a1:X11):Option (X11×Int) :=
 ((X2b a0).bind λv7=>bif (v7 != (0:Int)) then (some (bif (v7 != (0:Int)) then true else false)) else ((X2b a1).bind λv10=>some (bif (v7 != (0:Int)) then true else (v10 != (0:Int)))):Option (Bool)).bind λXz7=>bif Xz7 then (some ((X11.mk 0 0 0 0),8)) else (bif (decide ((IntKind.i64.wrap (a0.Count+a1.Count))>(1073741824:Int))) then (some ((X11.mk 0 0 0 0),4)) else (bif (a0.Count==(0:Int)) then (some (a1,0)) else (bif (a1.Count==(0:Int)) then (some (a0,0)) else (some ((X11.mk (IntKind.i64.wrap (a0.Count+a1.Count)) (IntKind.i64.wrap (a0.Sum+a1.Sum)) (if a1.Min<a0.Min then a1.Min else a0.Min) (if a1.Max>a0.Max then a1.Max else a0.Max)),0)))))
def X9o (a0:Int) (a1:Int):Option (Int) :=
 bif (bif (decide (a1<(1:Int))) then true else (decide (a1>(1073741824:Int)))) then (some 2) else (bif (bif (decide (a0<((-1099511627776):Int))) then true else (decide (a0>(1099511627776:Int)))) then (some 16) else (some 0))
def X6e (a0:Int) (a1:Int):Option (Int×Int) :=
 (X9o a0 a1).bind λv1=>bif (v1 != (0:Int)) then (some (0,v1)) else ((Xu2 a1).bind λu4=>(bif (decide ((Int.tmod a0 a1)<(0:Int))) then (some (IntKind.i64.wrap ((IntKind.i64.wrap (Int.tdiv a0 a1)) - 1))) else (some (IntKind.i64.wrap (Int.tdiv a0 a1))):Option (Int)).bind λj7_7=>some (j7_7,0))
def Xad (a0:Int) (a1:Int):Option (X04×Int) :=
 (X6e a0 a1).bind λv1=>bif (v1.2 != (0:Int)) then (some ((X04.mk 0 0),v1.2)) else (some ((X04.mk (IntKind.i64.wrap (v1.1*a1)) (IntKind.i64.wrap ((IntKind.i64.wrap (v1.1+1))*a1))),0))
inductive Xa3 where
 |x0 (X07:(List X04))
def X4v (X0u:Int) (X7w:Int) (Xjn:Int):Nat->(List X04)->Int->Option Xa3
 |0,_,_=>none
 |n+1,Xn,X9k=>bif (decide ((IntKind.i64.wrap (X9k+X7w))>X0u)) then ((X1v (List.length (Xn++[(X04.mk X9k (IntKind.i64.wrap (X9k+X7w)))])) 16).bind λu19=>X4v X0u X7w Xjn n (Xn++[(X04.mk X9k (IntKind.i64.wrap (X9k+X7w)))]) (IntKind.i64.wrap (X9k - Xjn))) else (some (.x0 Xn))
inductive X7d where
 |x0 (X1p:(List X04)) (Xbo:(List X04))
def X2y (X1h:(List X04)):Nat->(List X04)->Int->Option X7d
 |0,_,_=>none
 |n+1,X0c,Xd1=>bif (decide (Xd1 >= (0:Int))) then ((X1o X1h Xd1).bind λe68=>(X1v (List.length (X0c++[e68])) 16).bind λu72=>X2y X1h n (X0c++[e68]) (IntKind.i64.wrap (Xd1 - 1))) else (some (.x0 X0c X1h))
def Xc0 (a0:Int) (a1:Int) (a2:Int):Option ((List X04)×Int) :=
 bif (bif (bif (bif (decide ((if a2<a1 then a2 else a1)<(1:Int))) then true else (decide (a1>(1073741824:Int)))) then true else (decide (a2>a1))) then true else (decide (a1>(IntKind.i64.wrap (16*a2))))) then (some (([]:List X04),2)) else ((Xad a0 a2).bind λv2=>bif (v2.2 != (0:Int)) then (some (([]:List X04),v2.2)) else ((X4v  a0 a1 a2 FU ([]:List X04) v2.1.Start).bind λo24=>match o24 with|.x0 X07=>((X2y  X07 FU ([]:List X04) (IntKind.i64.wrap ((List.length X07:Int) - 1))).bind λo87=>match o87 with|.x0 X1p Xbo=>(some (X1p,0)))))
def Xdt (a0:X0l) (a1:Int):Option ((List X04)×Int) :=
 (X14 a0).bind λv1=>bif (v1 != (0:Int)) then (some (([]:List X04),v1)) else (bif (a0.Kind==(1:Int)) then ((Xad a1 a0.Size).bind λv5=>bif (v5.2 != (0:Int)) then (some (([]:List X04),v5.2)) else (some ([v5.1],0))) else (bif (a0.Kind==(2:Int)) then ((Xc0 a1 a0.Size a0.Every).bind λv9=>some (v9.1,v9.2)) else (some (([]:List X04),2))))
inductive X03 where
 |x0
 |x1 (X9m:Int)
def Xe (X0c:(List X1)) (X1h:X1):List X1->Nat->Option X03
 |[],k=>some (.x0)
 |x::xs,k=>bif (bif (bif (x.Key==X1h.Key) then (decide (x.Span.Start<X1h.Span.End)) else false) then (decide (X1h.Span.Start<x.Span.End)) else false) then (some (.x1 (k:Int))) else (Xe X0c X1h xs (k+1))
inductive X3i where
 |x0 (X1p:(List X1)) (Xh7:Int)
def X1i:Nat->(List X1)->X1->Option X3i
 |0,_,_=>none
 |n+1,X0c,X1h=>((X5a (List.length X0c)).bind λu1330=>(Xe  X0c X1h X0c 0).bind λo1342=>match o1342 with|.x0=>(some (-1))|.x1 X9m=>(some X9m):Option (Int)).bind λXcs=>bif (decide (Xcs<(0:Int))) then (((Xc X0c X1h).bind λv1393=>bif (!v1393.2) then (bif (v1393.1==(List.length X0c:Int)) then (((X74 X0c v1393.1 (List.length X0c:Int)).bind λm1405=>bif (List.isEmpty m1405) then ((X1v (List.length (X0c++[X1h])) 88).bind λu1408=>some ()) else ((X1v (List.length (X0c++[X1h])) 88).bind λu1410=>some ()):Option (Unit)).bind λ_=>some ((X0c++[X1h]),0)) else ((Xr3 X0c v1393.1 X1h 88).bind λm1413=>some (m1413,0))) else ((X1o X0c v1393.1).bind λe1415=>((X25 e1415.Values.e0 X1h.Values.e0).bind λv1430=>bif (v1430.2 != (0:Int)) then (some (X0c,v1430.2)) else ((X25 (((X1.mk e1415.Key e1415.Span (V2.mk v1430.1 e1415.Values.e1)).Values).e1) X1h.Values.e1).bind λv1435=>bif (v1435.2 != (0:Int)) then (some ((List.set X0c (Int.toNat v1393.1) (X1.mk e1415.Key e1415.Span (V2.mk v1430.1 e1415.Values.e1))),v1435.2)) else (some ((List.set (List.set X0c (Int.toNat v1393.1) (X1.mk e1415.Key e1415.Span (V2.mk v1430.1 e1415.Values.e1))) (Int.toNat v1393.1) (X1.mk ((X1.mk e1415.Key e1415.Span (V2.mk v1430.1 e1415.Values.e1)).Key) ((X1.mk e1415.Key e1415.Span (V2.mk v1430.1 e1415.Values.e1)).Span) (V2.mk (((X1.mk e1415.Key e1415.Span (V2.mk v1430.1 e1415.Values.e1)).Values).e0) v1435.1))),0))):Option ((List X1)×Int)).bind λw1427=>some (w1427.1,w1427.2)):Option ((List X1)×Int)).bind λw1392=>some (.x0 w1392.1 w1392.2)) else ((X1o X0c Xcs).bind λe1440=>((X25 X1h.Values.e0 e1440.Values.e0).bind λv1455=>bif (v1455.2 != (0:Int)) then (some (X1h,v1455.2)) else ((X25 X1h.Values.e1 e1440.Values.e1).bind λv1460=>bif (v1460.2 != (0:Int)) then (some ((X1.mk X1h.Key X1h.Span (V2.mk v1455.1 X1h.Values.e1)),v1460.2)) else (some ((X1.mk X1h.Key X1h.Span (V2.mk v1455.1 v1460.1)),0))):Option (X1×Int)).bind λw1452=>bif (w1452.2 != (0:Int)) then (some (.x0 ([]:List X1) w1452.2)) else ((delI X0c Xcs).bind λm1465=>X1i n m1465 (X1.mk w1452.1.Key (X04.mk (if e1440.Span.Start<w1452.1.Span.Start then e1440.Span.Start else w1452.1.Span.Start) (if e1440.Span.End>w1452.1.Span.End then e1440.Span.End else w1452.1.Span.End)) w1452.1.Values)))
inductive X7m where
 |x0 (X07:(List X1))
 |x1 (X1a:(List X1)) (Xh6:Int)
def X3y (Xer:(List X04)):List X04->Nat->X1->(List X1)->Option X7m
 |[],k,Xn,Xi=>some (.x0 Xi)
 |x::xs,k,Xn,Xi=>((Xc Xi (X1.mk Xn.Key x Xn.Values)).bind λv1891=>bif (!v1891.2) then (bif (v1891.1==(List.length Xi:Int)) then (((X74 Xi v1891.1 (List.length Xi:Int)).bind λm1903=>bif (List.isEmpty m1903) then ((X1v (List.length (Xi++[(X1.mk Xn.Key x Xn.Values)])) 88).bind λu1906=>some ()) else ((X1v (List.length (Xi++[(X1.mk Xn.Key x Xn.Values)])) 88).bind λu1908=>some ()):Option (Unit)).bind λ_=>some ((X1.mk ((X1.mk Xn.Key x Xn.Values).Key) ((X1.mk Xn.Key x Xn.Values).Span) (V2.mk (((X1.mk Xn.Key x Xn.Values).Values).e0) (((X1.mk Xn.Key x Xn.Values).Values).e1))),(Xi++[(X1.mk Xn.Key x Xn.Values)]),0)) else ((Xr3 Xi v1891.1 (X1.mk Xn.Key x Xn.Values) 88).bind λm1911=>some ((X1.mk Xn.Key x Xn.Values),m1911,0))) else ((X1o Xi v1891.1).bind λe1913=>((X25 e1913.Values.e0 Xn.Values.e0).bind λv1928=>bif (v1928.2 != (0:Int)) then (some (Xi,v1928.2)) else ((X25 (((X1.mk e1913.Key e1913.Span (V2.mk v1928.1 e1913.Values.e1)).Values).e1) Xn.Values.e1).bind λv1933=>bif (v1933.2 != (0:Int)) then (some ((List.set Xi (Int.toNat v1891.1) (X1.mk e1913.Key e1913.Span (V2.mk v1928.1 e1913.Values.e1))),v1933.2)) else (some ((List.set (List.set Xi (Int.toNat v1891.1) (X1.mk e1913.Key e1913.Span (V2.mk v1928.1 e1913.Values.e1))) (Int.toNat v1891.1) (X1.mk ((X1.mk e1913.Key e1913.Span (V2.mk v1928.1 e1913.Values.e1)).Key) ((X1.mk e1913.Key e1913.Span (V2.mk v1928.1 e1913.Values.e1)).Span) (V2.mk (((X1.mk e1913.Key e1913.Span (V2.mk v1928.1 e1913.Values.e1)).Values).e0) v1933.1))),0))):Option ((List X1)×Int)).bind λw1925=>some ((X1.mk ((X1.mk Xn.Key x Xn.Values).Key) ((X1.mk Xn.Key x Xn.Values).Span) (V2.mk (((X1.mk Xn.Key x Xn.Values).Values).e0) (((X1.mk Xn.Key x Xn.Values).Values).e1))),w1925.1,w1925.2)):Option (X1×(List X1)×Int)).bind λw1890=>bif (w1890.2.2 != (0:Int)) then (some (.x1 ([]:List X1) w1890.2.2)) else (X3y Xer xs (k+1) w1890.1 w1890.2.1)
def X4t (a0:(List X1)) (a1:X0l) (a2:X8) (a3:Int):Option ((List X1)×Int) :=
 (X41 a0).bind λv1=>bif (v1 != (0:Int)) then (some (([]:List X1),v1)) else ((X14 a1).bind λv4=>bif (v4 != (0:Int)) then (some (([]:List X1),v4)) else (bif (bif (a3 != (0:Int)) then (a3 != (1:Int)) else false) then (some (([]:List X1),2)) else (bif (bif (decide (a2.Time<((-1099511627776):Int))) then true else (decide (a2.Time>(1099511627776:Int)))) then (some (([]:List X1),16)) else (((X9i a2.Value).bind λv14=>bif (a3==(0:Int)) then (some (X1.mk a2.Key (X04.mk 0 0) (V2.mk v14 (X11.mk 0 0 0 0)))) else (bif (a3==(1:Int)) then (some (X1.mk a2.Key (X04.mk 0 0) (V2.mk (X11.mk 0 0 0 0) v14))) else none):Option (X1)).bind λXfz=>(bif (List.isEmpty a0) then (some a0) else ((X1v (List.length a0) 88).bind λu28=>some a0):Option ((List X1))).bind λXfy=>bif (a1.Kind==(3:Int)) then (((X3f 0 a1.Size).bind λv51=>bif (v51 != (0:Int)) then (some (([]:List X04),v51)) else ((X3f a2.Time a1.Size).bind λv54=>bif (v54 != (0:Int)) then (some (([]:List X04),v54)) else ((X8b 1).bind λv67=>some ([(X04.mk a2.Time (IntKind.i64.wrap (a2.Time+a1.Size)))],0))):Option ((List X04)×Int)).bind λw50=>bif (w50.2 != (0:Int)) then (some (([]:List X1),w50.2)) else ((X1o w50.1 0).bind λe71=>((X1i  FU Xfy (X1.mk Xfz.Key e71 Xfz.Values)).bind λo1548=>match o1548 with|.x0 X1p Xh7=>(some (X1p,Xh7)):Option ((List X1)×Int)).bind λw811=>bif (w811.2 != (0:Int)) then (some (([]:List X1),w811.2)) else (bif (decide ((List.length w811.1:Int)>(4000:Int))) then (some (([]:List X1),4)) else (some (w811.1,0))))) else ((Xdt a1 a2.Time).bind λv1558=>bif (v1558.2 != (0:Int)) then (some (([]:List X1),v1558.2)) else ((X5a (List.length v1558.1)).bind λu1561=>(X3y  v1558.1 v1558.1 0 Xfz Xfy).bind λo1984=>match o1984 with|.x0 X07=>(bif (decide ((List.length X07:Int)>(4000:Int))) then (some (([]:List X1),4)) else (some (X07,0)))|.x1 X1a Xh6=>(some (X1a,Xh6))))))))
def X4i (a0:(List X0a)):Option ((List X0a)) :=
 bif (List.isEmpty a0) then (some a0) else ((X1v (List.length a0) 88).bind λu4=>some a0)
def X1b (a0:(List Int)):Option ((List Int)) :=
 bif (List.isEmpty a0) then (some a0) else ((X1v (List.length a0) 8).bind λu4=>some a0)
def X1d (a0:(List X1)):Option ((List X1)) :=
 bif (List.isEmpty a0) then (some a0) else ((X1v (List.length a0) 88).bind λu4=>some a0)
def X1c (a0:(List X0h)):Option ((List X0h)) :=
 bif (List.isEmpty a0) then (some a0) else ((X1v (List.length a0) 40).bind λu4=>some a0)
def X26 (a0:(List X19)):Option ((List X19)) :=
 bif (List.isEmpty a0) then (some a0) else ((X1v (List.length a0) 40).bind λu4=>some a0)
def X15 (a0:(List X8)):Option ((List X8)) :=
 bif (List.isEmpty a0) then (some a0) else ((X1v (List.length a0) 24).bind λu4=>some a0)
def X2w (a0:Xp) (a1:(List X0a)):Option (Xp×Int) :=
 (X8h a0).bind λv1=>bif (v1 != (0:Int)) then (some ((Xp.mk (GOp.mk 0 0) 0 ([]:List X0a) ([]:List Int) ([]:List X1) ([]:List X0h) ([]:List X19) ([]:List X8)),v1)) else ((X8g a1).bind λv4=>bif (!v4) then (some ((Xp.mk (GOp.mk 0 0) 0 ([]:List X0a) ([]:List Int) ([]:List X1) ([]:List X0h) ([]:List X19) ([]:List X8)),8)) else (bif (decide ((List.length a1:Int)>(IntKind.i64.wrap (4000 - (List.length a0.Pending:Int))))) then (some ((Xp.mk (GOp.mk 0 0) 0 ([]:List X0a) ([]:List Int) ([]:List X1) ([]:List X0h) ([]:List X19) ([]:List X8)),4)) else (bif (List.isEmpty a0.Pending) then ((X1b a0.Marks).bind λv33=>(X1d a0.Store).bind λv35=>(X1c a0.Events).bind λv37=>(X26 a0.Rows).bind λv39=>(X15 a0.Late).bind λv41=>bif (List.isEmpty a1) then (some ((Xp.mk a0.Op a0.Turn a1 v33 v35 v37 v39 v41),0)) else ((X1v (List.length a1) 88).bind λu44=>some ((Xp.mk a0.Op a0.Turn a1 v33 v35 v37 v39 v41),0))) else ((X4i a0.Pending).bind λv46=>(X1b a0.Marks).bind λv48=>(X1d a0.Store).bind λv50=>(X1c a0.Events).bind λv52=>(X26 a0.Rows).bind λv54=>(X15 a0.Late).bind λv56=>bif (List.isEmpty a1) then (some ((Xp.mk a0.Op a0.Turn v46 v48 v50 v52 v54 v56),0)) else ((X1v (List.length (v46++a1)) 88).bind λu59=>none)))))
def X6b (a0:Int):Option (Bool) :=
 (X2g (Xd.mk 2 (X8.mk 0 0 0) a0 (X19.mk 0 (X04.mk 0 0) (V2.mk 0 0)))).bind λv1=>some (v1==(0:Int))
inductive X5u where
 |x0
 |x1
def X3n (Xhc:(List Int)):List Int->Nat->Option X5u
 |[],k=>some (.x0)
 |x::xs,k=>(bif (x != ((-9223372036854775808):Int)) then ((X6b x).bind λv32=>some (bif (x != ((-9223372036854775808):Int)) then (!v32) else false)) else (some (bif (x != ((-9223372036854775808):Int)) then false else false)):Option (Bool)).bind λXti=>bif Xti then (some (.x1)) else (X3n Xhc xs (k+1))
def X9e (a0:(List Int)):Option (Int) :=
 (bif ((List.length a0:Int)==(0:Int)) then (some (bif ((List.length a0:Int)==(0:Int)) then true else false)) else (some (bif ((List.length a0:Int)==(0:Int)) then true else (decide ((List.length a0:Int)>(4:Int))))):Option (Bool)).bind λXzj=>bif Xzj then (some 8) else ((X5a (List.length a0)).bind λu6=>(X3n  a0 a0 0).bind λo36=>match o36 with|.x0=>(some 0)|.x1=>(some 8))
inductive X2z where
 |x0 (Xjm:Int)
def X0v (X0u:(List Int)):Nat->Int->Int->Option X2z
 |0,_,_=>none
 |n+1,Xd1,Xxh=>bif (decide (Xxh<(List.length X0u:Int))) then ((X1o X0u Xxh).bind λe13=>X0v X0u n (if e13<Xd1 then e13 else Xd1) (IntKind.i64.wrap (Xxh+1))) else (some (.x0 Xd1))
def X1t (a0:(List Int)):Option (Int) :=
 bif (decide ((List.length a0:Int)<(1:Int))) then none else ((X1o a0 0).bind λe3=>(X0v  a0 FU e3 1).bind λo15=>match o15 with|.x0 Xjm=>(some Xjm))
def X4z (a0:(List Int)):Option (Int×Int) :=
 (X9e a0).bind λv1=>bif (v1 != (0:Int)) then (some (0,v1)) else ((X1t a0).bind λv4=>some (v4,0))
def X62 (a0:(List Int)) (a1:Int) (a2:Int):Option ((List Int)×Bool×Int) :=
 (X4z a0).bind λv1=>bif (v1.2 != (0:Int)) then (some (([]:List Int),false,v1.2)) else ((bif (decide (a1<(0:Int))) then (some (bif (bif (decide (a1<(0:Int))) then true else false) then true else false)) else (bif (decide (a1 >= (List.length a0:Int))) then (some (bif (bif (decide (a1<(0:Int))) then true else (decide (a1 >= (List.length a0:Int)))) then true else false)) else ((X6b a2).bind λv11=>some (bif (bif (decide (a1<(0:Int))) then true else (decide (a1 >= (List.length a0:Int)))) then true else (!v11)))):Option (Bool)).bind λXz6=>bif Xz6 then (some (([]:List Int),false,2)) else ((bif (List.isEmpty a0) then (some a0) else ((X1v (List.length a0) 8).bind λu24=>some a0):Option ((List Int))).bind λXi8=>(X1o Xi8 a1).bind λe27=>(X1t (List.set Xi8 (Int.toNat a1) (if a2>e27 then a2 else e27))).bind λv29=>some ((List.set Xi8 (Int.toNat a1) (if a2>e27 then a2 else e27)),(decide (v29>v1.1)),0)))
inductive X93 where
 |x0 (X07:(List X1)) (X09:(List X1))
def X3d (X7w:Int) (X2k:(List X1)):List X1->Nat->(List X1)->(List X1)->Option X93
 |[],k,Xn,Xi=>some (.x0 Xn Xi)
 |x::xs,k,Xn,Xi=>(bif (decide (x.Span.End<=X7w)) then ((X1v (List.length (Xn++[x])) 88).bind λu110=>some ((Xn++[x]),Xi)) else ((X1v (List.length (Xi++[x])) 88).bind λu112=>some (Xn,(Xi++[x]))):Option ((List X1)×(List X1))).bind λw108=>X3d X7w X2k xs (k+1) w108.1 w108.2
def X78 (a0:(List X1)) (a1:Int):Option ((List X1)×(List X1)×Int) :=
 (X41 a0).bind λv1=>bif (v1 != (0:Int)) then (some (([]:List X1),([]:List X1),v1)) else ((X5a (List.length a0)).bind λu4=>(X3d  a1 a0 a0 0 ([]:List X1) ([]:List X1)).bind λo151=>match o151 with|.x0 X07 X09=>(some (X07,X09,0)))
def X7v (a0:Int) (a1:X11):Option (Int×Int) :=
 bif (bif (decide (a0<(1:Int))) then true else (decide (a0>(4:Int)))) then (some (0,2)) else ((X2b a1).bind λv2=>bif (v2 != (0:Int)) then (some (0,v2)) else (bif (a1.Count==(0:Int)) then (some (0,6)) else ((bif (a0==(0:Int)) then (some 0) else (bif (a0==(1:Int)) then (some a1.Count) else (bif (a0==(2:Int)) then (some a1.Sum) else (bif (a0==(3:Int)) then (some a1.Min) else (bif (a0==(4:Int)) then (some a1.Max) else none)))):Option (Int)).bind λXzn=>some (Xzn,0))))
inductive X86 where
 |x0 (Xbn:(List X0a))
def X21 (Xi:Xp) (X0c:Xp) (Xqc:X08) (Xhb:(List X1)):List X1->Nat->(List X0a)->Option X86
 |[],k,Xha=>some (.x0 Xha)
 |x::xs,k,Xha=>(X7v Xqc.Agg x.Values.e0).bind λv76=>(X1v (List.length (Xha++[(X0a.mk 0 (Xd.mk 3 (X8.mk 0 0 0) 0 (X19.mk x.Key x.Span (V2.mk v76.1 0))))])) 88).bind λu84=>X21 Xi X0c Xqc Xhb xs (k+1) (Xha++[(X0a.mk 0 (Xd.mk 3 (X8.mk 0 0 0) 0 (X19.mk x.Key x.Span (V2.mk v76.1 0))))])
def X6y (a0:X08) (a1:Xp) (a2:Int) (a3:Xd):Option (Xp×Int) :=
 (X7u a0).bind λv1=>bif (!v1) then (some ((Xp.mk (GOp.mk 0 0) 0 ([]:List X0a) ([]:List Int) ([]:List X1) ([]:List X0h) ([]:List X19) ([]:List X8)),8)) else ((X8h a1).bind λv4=>bif (v4 != (0:Int)) then (some ((Xp.mk (GOp.mk 0 0) 0 ([]:List X0a) ([]:List Int) ([]:List X1) ([]:List X0h) ([]:List X19) ([]:List X8)),v4)) else ((bif (a1.Op.Kind != (4:Int)) then (some (bif (bif (a1.Op.Kind != (4:Int)) then true else false) then true else false)) else (bif (decide (a2<(0:Int))) then (some (bif (bif (a1.Op.Kind != (4:Int)) then true else (decide (a2<(0:Int)))) then true else false)) else (some (bif (bif (a1.Op.Kind != (4:Int)) then true else (decide (a2<(0:Int)))) then true else (decide (a2 >= (List.length a1.Marks:Int)))))):Option (Bool)).bind λXz4=>bif Xz4 then (some ((Xp.mk (GOp.mk 0 0) 0 ([]:List X0a) ([]:List Int) ([]:List X1) ([]:List X0h) ([]:List X19) ([]:List X8)),2)) else ((X2g a3).bind λv14=>bif (bif (v14 != (0:Int)) then true else (bif (a3.Kind != (1:Int)) then (a3.Kind != (2:Int)) else false)) then (some ((Xp.mk (GOp.mk 0 0) 0 ([]:List X0a) ([]:List Int) ([]:List X1) ([]:List X0h) ([]:List X19) ([]:List X8)),8)) else (bif (decide ((List.length a1.Pending:Int)>(0:Int))) then (some ((Xp.mk (GOp.mk 0 0) 0 ([]:List X0a) ([]:List Int) ([]:List X1) ([]:List X0h) ([]:List X19) ([]:List X8)),18)) else (bif (a3.Kind==(1:Int)) then ((X4t a1.Store a0.Window a3.Record 0).bind λv19=>bif (v19.2 != (0:Int)) then (some ((Xp.mk (GOp.mk 0 0) 0 ([]:List X0a) ([]:List Int) ([]:List X1) ([]:List X0h) ([]:List X19) ([]:List X8)),v19.2)) else ((X2w (Xp.mk a1.Op a1.Turn a1.Pending a1.Marks v19.1 a1.Events a1.Rows a1.Late) ([]:List X0a)).bind λv22=>some (v22.1,v22.2))) else ((X62 a1.Marks a2 a3.Time).bind λv24=>bif (!v24.2.1) then ((X2w (Xp.mk a1.Op a1.Turn a1.Pending v24.1 a1.Store a1.Events a1.Rows a1.Late) ([]:List X0a)).bind λv27=>some (v27.1,v27.2)) else ((X4z v24.1).bind λv29=>(X78 a1.Store v29.1).bind λv31=>(X5a (List.length v31.1)).bind λu33=>(X21  (Xp.mk a1.Op a1.Turn a1.Pending v24.1 v31.2.1 a1.Events a1.Rows a1.Late) (Xp.mk ((Xp.mk (GOp.mk 0 0) 0 ([]:List X0a) ([]:List Int) ([]:List X1) ([]:List X0h) ([]:List X19) ([]:List X8)).Op) ((Xp.mk (GOp.mk 0 0) 0 ([]:List X0a) ([]:List Int) ([]:List X1) ([]:List X0h) ([]:List X19) ([]:List X8)).Turn) ((Xp.mk (GOp.mk 0 0) 0 ([]:List X0a) ([]:List Int) ([]:List X1) ([]:List X0h) ([]:List X19) ([]:List X8)).Pending) ((Xp.mk (GOp.mk 0 0) 0 ([]:List X0a) ([]:List Int) ([]:List X1) ([]:List X0h) ([]:List X19) ([]:List X8)).Marks) ((Xp.mk (GOp.mk 0 0) 0 ([]:List X0a) ([]:List Int) ([]:List X1) ([]:List X0h) ([]:List X19) ([]:List X8)).Store) ((Xp.mk (GOp.mk 0 0) 0 ([]:List X0a) ([]:List Int) ([]:List X1) ([]:List X0h) ([]:List X19) ([]:List X8)).Events) ((Xp.mk (GOp.mk 0 0) 0 ([]:List X0a) ([]:List Int) ([]:List X1) ([]:List X0h) ([]:List X19) ([]:List X8)).Rows) ((Xp.mk (GOp.mk 0 0) 0 ([]:List X0a) ([]:List Int) ([]:List X1) ([]:List X0h) ([]:List X19) ([]:List X8)).Late)) a0 v31.1 v31.1 0 ([]:List X0a)).bind λo96=>match o96 with|.x0 Xbn=>((X2w (Xp.mk a1.Op a1.Turn a1.Pending v24.1 v31.2.1 a1.Events a1.Rows a1.Late) Xbn).bind λv98=>some (v98.1,v98.2)))))))))
inductive X84 where
 |x0 (Xau:(List X19))
def X3o (y1_2:(List Int)) (y1_3:(List Xd)) (X8s:X08) (Xg6:Xp) (Xrz:Xp) (Xs0:Int) (Xh9:Xp):Nat->(List X19)->Int->Option X84
 |0,_,_=>none
 |n+1,Xiw,Xlq=>bif (decide (Xlq<(List.length Xh9.Pending:Int))) then ((X1o Xh9.Pending Xlq).bind λe166=>(X1v (List.length (Xiw++[e166.Message.Row])) 40).bind λu168=>X3o y1_2 y1_3 X8s Xg6 Xrz Xs0 Xh9 n (Xiw++[e166.Message.Row]) (IntKind.i64.wrap (Xlq+1))) else (some (.x0 Xiw))
inductive X5v where
 |x0 (X09:Xp) (X35:(List X19))
 |x1 (X4q:(List X19))
def X1g (Xjn:(List Int)) (Xd1:(List Xd)) (Xn:X08) (Xi:Xp):List Xd->Nat->Xp->(List X19)->Option X5v
 |[],k,X6c,X0c=>some (.x0 X6c X0c)
 |x::xs,k,X6c,X0c=>(X1o Xjn (k:Int)).bind λe139=>(X6y Xn X6c e139 x).bind λv141=>bif (v141.2 != (0:Int)) then (some (.x1 ([]:List X19))) else ((X3o  Xjn Xd1 Xn Xi X6c (k:Int) v141.1 FU X0c 0).bind λo175=>match o175 with|.x0 Xau=>(X1g Xjn Xd1 Xn Xi xs (k+1) (Xp.mk v141.1.Op v141.1.Turn ([]:List X0a) v141.1.Marks v141.1.Store v141.1.Events v141.1.Rows v141.1.Late) Xau))
def X63 (a0:X08) (a1:Int) (a2:(List Int)) (a3:(List Xd)):Option (Xp×(List X19)×Bool) :=
 (Xlk 0 a1).bind λv1=>bif (v1.2 != (0:Int)) then (some ((Xp.mk (GOp.mk 0 0) 0 ([]:List X0a) ([]:List Int) ([]:List X1) ([]:List X0h) ([]:List X19) ([]:List X8)),([]:List X19),false)) else ((X5a (List.length a3)).bind λu4=>(X1g  a2 a3 a0 (Xp.mk (GOp.mk 0 0) 0 ([]:List X0a) ([]:List Int) ([]:List X1) ([]:List X0h) ([]:List X19) ([]:List X8)) a3 0 v1.1 ([]:List X19)).bind λo205=>match o205 with|.x0 X09 X35=>(some (X09,X35,true))|.x1 X4q=>(some ((Xp.mk ((Xp.mk (GOp.mk 0 0) 0 ([]:List X0a) ([]:List Int) ([]:List X1) ([]:List X0h) ([]:List X19) ([]:List X8)).Op) ((Xp.mk (GOp.mk 0 0) 0 ([]:List X0a) ([]:List Int) ([]:List X1) ([]:List X0h) ([]:List X19) ([]:List X8)).Turn) ((Xp.mk (GOp.mk 0 0) 0 ([]:List X0a) ([]:List Int) ([]:List X1) ([]:List X0h) ([]:List X19) ([]:List X8)).Pending) ((Xp.mk (GOp.mk 0 0) 0 ([]:List X0a) ([]:List Int) ([]:List X1) ([]:List X0h) ([]:List X19) ([]:List X8)).Marks) ((Xp.mk (GOp.mk 0 0) 0 ([]:List X0a) ([]:List Int) ([]:List X1) ([]:List X0h) ([]:List X19) ([]:List X8)).Store) ((Xp.mk (GOp.mk 0 0) 0 ([]:List X0a) ([]:List Int) ([]:List X1) ([]:List X0h) ([]:List X19) ([]:List X8)).Events) ((Xp.mk (GOp.mk 0 0) 0 ([]:List X0a) ([]:List Int) ([]:List X1) ([]:List X0h) ([]:List X19) ([]:List X8)).Rows) ((Xp.mk (GOp.mk 0 0) 0 ([]:List X0a) ([]:List Int) ([]:List X1) ([]:List X0h) ([]:List X19) ([]:List X8)).Late)),X4q,false)))
def Xi4 (a0:Int) (a1:Int) (a2:Int):Option (X19) :=
 some (X19.mk a0 (X04.mk a1 (IntKind.i64.wrap (a1+10))) (V2.mk a2 0))
inductive X6q where
 |x0
 |x1
def X49 (X0u:(List X19)) (X7w:(List X19)):List X19->Nat->Option X6q
 |[],k=>some (.x0)
 |x::xs,k=>(X1o X7w (k:Int)).bind λe11=>bif (!(X9y x e11)) then (some (.x1)) else (X49 X0u X7w xs (k+1))
def X8p (a0:(List X19)) (a1:(List X19)):Option (Bool) :=
 bif ((List.length a0:Int) != (List.length a1:Int)) then (some false) else ((X5a (List.length a0)).bind λu2=>(X49  a0 a1 a0 0).bind λo14=>match o14 with|.x0=>(some true)|.x1=>(some false))
def Xb7:Option (Bool) :=
 (Xdh).bind λv1=>(Xe5 0 3 0).bind λv3=>(Xe5 0 12 0).bind λv5=>(Xao 10).bind λv7=>(X63 v1 1 [0,0,0] [v3,v5,v7]).bind λv9=>(bif v9.2.2 then ((Xi4 0 0 1).bind λv19=>(X8p v9.2.1 [v19]).bind λv21=>bif v21 then (some (bif (bif v9.2.2 then v21 else false) then ((List.length v9.1.Store:Int)==(1:Int)) else false)) else (some (bif (bif v9.2.2 then v21 else false) then false else false))) else (some (bif (bif v9.2.2 then false else false) then false else false)):Option (Bool)).bind λXzm=>some Xzm
def X9f (a0:X08):Option (Bool) :=
 (bif (decide ((List.length a0.Arg:Int)>(100:Int))) then (some (bif (bif (decide ((List.length a0.Arg:Int)>(100:Int))) then true else false) then true else false)) else (bif (decide ((List.length a0.Where:Int)>(100:Int))) then (some (bif (bif (decide ((List.length a0.Arg:Int)>(100:Int))) then true else (decide ((List.length a0.Where:Int)>(100:Int)))) then true else false)) else (some (bif (bif (decide ((List.length a0.Arg:Int)>(100:Int))) then true else (decide ((List.length a0.Where:Int)>(100:Int)))) then true else (decide ((List.length a0.Sources:Int)>(20:Int)))))):Option (Bool)).bind λj3_2=>some j3_2
def Xb2 (a0:Int):Option (Int) :=
 bif (decide (a0<=(4:Int))) then (some 0) else (bif (decide (a0<=(6:Int))) then (some 1) else (some 2))
def X60 (a0:X05) (a1:Int) (a2:Int):Option (Bool) :=
 some (bif (bif (bif (bif (bif (bif (bif (decide (a0.Kind >= (1:Int))) then (decide (a0.Kind<=(19:Int))) else false) then (decide (a0.N >= (0:Int))) else false) then (bif (a0.N==(0:Int)) then true else (a0.Kind==(1:Int))) else false) then (decide (a0.At >= (0:Int))) else false) then (decide (a0.At<=(400:Int))) else false) then (a0.A==a1) else false) then (a0.B==a2) else false)
inductive X4d where
 |x0 (X07:(List Int)) (X09:(List Int))
 |x1 (X1a:(List Int)) (X4q:(List Int))
def X1f (X0u:(List X05)):List X05->Nat->(List Int)->(List Int)->Option X4d
 |[],k,Xn,Xi=>some (.x0 Xn Xi)
 |x::xs,k,Xn,Xi=>(Xb2 x.Kind).bind λv156=>bif (decide (v156>(0:Int))) then (bif (decide ((IntKind.i64.wrap ((k:Int) - 1))<(0:Int))) then (some (.x1 ([]:List Int) ([]:List Int))) else ((X1o Xn (IntKind.i64.wrap ((k:Int) - 1))).bind λe160=>(X1o Xi (IntKind.i64.wrap ((k:Int) - 1))).bind λe162=>bif (v156==(2:Int)) then (bif (decide ((IntKind.i64.wrap ((IntKind.i64.wrap ((k:Int) - 1)) - e160))<(0:Int))) then (some (.x1 ([]:List Int) ([]:List Int))) else ((X1o Xn (IntKind.i64.wrap ((IntKind.i64.wrap ((k:Int) - 1)) - e160))).bind λe166=>(X1o Xi (IntKind.i64.wrap ((IntKind.i64.wrap ((k:Int) - 1)) - e160))).bind λe168=>(X60 x (IntKind.i64.wrap ((IntKind.i64.wrap ((k:Int) - 1)) - e160)) (IntKind.i64.wrap ((k:Int) - 1))).bind λv170=>bif (!v170) then (some (.x1 ([]:List Int) ([]:List Int))) else ((X1v (List.length (Xn++[(IntKind.i64.wrap ((IntKind.i64.wrap (1+e160))+e166))])) 8).bind λu173=>(X1v (List.length (Xi++[(if (IntKind.i64.wrap (1+e168))>(IntKind.i64.wrap (1+e162)) then (IntKind.i64.wrap (1+e168)) else (IntKind.i64.wrap (1+e162)))])) 8).bind λu175=>X1f X0u xs (k+1) (Xn++[(IntKind.i64.wrap ((IntKind.i64.wrap (1+e160))+e166))]) (Xi++[(if (IntKind.i64.wrap (1+e168))>(IntKind.i64.wrap (1+e162)) then (IntKind.i64.wrap (1+e168)) else (IntKind.i64.wrap (1+e162)))])))) else ((X60 x (IntKind.i64.wrap ((k:Int) - 1)) 0).bind λv177=>bif (!v177) then (some (.x1 ([]:List Int) ([]:List Int))) else ((X1v (List.length (Xn++[(IntKind.i64.wrap (1+e160))])) 8).bind λu180=>(X1v (List.length (Xi++[(IntKind.i64.wrap (1+e162))])) 8).bind λu182=>X1f X0u xs (k+1) (Xn++[(IntKind.i64.wrap (1+e160))]) (Xi++[(IntKind.i64.wrap (1+e162))]))))) else ((X60 x 0 0).bind λv184=>bif (!v184) then (some (.x1 ([]:List Int) ([]:List Int))) else ((X1v (List.length (Xn++[1])) 8).bind λu187=>(X1v (List.length (Xi++[1])) 8).bind λu189=>X1f X0u xs (k+1) (Xn++[1]) (Xi++[1])))
def Xb1 (a0:(List X05)):Option ((List Int)×(List Int)×Bool) :=
 (X5a (List.length a0)).bind λu1=>(X1f  a0 a0 0 ([]:List Int) ([]:List Int)).bind λo232=>match o232 with|.x0 X07 X09=>((bif (decide ((List.length a0:Int)>(0:Int))) then ((X1o X07 (IntKind.i64.wrap ((List.length a0:Int) - 1))).bind λe239=>some (bif (decide ((List.length a0:Int)>(0:Int))) then (e239==(List.length a0:Int)) else false)) else (some false):Option (Bool)).bind λXtl=>some (X07,X09,Xtl))|.x1 X1a X4q=>(some (X1a,X4q,false))
def X47 (a0:(List X05)):Option (Int) :=
 bif (decide ((List.length a0:Int)>(60:Int))) then (some 4) else ((Xb1 a0).bind λv2=>bif (!v2.2.2) then (some 8) else ((X1o v2.2.1 (IntKind.i64.wrap ((List.length a0:Int) - 1))).bind λe5=>bif (decide (e5>(20:Int))) then (some 34) else (some 0)))
inductive X4o where
 |x0
 |x1
def X2q (X0u:(List Int)):List Int->Nat->Option X4o
 |[],k=>some (.x0)
 |x::xs,k=>(bif (decide (x<(0:Int))) then (some (bif (decide (x<(0:Int))) then true else false)) else (some (bif (decide (x<(0:Int))) then true else (decide (x>(3:Int))))):Option (Bool)).bind λXtk=>bif Xtk then (some (.x1)) else (X2q X0u xs (k+1))
inductive X4m where
 |x0
 |x1
def X2p (Xy7:(List Int)) (Xy6:Int):Nat->Int->Option X4m
 |0,_=>none
 |n+1,Xlo=>bif (decide (Xlo<Xy6)) then ((X1o Xy7 Xlo).bind λe86=>(X1o Xy7 Xy6).bind λe88=>bif (e86==e88) then (some (.x0)) else (X2p Xy7 Xy6 n (IntKind.i64.wrap (Xlo+1)))) else (some (.x1))
inductive X4n where
 |x0
 |x1
def X2a (Xrn:(List Int)):List Int->Nat->Option X4n
 |[],k=>some (.x0)
 |x::xs,k=>(X2p  Xrn (k:Int) FU 0).bind λo91=>match o91 with|.x0=>(some (.x1))|.x1=>(X2a Xrn xs (k+1))
def X6n (a0:(List Int)) (a1:Bool):Option (Int) :=
 bif (decide ((List.length a0:Int)>(4:Int))) then (some 4) else ((bif ((List.length a0:Int)==(0:Int)) then (some (bif ((List.length a0:Int)==(0:Int)) then true else false)) else (bif a1 then (some (bif ((List.length a0:Int)==(0:Int)) then true else (bif a1 then ((List.length a0:Int) != (2:Int)) else false))) else (some (bif ((List.length a0:Int)==(0:Int)) then true else (bif a1 then false else false)))):Option (Bool)).bind λXz9=>bif Xz9 then (some 8) else ((X5a (List.length a0)).bind λu9=>(X2q  a0 a0 0).bind λo27=>match o27 with|.x0=>((X2a  a0 a0 0).bind λo93=>match o93 with|.x0=>(some 0)|.x1=>(some 43))|.x1=>(some 8)))
def X7e (a0:X0l):Option (Bool) :=
 bif (bif (decide (a0.Size<(1:Int))) then true else (decide (a0.Size>(1073741824:Int)))) then (some false) else (bif (a0.Kind==(2:Int)) then (some (bif (bif (decide (a0.Every >= (1:Int))) then (decide (a0.Every<=a0.Size)) else false) then (decide (a0.Size<=(IntKind.i64.wrap (16*a0.Every)))) else false)) else (some (bif (bif (a0.Kind==(1:Int)) then true else (a0.Kind==(3:Int))) then (a0.Every==(0:Int)) else false)))
def X99 (a0:X08):Option (Int) :=
 bif (bif (bif (bif (decide (a0.Agg<(1:Int))) then true else (decide (a0.Agg>(4:Int)))) then true else (decide (a0.Late<(1:Int)))) then true else (decide (a0.Late>(2:Int)))) then (some 8) else ((bif (a0.Agg==(1:Int)) then (some (bif (a0.Agg==(1:Int)) then (decide ((List.length a0.Arg:Int)>(0:Int))) else false)) else (some (bif (a0.Agg==(1:Int)) then false else false)):Option (Bool)).bind λXzg=>bif Xzg then (some 8) else ((bif (a0.Agg != (1:Int)) then ((X47 a0.Arg).bind λv12=>some (bif (a0.Agg != (1:Int)) then (v12 != (0:Int)) else false)) else (some (bif (a0.Agg != (1:Int)) then false else false)):Option (Bool)).bind λXtp=>bif Xtp then ((X47 a0.Arg).bind λv16=>some v16) else ((bif (decide ((List.length a0.Where:Int)>(0:Int))) then ((X47 a0.Where).bind λv23=>some (bif (decide ((List.length a0.Where:Int)>(0:Int))) then (v23 != (0:Int)) else false)) else (some (bif (decide ((List.length a0.Where:Int)>(0:Int))) then false else false)):Option (Bool)).bind λXmi=>bif Xmi then ((X47 a0.Where).bind λv27=>some v27) else ((X6n a0.Sources a0.Join).bind λv29=>bif (v29 != (0:Int)) then (some v29) else ((X7e a0.Window).bind λv32=>bif (bif (!v32) then true else (bif a0.Join then (a0.Window.Kind != (1:Int)) else false)) then (some 8) else (some 0))))))
def X5z (a0:Int):Option (Bool) :=
 some (bif (a0==(6:Int)) then true else (decide (a0 >= (12:Int))))
def Xaj (a0:(List X05)) (a1:Int):Option (Bool) :=
 (X1o a0 a1).bind λe1=>(X1o a0 e1.A).bind λe3=>(X5z e3.Kind).bind λv5=>(X1o a0 e1.B).bind λe7=>(X5z e7.Kind).bind λv9=>bif (decide (e1.Kind<=(4:Int))) then (some true) else (bif (e1.Kind==(5:Int)) then (some (!v5)) else (bif (e1.Kind==(6:Int)) then (some v5) else (bif (bif (e1.Kind==(16:Int)) then true else (e1.Kind==(17:Int))) then (some (v5==v9)) else (bif (decide (e1.Kind >= (18:Int))) then (some (bif v5 then v9 else false)) else (some (bif (!v5) then (!v9) else false))))))
inductive X5t where
 |x0
 |x1 (Xab:Int)
def X3l (X0u:(List X05)):List X05->Nat->Option X5t
 |[],k=>some (.x0)
 |x::xs,k=>(Xaj X0u (k:Int)).bind λv10=>bif (!v10) then (some (.x1 (k:Int))) else (X3l X0u xs (k+1))
def Xb0 (a0:(List X05)):Option (Int) :=
 (X5a (List.length a0)).bind λu1=>(X3l  a0 a0 0).bind λo13=>match o13 with|.x0=>(some (List.length a0:Int))|.x1 Xab=>(some Xab)
def Xdy (a0:(List X05)):Option (Bool×Int×Int) :=
 (X47 a0).bind λv1=>bif (v1 != (0:Int)) then (some (false,0,v1)) else ((Xb0 a0).bind λv4=>bif (decide (v4<(List.length a0:Int))) then (some (false,v4,42)) else ((X1o a0 (IntKind.i64.wrap ((List.length a0:Int) - 1))).bind λe7=>(X5z e7.Kind).bind λv9=>some (v9,(IntKind.i64.wrap ((List.length a0:Int) - 1)),0)))
def X7f (a0:(List X05)) (a1:Bool):Option (Int×Int) :=
 (Xdy a0).bind λv1=>bif (bif (v1.2.2==(0:Int)) then (!(v1.1==a1)) else false) then (some (v1.2.1,42)) else (some (v1.2.1,v1.2.2))
def X97 (a0:X08):Option (Int×Int) :=
 bif (decide ((List.length a0.Arg:Int)>(0:Int))) then ((X7f a0.Arg false).bind λv2=>bif (v2.2 != (0:Int)) then ((X1o a0.Arg v2.1).bind λe5=>some (e5.At,v2.2)) else (bif (decide ((List.length a0.Where:Int)>(0:Int))) then ((X7f a0.Where true).bind λv8=>bif (v8.2 != (0:Int)) then ((X1o a0.Where v8.1).bind λe11=>some (e11.At,v8.2)) else (some (0,0))) else (some (0,0)))) else (bif (decide ((List.length a0.Where:Int)>(0:Int))) then ((X7f a0.Where true).bind λv14=>bif (v14.2 != (0:Int)) then ((X1o a0.Where v14.1).bind λe17=>some (e17.At,v14.2)) else (some (0,0))) else (some (0,0)))
def X98 (a0:X08):Option (Int×Int) :=
 (X99 a0).bind λv1=>bif (v1 != (0:Int)) then (some (0,v1)) else ((X97 a0).bind λv4=>some (v4.1,v4.2))
def X5l (a0:X08):Option (Bool) :=
 (X98 a0).bind λv1=>some (v1.2==(0:Int))
def Xai (a0:Int):Option (Bool) :=
 some (bif (bif (decide (a0 >= ((-1099511627776):Int))) then (decide (a0<=(1099511627776:Int))) else false) then true else (a0==(9223372036854775807:Int)))
def X96 (a0:X8):Option (Bool) :=
 some (bif (decide (a0.Time >= ((-1099511627776):Int))) then (decide (a0.Time<=(1099511627776:Int))) else false)
inductive X3r where
 |x0
 |x1
def X23 (X0u:(List X0a)) (X7w:(List X0a)):List X0a->Nat->Option X3r
 |[],k=>some (.x0)
 |x::xs,k=>(X1o X7w (k:Int)).bind λe11=>bif (!(Xif x e11)) then (some (.x1)) else (X23 X0u X7w xs (k+1))
def X4w (a0:(List X0a)) (a1:(List X0a)):Option (Bool) :=
 bif ((List.length a0:Int) != (List.length a1:Int)) then (some false) else ((X5a (List.length a0)).bind λu2=>(X23  a0 a1 a0 0).bind λo14=>match o14 with|.x0=>(some true)|.x1=>(some false))
inductive X6m where
 |x0
 |x1
def X46 (Xn:Xp) (Xi:Xp):Nat->Int->Option X6m
 |0,_=>none
 |n+1,Xiy=>bif (decide (Xiy<(List.length Xn.Marks:Int))) then ((X1o Xn.Marks Xiy).bind λe36=>(X1o Xi.Marks Xiy).bind λe38=>bif (e36 != e38) then (some (.x0)) else (X46 Xn Xi n (IntKind.i64.wrap (Xiy+1)))) else (some (.x1))
inductive X6l where
 |x0
 |x1
def X45 (X8s:Xp) (Xg6:Xp):Nat->Int->Option X6l
 |0,_=>none
 |n+1,Xvm=>bif (decide (Xvm<(List.length X8s.Store:Int))) then ((X1o X8s.Store Xvm).bind λe57=>(X1o Xg6.Store Xvm).bind λe59=>bif (!(Xfk e57 e59)) then (some (.x0)) else (X45 X8s Xg6 n (IntKind.i64.wrap (Xvm+1)))) else (some (.x1))
inductive X6k where
 |x0
 |x1
def X44 (Xbs:Xp) (Xqb:Xp):Nat->Int->Option X6k
 |0,_=>none
 |n+1,Xlo=>bif (decide (Xlo<(List.length Xbs.Events:Int))) then ((X1o Xbs.Events Xlo).bind λe78=>(X1o Xqb.Events Xlo).bind λe80=>bif (!(Xfj e78 e80)) then (some (.x0)) else (X44 Xbs Xqb n (IntKind.i64.wrap (Xlo+1)))) else (some (.x1))
inductive X6j where
 |x0
 |x1
def X43 (Xbq:Xp) (Xqa:Xp):Nat->Int->Option X6j
 |0,_=>none
 |n+1,Xvl=>bif (decide (Xvl<(List.length Xbq.Rows:Int))) then ((X1o Xbq.Rows Xvl).bind λe99=>(X1o Xqa.Rows Xvl).bind λe101=>bif (!(X9y e99 e101)) then (some (.x0)) else (X43 Xbq Xqa n (IntKind.i64.wrap (Xvl+1)))) else (some (.x1))
inductive X6i where
 |x0
 |x1
def X42 (Xbi:Xp) (Xry:Xp):Nat->Int->Option X6i
 |0,_=>none
 |n+1,Xvk=>bif (decide (Xvk<(List.length Xbi.Late:Int))) then ((X1o Xbi.Late Xvk).bind λe120=>(X1o Xry.Late Xvk).bind λe122=>bif (!(X3p e120 e122)) then (some (.x0)) else (X42 Xbi Xry n (IntKind.i64.wrap (Xvk+1)))) else (some (.x1))
def Xah (a0:Xp) (a1:Xp):Option (Bool) :=
 (bif (!(X9h a0.Op a1.Op)) then (some (bif (bif (bif (bif (bif (bif (bif (!(X9h a0.Op a1.Op)) then true else false) then true else false) then true else false) then true else false) then true else false) then true else false) then true else false)) else (bif (a0.Turn != a1.Turn) then (some (bif (bif (bif (bif (bif (bif (bif (!(X9h a0.Op a1.Op)) then true else (a0.Turn != a1.Turn)) then true else false) then true else false) then true else false) then true else false) then true else false) then true else false)) else ((X4w a0.Pending a1.Pending).bind λv13=>bif (!v13) then (some (bif (bif (bif (bif (bif (bif (bif (!(X9h a0.Op a1.Op)) then true else (a0.Turn != a1.Turn)) then true else (!v13)) then true else false) then true else false) then true else false) then true else false) then true else false)) else (bif ((List.length a0.Marks:Int) != (List.length a1.Marks:Int)) then (some (bif (bif (bif (bif (bif (bif (bif (!(X9h a0.Op a1.Op)) then true else (a0.Turn != a1.Turn)) then true else (!v13)) then true else ((List.length a0.Marks:Int) != (List.length a1.Marks:Int))) then true else false) then true else false) then true else false) then true else false)) else (bif ((List.length a0.Store:Int) != (List.length a1.Store:Int)) then (some (bif (bif (bif (bif (bif (bif (bif (!(X9h a0.Op a1.Op)) then true else (a0.Turn != a1.Turn)) then true else (!v13)) then true else ((List.length a0.Marks:Int) != (List.length a1.Marks:Int))) then true else ((List.length a0.Store:Int) != (List.length a1.Store:Int))) then true else false) then true else false) then true else false)) else (bif ((List.length a0.Events:Int) != (List.length a1.Events:Int)) then (some (bif (bif (bif (bif (bif (bif (bif (!(X9h a0.Op a1.Op)) then true else (a0.Turn != a1.Turn)) then true else (!v13)) then true else ((List.length a0.Marks:Int) != (List.length a1.Marks:Int))) then true else ((List.length a0.Store:Int) != (List.length a1.Store:Int))) then true else ((List.length a0.Events:Int) != (List.length a1.Events:Int))) then true else false) then true else false)) else (bif ((List.length a0.Rows:Int) != (List.length a1.Rows:Int)) then (some (bif (bif (bif (bif (bif (bif (bif (!(X9h a0.Op a1.Op)) then true else (a0.Turn != a1.Turn)) then true else (!v13)) then true else ((List.length a0.Marks:Int) != (List.length a1.Marks:Int))) then true else ((List.length a0.Store:Int) != (List.length a1.Store:Int))) then true else ((List.length a0.Events:Int) != (List.length a1.Events:Int))) then true else ((List.length a0.Rows:Int) != (List.length a1.Rows:Int))) then true else false)) else (some (bif (bif (bif (bif (bif (bif (bif (!(X9h a0.Op a1.Op)) then true else (a0.Turn != a1.Turn)) then true else (!v13)) then true else ((List.length a0.Marks:Int) != (List.length a1.Marks:Int))) then true else ((List.length a0.Store:Int) != (List.length a1.Store:Int))) then true else ((List.length a0.Events:Int) != (List.length a1.Events:Int))) then true else ((List.length a0.Rows:Int) != (List.length a1.Rows:Int))) then true else ((List.length a0.Late:Int) != (List.length a1.Late:Int)))))))))):Option (Bool)).bind λXto=>bif Xto then (some false) else ((X46  a0 a1 FU 0).bind λo41=>match o41 with|.x0=>(some false)|.x1=>((X45  a0 a1 FU 0).bind λo62=>match o62 with|.x0=>(some false)|.x1=>((X44  a0 a1 FU 0).bind λo83=>match o83 with|.x0=>(some false)|.x1=>((X43  a0 a1 FU 0).bind λo104=>match o104 with|.x0=>(some false)|.x1=>((X42  a0 a1 FU 0).bind λo125=>match o125 with|.x0=>(some false)|.x1=>(some true))))))
inductive X4a where
 |x0 (X09:(List Xd)) (X35:(List Xd)) (X1p:(List Int))
 |x1
def X1j (X7w:(List X8)) (Xjn:Int) (Xn:X08) (y0_7:Bool):List X8->Nat->(List Xd)->(List Xd)->(List Int)->Option X4a
 |[],k,Xi,X6c,X0c=>some (.x0 Xi X6c X0c)
 |x::xs,k,Xi,X6c,X0c=>(X96 x).bind λv207=>bif (!v207) then (some (.x1)) else ((X1v (List.length (Xi++[(Xd.mk 1 x 0 (X19.mk 0 (X04.mk 0 0) (V2.mk 0 0)))])) 80).bind λu210=>(X1o X7w (IntKind.i64.wrap ((IntKind.i64.wrap ((List.length X7w:Int) - 1)) - (k:Int)))).bind λe212=>(X1v (List.length (X6c++[(Xd.mk 1 e212 0 (X19.mk 0 (X04.mk 0 0) (V2.mk 0 0)))])) 80).bind λu214=>(X1v (List.length (X0c++[0])) 8).bind λu216=>X1j X7w Xjn Xn y0_7 xs (k+1) (Xi++[(Xd.mk 1 x 0 (X19.mk 0 (X04.mk 0 0) (V2.mk 0 0)))]) (X6c++[(Xd.mk 1 e212 0 (X19.mk 0 (X04.mk 0 0) (V2.mk 0 0)))]) (X0c++[0]))
def X5p (a0:X08) (a1:(List X8)) (a2:Int):Option (Bool) :=
 (Xb7).bind λv1=>((X9f a0).bind λv15=>bif v15 then (some (bif (bif (bif (bif (bif v15 then true else false) then true else false) then true else false) then true else false) then true else false)) else ((X5l a0).bind λv18=>bif (!v18) then (some (bif (bif (bif (bif (bif v15 then true else (!v18)) then true else false) then true else false) then true else false) then true else false)) else (bif a0.Join then (some (bif (bif (bif (bif (bif v15 then true else (!v18)) then true else a0.Join) then true else false) then true else false) then true else false)) else (bif (decide ((List.length a1:Int)>(20:Int))) then (some (bif (bif (bif (bif (bif v15 then true else (!v18)) then true else a0.Join) then true else (decide ((List.length a1:Int)>(20:Int)))) then true else false) then true else false)) else ((Xai a2).bind λv23=>bif (!v23) then (some (bif (bif (bif (bif (bif v15 then true else (!v18)) then true else a0.Join) then true else (decide ((List.length a1:Int)>(20:Int)))) then true else (!v23)) then true else false)) else (some (bif (bif (bif (bif (bif v15 then true else (!v18)) then true else a0.Join) then true else (decide ((List.length a1:Int)>(20:Int)))) then true else (!v23)) then true else (!v1))))))):Option (Bool)).bind λXtm=>bif Xtm then (some v1) else ((X5a (List.length a1)).bind λu28=>(X1j  a1 a2 a0 v1 a1 0 ([]:List Xd) ([]:List Xd) ([]:List Int)).bind λo295=>match o295 with|.x0 X09 X35 X1p=>((X1v (List.length (X1p++[0])) 8).bind λu297=>(Xao a2).bind λv299=>(X1v (List.length (X09++[v299])) 80).bind λu301=>(X63 a0 1 (X1p++[0]) (X09++[v299])).bind λv303=>(X1v (List.length (X35++[v299])) 80).bind λu305=>(X63 a0 1 (X1p++[0]) (X35++[v299])).bind λv307=>(bif v1 then (bif v303.2.2 then (bif v307.2.2 then ((Xah v303.1 v307.1).bind λv321=>bif v321 then ((X8p v303.2.1 v307.2.1).bind λv324=>some (bif (bif (bif (bif v1 then v303.2.2 else false) then v307.2.2 else false) then v321 else false) then v324 else false)) else (some (bif (bif (bif (bif v1 then v303.2.2 else false) then v307.2.2 else false) then v321 else false) then false else false))) else (some (bif (bif (bif (bif v1 then v303.2.2 else false) then v307.2.2 else false) then false else false) then false else false))) else (some (bif (bif (bif (bif v1 then v303.2.2 else false) then false else false) then false else false) then false else false))) else (some (bif (bif (bif (bif v1 then false else false) then false else false) then false else false) then false else false)):Option (Bool)).bind λXth=>some Xth)|.x1=>(some v1))
end
end Go.D
