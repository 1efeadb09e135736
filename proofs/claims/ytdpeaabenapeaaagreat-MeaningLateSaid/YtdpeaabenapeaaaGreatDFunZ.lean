/- Printed by decomp.py: the functions. -/
import Derived.Test.YtdpeaabenapeaaaGreatDTypesZ
set_option linter.all false

namespace Go.D
noncomputable section
def Xae (a0:Int) (a1:Int) (a2:Int):Option (Xa) :=
 some (Xa.mk false 0 (X9.mk a0 a1 a2))
def Xeb (a0:Int):Option (Xa) :=
 some (Xa.mk true a0 (X9.mk 0 0 0))
def Xgo:Option (Xt) :=
 some (Xt.mk 2 [(Xu.mk 4 0 0 0 0)] [0] false ([]:List Xu) (X0g.mk 1 10 0) false 2)
def X8f (a0:Int):Option (Int×Int) :=
 bif (bif (decide (a0 >= (1:Int))) then (decide (a0<=(4:Int))) else false) then (some (0,0)) else (bif (bif (a0==(5:Int)) then true else (a0==(6:Int))) then (some (1,0)) else (bif (bif (decide (a0 >= (7:Int))) then (decide (a0<=(19:Int))) else false) then (some (2,0)) else (some (0,2))))
inductive X4i where
 |x0 (Xo:(List Xe)) (X09:(List Xe))
 |x1 (X00:(List Xe))
def X1e (X4d:(List Xu)):List Xu->Nat->(List Xe)->(List Xe)->Option X4i
 |[],k,Xb,Xc=>some (.x0 Xb Xc)
 |x::xs,k,Xb,Xc=>(X8f x.Kind).bind λv318=>(bif (v318.2 != (0:Int)) then (some (bif (v318.2 != (0:Int)) then true else false)) else (some (bif (v318.2 != (0:Int)) then true else (decide (v318.1>(List.length Xc:Int))))):Option (Bool)).bind λXn9=>bif Xn9 then (some (.x1 Xb)) else ((X50 Xc 0 (IntKind.i64.wrap ((List.length Xc:Int) - v318.1))).bind λm331=>(X50 Xc (IntKind.i64.wrap ((List.length Xc:Int) - v318.1)) (List.length Xc:Int)).bind λm333=>bif (List.isEmpty m333) then ((bif (x.Kind==(1:Int)) then (some (Xu.mk x.Kind (if 0>x.N then 0 else x.N) 0 0 (if 400<(if 0>x.At then 0 else x.At) then 400 else (if 0>x.At then 0 else x.At)))) else (some (Xu.mk x.Kind 0 0 0 (if 400<(if 0>x.At then 0 else x.At) then 400 else (if 0>x.At then 0 else x.At)))):Option (Xu)).bind λXn8=>bif (!(X6d Xn8 x)) then (some (.x1 Xb)) else ((X1p (List.length (m331++[(Xe.mk (k:Int) 1 1)])) 24).bind λu341=>(X1p (List.length (Xb++[(Xe.mk (k:Int) 1 1)])) 24).bind λu343=>X1e X4d xs (k+1) (Xb++[(Xe.mk (k:Int) 1 1)]) (m331++[(Xe.mk (k:Int) 1 1)]))) else (bif ((List.length m333:Int)==(1:Int)) then ((X0u m333 0).bind λe346=>(bif (x.Kind==(1:Int)) then (some (Xu.mk x.Kind (if 0>x.N then 0 else x.N) e346.at_ 0 (if 400<(if 0>x.At then 0 else x.At) then 400 else (if 0>x.At then 0 else x.At)))) else (some (Xu.mk x.Kind 0 e346.at_ 0 (if 400<(if 0>x.At then 0 else x.At) then 400 else (if 0>x.At then 0 else x.At)))):Option (Xu)).bind λXn7=>bif (!(X6d Xn7 x)) then (some (.x1 Xb)) else ((X1p (List.length (m331++[(Xe.mk (k:Int) (IntKind.i64.wrap (1+e346.size)) (if (IntKind.i64.wrap (e346.depth+1))>1 then (IntKind.i64.wrap (e346.depth+1)) else 1))])) 24).bind λu353=>(X1p (List.length (Xb++[(Xe.mk (k:Int) (IntKind.i64.wrap (1+e346.size)) (if (IntKind.i64.wrap (e346.depth+1))>1 then (IntKind.i64.wrap (e346.depth+1)) else 1))])) 24).bind λu355=>X1e X4d xs (k+1) (Xb++[(Xe.mk (k:Int) (IntKind.i64.wrap (1+e346.size)) (if (IntKind.i64.wrap (e346.depth+1))>1 then (IntKind.i64.wrap (e346.depth+1)) else 1))]) (m331++[(Xe.mk (k:Int) (IntKind.i64.wrap (1+e346.size)) (if (IntKind.i64.wrap (e346.depth+1))>1 then (IntKind.i64.wrap (e346.depth+1)) else 1))]))) else (bif ((List.length m333:Int)==(2:Int)) then ((X0u m333 0).bind λe358=>(X0u m333 1).bind λe360=>(bif (x.Kind==(1:Int)) then (some (Xu.mk x.Kind (if 0>x.N then 0 else x.N) e358.at_ e360.at_ (if 400<(if 0>x.At then 0 else x.At) then 400 else (if 0>x.At then 0 else x.At)))) else (some (Xu.mk x.Kind 0 e358.at_ e360.at_ (if 400<(if 0>x.At then 0 else x.At) then 400 else (if 0>x.At then 0 else x.At)))):Option (Xu)).bind λXn6=>bif (!(X6d Xn6 x)) then (some (.x1 Xb)) else ((X1p (List.length (m331++[(Xe.mk (k:Int) (IntKind.i64.wrap ((IntKind.i64.wrap (1+e358.size))+e360.size)) (if (IntKind.i64.wrap (e360.depth+1))>(if (IntKind.i64.wrap (e358.depth+1))>1 then (IntKind.i64.wrap (e358.depth+1)) else 1) then (IntKind.i64.wrap (e360.depth+1)) else (if (IntKind.i64.wrap (e358.depth+1))>1 then (IntKind.i64.wrap (e358.depth+1)) else 1)))])) 24).bind λu367=>(X1p (List.length (Xb++[(Xe.mk (k:Int) (IntKind.i64.wrap ((IntKind.i64.wrap (1+e358.size))+e360.size)) (if (IntKind.i64.wrap (e360.depth+1))>(if (IntKind.i64.wrap (e358.depth+1))>1 then (IntKind.i64.wrap (e358.depth+1)) else 1) then (IntKind.i64.wrap (e360.depth+1)) else (if (IntKind.i64.wrap (e358.depth+1))>1 then (IntKind.i64.wrap (e358.depth+1)) else 1)))])) 24).bind λu369=>X1e X4d xs (k+1) (Xb++[(Xe.mk (k:Int) (IntKind.i64.wrap ((IntKind.i64.wrap (1+e358.size))+e360.size)) (if (IntKind.i64.wrap (e360.depth+1))>(if (IntKind.i64.wrap (e358.depth+1))>1 then (IntKind.i64.wrap (e358.depth+1)) else 1) then (IntKind.i64.wrap (e360.depth+1)) else (if (IntKind.i64.wrap (e358.depth+1))>1 then (IntKind.i64.wrap (e358.depth+1)) else 1)))]) (m331++[(Xe.mk (k:Int) (IntKind.i64.wrap ((IntKind.i64.wrap (1+e358.size))+e360.size)) (if (IntKind.i64.wrap (e360.depth+1))>(if (IntKind.i64.wrap (e358.depth+1))>1 then (IntKind.i64.wrap (e358.depth+1)) else 1) then (IntKind.i64.wrap (e360.depth+1)) else (if (IntKind.i64.wrap (e358.depth+1))>1 then (IntKind.i64.wrap (e358.depth+1)) else 1)))]))) else none)))
def Xc1 (a0:(List Xu)):Option ((List Xe)×Bool) :=
 (X3t (List.length a0)).bind λu1=>(X1e  a0 a0 0 ([]:List Xe) ([]:List Xe)).bind λo475=>match o475 with|.x0 Xo X09=>(some (Xo,((List.length X09:Int)==(1:Int))))|.x1 X00=>(some (X00,false))
def X8e (a0:(List Xu)):Option ((List Xe)×Int) :=
 bif (decide ((List.length a0:Int)>(60:Int))) then (some (([]:List Xe),4)) else ((Xc1 a0).bind λv2=>bif (!v2.2) then (some (([]:List Xe),8)) else ((X0u v2.1 (IntKind.i64.wrap ((List.length v2.1:Int) - 1))).bind λe5=>bif (decide (e5.depth>(20:Int))) then (some (([]:List Xe),34)) else (some (v2.1,0))))
def X4j (a0:(List Xu)):Option (Int) :=
 (X8e a0).bind λv1=>some v1.2
def X4x (a0:Int):Option (Bool) :=
 some (bif (decide (a0<(0:Int))) then true else (decide (a0 >= (4:Int))))
inductive X1d where
 |x0
 |x1 (X8p:Int)
def X0e (X0a:(List Int)):List Int->Nat->Option X1d
 |[],k=>some (.x0)
 |x::xs,k=>(X4x x).bind λv10=>bif v10 then (some (.x1 (k:Int))) else (X0e X0a xs (k+1))
def X0c (a0:(List Int)):Option (Int) :=
 (X3t (List.length a0)).bind λu1=>(X0e  a0 a0 0).bind λo13=>match o13 with|.x0=>(some (-1))|.x1 X8p=>(some X8p)
def Xs (a0:(List Int)):Option (Bool) :=
 (X0c a0).bind λv1=>some (decide (v1 >= (0:Int)))
def X28 (l:List Int):Option Int:=(X3t (List.length l)).bind λ_=>some ((X7d [] l).length:Int)
def X1k (a0:(List Int)) (a1:Bool):Option (Int) :=
 bif (decide ((List.length a0:Int)>(4:Int))) then (some 4) else ((bif ((List.length a0:Int)==(0:Int)) then (some (bif (bif ((List.length a0:Int)==(0:Int)) then true else false) then true else false)) else (bif a1 then (bif ((List.length a0:Int) != (2:Int)) then (some (bif (bif ((List.length a0:Int)==(0:Int)) then true else (bif a1 then ((List.length a0:Int) != (2:Int)) else false)) then true else false)) else ((Xs a0).bind λv13=>some (bif (bif ((List.length a0:Int)==(0:Int)) then true else (bif a1 then ((List.length a0:Int) != (2:Int)) else false)) then true else v13))) else ((Xs a0).bind λv15=>some (bif (bif ((List.length a0:Int)==(0:Int)) then true else (bif a1 then false else false)) then true else v15))):Option (Bool)).bind λXz6=>bif Xz6 then (some 8) else ((X28 a0).bind λv19=>bif (decide (v19<(List.length a0:Int))) then (some 43) else (some 0)))
def X0v (a0:X0g):Option (Int) :=
 bif (bif (decide (a0.Size<(1:Int))) then true else (decide (a0.Size>(1073741824:Int)))) then (some 8) else (bif (a0.Kind==(2:Int)) then (bif (bif (bif (decide (a0.Every >= (1:Int))) then (decide (a0.Every<=a0.Size)) else false) then (decide (a0.Size<=(IntKind.i64.wrap (16*a0.Every)))) else false) then (some 0) else (some 8)) else (bif (a0.Kind==(1:Int)) then (bif (a0.Every==(0:Int)) then (some 0) else (some 8)) else (bif (a0.Kind==(3:Int)) then (bif (a0.Every==(0:Int)) then (some 0) else (some 8)) else (some 8))))
def X6g (a0:Xt):Option (Int) :=
 bif (bif (bif (decide (a0.Agg<(1:Int))) then true else (decide (a0.Agg>(4:Int)))) then true else (bif (a0.Late != (1:Int)) then (a0.Late != (2:Int)) else false)) then (some 8) else (bif (a0.Agg != (1:Int)) then ((X4j a0.Arg).bind λv3=>bif (v3 != (0:Int)) then (some v3) else (bif (decide ((List.length a0.Where:Int)>(0:Int))) then ((X4j a0.Where).bind λv7=>bif (v7 != (0:Int)) then (some v7) else ((X1k a0.Sources a0.Join).bind λv10=>bif (v10 != (0:Int)) then (some v10) else (bif (bif a0.Join then (a0.Window.Kind != (1:Int)) else false) then (some 8) else ((X0v a0.Window).bind λv14=>some v14)))) else ((X1k a0.Sources a0.Join).bind λv16=>bif (v16 != (0:Int)) then (some v16) else (bif (bif a0.Join then (a0.Window.Kind != (1:Int)) else false) then (some 8) else ((X0v a0.Window).bind λv20=>some v20))))) else (bif (decide ((List.length a0.Arg:Int)>(0:Int))) then (some 8) else (bif (decide ((List.length a0.Where:Int)>(0:Int))) then ((X4j a0.Where).bind λv24=>bif (v24 != (0:Int)) then (some v24) else ((X1k a0.Sources a0.Join).bind λv27=>bif (v27 != (0:Int)) then (some v27) else (bif (bif a0.Join then (a0.Window.Kind != (1:Int)) else false) then (some 8) else ((X0v a0.Window).bind λv31=>some v31)))) else ((X1k a0.Sources a0.Join).bind λv33=>bif (v33 != (0:Int)) then (some v33) else (bif (bif a0.Join then (a0.Window.Kind != (1:Int)) else false) then (some 8) else ((X0v a0.Window).bind λv37=>some v37))))))
inductive X1f where
 |x0
 |x1
def X04 (Xc:(List Bool)) (X96:(V2 Bool)) (X0q:(List Int)):List Int->Nat->Option X1f
 |[],k=>some (.x0)
 |x::xs,k=>(X0u Xc x).bind λe3011=>bif (!(e3011==false)) then (some (.x1)) else (X04 Xc X96 X0q xs (k+1))
inductive X1c where
 |x0
 |x1
def X06 (Xc:(List Bool)) (X15:(List Int)):List Int->Nat->Option X1c
 |[],k=>some (.x0)
 |x::xs,k=>(X0u Xc x).bind λe3127=>bif (!(e3127==true)) then (some (.x1)) else (X06 Xc X15 xs (k+1))
inductive X4l where
 |x0 (X09:(List Bool))
 |x1 (X00:(List Bool)) (X9i:Int)
def X18 (X0a:(List Xu)):List Xu->Nat->(List Bool)->Option X4l
 |[],k,Xc=>some (.x0 Xc)
 |x::xs,k,Xc=>bif (decide (x.Kind<=(4:Int))) then ((X1p (List.length (Xc++[false])) 1).bind λu2525=>X18 X0a xs (k+1) (Xc++[false])) else (bif (x.Kind==(5:Int)) then (((X0u Xc x.A).bind λe2546=>bif (!(e2546==false)) then (some (bif (!(bif true then false else false)) then (!(bif false then false else false)) else false)) else (some (bif (!(bif true then true else false)) then false else false)):Option (Bool)).bind λXjl=>bif Xjl then (some (.x1 ([]:List Bool) (k:Int))) else ((X1p (List.length (Xc++[false])) 1).bind λu2551=>X18 X0a xs (k+1) (Xc++[false]))) else (bif (x.Kind==(6:Int)) then (((X0u Xc x.A).bind λe2571=>bif (!(e2571==true)) then (some false) else (some true):Option (Bool)).bind λXjk=>bif (bif (!(bif false then false else false)) then (!(bif true then Xjk else false)) else false) then (some (.x1 ([]:List Bool) (k:Int))) else ((X1p (List.length (Xc++[true])) 1).bind λu2576=>X18 X0a xs (k+1) (Xc++[true]))) else ((bif (decide (x.Kind<=(11:Int))) then (some ((V2.mk true false),false)) else (bif (decide (x.Kind<=(15:Int))) then (some ((V2.mk true false),true)) else (bif (decide (x.Kind<=(17:Int))) then (some ((V2.mk true true),true)) else (some ((V2.mk false true),true)))):Option ((V2 Bool)×Bool)).bind λw2581=>(bif w2581.1.e0 then (((X3t (List.length [x.A,x.B])).bind λu2980=>(X04  Xc w2581.1 [x.A,x.B] [x.A,x.B] 0).bind λo3016=>match o3016 with|.x0=>(some true)|.x1=>(some false):Option (Bool)).bind λXaj=>bif (!(bif w2581.1.e0 then Xaj else false)) then (bif w2581.1.e1 then (((X3t (List.length [x.A,x.B])).bind λu3096=>(X06  Xc [x.A,x.B] [x.A,x.B] 0).bind λo3132=>match o3132 with|.x0=>(some true)|.x1=>(some false):Option (Bool)).bind λXji=>some (bif (!(bif w2581.1.e0 then Xaj else false)) then (!(bif w2581.1.e1 then Xji else false)) else false)) else (some (bif (!(bif w2581.1.e0 then Xaj else false)) then (!(bif w2581.1.e1 then false else false)) else false))) else (some (bif (!(bif w2581.1.e0 then Xaj else false)) then false else false))) else (bif (!(bif w2581.1.e0 then false else false)) then (bif w2581.1.e1 then (((X3t (List.length [x.A,x.B])).bind λu3192=>(X06  Xc [x.A,x.B] [x.A,x.B] 0).bind λo3218=>match o3218 with|.x0=>(some true)|.x1=>(some false):Option (Bool)).bind λXjh=>some (bif (!(bif w2581.1.e0 then false else false)) then (!(bif w2581.1.e1 then Xjh else false)) else false)) else (some (bif (!(bif w2581.1.e0 then false else false)) then (!(bif w2581.1.e1 then false else false)) else false))) else (some (bif (!(bif w2581.1.e0 then false else false)) then false else false))):Option (Bool)).bind λXjj=>bif Xjj then (some (.x1 ([]:List Bool) (k:Int))) else ((X1p (List.length (Xc++[w2581.2])) 1).bind λu3223=>X18 X0a xs (k+1) (Xc++[w2581.2])))))
def Xc3 (a0:(List Xu)):Option ((List Bool)×Int) :=
 (X3t (List.length a0)).bind λu1=>(X18  a0 a0 0 ([]:List Bool)).bind λo3784=>match o3784 with|.x0 X09=>(some (X09,(List.length a0:Int)))|.x1 X00 X9i=>(some (X00,X9i))
def Xc4 (a0:(List Xu)):Option (Bool×Int×Int) :=
 (X4j a0).bind λv1=>bif (v1 != (0:Int)) then (some (false,0,v1)) else ((Xc3 a0).bind λv4=>bif (decide (v4.2<(List.length a0:Int))) then (some (false,v4.2,42)) else ((X0u v4.1 (IntKind.i64.wrap (v4.2 - 1))).bind λe7=>some (e7,(IntKind.i64.wrap (v4.2 - 1)),0)))
def X7v (a0:(List Xu)) (a1:Bool):Option (Int×Int) :=
 (Xc4 a0).bind λv1=>(bif (bif (v1.2.2==(0:Int)) then (!(v1.1==a1)) else false) then (some 42) else (some v1.2.2):Option (Int)).bind λj4_8=>some (v1.2.1,j4_8)
def X8k (a0:(List Xu)):Option (Int×Int) :=
 (X7v a0 true).bind λv1=>some (v1.1,v1.2)
def X8x (a0:(List Xu)):Option (Int×Int) :=
 (X7v a0 false).bind λv1=>some (v1.1,v1.2)
def X7e (a0:Xt):Option (Int×Int) :=
 (X6g a0).bind λv1=>bif (v1 != (0:Int)) then (some (0,v1)) else ((bif ((List.length a0.Arg:Int)==(0:Int)) then (bif ((List.length a0.Where:Int)==(0:Int)) then (some (0,0)) else ((X8k a0.Where).bind λv25=>bif (v25.2 != (0:Int)) then ((X0u a0.Where v25.1).bind λe28=>some (e28.At,v25.2)) else (some (0,0)))) else ((X8x a0.Arg).bind λv30=>bif (v30.2 != (0:Int)) then ((X0u a0.Arg v30.1).bind λe33=>some (e33.At,v30.2)) else (bif ((List.length a0.Where:Int)==(0:Int)) then (some (0,0)) else ((X8k a0.Where).bind λv36=>bif (v36.2 != (0:Int)) then ((X0u a0.Where v36.1).bind λe39=>some (e39.At,v36.2)) else (some (0,0))))):Option (Int×Int)).bind λw22=>some (w22.1,w22.2))
def X9s (a0:Int):Option (Bool) :=
 some (bif (decide (a0 >= ((-1099511627776):Int))) then (decide (a0<=(1099511627776:Int))) else false)
inductive X6a where
 |x0
 |x1
def X3n (X39:(List Xa)):List Xa->Nat->Option X6a
 |[],k=>some (.x0)
 |x::xs,k=>(bif (X2j x.Record (X9.mk 0 0 0)) then ((X9s x.Time).bind λv49=>bif v49 then (some (bif (X2j x.Record (X9.mk 0 0 0)) then (bif v49 then true else false) else false)) else (some (bif (X2j x.Record (X9.mk 0 0 0)) then (bif v49 then true else (x.Time==(9223372036854775807:Int))) else false))) else (some (bif (X2j x.Record (X9.mk 0 0 0)) then false else false)):Option (Bool)).bind λXwh=>(bif (x.Time==(0:Int)) then ((X9s x.Record.Time).bind λv58=>some (bif (x.Time==(0:Int)) then v58 else false)) else (some (bif (x.Time==(0:Int)) then false else false)):Option (Bool)).bind λXz9=>bif (bif (bif x.Mark then (!Xwh) else false) then true else (bif (!x.Mark) then (!Xz9) else false)) then (some (.x1)) else (X3n X39 xs (k+1))
def X70 (a0:(List Xa)):Option (Int) :=
 bif (decide ((List.length a0:Int)>(60:Int))) then (some 4) else ((X3t (List.length a0)).bind λu2=>(X3n  a0 a0 0).bind λo62=>match o62 with|.x0=>(some 0)|.x1=>(some 8))
inductive X3m where
 |x0
 |x1 (X3a:Int)
def X1r (Xis:(List (List Xa))):List (List Xa)->Nat->Option X3m
 |[],k=>some (.x0)
 |x::xs,k=>(X70 x).bind λv10=>bif (v10 != (0:Int)) then (some (.x1 v10)) else (X1r Xis xs (k+1))
def X3z (a0:(List (List Xa))):Option (Int) :=
 (X3t (List.length a0)).bind λu1=>(X1r  a0 a0 0).bind λo13=>match o13 with|.x0=>(some 0)|.x1 X3a=>(some X3a)
inductive X8j where
 |x0 (Xo:(List X9)) (X09:(List X9))
def X2t (Xb7:(List Xa)):List Xa->Nat->(List X9)->(List X9)->Int->Option X8j
 |[],k,Xb,Xc,X96=>some (.x0 Xb Xc)
 |x::xs,k,Xb,Xc,X96=>(bif x.Mark then (some (if x.Time>X96 then x.Time else X96)) else (some X96):Option (Int)).bind λXjq=>(bif x.Mark then (some (Xb,Xc)) else (bif (decide (x.Record.Time<X96)) then ((X1p (List.length (Xc++[x.Record])) 24).bind λu200=>some (Xb,(Xc++[x.Record]))) else ((X1p (List.length (Xb++[x.Record])) 24).bind λu202=>some ((Xb++[x.Record]),Xc))):Option ((List X9)×(List X9))).bind λw197=>X2t Xb7 xs (k+1) w197.1 w197.2 Xjq
def X9t (a0:(List Xa)):Option ((List X9)×(List X9)×Int) :=
 (X70 a0).bind λv1=>bif (v1 != (0:Int)) then (some (([]:List X9),([]:List X9),v1)) else ((X3t (List.length a0)).bind λu4=>(X2t  a0 a0 0 ([]:List X9) ([]:List X9) (-9223372036854775808)).bind λo271=>match o271 with|.x0 Xo X09=>(some (Xo,X09,0)))
def Xap (a0:(List Xu)):Option (Int) :=
 (Xc4 a0).bind λv1=>some v1.2.2
def X2p (a0:Bool):Option (Int) :=
 bif a0 then (some 1) else (some 0)
def Xec (a0:Int) (a1:Int) (a2:Int):Option (Int×Int) :=
 bif (a0==(5:Int)) then (some ((IntKind.i64.wrap (0 - a1)),0)) else (bif (a0==(6:Int)) then ((X2p (a1==(0:Int))).bind λv3=>some (v3,0)) else (bif (a0==(7:Int)) then (some ((IntKind.i64.wrap (a1*a2)),0)) else (bif (a0==(8:Int)) then (some ((IntKind.i64.wrap (a1+a2)),0)) else (bif (a0==(9:Int)) then (some ((IntKind.i64.wrap (a1 - a2)),0)) else (bif (a0==(10:Int)) then ((shOk (bits .and IntKind.i64 a2 63)).bind λu9=>some ((IntKind.i64.wrap (a1*2 ^ (min (Int.toNat (bits .and IntKind.i64 a2 63)) IntKind.i64.bits))),0)) else (bif (a0==(11:Int)) then ((shOk (bits .and IntKind.i64 a2 63)).bind λu12=>some ((Int.fdiv a1 (2 ^ (min (Int.toNat (bits .and IntKind.i64 a2 63)) IntKind.i64.bits))),0)) else (bif (a0==(12:Int)) then ((X2p (decide (a1<a2))).bind λv15=>some (v15,0)) else (bif (a0==(13:Int)) then ((X2p (decide (a1<=a2))).bind λv18=>some (v18,0)) else (bif (a0==(14:Int)) then ((X2p (decide (a1>a2))).bind λv21=>some (v21,0)) else (bif (a0==(15:Int)) then ((X2p (decide (a1 >= a2))).bind λv24=>some (v24,0)) else (bif (a0==(16:Int)) then ((X2p (a1==a2)).bind λv27=>some (v27,0)) else (bif (a0==(17:Int)) then ((X2p (a1 != a2)).bind λv30=>some (v30,0)) else (bif (a0==(18:Int)) then ((X2p (bif (a1 != (0:Int)) then (a2 != (0:Int)) else false)).bind λv33=>some (v33,0)) else (bif (a0==(19:Int)) then ((X2p ((bits .or IntKind.i64 a1 a2) != (0:Int))).bind λv36=>some (v36,0)) else (some (0,2))))))))))))))))
inductive X78 where
 |x0 (Xo:(List Int))
 |x1 (X00:(List Int)) (X9h:Int)
def X4o (Xb:(V5 Int)) (X6q:(List Xu)):List Xu->Nat->(List Int)->Option X78
 |[],k,Xc=>some (.x0 Xc)
 |x::xs,k,Xc=>bif (x.Kind==(1:Int)) then ((X0u Xc (k:Int)).bind λe151=>X4o Xb X6q xs (k+1) (List.set Xc (Int.toNat (k:Int)) x.N)) else (bif (decide (x.Kind<=(4:Int))) then ((bif (x.Kind==(0:Int)) then ((X0u Xc (k:Int)).bind λe168=>some (List.set Xc (Int.toNat (k:Int)) Xb.e0)) else (bif (x.Kind==(2:Int)) then ((X0u Xc (k:Int)).bind λe171=>some (List.set Xc (Int.toNat (k:Int)) Xb.e2)) else (bif (x.Kind==(3:Int)) then ((X0u Xc (k:Int)).bind λe174=>some (List.set Xc (Int.toNat (k:Int)) Xb.e3)) else (bif (x.Kind==(4:Int)) then ((X0u Xc (k:Int)).bind λe177=>some (List.set Xc (Int.toNat (k:Int)) Xb.e4)) else none))):Option ((List Int))).bind λXgy=>X4o Xb X6q xs (k+1) Xgy) else ((X0u Xc x.A).bind λe180=>(X0u Xc x.B).bind λe182=>(Xec x.Kind e180 e182).bind λv184=>bif (v184.2 != (0:Int)) then (some (.x1 ([]:List Int) v184.2)) else ((X0u Xc (k:Int)).bind λe187=>X4o Xb X6q xs (k+1) (List.set Xc (Int.toNat (k:Int)) v184.1))))
inductive X5h where
 |x0 (Xo:(List Int))
 |x1 (X00:(List Int)) (X9h:Int)
def X1h (Xb:(V5 Int)) (X6q:(List Xu)):List Xu->Nat->(List Int)->Option X5h
 |[],k,Xc=>some (.x0 Xc)
 |x::xs,k,Xc=>bif (x.Kind==(1:Int)) then ((X0u Xc (k:Int)).bind λe304=>X1h Xb X6q xs (k+1) (List.set Xc (Int.toNat (k:Int)) x.N)) else (bif (decide (x.Kind<=(4:Int))) then ((bif (x.Kind==(0:Int)) then ((X0u Xc (k:Int)).bind λe321=>some (List.set Xc (Int.toNat (k:Int)) Xb.e0)) else (bif (x.Kind==(2:Int)) then ((X0u Xc (k:Int)).bind λe324=>some (List.set Xc (Int.toNat (k:Int)) Xb.e2)) else (bif (x.Kind==(3:Int)) then ((X0u Xc (k:Int)).bind λe327=>some (List.set Xc (Int.toNat (k:Int)) Xb.e3)) else (bif (x.Kind==(4:Int)) then ((X0u Xc (k:Int)).bind λe330=>some (List.set Xc (Int.toNat (k:Int)) Xb.e4)) else none))):Option ((List Int))).bind λXjg=>X1h Xb X6q xs (k+1) Xjg) else ((X0u Xc x.A).bind λe333=>(X0u Xc x.B).bind λe335=>(Xec x.Kind e333 e335).bind λv337=>bif (v337.2 != (0:Int)) then (some (.x1 ([]:List Int) v337.2)) else ((X0u Xc (k:Int)).bind λe340=>X1h Xb X6q xs (k+1) (List.set Xc (Int.toNat (k:Int)) v337.1))))
def Xdo (a0:(List Xu)) (a1:X9):Option ((List Int)×Int) :=
 (Xap a0).bind λv1=>bif (v1 != (0:Int)) then (some (([]:List Int),v1)) else ((mkOk (List.length a0:Int) (List.length a0:Int) 8).bind λu4=>bif ((List.length a0:Int)==(0:Int)) then ((X3t (List.length a0)).bind λu7=>(X4o  (V5.mk 0 0 a1.Key a1.Time a1.Value) a0 a0 0 (List.replicate (Int.toNat (List.length a0:Int)) 0)).bind λo220=>match o220 with|.x0 Xo=>(some (Xo,0))|.x1 X00 X9h=>(some (X00,X9h))) else ((X3t (List.length a0)).bind λu222=>(X1h  (V5.mk 0 0 a1.Key a1.Time a1.Value) a0 a0 0 (List.replicate (Int.toNat (List.length a0:Int)) 0)).bind λo342=>match o342 with|.x0 Xo=>(some (Xo,0))|.x1 X00 X9h=>(some (X00,X9h))))
def X5g (a0:(List Xu)) (a1:X9):Option (Int×Int) :=
 (Xdo a0 a1).bind λv1=>bif (v1.2 != (0:Int)) then (some (0,v1.2)) else ((X0u v1.1 (IntKind.i64.wrap ((List.length v1.1:Int) - 1))).bind λe4=>some (e4,0))
def X56 (a0:Xt) (a1:X9):Option (X9×Bool) :=
 bif (decide ((List.length a0.Where:Int)>(0:Int))) then ((X5g a0.Where a1).bind λv2=>bif (bif (v2.2 != (0:Int)) then true else (v2.1==(0:Int))) then (some ((X9.mk 0 0 0),false)) else ((bif a0.ByKey then (some (X9.mk a1.Key a1.Time 0)) else (some (X9.mk 0 a1.Time 0)):Option (X9)).bind λXjf=>(bif (a0.Agg != (1:Int)) then ((X5g a0.Arg a1).bind λv14=>some (X9.mk Xjf.Key Xjf.Time v14.1)) else (some Xjf):Option (X9)).bind λXlb=>some (Xlb,true))) else ((bif a0.ByKey then (some (X9.mk a1.Key a1.Time 0)) else (some (X9.mk 0 a1.Time 0)):Option (X9)).bind λXla=>(bif (a0.Agg != (1:Int)) then ((X5g a0.Arg a1).bind λv26=>some (X9.mk Xla.Key Xla.Time v26.1)) else (some Xla):Option (X9)).bind λXt7=>some (Xt7,true))
def X2d (a0:X0x):Option (Int) :=
 (bif (a0.Count==(0:Int)) then (some (Xr3 a0 (X0x.mk 0 0 0 0))) else (bif (a0.Count==(1:Int)) then (some (bif (a0.Sum==a0.Min) then (a0.Sum==a0.Max) else false)) else (bif (bif (decide (a0.Count>(1:Int))) then (decide (a0.Count<=(1073741824:Int))) else false) then (some (decide (a0.Min<=a0.Max))) else (some false))):Option (Bool)).bind λj4_3=>bif (!j4_3) then (some 8) else (some 0)
def X81 (a0:X5):Option (Bool) :=
 bif (bif (bif (decide (a0.Span.Start<((-1100585369600):Int))) then true else (decide (a0.Span.End<=a0.Span.Start))) then true else (decide (a0.Span.End>(1100585369600:Int)))) then (some false) else (((X2d a0.Values.e0).bind λv9=>bif (v9==(0:Int)) then ((X2d a0.Values.e1).bind λv12=>bif (v12==(0:Int)) then (some (bif (bif (v9==(0:Int)) then (v12==(0:Int)) else false) then (decide ((IntKind.i64.wrap (a0.Values.e0.Count+a0.Values.e1.Count))>(0:Int))) else false)) else (some (bif (bif (v9==(0:Int)) then (v12==(0:Int)) else false) then false else false))) else (some (bif (bif (v9==(0:Int)) then false else false) then false else false)):Option (Bool)).bind λj8_2=>some j8_2)
def X4p (a0:Int):Option (Bool) :=
 some (a0 != a0)
def X1w (a0:Int) (a1:Int):Option (Int) :=
 (X4p a0).bind λv1=>(X4p a1).bind λv3=>bif v1 then (bif v3 then (some 0) else (some (-1))) else (bif v3 then (some 1) else (bif (decide (a0<a1)) then (some (-1)) else (bif (decide (a0>a1)) then (some 1) else (some 0))))
inductive X6e where
 |x0
 |x1 (X3a:Int)
def X4w (Xis:(List Int)):List Int->Nat->Option X6e
 |[],k=>some (.x0)
 |x::xs,k=>bif (x != (0:Int)) then (some (.x1 x)) else (X4w Xis xs (k+1))
def Xca (a0:(List Int)):Option (Int) :=
 (X3t (List.length a0)).bind λu1=>(X4w  a0 a0 0).bind λo7=>match o7 with|.x0=>(some 0)|.x1 X3a=>(some X3a)
def X5j (a0:X5) (a1:X5):Option (Int) :=
 (X1w a0.Span.End a1.Span.End).bind λv1=>(X1w a0.Span.Start a1.Span.Start).bind λv3=>(X1w a0.Key a1.Key).bind λv5=>(Xca [v1,v3,v5]).bind λv7=>some v7
inductive X59 where
 |x0
 |x1
def X2z (X0a:(List X5)):List X5->Nat->Option X59
 |[],k=>some (.x0)
 |x::xs,k=>((X81 x).bind λv52=>bif (!v52) then (some true) else (bif (decide ((k:Int)>(0:Int))) then ((X0u X0a (IntKind.i64.wrap ((k:Int) - 1))).bind λe56=>(X5j e56 x).bind λv58=>some (bif (!v52) then true else (bif (decide ((k:Int)>(0:Int))) then (decide (v58 >= (0:Int))) else false))) else (some (bif (!v52) then true else false))):Option (Bool)).bind λXt2=>bif Xt2 then (some (.x1)) else (X2z X0a xs (k+1))
def X82 (a0:(List X5)):Option (Int) :=
 bif (decide ((List.length a0:Int)>(4000:Int))) then (some 4) else ((X3t (List.length a0)).bind λu2=>(X2z  a0 a0 0).bind λo62=>match o62 with|.x0=>(some 0)|.x1=>(some 8))
def X8l (a0:Int):Option (X0x) :=
 some (X0x.mk 1 a0 a0 a0)
def X2r (a0:Int) (a1:Int):Option (Int) :=
 bif (bif (decide (a1<(1:Int))) then true else (decide (a1>(1073741824:Int)))) then (some 2) else (bif (bif (decide (a0<((-1099511627776):Int))) then true else (decide (a0>(1099511627776:Int)))) then (some 16) else (some 0))
def Xeq:List Int:=[0,1,2,2,3,3,3,3,4,4,4,4,4,4,4,4,5,5,5,5,5,5,5,5,5,5,5,5,5,5,5,5,6,6,6,6,6,6,6,6,6,6,6,6,6,6,6,6,6,6,6,6,6,6,6,6,6,6,6,6,6,6,6,6,7,7,7,7,7,7,7,7,7,7,7,7,7,7,7,7,7,7,7,7,7,7,7,7,7,7,7,7,7,7,7,7,7,7,7,7,7,7,7,7,7,7,7,7,7,7,7,7,7,7,7,7,7,7,7,7,7,7,7,7,7,7,7,7,8,8,8,8,8,8,8,8,8,8,8,8,8,8,8,8,8,8,8,8,8,8,8,8,8,8,8,8,8,8,8,8,8,8,8,8,8,8,8,8,8,8,8,8,8,8,8,8,8,8,8,8,8,8,8,8,8,8,8,8,8,8,8,8,8,8,8,8,8,8,8,8,8,8,8,8,8,8,8,8,8,8,8,8,8,8,8,8,8,8,8,8,8,8,8,8,8,8,8,8,8,8,8,8,8,8,8,8,8,8,8,8,8,8,8,8,8,8,8,8,8,8,8,8,8,8,8,8]
def X8i (a0:Int):Option (Int) :=
 (bif (decide (a0 >= (4294967296:Int))) then (some ((Int.fdiv a0 (2 ^ (min (Int.toNat 32) IntKind.u64.bits))),32)) else (some (a0,0)):Option (Int×Int)).bind λw2=>(bif (decide (w2.1 >= (65536:Int))) then (some ((Int.fdiv w2.1 (2 ^ (min (Int.toNat 16) IntKind.u64.bits))),(IntKind.i64.wrap (w2.2+16)))) else (some (w2.1,w2.2)):Option (Int×Int)).bind λw6=>(bif (decide (w6.1 >= (256:Int))) then (some ((Int.fdiv w6.1 (2 ^ (min (Int.toNat 8) IntKind.u64.bits))),(IntKind.i64.wrap (w6.2+8)))) else (some (w6.1,w6.2)):Option (Int×Int)).bind λw10=>(X0u Xeq (IntKind.u8.wrap w10.1)).bind λb13=>some (IntKind.i64.wrap (w10.2+(IntKind.i64.wrap b13)))
def X7l (a0:Int):Option (Int) :=
 (X8i a0).bind λv1=>some v1
inductive X0p where
 |x0 (Xci:Int)
def Xr (X0a:(List X5)) (Xb:X5) (Xbu:Int):Nat->Int->Int->Option X0p
 |0,_,_=>none
 |n+1,Xbt,X39=>bif (decide (Xbt<X39)) then ((X0u X0a (IntKind.i64.wrap (Int.fdiv (IntKind.u64.wrap (IntKind.i64.wrap (Xbt+X39))) (2 ^ (min (Int.toNat 1) IntKind.u64.bits))))).bind λe15=>(X5j e15 Xb).bind λv17=>bif (decide (v17<(0:Int))) then (Xr X0a Xb Xbu n (IntKind.i64.wrap ((IntKind.i64.wrap (Int.fdiv (IntKind.u64.wrap (IntKind.i64.wrap (Xbt+X39))) (2 ^ (min (Int.toNat 1) IntKind.u64.bits))))+1)) X39) else (Xr X0a Xb Xbu n Xbt (IntKind.i64.wrap (Int.fdiv (IntKind.u64.wrap (IntKind.i64.wrap (Xbt+X39))) (2 ^ (min (Int.toNat 1) IntKind.u64.bits)))))) else (some (.x0 Xbt))
def Xf (a0:(List X5)) (a1:X5):Option (Int×Bool) :=
 (Xr  a0 a1 (List.length a0:Int) FU 0 (List.length a0:Int)).bind λo20=>match o20 with|.x0 Xci=>((bif (decide (Xci<(List.length a0:Int))) then ((X0u a0 Xci).bind λe29=>(X5j e29 a1).bind λv31=>some (bif (decide (Xci<(List.length a0:Int))) then (v31==(0:Int)) else false)) else (some false):Option (Bool)).bind λXzn=>some (Xci,Xzn))
def X1l (a0:X0x) (a1:X0x):Option (X0x×Int) :=
 ((X2d a0).bind λv7=>bif (v7 != (0:Int)) then (some (bif (v7 != (0:Int)) then true else false)) else ((X2d a1).bind λv10=>some (bif (v7 != (0:Int)) then true else (v10 != (0:Int)))):Option (Bool)).bind λXz8=>bif Xz8 then (some ((X0x.mk 0 0 0 0),8)) else (bif (decide ((IntKind.i64.wrap (a0.Count+a1.Count))>(1073741824:Int))) then (some ((X0x.mk 0 0 0 0),4)) else (bif (a0.Count==(0:Int)) then (some (a1,0)) else (bif (a1.Count==(0:Int)) then (some (a0,0)) else (some ((X0x.mk (IntKind.i64.wrap (a0.Count+a1.Count)) (IntKind.i64.wrap (a0.Sum+a1.Sum)) (if a1.Min<a0.Min then a1.Min else a0.Min) (if a1.Max>a0.Max then a1.Max else a0.Max)),0)))))
def X8s (a0:Int) (a1:Int):Option (Int) :=
 bif (bif (decide (a1<(1:Int))) then true else (decide (a1>(1073741824:Int)))) then (some 2) else (bif (bif (decide (a0<((-1099511627776):Int))) then true else (decide (a0>(1099511627776:Int)))) then (some 16) else (some 0))
def X62 (a0:Int) (a1:Int):Option (Int×Int) :=
 (X8s a0 a1).bind λv1=>bif (v1 != (0:Int)) then (some (0,v1)) else ((Xty a1).bind λu4=>(bif (decide ((Int.tmod a0 a1)<(0:Int))) then (some (IntKind.i64.wrap ((IntKind.i64.wrap (Int.tdiv a0 a1)) - 1))) else (some (IntKind.i64.wrap (Int.tdiv a0 a1))):Option (Int)).bind λj7_7=>some (j7_7,0))
def X9l (a0:Int) (a1:Int):Option (X0k×Int) :=
 (X62 a0 a1).bind λv1=>bif (v1.2 != (0:Int)) then (some ((X0k.mk 0 0),v1.2)) else (some ((X0k.mk (IntKind.i64.wrap (v1.1*a1)) (IntKind.i64.wrap ((IntKind.i64.wrap (v1.1+1))*a1))),0))
inductive X99 where
 |x0 (Xo:(List X0k))
def X4g (X0a:Int) (X54:Int) (y0_2:Int):Nat->(List X0k)->Int->Option X99
 |0,_,_=>none
 |n+1,Xb,Xg2=>bif (decide ((IntKind.i64.wrap (Xg2+X54))>X0a)) then ((X1p (List.length (Xb++[(X0k.mk Xg2 (IntKind.i64.wrap (Xg2+X54)))])) 16).bind λu19=>X4g X0a X54 y0_2 n (Xb++[(X0k.mk Xg2 (IntKind.i64.wrap (Xg2+X54)))]) (IntKind.i64.wrap (Xg2 - y0_2))) else (some (.x0 Xb))
inductive X6w where
 |x0 (X3i:(List X0k)) (Xb3:(List X0k))
def X2g (X15:(List X0k)):Nat->(List X0k)->Int->Option X6w
 |0,_,_=>none
 |n+1,X0q,Xcz=>bif (decide (Xcz >= (0:Int))) then ((X0u X15 Xcz).bind λe68=>(X1p (List.length (X0q++[e68])) 16).bind λu72=>X2g X15 n (X0q++[e68]) (IntKind.i64.wrap (Xcz - 1))) else (some (.x0 X0q X15))
def Xbb (a0:Int) (a1:Int) (a2:Int):Option ((List X0k)×Int) :=
 bif (bif (bif (bif (decide ((if a2<a1 then a2 else a1)<(1:Int))) then true else (decide (a1>(1073741824:Int)))) then true else (decide (a2>a1))) then true else (decide (a1>(IntKind.i64.wrap (16*a2))))) then (some (([]:List X0k),2)) else ((X9l a0 a2).bind λv2=>bif (v2.2 != (0:Int)) then (some (([]:List X0k),v2.2)) else ((X4g  a0 a1 a2 FU ([]:List X0k) v2.1.Start).bind λo24=>match o24 with|.x0 Xo=>((X2g  Xo FU ([]:List X0k) (IntKind.i64.wrap ((List.length Xo:Int) - 1))).bind λo87=>match o87 with|.x0 X3i Xb3=>(some (X3i,0)))))
def Xd4 (a0:X0g) (a1:Int):Option ((List X0k)×Int) :=
 (X0v a0).bind λv1=>bif (v1 != (0:Int)) then (some (([]:List X0k),v1)) else (bif (a0.Kind==(1:Int)) then ((X9l a1 a0.Size).bind λv5=>bif (v5.2 != (0:Int)) then (some (([]:List X0k),v5.2)) else (some ([v5.1],0))) else (bif (a0.Kind==(2:Int)) then ((Xbb a1 a0.Size a0.Every).bind λv9=>some (v9.1,v9.2)) else (some (([]:List X0k),2))))
inductive X01 where
 |x0
 |x1 (X8p:Int)
def Xg (X0q:(List X5)) (X15:X5):List X5->Nat->Option X01
 |[],k=>some (.x0)
 |x::xs,k=>bif (bif (bif (x.Key==X15.Key) then (decide (x.Span.Start<X15.Span.End)) else false) then (decide (X15.Span.Start<x.Span.End)) else false) then (some (.x1 (k:Int))) else (Xg X0q X15 xs (k+1))
inductive X30 where
 |x0 (X3i:(List X5)) (X8q:Int)
def X16:Nat->(List X5)->X5->Option X30
 |0,_,_=>none
 |n+1,X0q,X15=>((X3t (List.length X0q)).bind λu1330=>(Xg  X0q X15 X0q 0).bind λo1342=>match o1342 with|.x0=>(some (-1))|.x1 X8p=>(some X8p):Option (Int)).bind λXc5=>bif (decide (Xc5<(0:Int))) then (((Xf X0q X15).bind λv1393=>bif (!v1393.2) then (bif (v1393.1==(List.length X0q:Int)) then (((X50 X0q v1393.1 (List.length X0q:Int)).bind λm1405=>bif (List.isEmpty m1405) then ((X1p (List.length (X0q++[X15])) 88).bind λu1408=>some ()) else ((X1p (List.length (X0q++[X15])) 88).bind λu1410=>some ()):Option (Unit)).bind λ_=>some ((X0q++[X15]),0)) else ((Xqb X0q v1393.1 X15 88).bind λm1413=>some (m1413,0))) else ((X0u X0q v1393.1).bind λe1415=>((X1l e1415.Values.e0 X15.Values.e0).bind λv1430=>bif (v1430.2 != (0:Int)) then (some (X0q,v1430.2)) else ((X1l (((X5.mk e1415.Key e1415.Span (V2.mk v1430.1 e1415.Values.e1)).Values).e1) X15.Values.e1).bind λv1435=>bif (v1435.2 != (0:Int)) then (some ((List.set X0q (Int.toNat v1393.1) (X5.mk e1415.Key e1415.Span (V2.mk v1430.1 e1415.Values.e1))),v1435.2)) else (some ((List.set (List.set X0q (Int.toNat v1393.1) (X5.mk e1415.Key e1415.Span (V2.mk v1430.1 e1415.Values.e1))) (Int.toNat v1393.1) (X5.mk ((X5.mk e1415.Key e1415.Span (V2.mk v1430.1 e1415.Values.e1)).Key) ((X5.mk e1415.Key e1415.Span (V2.mk v1430.1 e1415.Values.e1)).Span) (V2.mk (((X5.mk e1415.Key e1415.Span (V2.mk v1430.1 e1415.Values.e1)).Values).e0) v1435.1))),0))):Option ((List X5)×Int)).bind λw1427=>some (w1427.1,w1427.2)):Option ((List X5)×Int)).bind λw1392=>some (.x0 w1392.1 w1392.2)) else ((X0u X0q Xc5).bind λe1440=>((X1l X15.Values.e0 e1440.Values.e0).bind λv1455=>bif (v1455.2 != (0:Int)) then (some (X15,v1455.2)) else ((X1l X15.Values.e1 e1440.Values.e1).bind λv1460=>bif (v1460.2 != (0:Int)) then (some ((X5.mk X15.Key X15.Span (V2.mk v1455.1 X15.Values.e1)),v1460.2)) else (some ((X5.mk X15.Key X15.Span (V2.mk v1455.1 v1460.1)),0))):Option (X5×Int)).bind λw1452=>bif (w1452.2 != (0:Int)) then (some (.x0 ([]:List X5) w1452.2)) else ((delI X0q Xc5).bind λm1465=>X16 n m1465 (X5.mk w1452.1.Key (X0k.mk (if e1440.Span.Start<w1452.1.Span.Start then e1440.Span.Start else w1452.1.Span.Start) (if e1440.Span.End>w1452.1.Span.End then e1440.Span.End else w1452.1.Span.End)) w1452.1.Values)))
inductive X76 where
 |x0 (Xo:(List X5))
 |x1 (X00:(List X5)) (Xfz:Int)
def X3h (Xdu:(List X0k)):List X0k->Nat->X5->(List X5)->Option X76
 |[],k,Xb,Xc=>some (.x0 Xc)
 |x::xs,k,Xb,Xc=>((Xf Xc (X5.mk Xb.Key x Xb.Values)).bind λv1891=>bif (!v1891.2) then (bif (v1891.1==(List.length Xc:Int)) then (((X50 Xc v1891.1 (List.length Xc:Int)).bind λm1903=>bif (List.isEmpty m1903) then ((X1p (List.length (Xc++[(X5.mk Xb.Key x Xb.Values)])) 88).bind λu1906=>some ()) else ((X1p (List.length (Xc++[(X5.mk Xb.Key x Xb.Values)])) 88).bind λu1908=>some ()):Option (Unit)).bind λ_=>some ((X5.mk ((X5.mk Xb.Key x Xb.Values).Key) ((X5.mk Xb.Key x Xb.Values).Span) (V2.mk (((X5.mk Xb.Key x Xb.Values).Values).e0) (((X5.mk Xb.Key x Xb.Values).Values).e1))),(Xc++[(X5.mk Xb.Key x Xb.Values)]),0)) else ((Xqb Xc v1891.1 (X5.mk Xb.Key x Xb.Values) 88).bind λm1911=>some ((X5.mk Xb.Key x Xb.Values),m1911,0))) else ((X0u Xc v1891.1).bind λe1913=>((X1l e1913.Values.e0 Xb.Values.e0).bind λv1928=>bif (v1928.2 != (0:Int)) then (some (Xc,v1928.2)) else ((X1l (((X5.mk e1913.Key e1913.Span (V2.mk v1928.1 e1913.Values.e1)).Values).e1) Xb.Values.e1).bind λv1933=>bif (v1933.2 != (0:Int)) then (some ((List.set Xc (Int.toNat v1891.1) (X5.mk e1913.Key e1913.Span (V2.mk v1928.1 e1913.Values.e1))),v1933.2)) else (some ((List.set (List.set Xc (Int.toNat v1891.1) (X5.mk e1913.Key e1913.Span (V2.mk v1928.1 e1913.Values.e1))) (Int.toNat v1891.1) (X5.mk ((X5.mk e1913.Key e1913.Span (V2.mk v1928.1 e1913.Values.e1)).Key) ((X5.mk e1913.Key e1913.Span (V2.mk v1928.1 e1913.Values.e1)).Span) (V2.mk (((X5.mk e1913.Key e1913.Span (V2.mk v1928.1 e1913.Values.e1)).Values).e0) v1933.1))),0))):Option ((List X5)×Int)).bind λw1925=>some ((X5.mk ((X5.mk Xb.Key x Xb.Values).Key) ((X5.mk Xb.Key x Xb.Values).Span) (V2.mk (((X5.mk Xb.Key x Xb.Values).Values).e0) (((X5.mk Xb.Key x Xb.Values).Values).e1))),w1925.1,w1925.2)):Option (X5×(List X5)×Int)).bind λw1890=>bif (w1890.2.2 != (0:Int)) then (some (.x1 ([]:List X5) w1890.2.2)) else (X3h Xdu xs (k+1) w1890.1 w1890.2.1)
def X7a (a0:(List X5)) (a1:X0g) (a2:X9) (a3:Int):Option ((List X5)×Int) :=
 (X82 a0).bind λv1=>bif (v1 != (0:Int)) then (some (([]:List X5),v1)) else ((X0v a1).bind λv4=>bif (v4 != (0:Int)) then (some (([]:List X5),v4)) else (bif (bif (a3 != (0:Int)) then (a3 != (1:Int)) else false) then (some (([]:List X5),2)) else (bif (bif (decide (a2.Time<((-1099511627776):Int))) then true else (decide (a2.Time>(1099511627776:Int)))) then (some (([]:List X5),16)) else (((X8l a2.Value).bind λv14=>bif (a3==(0:Int)) then (some (X5.mk a2.Key (X0k.mk 0 0) (V2.mk v14 (X0x.mk 0 0 0 0)))) else (bif (a3==(1:Int)) then (some (X5.mk a2.Key (X0k.mk 0 0) (V2.mk (X0x.mk 0 0 0 0) v14))) else none):Option (X5)).bind λXez=>(bif (List.isEmpty a0) then (some a0) else ((X1p (List.length a0) 88).bind λu28=>some a0):Option ((List X5))).bind λXey=>bif (a1.Kind==(3:Int)) then (((X2r 0 a1.Size).bind λv51=>bif (v51 != (0:Int)) then (some (([]:List X0k),v51)) else ((X2r a2.Time a1.Size).bind λv54=>bif (v54 != (0:Int)) then (some (([]:List X0k),v54)) else ((X7l 1).bind λv67=>some ([(X0k.mk a2.Time (IntKind.i64.wrap (a2.Time+a1.Size)))],0))):Option ((List X0k)×Int)).bind λw50=>bif (w50.2 != (0:Int)) then (some (([]:List X5),w50.2)) else ((X0u w50.1 0).bind λe71=>((X16  FU Xey (X5.mk Xez.Key e71 Xez.Values)).bind λo1548=>match o1548 with|.x0 X3i X8q=>(some (X3i,X8q)):Option ((List X5)×Int)).bind λw811=>bif (w811.2 != (0:Int)) then (some (([]:List X5),w811.2)) else (bif (decide ((List.length w811.1:Int)>(4000:Int))) then (some (([]:List X5),4)) else (some (w811.1,0))))) else ((Xd4 a1 a2.Time).bind λv1558=>bif (v1558.2 != (0:Int)) then (some (([]:List X5),v1558.2)) else ((X3t (List.length v1558.1)).bind λu1561=>(X3h  v1558.1 v1558.1 0 Xez Xey).bind λo1984=>match o1984 with|.x0 Xo=>(bif (decide ((List.length Xo:Int)>(4000:Int))) then (some (([]:List X5),4)) else (some (Xo,0)))|.x1 X00 Xfz=>(some (X00,Xfz))))))))
def X5z (a0:Int) (a1:X0x):Option (Int×Int) :=
 bif (bif (decide (a0<(1:Int))) then true else (decide (a0>(4:Int)))) then (some (0,2)) else ((X2d a1).bind λv2=>bif (v2 != (0:Int)) then (some (0,v2)) else (bif (a1.Count==(0:Int)) then (some (0,6)) else ((bif (a0==(0:Int)) then (some 0) else (bif (a0==(1:Int)) then (some a1.Count) else (bif (a0==(2:Int)) then (some a1.Sum) else (bif (a0==(3:Int)) then (some a1.Min) else (bif (a0==(4:Int)) then (some a1.Max) else none)))):Option (Int)).bind λXzq=>some (Xzq,0))))
def X8g (a0:Xt) (a1:X5):Option (X52×Bool) :=
 (X5z a0.Agg a1.Values.e0).bind λv3=>bif (v3.2 != (0:Int)) then (some ((X52.mk 0 (X0k.mk 0 0) (V2.mk 0 0)),false)) else (bif (bif ((1:Int)==(1:Int)) then (!a0.Join) else false) then (some ((X52.mk a1.Key a1.Span (V2.mk v3.1 0)),true)) else ((X5z a0.Agg a1.Values.e1).bind λv9=>bif (v9.2 != (0:Int)) then (some ((X52.mk 0 (X0k.mk 0 0) (V2.mk 0 0)),false)) else (some ((X52.mk a1.Key a1.Span (V2.mk v3.1 v9.1)),true))))
inductive X5e where
 |x0 (X7x:(List X5)) (X6p:(List X9))
 |x1 (X6o:(List X52)) (X6n:(List X9)) (Xb2:Int)
def X1x (X95:Xt) (X9j:(List X9)) (Xki:Int) (Xkh:(List (List Xa))) (Xkg:Int) (Xkf:Int) (Xd0:(List X9)):List X9->Nat->(List X5)->Option X5e
 |[],k,Xg1=>some (.x0 Xg1 X9j)
 |x::xs,k,Xg1=>(X56 X95 x).bind λv482=>bif (!v482.2) then (X1x X95 X9j Xki Xkh Xkg Xkf Xd0 xs (k+1) Xg1) else ((bif X95.Join then (some Xki) else (some 0):Option (Int)).bind λXn5=>(X7a Xg1 X95.Window v482.1 Xn5).bind λv489=>bif (v489.2 != (0:Int)) then (some (.x1 ([]:List X52) ([]:List X9) v489.2)) else (X1x X95 X9j Xki Xkh Xkg Xkf Xd0 xs (k+1) v489.1))
inductive X5f where
 |x0 (X61:(List X5)) (X09:(List X9))
 |x1 (X00:(List X52)) (X4c:(List X9)) (Xi4:Int)
def X1y (Xb:Xt) (X8n:(List (List Xa))):List (List Xa)->Nat->(List X5)->(List X9)->Option X5f
 |[],k,X39,Xc=>some (.x0 X39 Xc)
 |x::xs,k,X39,Xc=>(X9t x).bind λv435=>bif (v435.2.2 != (0:Int)) then (some (.x1 ([]:List X52) ([]:List X9) v435.2.2)) else (bif (List.isEmpty v435.2.1) then ((X3t (List.length v435.1)).bind λu439=>(X1x  Xb (Xc++v435.2.1) (k:Int) X8n (List.length X8n:Int) (k:Int) v435.1 v435.1 0 X39).bind λo502=>match o502 with|.x0 X7x X6p=>(X1y Xb X8n xs (k+1) X7x X6p)|.x1 X6o X6n Xb2=>(some (.x1 X6o X6n Xb2))) else ((X1p (List.length (Xc++v435.2.1)) 24).bind λu504=>(X3t (List.length v435.1)).bind λu506=>(X1x  Xb (Xc++v435.2.1) (k:Int) X8n (List.length X8n:Int) (k:Int) v435.1 v435.1 0 X39).bind λo549=>match o549 with|.x0 X7x X6p=>(X1y Xb X8n xs (k+1) X7x X6p)|.x1 X6o X6n Xb2=>(some (.x1 X6o X6n Xb2))))
inductive X7g where
 |x0 (X9z:(List X9)) (X4b:(List X52))
def X2b (Xhg:Xt) (Xg0:(List X9)) (Xb4:(List X5)):List X5->Nat->(List X52)->Option X7g
 |[],k,Xf6=>some (.x0 Xg0 Xf6)
 |x::xs,k,Xf6=>(X8g Xhg x).bind λv732=>(bif v732.2 then ((X1p (List.length (Xf6++[v732.1])) 40).bind λu739=>some (Xf6++[v732.1])) else (some Xf6):Option ((List X52))).bind λXgv=>X2b Xhg Xg0 Xb4 xs (k+1) Xgv
def X1i (a0:Xt) (a1:(List (List Xa))):Option ((List X52)×(List X9)×Int) :=
 (X7e a0).bind λv1=>bif (v1.2 != (0:Int)) then (some (([]:List X52),([]:List X9),v1.2)) else (bif ((List.length a1:Int) != (List.length a0.Sources:Int)) then (some (([]:List X52),([]:List X9),2)) else ((X3z a1).bind λv5=>bif (v5 != (0:Int)) then (some (([]:List X52),([]:List X9),v5)) else ((X3t (List.length a1)).bind λu8=>(X1y  a0 a1 a1 0 ([]:List X5) ([]:List X9)).bind λo647=>match o647 with|.x0 X61 X09=>((X3t (List.length X61)).bind λu649=>(X2b  a0 X09 X61 X61 0 ([]:List X52)).bind λo772=>match o772 with|.x0 X9z X4b=>((bif (a0.Late != (2:Int)) then (some ([]:List X9)) else (some X9z):Option ((List X9))).bind λXgu=>some (X4b,Xgu,0)))|.x1 X00 X4c Xi4=>(some (X00,X4c,Xi4)))))
inductive X9f where
 |x0 (Xo:Int)
def X7c (Xiu:(List Xa)):List Xa->Nat->Int->Option X9f
 |[],k,Xb=>some (.x0 Xb)
 |x::xs,k,Xb=>(bif x.Mark then (some (if x.Time>Xb then x.Time else Xb)) else (some Xb):Option (Int)).bind λXt4=>X7c Xiu xs (k+1) Xt4
def Xgq (a0:(List Xa)):Option (Int×Int) :=
 (X70 a0).bind λv1=>bif (v1 != (0:Int)) then (some (0,v1)) else ((X3t (List.length a0)).bind λu4=>(X7c  a0 a0 0 (-9223372036854775808)).bind λo31=>match o31 with|.x0 Xo=>(some (Xo,0)))
inductive X47 where
 |x0 (X8q:Int)
 |x1 (X9i:Int)
def X3s (Xit:(List (List Xa))):List (List Xa)->Nat->Int->Option X47
 |[],k,Xvo=>some (.x0 Xvo)
 |x::xs,k,Xvo=>(Xgq x).bind λv18=>bif (v18.2 != (0:Int)) then (some (.x1 v18.2)) else (X3s Xit xs (k+1) (if v18.1<Xvo then v18.1 else Xvo))
def Xad (a0:(List (List Xa))):Option (Int×Int) :=
 (bif (decide ((List.length a0:Int)<(1:Int))) then (some (bif (decide ((List.length a0:Int)<(1:Int))) then true else false)) else (some (bif (decide ((List.length a0:Int)<(1:Int))) then true else (decide ((List.length a0:Int)>(4:Int))))):Option (Bool)).bind λXzm=>bif Xzm then (some (0,2)) else ((X3z a0).bind λv6=>bif (v6 != (0:Int)) then (some (0,v6)) else ((X3t (List.length a0)).bind λu9=>(X3s  a0 a0 0 9223372036854775807).bind λo21=>match o21 with|.x0 X8q=>(some (X8q,0))|.x1 X9i=>(some (0,X9i))))
inductive X51 where
 |x0 (Xo:(List X52))
def X2s (Xbu:(List X9)) (X39:Int) (Xdv:(List X52)):List X52->Nat->(List X52)->Option X51
 |[],k,Xb=>some (.x0 Xb)
 |x::xs,k,Xb=>(bif (decide (x.Span.End<=X39)) then ((X1p (List.length (Xb++[x])) 40).bind λu47=>some (Xb++[x])) else (some Xb):Option ((List X52))).bind λXl8=>X2s Xbu X39 Xdv xs (k+1) Xl8
def X8h (a0:Xt) (a1:(List (List Xa))):Option ((List X52)×(List X9)×Int) :=
 (X1i a0 a1).bind λv1=>bif (v1.2.2 != (0:Int)) then (some (([]:List X52),([]:List X9),v1.2.2)) else ((Xad a1).bind λv4=>bif (v4.2 != (0:Int)) then (some (([]:List X52),([]:List X9),v4.2)) else ((X3t (List.length v1.1)).bind λu7=>(X2s  v1.2.1 v4.1 v1.1 v1.1 0 ([]:List X52)).bind λo58=>match o58 with|.x0 Xo=>(some (Xo,v1.2.1,0))))
def Xdd (a0:Int) (a1:Int) (a2:Int):Option (X52) :=
 some (X52.mk 0 (X0k.mk a0 a1) (V2.mk a2 0))
inductive X67 where
 |x0
 |x1
def X3j (X0a:(List X52)) (X54:(List X52)):List X52->Nat->Option X67
 |[],k=>some (.x0)
 |x::xs,k=>(X0u X54 (k:Int)).bind λe11=>bif (!(Xk4 x e11)) then (some (.x1)) else (X3j X0a X54 xs (k+1))
def X3w (a0:(List X52)) (a1:(List X52)):Option (Bool) :=
 bif ((List.length a0:Int) != (List.length a1:Int)) then (some false) else ((X3t (List.length a0)).bind λu2=>(X3j  a0 a1 a0 0).bind λo14=>match o14 with|.x0=>(some true)|.x1=>(some false))
def Xaf:Option (Bool) :=
 (Xae 1 3 5).bind λv1=>(Xeb 10).bind λv3=>(Xae 1 12 7).bind λv5=>(Xae 1 9 1).bind λv7=>(Xgo).bind λv9=>(X1i v9 [[v1,v3,v5,v7]]).bind λv11=>(X8h v9 [[v1,v3,v5,v7]]).bind λv13=>(bif (v11.2.2==(0:Int)) then ((Xdd 0 10 5).bind λv34=>(Xdd 10 20 7).bind λv36=>(X3w v11.1 [v34,v36]).bind λv38=>bif v38 then (bif ((List.length v11.2.1:Int)==(1:Int)) then ((X0u v11.2.1 0).bind λe42=>bif (e42.Time==(9:Int)) then (bif (v13.2.2==(0:Int)) then ((X50 v11.1 0 1).bind λm46=>(X3w v13.1 m46).bind λv48=>some (bif (bif (bif (bif (bif (v11.2.2==(0:Int)) then v38 else false) then ((List.length v11.2.1:Int)==(1:Int)) else false) then (e42.Time==(9:Int)) else false) then (v13.2.2==(0:Int)) else false) then v48 else false)) else (some (bif (bif (bif (bif (bif (v11.2.2==(0:Int)) then v38 else false) then ((List.length v11.2.1:Int)==(1:Int)) else false) then (e42.Time==(9:Int)) else false) then (v13.2.2==(0:Int)) else false) then false else false))) else (some (bif (bif (bif (bif (bif (v11.2.2==(0:Int)) then v38 else false) then ((List.length v11.2.1:Int)==(1:Int)) else false) then (e42.Time==(9:Int)) else false) then false else false) then false else false))) else (some (bif (bif (bif (bif (bif (v11.2.2==(0:Int)) then v38 else false) then ((List.length v11.2.1:Int)==(1:Int)) else false) then false else false) then false else false) then false else false))) else (some (bif (bif (bif (bif (bif (v11.2.2==(0:Int)) then v38 else false) then false else false) then false else false) then false else false) then false else false))) else (some (bif (bif (bif (bif (bif (v11.2.2==(0:Int)) then false else false) then false else false) then false else false) then false else false) then false else false)):Option (Bool)).bind λXzl=>some Xzl
def X8c (a0:(List Xu)):Option (Bool) :=
 some (decide ((List.length a0:Int)>(70:Int)))
def X8a (a0:Xt):Option (Bool) :=
 ((X8c a0.Arg).bind λv8=>bif v8 then (some (bif (bif v8 then true else false) then true else false)) else ((X8c a0.Where).bind λv11=>bif v11 then (some (bif (bif v8 then true else v11) then true else false)) else (some (bif (bif v8 then true else v11) then true else (decide ((List.length a0.Sources:Int)>(10:Int)))))):Option (Bool)).bind λj7_2=>some j7_2
inductive X5b where
 |x0
 |x1
def X34 (X0a:(List (List Xa))):Nat->Int->Option X5b
 |0,_=>none
 |n+1,Xcz=>bif (bif (decide (Xcz<(List.length X0a:Int))) then (decide (Xcz<(7:Int))) else false) then (((X0u X0a Xcz).bind λe27=>bif (decide ((List.length e27:Int)>(20:Int))) then (some (bif (decide ((List.length e27:Int)>(20:Int))) then ((List.length e27:Int) != (61:Int)) else false)) else (some (bif (decide ((List.length e27:Int)>(20:Int))) then false else false)):Option (Bool)).bind λXt5=>bif Xt5 then (some (.x0)) else (X34 X0a n (IntKind.i64.wrap (Xcz+1)))) else (some (.x1))
def X86 (a0:(List (List Xa))):Option (Bool) :=
 (X34  a0 FU 0).bind λo32=>match o32 with|.x0=>(some true)|.x1=>(some (decide ((List.length a0:Int)>(6:Int))))
def Xa6 (a0:Int):Option (Int) :=
 bif (decide (a0<=(4:Int))) then (some 0) else (bif (decide (a0<=(6:Int))) then (some 1) else (some 2))
def X5n (a0:Xu) (a1:Int) (a2:Int):Option (Bool) :=
 some (bif (bif (bif (bif (bif (bif (bif (decide (a0.Kind >= (1:Int))) then (decide (a0.Kind<=(19:Int))) else false) then (decide (a0.N >= (0:Int))) else false) then (bif (a0.N==(0:Int)) then true else (a0.Kind==(1:Int))) else false) then (decide (a0.At >= (0:Int))) else false) then (decide (a0.At<=(400:Int))) else false) then (a0.A==a1) else false) then (a0.B==a2) else false)
inductive X3q where
 |x0 (Xo:(List Int)) (X09:(List Int))
 |x1 (X00:(List Int)) (X4c:(List Int))
def X13 (X0a:(List Xu)):List Xu->Nat->(List Int)->(List Int)->Option X3q
 |[],k,Xb,Xc=>some (.x0 Xb Xc)
 |x::xs,k,Xb,Xc=>(Xa6 x.Kind).bind λv156=>bif (decide (v156>(0:Int))) then (bif (decide ((IntKind.i64.wrap ((k:Int) - 1))<(0:Int))) then (some (.x1 ([]:List Int) ([]:List Int))) else ((X0u Xb (IntKind.i64.wrap ((k:Int) - 1))).bind λe160=>(X0u Xc (IntKind.i64.wrap ((k:Int) - 1))).bind λe162=>bif (v156==(2:Int)) then (bif (decide ((IntKind.i64.wrap ((IntKind.i64.wrap ((k:Int) - 1)) - e160))<(0:Int))) then (some (.x1 ([]:List Int) ([]:List Int))) else ((X0u Xb (IntKind.i64.wrap ((IntKind.i64.wrap ((k:Int) - 1)) - e160))).bind λe166=>(X0u Xc (IntKind.i64.wrap ((IntKind.i64.wrap ((k:Int) - 1)) - e160))).bind λe168=>(X5n x (IntKind.i64.wrap ((IntKind.i64.wrap ((k:Int) - 1)) - e160)) (IntKind.i64.wrap ((k:Int) - 1))).bind λv170=>bif (!v170) then (some (.x1 ([]:List Int) ([]:List Int))) else ((X1p (List.length (Xb++[(IntKind.i64.wrap ((IntKind.i64.wrap (1+e160))+e166))])) 8).bind λu173=>(X1p (List.length (Xc++[(if (IntKind.i64.wrap (1+e168))>(IntKind.i64.wrap (1+e162)) then (IntKind.i64.wrap (1+e168)) else (IntKind.i64.wrap (1+e162)))])) 8).bind λu175=>X13 X0a xs (k+1) (Xb++[(IntKind.i64.wrap ((IntKind.i64.wrap (1+e160))+e166))]) (Xc++[(if (IntKind.i64.wrap (1+e168))>(IntKind.i64.wrap (1+e162)) then (IntKind.i64.wrap (1+e168)) else (IntKind.i64.wrap (1+e162)))])))) else ((X5n x (IntKind.i64.wrap ((k:Int) - 1)) 0).bind λv177=>bif (!v177) then (some (.x1 ([]:List Int) ([]:List Int))) else ((X1p (List.length (Xb++[(IntKind.i64.wrap (1+e160))])) 8).bind λu180=>(X1p (List.length (Xc++[(IntKind.i64.wrap (1+e162))])) 8).bind λu182=>X13 X0a xs (k+1) (Xb++[(IntKind.i64.wrap (1+e160))]) (Xc++[(IntKind.i64.wrap (1+e162))]))))) else ((X5n x 0 0).bind λv184=>bif (!v184) then (some (.x1 ([]:List Int) ([]:List Int))) else ((X1p (List.length (Xb++[1])) 8).bind λu187=>(X1p (List.length (Xc++[1])) 8).bind λu189=>X13 X0a xs (k+1) (Xb++[1]) (Xc++[1])))
def Xa5 (a0:(List Xu)):Option ((List Int)×(List Int)×Bool) :=
 (X3t (List.length a0)).bind λu1=>(X13  a0 a0 0 ([]:List Int) ([]:List Int)).bind λo232=>match o232 with|.x0 Xo X09=>((bif (decide ((List.length a0:Int)>(0:Int))) then ((X0u Xo (IntKind.i64.wrap ((List.length a0:Int) - 1))).bind λe239=>some (bif (decide ((List.length a0:Int)>(0:Int))) then (e239==(List.length a0:Int)) else false)) else (some false):Option (Bool)).bind λXt9=>some (Xo,X09,Xt9))|.x1 X00 X4c=>(some (X00,X4c,false))
def X3l (a0:(List Xu)):Option (Int) :=
 bif (decide ((List.length a0:Int)>(60:Int))) then (some 4) else ((Xa5 a0).bind λv2=>bif (!v2.2.2) then (some 8) else ((X0u v2.2.1 (IntKind.i64.wrap ((List.length a0:Int) - 1))).bind λe5=>bif (decide (e5>(20:Int))) then (some 34) else (some 0)))
inductive X46 where
 |x0
 |x1
def X26 (X0a:(List Int)):List Int->Nat->Option X46
 |[],k=>some (.x0)
 |x::xs,k=>(bif (decide (x<(0:Int))) then (some (bif (decide (x<(0:Int))) then true else false)) else (some (bif (decide (x<(0:Int))) then true else (decide (x>(3:Int))))):Option (Bool)).bind λXt8=>bif Xt8 then (some (.x1)) else (X26 X0a xs (k+1))
inductive X44 where
 |x0
 |x1
def X25 (Xy6:(List Int)) (Xy5:Int):Nat->Int->Option X44
 |0,_=>none
 |n+1,Xxd=>bif (decide (Xxd<Xy5)) then ((X0u Xy6 Xxd).bind λe86=>(X0u Xy6 Xy5).bind λe88=>bif (e86==e88) then (some (.x0)) else (X25 Xy6 Xy5 n (IntKind.i64.wrap (Xxd+1)))) else (some (.x1))
inductive X45 where
 |x0
 |x1
def X1o (Xrc:(List Int)):List Int->Nat->Option X45
 |[],k=>some (.x0)
 |x::xs,k=>(X25  Xrc (k:Int) FU 0).bind λo91=>match o91 with|.x0=>(some (.x1))|.x1=>(X1o Xrc xs (k+1))
def X68 (a0:(List Int)) (a1:Bool):Option (Int) :=
 bif (decide ((List.length a0:Int)>(4:Int))) then (some 4) else ((bif ((List.length a0:Int)==(0:Int)) then (some (bif ((List.length a0:Int)==(0:Int)) then true else false)) else (bif a1 then (some (bif ((List.length a0:Int)==(0:Int)) then true else (bif a1 then ((List.length a0:Int) != (2:Int)) else false))) else (some (bif ((List.length a0:Int)==(0:Int)) then true else (bif a1 then false else false)))):Option (Bool)).bind λXza=>bif Xza then (some 8) else ((X3t (List.length a0)).bind λu9=>(X26  a0 a0 0).bind λo27=>match o27 with|.x0=>((X1o  a0 a0 0).bind λo93=>match o93 with|.x0=>(some 0)|.x1=>(some 43))|.x1=>(some 8)))
def X6x (a0:X0g):Option (Bool) :=
 bif (bif (decide (a0.Size<(1:Int))) then true else (decide (a0.Size>(1073741824:Int)))) then (some false) else (bif (a0.Kind==(2:Int)) then (some (bif (bif (decide (a0.Every >= (1:Int))) then (decide (a0.Every<=a0.Size)) else false) then (decide (a0.Size<=(IntKind.i64.wrap (16*a0.Every)))) else false)) else (some (bif (bif (a0.Kind==(1:Int)) then true else (a0.Kind==(3:Int))) then (a0.Every==(0:Int)) else false)))
def X8b (a0:Xt):Option (Int) :=
 bif (bif (bif (bif (decide (a0.Agg<(1:Int))) then true else (decide (a0.Agg>(4:Int)))) then true else (decide (a0.Late<(1:Int)))) then true else (decide (a0.Late>(2:Int)))) then (some 8) else ((bif (a0.Agg==(1:Int)) then (some (bif (a0.Agg==(1:Int)) then (decide ((List.length a0.Arg:Int)>(0:Int))) else false)) else (some (bif (a0.Agg==(1:Int)) then false else false)):Option (Bool)).bind λXzi=>bif Xzi then (some 8) else ((bif (a0.Agg != (1:Int)) then ((X3l a0.Arg).bind λv12=>some (bif (a0.Agg != (1:Int)) then (v12 != (0:Int)) else false)) else (some (bif (a0.Agg != (1:Int)) then false else false)):Option (Bool)).bind λXte=>bif Xte then ((X3l a0.Arg).bind λv16=>some v16) else ((bif (decide ((List.length a0.Where:Int)>(0:Int))) then ((X3l a0.Where).bind λv23=>some (bif (decide ((List.length a0.Where:Int)>(0:Int))) then (v23 != (0:Int)) else false)) else (some (bif (decide ((List.length a0.Where:Int)>(0:Int))) then false else false)):Option (Bool)).bind λXl9=>bif Xl9 then ((X3l a0.Where).bind λv27=>some v27) else ((X68 a0.Sources a0.Join).bind λv29=>bif (v29 != (0:Int)) then (some v29) else ((X6x a0.Window).bind λv32=>bif (bif (!v32) then true else (bif a0.Join then (a0.Window.Kind != (1:Int)) else false)) then (some 8) else (some 0))))))
def X5m (a0:Int):Option (Bool) :=
 some (bif (a0==(6:Int)) then true else (decide (a0 >= (12:Int))))
def X9o (a0:(List Xu)) (a1:Int):Option (Bool) :=
 (X0u a0 a1).bind λe1=>(X0u a0 e1.A).bind λe3=>(X5m e3.Kind).bind λv5=>(X0u a0 e1.B).bind λe7=>(X5m e7.Kind).bind λv9=>bif (decide (e1.Kind<=(4:Int))) then (some true) else (bif (e1.Kind==(5:Int)) then (some (!v5)) else (bif (e1.Kind==(6:Int)) then (some v5) else (bif (bif (e1.Kind==(16:Int)) then true else (e1.Kind==(17:Int))) then (some (v5==v9)) else (bif (decide (e1.Kind >= (18:Int))) then (some (bif v5 then v9 else false)) else (some (bif (!v5) then (!v9) else false))))))
inductive X5d where
 |x0
 |x1 (X3a:Int)
def X37 (X0a:(List Xu)):List Xu->Nat->Option X5d
 |[],k=>some (.x0)
 |x::xs,k=>(X9o X0a (k:Int)).bind λv10=>bif (!v10) then (some (.x1 (k:Int))) else (X37 X0a xs (k+1))
def Xa4 (a0:(List Xu)):Option (Int) :=
 (X3t (List.length a0)).bind λu1=>(X37  a0 a0 0).bind λo13=>match o13 with|.x0=>(some (List.length a0:Int))|.x1 X3a=>(some X3a)
def Xd7 (a0:(List Xu)):Option (Bool×Int×Int) :=
 (X3l a0).bind λv1=>bif (v1 != (0:Int)) then (some (false,0,v1)) else ((Xa4 a0).bind λv4=>bif (decide (v4<(List.length a0:Int))) then (some (false,v4,42)) else ((X0u a0 (IntKind.i64.wrap ((List.length a0:Int) - 1))).bind λe7=>(X5m e7.Kind).bind λv9=>some (v9,(IntKind.i64.wrap ((List.length a0:Int) - 1)),0)))
def X6y (a0:(List Xu)) (a1:Bool):Option (Int×Int) :=
 (Xd7 a0).bind λv1=>bif (bif (v1.2.2==(0:Int)) then (!(v1.1==a1)) else false) then (some (v1.2.1,42)) else (some (v1.2.1,v1.2.2))
def X88 (a0:Xt):Option (Int×Int) :=
 bif (decide ((List.length a0.Arg:Int)>(0:Int))) then ((X6y a0.Arg false).bind λv2=>bif (v2.2 != (0:Int)) then ((X0u a0.Arg v2.1).bind λe5=>some (e5.At,v2.2)) else (bif (decide ((List.length a0.Where:Int)>(0:Int))) then ((X6y a0.Where true).bind λv8=>bif (v8.2 != (0:Int)) then ((X0u a0.Where v8.1).bind λe11=>some (e11.At,v8.2)) else (some (0,0))) else (some (0,0)))) else (bif (decide ((List.length a0.Where:Int)>(0:Int))) then ((X6y a0.Where true).bind λv14=>bif (v14.2 != (0:Int)) then ((X0u a0.Where v14.1).bind λe17=>some (e17.At,v14.2)) else (some (0,0))) else (some (0,0)))
def X89 (a0:Xt):Option (Int×Int) :=
 (X8b a0).bind λv1=>bif (v1 != (0:Int)) then (some (0,v1)) else ((X88 a0).bind λv4=>some (v4.1,v4.2))
def X3k (a0:Int) (a1:Int):Option (Int) :=
 bif (bif (decide (a1<(1:Int))) then true else (decide (a1>(1073741824:Int)))) then (some 2) else (bif (bif (decide (a0<((-1099511627776):Int))) then true else (decide (a0>(1099511627776:Int)))) then (some 16) else (some 0))
def X35 (a0:Xa):Option (Bool) :=
 bif a0.Mark then ((bif (X2j a0.Record (X9.mk 0 0 0)) then (bif (a0.Time==(9223372036854775807:Int)) then (some (bif (X2j a0.Record (X9.mk 0 0 0)) then (bif (a0.Time==(9223372036854775807:Int)) then true else false) else false)) else ((X3k a0.Time 1).bind λv9=>some (bif (X2j a0.Record (X9.mk 0 0 0)) then (bif (a0.Time==(9223372036854775807:Int)) then true else (v9==(0:Int))) else false))) else (some (bif (X2j a0.Record (X9.mk 0 0 0)) then false else false)):Option (Bool)).bind λj6_2=>some j6_2) else ((bif (a0.Time==(0:Int)) then ((X3k a0.Record.Time 1).bind λv17=>some (bif (a0.Time==(0:Int)) then (v17==(0:Int)) else false)) else (some (bif (a0.Time==(0:Int)) then false else false)):Option (Bool)).bind λXzp=>some Xzp)
inductive X5c where
 |x0
 |x1
def X36 (X0a:(List Xa)):List Xa->Nat->Option X5c
 |[],k=>some (.x0)
 |x::xs,k=>(X35 x).bind λv11=>bif (!v11) then (some (.x1)) else (X36 X0a xs (k+1))
def X87 (a0:(List Xa)):Option (Int) :=
 bif (decide ((List.length a0:Int)>(60:Int))) then (some 4) else ((X3t (List.length a0)).bind λu2=>(X36  a0 a0 0).bind λo14=>match o14 with|.x0=>(some 0)|.x1=>(some 8))
inductive X5a where
 |x0
 |x1 (X3a:Int)
def X33 (X0a:(List (List Xa))):List (List Xa)->Nat->Option X5a
 |[],k=>some (.x0)
 |x::xs,k=>(X87 x).bind λv10=>bif (v10 != (0:Int)) then (some (.x1 v10)) else (X33 X0a xs (k+1))
def X85 (a0:(List (List Xa))):Option (Int) :=
 (X3t (List.length a0)).bind λu1=>(X33  a0 a0 0).bind λo13=>match o13 with|.x0=>(some 0)|.x1 X3a=>(some X3a)
def Xa2 (a0:Xt) (a1:(List (List Xa))):Option (Int) :=
 (X89 a0).bind λv1=>bif (v1.2 != (0:Int)) then (some v1.2) else (bif ((List.length a1:Int) != (List.length a0.Sources:Int)) then (some 2) else ((X85 a1).bind λv5=>some v5))
def Xbh (a0:Xt) (a1:(List (List Xa))):Option (Bool) :=
 ((X8a a0).bind λv10=>bif (!v10) then ((X86 a1).bind λv13=>bif (!v13) then ((Xa2 a0 a1).bind λv16=>some (bif (bif (!v10) then (!v13) else false) then (v16==(0:Int)) else false)) else (some (bif (bif (!v10) then (!v13) else false) then false else false))) else (some (bif (bif (!v10) then false else false) then false else false)):Option (Bool)).bind λj9_4=>some j9_4
inductive Xa3 where
 |x0 (Xi5:Int)
def X5l (X0a:(List Xa)):List Xa->Nat->Int->Option Xa3
 |[],k,Xcz=>some (.x0 Xcz)
 |x::xs,k,Xcz=>(bif x.Mark then (some (bif x.Mark then (decide (x.Time>Xcz)) else false)) else (some (bif x.Mark then false else false)):Option (Bool)).bind λXtb=>(bif Xtb then (some x.Time) else (some Xcz):Option (Int)).bind λXzo=>X5l X0a xs (k+1) Xzo
def Xc0 (a0:(List Xa)):Option (Int) :=
 (X3t (List.length a0)).bind λu1=>(X5l  a0 a0 0 (-9223372036854775808)).bind λo28=>match o28 with|.x0 Xi5=>(some Xi5)
inductive X42 where
 |x0 (X29:(List Xa))
def X19 (Xun:(List (List Xa))) (X95:Xt) (X9j:X9) (Xvn:Bool) (Xvm:(List X52)) (Xvl:(List X9)) (Xb6:Int) (Xcd:(List (List Xa))):Nat->(List Xa)->Int->Option X42
 |0,_,_=>none
 |n+1,Xb5,Xdt=>(X0u Xun Xb6).bind λe774=>bif (decide (Xdt<(List.length e774:Int))) then ((X0u e774 Xdt).bind λe777=>(bif e777.Mark then (some true) else ((X50 e774 0 Xdt).bind λm786=>(Xc0 m786).bind λv788=>some (bif e777.Mark then true else (decide (e777.Record.Time >= v788)))):Option (Bool)).bind λXmz=>(bif Xmz then ((X0u Xcd Xb6).bind λe798=>(X1p (List.length (Xb5++[e777])) 40).bind λu800=>some (Xb5++[e777])) else (some Xb5):Option ((List Xa))).bind λXgt=>X19 Xun X95 X9j Xvn Xvm Xvl Xb6 Xcd n Xgt (IntKind.i64.wrap (Xdt+1))) else (some (.x0 Xb5))
inductive X2m where
 |x0
 |x1
def X0s (X54:(List (List Xa))) (Xb:Xt) (Xc:X9) (Xkj:Bool) (Xbu:(List X52)) (Xbt:(List X9)):List (List Xa)->Nat->Option X2m
 |[],k=>some (.x0)
 |x::xs,k=>(X1p (List.length X54) 24).bind λu655=>(X19  X54 Xb Xc Xkj Xbu Xbt (k:Int) X54 FU ([]:List Xa) 0).bind λo832=>match o832 with|.x0 X29=>((X1i Xb (List.set X54 (Int.toNat (k:Int)) X29)).bind λv834=>(bif (v834.2.2 != (0:Int)) then (some (bif (v834.2.2 != (0:Int)) then true else false)) else ((X3w v834.1 Xbu).bind λv841=>some (bif (v834.2.2 != (0:Int)) then true else (!v841))):Option (Bool)).bind λXje=>bif Xje then (some (.x1)) else ((Xae Xc.Key Xc.Time Xc.Value).bind λv845=>((X35 v845).bind λv854=>bif (!v854) then (some true) else ((Xc0 x).bind λv857=>bif (decide (Xc.Time >= v857)) then (some true) else (some (bif (bif (!v854) then true else (decide (Xc.Time >= v857))) then true else (decide ((List.length x:Int) >= (60:Int)))))):Option (Bool)).bind λXjd=>bif Xjd then (X0s X54 Xb Xc Xkj Xbu Xbt xs (k+1)) else (bif (List.isEmpty x) then ((X1p (List.length (x++[v845])) 40).bind λu863=>(X0u (List.set X54 (Int.toNat (k:Int)) X29) (k:Int)).bind λe865=>(X1i Xb (List.set (List.set X54 (Int.toNat (k:Int)) X29) (Int.toNat (k:Int)) (x++[v845]))).bind λv867=>(bif (v867.2.2 != (0:Int)) then (some (bif (bif (v867.2.2 != (0:Int)) then true else false) then true else false)) else ((X3w v867.1 Xbu).bind λv876=>bif (!v876) then (some (bif (bif (v867.2.2 != (0:Int)) then true else (!v876)) then true else false)) else (bif (Xb.Late==(2:Int)) then (some (bif (bif (v867.2.2 != (0:Int)) then true else (!v876)) then true else (bif (Xb.Late==(2:Int)) then ((List.length v867.2.1:Int) != (IntKind.i64.wrap ((List.length Xbt:Int)+1))) else false))) else (some (bif (bif (v867.2.2 != (0:Int)) then true else (!v876)) then true else (bif (Xb.Late==(2:Int)) then false else false))))):Option (Bool)).bind λXjc=>bif Xjc then (some (.x1)) else (X0s X54 Xb Xc Xkj Xbu Xbt xs (k+1))) else ((X1p (List.length x) 40).bind λu882=>(X1p (List.length (x++[v845])) 40).bind λu884=>(X0u (List.set X54 (Int.toNat (k:Int)) X29) (k:Int)).bind λe886=>(X1i Xb (List.set (List.set X54 (Int.toNat (k:Int)) X29) (Int.toNat (k:Int)) (x++[v845]))).bind λv888=>(bif (v888.2.2 != (0:Int)) then (some (bif (bif (v888.2.2 != (0:Int)) then true else false) then true else false)) else ((X3w v888.1 Xbu).bind λv897=>bif (!v897) then (some (bif (bif (v888.2.2 != (0:Int)) then true else (!v897)) then true else false)) else (bif (Xb.Late==(2:Int)) then (some (bif (bif (v888.2.2 != (0:Int)) then true else (!v897)) then true else (bif (Xb.Late==(2:Int)) then ((List.length v888.2.1:Int) != (IntKind.i64.wrap ((List.length Xbt:Int)+1))) else false))) else (some (bif (bif (v888.2.2 != (0:Int)) then true else (!v897)) then true else (bif (Xb.Late==(2:Int)) then false else false))))):Option (Bool)).bind λXjb=>bif Xjb then (some (.x1)) else (X0s X54 Xb Xc Xkj Xbu Xbt xs (k+1))))))
def X3c (a0:Xt) (a1:(List (List Xa))) (a2:X9):Option (Bool) :=
 (Xaf).bind λv1=>(Xbh a0 a1).bind λv3=>bif (bif (!v3) then true else (!v1)) then (some v1) else ((X1i a0 a1).bind λv6=>(bif (v6.2.2 != (0:Int)) then (some (bif (v6.2.2 != (0:Int)) then true else false)) else (bif (a0.Late==(1:Int)) then (some (bif (v6.2.2 != (0:Int)) then true else (bif (a0.Late==(1:Int)) then (decide ((List.length v6.2.1:Int)>(0:Int))) else false))) else (some (bif (v6.2.2 != (0:Int)) then true else (bif (a0.Late==(1:Int)) then false else false)))):Option (Bool)).bind λXtd=>bif Xtd then (some false) else ((X3t (List.length a1)).bind λu15=>(X0s  a1 a0 a2 v1 v6.1 v6.2.1 a1 0).bind λo972=>match o972 with|.x0=>(some v1)|.x1=>(some false)))
end
end Go.D
