/- Printed by decomp.py: the functions. -/
import Derived.Test.YtiabgnmhobiooaaDTypesZ
set_option linter.all false

namespace Go.D
noncomputable section
def X6y (a0:(List X1)):Option (Bool) :=
 some (decide ((List.length a0:Int)>(70:Int)))
def X6u (a0:X2):Option (Bool) :=
 ((X6y a0.Arg).bind λv8=>bif v8 then (some (bif (bif v8 then true else false) then true else false)) else ((X6y a0.Where).bind λv11=>bif v11 then (some (bif (bif v8 then true else v11) then true else false)) else (some (bif (bif v8 then true else v11) then true else (decide ((List.length a0.Sources:Int)>(10:Int)))))):Option (Bool)).bind λXvl=>some Xvl
def X1z (a0:Int):Option (Int×Int) :=
 bif (bif (decide (a0 >= (1:Int))) then (decide (a0<=(4:Int))) else false) then (some (0,0)) else (bif (bif (a0==(5:Int)) then true else (a0==(6:Int))) then (some (1,0)) else (bif (bif (decide (a0 >= (7:Int))) then (decide (a0<=(19:Int))) else false) then (some (2,0)) else (some (0,2))))
inductive X3m where
 |x0 (Xm:(List Xb)) (Xs:(List Xb))
 |x1 (X00:(List Xb))
def X16 (X3h:(List X1)):List X1->Nat->(List Xb)->(List Xb)->Option X3m
 |[],k,Xi,Xc=>some (.x0 Xi Xc)
 |x::xs,k,Xi,Xc=>(X1z x.Kind).bind λv318=>(bif (v318.2 != (0:Int)) then (some (bif (v318.2 != (0:Int)) then true else false)) else (some (bif (v318.2 != (0:Int)) then true else (decide (v318.1>(List.length Xc:Int))))):Option (Bool)).bind λXi1=>bif Xi1 then (some (.x1 Xi)) else ((X79 Xc 0 (IntKind.i64.wrap ((List.length Xc:Int) - v318.1))).bind λm331=>(X79 Xc (IntKind.i64.wrap ((List.length Xc:Int) - v318.1)) (List.length Xc:Int)).bind λm333=>bif (List.isEmpty m333) then ((bif (x.Kind==(1:Int)) then (some (X1.mk x.Kind (if 0>x.N then 0 else x.N) 0 0 (if 400<(if 0>x.At then 0 else x.At) then 400 else (if 0>x.At then 0 else x.At)))) else (some (X1.mk x.Kind 0 0 0 (if 400<(if 0>x.At then 0 else x.At) then 400 else (if 0>x.At then 0 else x.At)))):Option (X1)).bind λXi0=>bif (!(X1f Xi0 x)) then (some (.x1 Xi)) else ((X14 (List.length (m331++[(Xb.mk (k:Int) 1 1)])) 24).bind λu341=>(X14 (List.length (Xi++[(Xb.mk (k:Int) 1 1)])) 24).bind λu343=>X16 X3h xs (k+1) (Xi++[(Xb.mk (k:Int) 1 1)]) (m331++[(Xb.mk (k:Int) 1 1)]))) else (bif ((List.length m333:Int)==(1:Int)) then ((getI m333 0).bind λe346=>(bif (x.Kind==(1:Int)) then (some (X1.mk x.Kind (if 0>x.N then 0 else x.N) e346.at_ 0 (if 400<(if 0>x.At then 0 else x.At) then 400 else (if 0>x.At then 0 else x.At)))) else (some (X1.mk x.Kind 0 e346.at_ 0 (if 400<(if 0>x.At then 0 else x.At) then 400 else (if 0>x.At then 0 else x.At)))):Option (X1)).bind λXhz=>bif (!(X1f Xhz x)) then (some (.x1 Xi)) else ((X14 (List.length (m331++[(Xb.mk (k:Int) (IntKind.i64.wrap (1+e346.size)) (if (IntKind.i64.wrap (e346.depth+1))>1 then (IntKind.i64.wrap (e346.depth+1)) else 1))])) 24).bind λu353=>(X14 (List.length (Xi++[(Xb.mk (k:Int) (IntKind.i64.wrap (1+e346.size)) (if (IntKind.i64.wrap (e346.depth+1))>1 then (IntKind.i64.wrap (e346.depth+1)) else 1))])) 24).bind λu355=>X16 X3h xs (k+1) (Xi++[(Xb.mk (k:Int) (IntKind.i64.wrap (1+e346.size)) (if (IntKind.i64.wrap (e346.depth+1))>1 then (IntKind.i64.wrap (e346.depth+1)) else 1))]) (m331++[(Xb.mk (k:Int) (IntKind.i64.wrap (1+e346.size)) (if (IntKind.i64.wrap (e346.depth+1))>1 then (IntKind.i64.wrap (e346.depth+1)) else 1))]))) else (bif ((List.length m333:Int)==(2:Int)) then ((getI m333 0).bind λe358=>(getI m333 1).bind λe360=>(bif (x.Kind==(1:Int)) then (some (X1.mk x.Kind (if 0>x.N then 0 else x.N) e358.at_ e360.at_ (if 400<(if 0>x.At then 0 else x.At) then 400 else (if 0>x.At then 0 else x.At)))) else (some (X1.mk x.Kind 0 e358.at_ e360.at_ (if 400<(if 0>x.At then 0 else x.At) then 400 else (if 0>x.At then 0 else x.At)))):Option (X1)).bind λXhy=>bif (!(X1f Xhy x)) then (some (.x1 Xi)) else ((X14 (List.length (m331++[(Xb.mk (k:Int) (IntKind.i64.wrap ((IntKind.i64.wrap (1+e358.size))+e360.size)) (if (IntKind.i64.wrap (e360.depth+1))>(if (IntKind.i64.wrap (e358.depth+1))>1 then (IntKind.i64.wrap (e358.depth+1)) else 1) then (IntKind.i64.wrap (e360.depth+1)) else (if (IntKind.i64.wrap (e358.depth+1))>1 then (IntKind.i64.wrap (e358.depth+1)) else 1)))])) 24).bind λu367=>(X14 (List.length (Xi++[(Xb.mk (k:Int) (IntKind.i64.wrap ((IntKind.i64.wrap (1+e358.size))+e360.size)) (if (IntKind.i64.wrap (e360.depth+1))>(if (IntKind.i64.wrap (e358.depth+1))>1 then (IntKind.i64.wrap (e358.depth+1)) else 1) then (IntKind.i64.wrap (e360.depth+1)) else (if (IntKind.i64.wrap (e358.depth+1))>1 then (IntKind.i64.wrap (e358.depth+1)) else 1)))])) 24).bind λu369=>X16 X3h xs (k+1) (Xi++[(Xb.mk (k:Int) (IntKind.i64.wrap ((IntKind.i64.wrap (1+e358.size))+e360.size)) (if (IntKind.i64.wrap (e360.depth+1))>(if (IntKind.i64.wrap (e358.depth+1))>1 then (IntKind.i64.wrap (e358.depth+1)) else 1) then (IntKind.i64.wrap (e360.depth+1)) else (if (IntKind.i64.wrap (e358.depth+1))>1 then (IntKind.i64.wrap (e358.depth+1)) else 1)))]) (m331++[(Xb.mk (k:Int) (IntKind.i64.wrap ((IntKind.i64.wrap (1+e358.size))+e360.size)) (if (IntKind.i64.wrap (e360.depth+1))>(if (IntKind.i64.wrap (e358.depth+1))>1 then (IntKind.i64.wrap (e358.depth+1)) else 1) then (IntKind.i64.wrap (e360.depth+1)) else (if (IntKind.i64.wrap (e358.depth+1))>1 then (IntKind.i64.wrap (e358.depth+1)) else 1)))]))) else none)))
def X9i (a0:(List X1)):Option ((List Xb)×Bool) :=
 (X6f (List.length a0)).bind λu1=>(X16  a0 a0 0 ([]:List Xb) ([]:List Xb)).bind λo475=>match o475 with|.x0 Xm Xs=>(some (Xm,((List.length Xs:Int)==(1:Int))))|.x1 X00=>(some (X00,false))
def X5k (a0:(List X1)):Option ((List Xb)×Int) :=
 bif (decide ((List.length a0:Int)>(60:Int))) then (some (([]:List Xb),4)) else ((X9i a0).bind λv2=>bif (!v2.2) then (some (([]:List Xb),8)) else ((getI v2.1 (IntKind.i64.wrap ((List.length v2.1:Int) - 1))).bind λe5=>bif (decide (e5.depth>(20:Int))) then (some (([]:List Xb),34)) else (some (v2.1,0))))
def X1d (a0:(List X1)):Option (Int) :=
 (X5k a0).bind λv1=>some v1.2
def X3z (a0:Int):Option (Bool) :=
 some (bif (decide (a0<(0:Int))) then true else (decide (a0 >= (4:Int))))
inductive X15 where
 |x0
 |x1 (X7q:Int)
def X0b (X0a:(List Int)):List Int->Nat->Option X15
 |[],k=>some (.x0)
 |x::xs,k=>(X3z x).bind λv10=>bif v10 then (some (.x1 (k:Int))) else (X0b X0a xs (k+1))
def X09 (a0:(List Int)):Option (Int) :=
 (X6f (List.length a0)).bind λu1=>(X0b  a0 a0 0).bind λo13=>match o13 with|.x0=>(some (-1))|.x1 X7q=>(some X7q)
def Xj (a0:(List Int)):Option (Bool) :=
 (X09 a0).bind λv1=>some (decide (v1 >= (0:Int)))
def X21 (l:List Int):Option Int:=(X6f (List.length l)).bind λ_=>some ((X60 [] l).length:Int)
def X1i (a0:(List Int)) (a1:Bool):Option (Int) :=
 bif (decide ((List.length a0:Int)>(4:Int))) then (some 4) else ((bif ((List.length a0:Int)==(0:Int)) then (some (bif (bif ((List.length a0:Int)==(0:Int)) then true else false) then true else false)) else (bif a1 then (bif ((List.length a0:Int) != (2:Int)) then (some (bif (bif ((List.length a0:Int)==(0:Int)) then true else (bif a1 then ((List.length a0:Int) != (2:Int)) else false)) then true else false)) else ((Xj a0).bind λv13=>some (bif (bif ((List.length a0:Int)==(0:Int)) then true else (bif a1 then ((List.length a0:Int) != (2:Int)) else false)) then true else v13))) else ((Xj a0).bind λv15=>some (bif (bif ((List.length a0:Int)==(0:Int)) then true else (bif a1 then false else false)) then true else v15))):Option (Bool)).bind λXsb=>bif Xsb then (some 8) else ((X21 a0).bind λv19=>bif (decide (v19<(List.length a0:Int))) then (some 43) else (some 0)))
def X0v (a0:X3):Option (Int) :=
 bif (bif (decide (a0.Size<(1:Int))) then true else (decide (a0.Size>(1073741824:Int)))) then (some 8) else (bif (a0.Kind==(2:Int)) then (bif (bif (bif (decide (a0.Every >= (1:Int))) then (decide (a0.Every<=a0.Size)) else false) then (decide (a0.Size<=(IntKind.i64.wrap (16*a0.Every)))) else false) then (some 0) else (some 8)) else (bif (a0.Kind==(1:Int)) then (bif (a0.Every==(0:Int)) then (some 0) else (some 8)) else (bif (a0.Kind==(3:Int)) then (bif (a0.Every==(0:Int)) then (some 0) else (some 8)) else (some 8))))
def X52 (a0:X2):Option (Int) :=
 bif (bif (bif (decide (a0.Agg<(1:Int))) then true else (decide (a0.Agg>(4:Int)))) then true else (bif (a0.Late != (1:Int)) then (a0.Late != (2:Int)) else false)) then (some 8) else (bif (a0.Agg != (1:Int)) then ((X1d a0.Arg).bind λv3=>bif (v3 != (0:Int)) then (some v3) else (bif (decide ((List.length a0.Where:Int)>(0:Int))) then ((X1d a0.Where).bind λv7=>bif (v7 != (0:Int)) then (some v7) else ((X1i a0.Sources a0.Join).bind λv10=>bif (v10 != (0:Int)) then (some v10) else (bif (bif a0.Join then (a0.Window.Kind != (1:Int)) else false) then (some 8) else ((X0v a0.Window).bind λv14=>some v14)))) else ((X1i a0.Sources a0.Join).bind λv16=>bif (v16 != (0:Int)) then (some v16) else (bif (bif a0.Join then (a0.Window.Kind != (1:Int)) else false) then (some 8) else ((X0v a0.Window).bind λv20=>some v20))))) else (bif (decide ((List.length a0.Arg:Int)>(0:Int))) then (some 8) else (bif (decide ((List.length a0.Where:Int)>(0:Int))) then ((X1d a0.Where).bind λv24=>bif (v24 != (0:Int)) then (some v24) else ((X1i a0.Sources a0.Join).bind λv27=>bif (v27 != (0:Int)) then (some v27) else (bif (bif a0.Join then (a0.Window.Kind != (1:Int)) else false) then (some 8) else ((X0v a0.Window).bind λv31=>some v31)))) else ((X1i a0.Sources a0.Join).bind λv33=>bif (v33 != (0:Int)) then (some v33) else (bif (bif a0.Join then (a0.Window.Kind != (1:Int)) else false) then (some 8) else ((X0v a0.Window).bind λv37=>some v37))))))
inductive X18 where
 |x0
 |x1
def Xu (Xc:(List Bool)) (X8u:(V2 Bool)) (X6b:(List Int)):List Int->Nat->Option X18
 |[],k=>some (.x0)
 |x::xs,k=>(getI Xc x).bind λe3011=>bif (!(e3011==false)) then (some (.x1)) else (Xu Xc X8u X6b xs (k+1))
inductive X11 where
 |x0
 |x1
def Xv (Xc:(List Bool)) (Xe2:(List Int)):List Int->Nat->Option X11
 |[],k=>some (.x0)
 |x::xs,k=>(getI Xc x).bind λe3127=>bif (!(e3127==true)) then (some (.x1)) else (Xv Xc Xe2 xs (k+1))
inductive X3n where
 |x0 (Xs:(List Bool))
 |x1 (X00:(List Bool)) (Xep:Int)
def X0y (X0a:(List X1)):List X1->Nat->(List Bool)->Option X3n
 |[],k,Xc=>some (.x0 Xc)
 |x::xs,k,Xc=>bif (decide (x.Kind<=(4:Int))) then ((X14 (List.length (Xc++[false])) 1).bind λu2525=>X0y X0a xs (k+1) (Xc++[false])) else (bif (x.Kind==(5:Int)) then (((getI Xc x.A).bind λe2546=>bif (!(e2546==false)) then (some (bif (!(bif true then false else false)) then (!(bif false then false else false)) else false)) else (some (bif (!(bif true then true else false)) then false else false)):Option (Bool)).bind λXfr=>bif Xfr then (some (.x1 ([]:List Bool) (k:Int))) else ((X14 (List.length (Xc++[false])) 1).bind λu2551=>X0y X0a xs (k+1) (Xc++[false]))) else (bif (x.Kind==(6:Int)) then (((getI Xc x.A).bind λe2571=>bif (!(e2571==true)) then (some false) else (some true):Option (Bool)).bind λXfq=>bif (bif (!(bif false then false else false)) then (!(bif true then Xfq else false)) else false) then (some (.x1 ([]:List Bool) (k:Int))) else ((X14 (List.length (Xc++[true])) 1).bind λu2576=>X0y X0a xs (k+1) (Xc++[true]))) else ((bif (decide (x.Kind<=(11:Int))) then (some ((V2.mk true false),false)) else (bif (decide (x.Kind<=(15:Int))) then (some ((V2.mk true false),true)) else (bif (decide (x.Kind<=(17:Int))) then (some ((V2.mk true true),true)) else (some ((V2.mk false true),true)))):Option ((V2 Bool)×Bool)).bind λw2581=>(bif w2581.1.e0 then (((X6f (List.length [x.A,x.B])).bind λu2980=>(Xu  Xc w2581.1 [x.A,x.B] [x.A,x.B] 0).bind λo3016=>match o3016 with|.x0=>(some true)|.x1=>(some false):Option (Bool)).bind λX8i=>bif (!(bif w2581.1.e0 then X8i else false)) then (bif w2581.1.e1 then (((X6f (List.length [x.A,x.B])).bind λu3096=>(Xv  Xc [x.A,x.B] [x.A,x.B] 0).bind λo3132=>match o3132 with|.x0=>(some true)|.x1=>(some false):Option (Bool)).bind λXfo=>some (bif (!(bif w2581.1.e0 then X8i else false)) then (!(bif w2581.1.e1 then Xfo else false)) else false)) else (some (bif (!(bif w2581.1.e0 then X8i else false)) then (!(bif w2581.1.e1 then false else false)) else false))) else (some (bif (!(bif w2581.1.e0 then X8i else false)) then false else false))) else (bif (!(bif w2581.1.e0 then false else false)) then (bif w2581.1.e1 then (((X6f (List.length [x.A,x.B])).bind λu3192=>(Xv  Xc [x.A,x.B] [x.A,x.B] 0).bind λo3218=>match o3218 with|.x0=>(some true)|.x1=>(some false):Option (Bool)).bind λXfn=>some (bif (!(bif w2581.1.e0 then false else false)) then (!(bif w2581.1.e1 then Xfn else false)) else false)) else (some (bif (!(bif w2581.1.e0 then false else false)) then (!(bif w2581.1.e1 then false else false)) else false))) else (some (bif (!(bif w2581.1.e0 then false else false)) then false else false))):Option (Bool)).bind λXfp=>bif Xfp then (some (.x1 ([]:List Bool) (k:Int))) else ((X14 (List.length (Xc++[w2581.2])) 1).bind λu3223=>X0y X0a xs (k+1) (Xc++[w2581.2])))))
def X6n (a0:(List X1)):Option ((List Bool)×Int) :=
 (X6f (List.length a0)).bind λu1=>(X0y  a0 a0 0 ([]:List Bool)).bind λo3784=>match o3784 with|.x0 Xs=>(some (Xs,(List.length a0:Int)))|.x1 X00 Xep=>(some (X00,Xep))
def X7b (a0:(List X1)):Option (Bool×Int×Int) :=
 (X1d a0).bind λv1=>bif (v1 != (0:Int)) then (some (false,0,v1)) else ((X6n a0).bind λv4=>bif (decide (v4.2<(List.length a0:Int))) then (some (false,v4.2,42)) else ((getI v4.1 (IntKind.i64.wrap (v4.2 - 1))).bind λe7=>some (e7,(IntKind.i64.wrap (v4.2 - 1)),0)))
def X6m (a0:(List X1)) (a1:Bool):Option (Int×Int) :=
 (X7b a0).bind λv1=>(bif (bif (v1.2.2==(0:Int)) then (!(v1.1==a1)) else false) then (some 42) else (some v1.2.2):Option (Int)).bind λXvm=>some (v1.2.1,Xvm)
def X71 (a0:(List X1)):Option (Int×Int) :=
 (X6m a0 true).bind λv1=>some (v1.1,v1.2)
def X7c (a0:(List X1)):Option (Int×Int) :=
 (X6m a0 false).bind λv1=>some (v1.1,v1.2)
def X3r (a0:X2):Option (Int×Int) :=
 (X52 a0).bind λv1=>bif (v1 != (0:Int)) then (some (0,v1)) else ((bif ((List.length a0.Arg:Int)==(0:Int)) then (bif ((List.length a0.Where:Int)==(0:Int)) then (some (0,0)) else ((X71 a0.Where).bind λv25=>bif (v25.2 != (0:Int)) then ((getI a0.Where v25.1).bind λe28=>some (e28.At,v25.2)) else (some (0,0)))) else ((X7c a0.Arg).bind λv30=>bif (v30.2 != (0:Int)) then ((getI a0.Arg v30.1).bind λe33=>some (e33.At,v30.2)) else (bif ((List.length a0.Where:Int)==(0:Int)) then (some (0,0)) else ((X71 a0.Where).bind λv36=>bif (v36.2 != (0:Int)) then ((getI a0.Where v36.1).bind λe39=>some (e39.At,v36.2)) else (some (0,0))))):Option (Int×Int)).bind λw22=>some (w22.1,w22.2))
def X13 (a0:(List X1)):Option ((List X1)) :=
 bif (List.isEmpty a0) then (some a0) else ((X14 (List.length a0) 40).bind λu4=>some a0)
def X20 (a0:(List Int)):Option ((List Int)) :=
 bif (List.isEmpty a0) then (some a0) else ((X14 (List.length a0) 8).bind λu4=>some a0)
def X5u (a0:X2):Option (X2) :=
 (X13 a0.Arg).bind λv1=>(X20 a0.Sources).bind λv3=>(X13 a0.Where).bind λv5=>some (X2.mk a0.Agg v1 v3 a0.Join v5 a0.Window a0.ByKey a0.Late)
def X91 (a0:(List X1)):Option ((List Bool)×Int) :=
 (X7b a0).bind λv1=>bif (v1.2.2 != (0:Int)) then (some (([]:List Bool),v1.2.2)) else ((X6n a0).bind λv4=>some (v4.1,0))
def X7x (a0:(List X1)) (a1:Int):Option (Int×Int) :=
 (X5k a0).bind λv1=>bif (v1.2 != (0:Int)) then (some (0,v1.2)) else ((bif (decide (a1<(0:Int))) then (some (bif (decide (a1<(0:Int))) then true else false)) else (some (bif (decide (a1<(0:Int))) then true else (decide (a1 >= (List.length v1.1:Int))))):Option (Bool)).bind λXse=>bif Xse then (some (0,2)) else ((getI v1.1 a1).bind λe9=>some (e9.size,0)))
inductive X66 where
 |x0 (Xm:(List X1))
def X26 (X5r:Int) (Xga:Int):Nat->(List X1)->Int->Option X66
 |0,_,_=>none
 |n+1,Xi,Xa0=>bif (decide (Xa0<Xga)) then ((getI Xi Xa0).bind λe86=>(X1z e86.Kind).bind λv88=>(bif (decide (v88.1>(0:Int))) then (some (List.set Xi (Int.toNat Xa0) (X1.mk e86.Kind e86.N (IntKind.i64.wrap (e86.A+X5r)) e86.B e86.At))) else (some Xi):Option ((List X1))).bind λXde=>(bif (decide (v88.1>(1:Int))) then ((getI Xde Xa0).bind λe99=>some (List.set Xde (Int.toNat Xa0) (X1.mk e99.Kind e99.N e99.A (IntKind.i64.wrap (e99.B+X5r)) e99.At))) else (some Xde):Option ((List X1))).bind λXgq=>X26 X5r Xga n Xgq (IntKind.i64.wrap (Xa0+1))) else (some (.x0 Xi))
def X4l (a0:(List X1)) (a1:Int):Option ((List X1)) :=
 (bif (List.isEmpty a0) then (some a0) else ((X14 (List.length a0) 40).bind λu10=>some a0):Option ((List X1))).bind λXgs=>(X26  a1 (List.length Xgs:Int) FU Xgs 0).bind λo113=>match o113 with|.x0 Xm=>(some Xm)
def X7y (a0:(List X1)) (a1:Int):Option ((List X1)×Int) :=
 (X7x a0 a1).bind λv1=>bif (v1.2 != (0:Int)) then (some (([]:List X1),v1.2)) else ((X79 a0 (IntKind.i64.wrap ((IntKind.i64.wrap (a1+1)) - v1.1)) (IntKind.i64.wrap (a1+1))).bind λm4=>(X4l m4 (IntKind.i64.wrap (0 - (IntKind.i64.wrap ((IntKind.i64.wrap (a1+1)) - v1.1))))).bind λv6=>some (v6,0))
def X1q (a0:X1):Option (Bool) :=
 (bif (X1f (X1.mk a0.Kind a0.N a0.A a0.B 0) (X1.mk 2 0 0 0 0)) then (some (bif (bif (X1f (X1.mk a0.Kind a0.N a0.A a0.B 0) (X1.mk 2 0 0 0 0)) then true else false) then true else false)) else (bif (X1f (X1.mk a0.Kind a0.N a0.A a0.B 0) (X1.mk 3 0 0 0 0)) then (some (bif (bif (X1f (X1.mk a0.Kind a0.N a0.A a0.B 0) (X1.mk 2 0 0 0 0)) then true else (X1f (X1.mk a0.Kind a0.N a0.A a0.B 0) (X1.mk 3 0 0 0 0))) then true else false)) else (some (bif (bif (X1f (X1.mk a0.Kind a0.N a0.A a0.B 0) (X1.mk 2 0 0 0 0)) then true else (X1f (X1.mk a0.Kind a0.N a0.A a0.B 0) (X1.mk 3 0 0 0 0))) then true else (X1f (X1.mk a0.Kind a0.N a0.A a0.B 0) (X1.mk 4 0 0 0 0))))):Option (Bool)).bind λXvn=>some Xvn
inductive X0w where
 |x0
 |x1 (X7q:Int)
def Xt (X0a:(List X1)):List X1->Nat->Option X0w
 |[],k=>some (.x0)
 |x::xs,k=>(X1q x).bind λv10=>bif v10 then (some (.x1 (k:Int))) else (Xt X0a xs (k+1))
def X04 (a0:(List X1)):Option (Int) :=
 (X6f (List.length a0)).bind λu1=>(Xt  a0 a0 0).bind λo13=>match o13 with|.x0=>(some (-1))|.x1 X7q=>(some X7q)
def Xx (a0:(List X1)):Option (Bool) :=
 (X04 a0).bind λv1=>some (decide (v1 >= (0:Int)))
def X3q (a0:(List X1)):Option (Bool×Int) :=
 (X1d a0).bind λv1=>bif (v1 != (0:Int)) then (some (false,v1)) else ((Xx a0).bind λv4=>some ((!v4),0))
def X75 (a0:(List X1)):Option (Int) :=
 (X7b a0).bind λv1=>some v1.2.2
def X2f (a0:Bool):Option (Int) :=
 bif a0 then (some 1) else (some 0)
def X67 (a0:Int) (a1:Int) (a2:Int):Option (Int×Int) :=
 bif (a0==(5:Int)) then (some ((IntKind.i64.wrap (0 - a1)),0)) else (bif (a0==(6:Int)) then ((X2f (a1==(0:Int))).bind λv3=>some (v3,0)) else (bif (a0==(7:Int)) then (some ((IntKind.i64.wrap (a1*a2)),0)) else (bif (a0==(8:Int)) then (some ((IntKind.i64.wrap (a1+a2)),0)) else (bif (a0==(9:Int)) then (some ((IntKind.i64.wrap (a1 - a2)),0)) else (bif (a0==(10:Int)) then ((Xqs (bits .and IntKind.i64 a2 63)).bind λu9=>some ((IntKind.i64.wrap (a1*2 ^ (min (Int.toNat (bits .and IntKind.i64 a2 63)) IntKind.i64.bits))),0)) else (bif (a0==(11:Int)) then ((Xqs (bits .and IntKind.i64 a2 63)).bind λu12=>some ((Int.fdiv a1 (2 ^ (min (Int.toNat (bits .and IntKind.i64 a2 63)) IntKind.i64.bits))),0)) else (bif (a0==(12:Int)) then ((X2f (decide (a1<a2))).bind λv15=>some (v15,0)) else (bif (a0==(13:Int)) then ((X2f (decide (a1<=a2))).bind λv18=>some (v18,0)) else (bif (a0==(14:Int)) then ((X2f (decide (a1>a2))).bind λv21=>some (v21,0)) else (bif (a0==(15:Int)) then ((X2f (decide (a1 >= a2))).bind λv24=>some (v24,0)) else (bif (a0==(16:Int)) then ((X2f (a1==a2)).bind λv27=>some (v27,0)) else (bif (a0==(17:Int)) then ((X2f (a1 != a2)).bind λv30=>some (v30,0)) else (bif (a0==(18:Int)) then ((X2f (bif (a1 != (0:Int)) then (a2 != (0:Int)) else false)).bind λv33=>some (v33,0)) else (bif (a0==(19:Int)) then ((X2f ((bits .or IntKind.i64 a1 a2) != (0:Int))).bind λv36=>some (v36,0)) else (some (0,2))))))))))))))))
inductive X5q where
 |x0 (Xm:(List Int))
 |x1 (X00:(List Int)) (Xeo:Int)
def X17 (Xi:(V5 Int)) (Xb3:(List X1)):List X1->Nat->(List Int)->Option X5q
 |[],k,Xc=>some (.x0 Xc)
 |x::xs,k,Xc=>bif (x.Kind==(1:Int)) then ((getI Xc (k:Int)).bind λe88=>X17 Xi Xb3 xs (k+1) (List.set Xc (Int.toNat (k:Int)) x.N)) else (bif (decide (x.Kind<=(4:Int))) then ((bif (x.Kind==(0:Int)) then ((getI Xc (k:Int)).bind λe105=>some (List.set Xc (Int.toNat (k:Int)) Xi.e0)) else (bif (x.Kind==(2:Int)) then ((getI Xc (k:Int)).bind λe108=>some (List.set Xc (Int.toNat (k:Int)) Xi.e2)) else (bif (x.Kind==(3:Int)) then ((getI Xc (k:Int)).bind λe111=>some (List.set Xc (Int.toNat (k:Int)) Xi.e3)) else (bif (x.Kind==(4:Int)) then ((getI Xc (k:Int)).bind λe114=>some (List.set Xc (Int.toNat (k:Int)) Xi.e4)) else none))):Option ((List Int))).bind λXbh=>X17 Xi Xb3 xs (k+1) Xbh) else ((getI Xc x.A).bind λe117=>(getI Xc x.B).bind λe119=>(X67 x.Kind e117 e119).bind λv121=>bif (v121.2 != (0:Int)) then (some (.x1 ([]:List Int) v121.2)) else ((getI Xc (k:Int)).bind λe124=>X17 Xi Xb3 xs (k+1) (List.set Xc (Int.toNat (k:Int)) v121.1))))
def X9d (a0:(List X1)) (a1:X0z):Option ((List Int)×Int) :=
 (X75 a0).bind λv1=>bif (v1 != (0:Int)) then (some (([]:List Int),v1)) else ((Xoi (List.length a0:Int) (List.length a0:Int) 8).bind λu4=>(X6f (List.length a0)).bind λu6=>(X17  (V5.mk 0 0 a1.Key a1.Time a1.Value) a0 a0 0 (List.replicate (Int.toNat (List.length a0:Int)) 0)).bind λo126=>match o126 with|.x0 Xm=>(some (Xm,0))|.x1 X00 Xeo=>(some (X00,Xeo)))
def X6h (a0:(List X1)) (a1:X0z):Option (Int×Int) :=
 (X9d a0 a1).bind λv1=>bif (v1.2 != (0:Int)) then (some (0,v1.2)) else ((getI v1.1 (IntKind.i64.wrap ((List.length v1.1:Int) - 1))).bind λe4=>some (e4,0))
def X5m (a0:(List X1)):Option (Int×Bool×Int) :=
 (X7b a0).bind λv1=>bif (v1.2.2 != (0:Int)) then (some (0,false,v1.2.2)) else ((X3q a0).bind λv4=>bif (bif (v4.2 != (0:Int)) then true else (!v4.1)) then (some (0,false,v4.2)) else ((X6h a0 (X0z.mk 0 0 0)).bind λv7=>some (v7.1,(v7.2==(0:Int)),v7.2)))
def X3o (a0:Int) (a1:Int):Option ((List X1)) :=
 some [(X1.mk 1 a0 0 0 a1)]
inductive X4w where
 |x0 (Xm:X1) (Xs:(List X1))
 |x1 (X00:(List X1)) (Xem:Int)
def X1c (X8s:(List (List X1))):List (List X1)->Nat->X1->(List X1)->Option X4w
 |[],k,Xi,Xc=>some (.x0 Xi Xc)
 |x::xs,k,Xi,Xc=>(X1d x).bind λv87=>bif (v87 != (0:Int)) then (some (.x1 ([]:List X1) v87)) else ((X4l x (List.length Xc:Int)).bind λv90=>bif (List.isEmpty v90) then ((bif ((k:Int)==(0:Int)) then (some (X1.mk Xi.Kind Xi.N (IntKind.i64.wrap ((List.length (Xc++v90):Int) - 1)) Xi.B Xi.At)) else (some (X1.mk Xi.Kind Xi.N Xi.A (IntKind.i64.wrap ((List.length (Xc++v90):Int) - 1)) Xi.At)):Option (X1)).bind λXm8=>X1c X8s xs (k+1) Xm8 (Xc++v90)) else ((X14 (List.length (Xc++v90)) 40).bind λu97=>(bif ((k:Int)==(0:Int)) then (some (X1.mk Xi.Kind Xi.N (IntKind.i64.wrap ((List.length (Xc++v90):Int) - 1)) Xi.B Xi.At)) else (some (X1.mk Xi.Kind Xi.N Xi.A (IntKind.i64.wrap ((List.length (Xc++v90):Int) - 1)) Xi.At)):Option (X1)).bind λXi3=>X1c X8s xs (k+1) Xi3 (Xc++v90)))
def X27 (a0:Int) (a1:Int) (a2:Int) (a3:(List (List X1))):Option ((List X1)×Int) :=
 (X1z a0).bind λv1=>(bif (v1.2 != (0:Int)) then (some (bif (bif (bif (bif (bif (v1.2 != (0:Int)) then true else false) then true else false) then true else false) then true else false) then true else false)) else (bif (v1.1 != (List.length a3:Int)) then (some (bif (bif (bif (bif (bif (v1.2 != (0:Int)) then true else (v1.1 != (List.length a3:Int))) then true else false) then true else false) then true else false) then true else false)) else (bif (decide (a1<(0:Int))) then (some (bif (bif (bif (bif (bif (v1.2 != (0:Int)) then true else (v1.1 != (List.length a3:Int))) then true else (decide (a1<(0:Int)))) then true else false) then true else false) then true else false)) else (bif (decide (a1>(0:Int))) then (bif (a0 != (1:Int)) then (some (bif (bif (bif (bif (bif (v1.2 != (0:Int)) then true else (v1.1 != (List.length a3:Int))) then true else (decide (a1<(0:Int)))) then true else (bif (decide (a1>(0:Int))) then (a0 != (1:Int)) else false)) then true else false) then true else false)) else (bif (decide (a2<(0:Int))) then (some (bif (bif (bif (bif (bif (v1.2 != (0:Int)) then true else (v1.1 != (List.length a3:Int))) then true else (decide (a1<(0:Int)))) then true else (bif (decide (a1>(0:Int))) then (a0 != (1:Int)) else false)) then true else (decide (a2<(0:Int)))) then true else false)) else (some (bif (bif (bif (bif (bif (v1.2 != (0:Int)) then true else (v1.1 != (List.length a3:Int))) then true else (decide (a1<(0:Int)))) then true else (bif (decide (a1>(0:Int))) then (a0 != (1:Int)) else false)) then true else (decide (a2<(0:Int)))) then true else (decide (a2>(400:Int))))))) else (bif (decide (a2<(0:Int))) then (some (bif (bif (bif (bif (bif (v1.2 != (0:Int)) then true else (v1.1 != (List.length a3:Int))) then true else (decide (a1<(0:Int)))) then true else (bif (decide (a1>(0:Int))) then false else false)) then true else (decide (a2<(0:Int)))) then true else false)) else (some (bif (bif (bif (bif (bif (v1.2 != (0:Int)) then true else (v1.1 != (List.length a3:Int))) then true else (decide (a1<(0:Int)))) then true else (bif (decide (a1>(0:Int))) then false else false)) then true else (decide (a2<(0:Int)))) then true else (decide (a2>(400:Int))))))))):Option (Bool)).bind λXmn=>bif Xmn then (some (([]:List X1),2)) else ((X6f (List.length a3)).bind λu20=>(X1c  a3 a3 0 (X1.mk a0 a1 0 0 a2) ([]:List X1)).bind λo119=>match o119 with|.x0 Xm Xs=>((X14 (List.length (Xs++[Xm])) 40).bind λu121=>(X1d (Xs++[Xm])).bind λv123=>bif (v123 != (0:Int)) then (some (([]:List X1),v123)) else (some ((Xs++[Xm]),0)))|.x1 X00 Xem=>(some (X00,Xem)))
def X80 (a0:Int) (a1:Bool) (a2:Int):Option (X9) :=
 bif a1 then ((bif (a0 != (0:Int)) then (some 16) else (some 17):Option (Int)).bind λXgw=>(X3o 0 a2).bind λv22=>(X27 Xgw 0 a2 [v22,v22]).bind λv24=>(bif (v24.2==(0:Int)) then (some (X9.mk v24.1 (bif (v24.2==(0:Int)) then (decide ((List.length v24.1:Int)>(0:Int))) else false))) else (some (X9.mk v24.1 (bif (v24.2==(0:Int)) then false else false))):Option (X9)).bind λXgu=>some Xgu) else (bif (decide (a0 >= (0:Int))) then (some (X9.mk [(X1.mk 1 a0 0 0 a2)] (bif ((0:Int)==(0:Int)) then (decide ((1:Int)>(0:Int))) else false))) else (bif (decide ((IntKind.i64.wrap (0 - a0))>(0:Int))) then ((X3o (IntKind.i64.wrap (0 - a0)) a2).bind λv45=>(X27 5 0 a2 [v45]).bind λv47=>(bif (v47.2==(0:Int)) then (some (X9.mk v47.1 (bif (v47.2==(0:Int)) then (decide ((List.length v47.1:Int)>(0:Int))) else false))) else (some (X9.mk v47.1 (bif (v47.2==(0:Int)) then false else false))):Option (X9)).bind λXma=>some Xma) else (some (X9.mk ([]:List X1) (bif ((0:Int)==(0:Int)) then (decide ((0:Int)>(0:Int))) else false)))))
inductive X4d where
 |x0 (Xs:(List (List X1)))
 |x1 (X00:(List X1)) (Xen:Int)
def X3a (rec:(List X1)->(List X9)->Int->Option ((List X1)×Int)) (X0a:(List X1)) (X5r:(List X9)) (Xi:X1) (X8t:Int) (Xf5:(List Int)):List Int->Nat->(List (List X1))->Option X4d
 |[],k,Xc=>some (.x0 Xc)
 |x::xs,k,Xc=>(rec X0a X5r x).bind λv44=>bif (v44.2 != (0:Int)) then (some (.x1 ([]:List X1) v44.2)) else ((X14 (List.length (Xc++[v44.1])) 24).bind λu47=>X3a rec X0a X5r Xi X8t Xf5 xs (k+1) (Xc++[v44.1]))
def X1e:Nat->(List X1)->(List X9)->Int->Option ((List X1)×Int)
 |0,_,_,_=>none
 |n+1,a0,a1,a2=>(getI a1 a2).bind λe1=>bif e1.there then ((bif (List.isEmpty e1.value) then (some e1.value) else ((X14 (List.length e1.value) 40).bind λu13=>some e1.value):Option ((List X1))).bind λXm7=>some (Xm7,0)) else ((getI a0 a2).bind λe16=>(X1z e16.Kind).bind λv18=>bif (v18.1==(0:Int)) then ((X6f (List.length ([]:List Int))).bind λu21=>(X3a (X1e n)  a0 a1 e16 v18.2 [] [] 0 ([]:List (List X1))).bind λo54=>match o54 with|.x0 Xs=>(bif (v18.2 != (0:Int)) then (some (([]:List X1),v18.2)) else ((X27 e16.Kind e16.N e16.At Xs).bind λv57=>some (v57.1,v57.2)))|.x1 X00 Xen=>(some (X00,Xen))) else (bif (v18.1==(1:Int)) then (((X1e n) a0 a1 e16.A).bind λv63=>bif (v63.2 != (0:Int)) then (some (([]:List X1),v63.2)) else (bif (v18.2 != (0:Int)) then (some (([]:List X1),v18.2)) else ((X27 e16.Kind e16.N e16.At [v63.1]).bind λv67=>some (v67.1,v67.2)))) else (bif (v18.1==(2:Int)) then (((X1e n) a0 a1 e16.A).bind λv70=>bif (v70.2 != (0:Int)) then (some (([]:List X1),v70.2)) else (((X1e n) a0 a1 e16.B).bind λv73=>bif (v73.2 != (0:Int)) then (some (([]:List X1),v73.2)) else (bif (v18.2 != (0:Int)) then (some (([]:List X1),v18.2)) else ((X27 e16.Kind e16.N e16.At [v70.1,v73.1]).bind λv77=>some (v77.1,v77.2))))) else none)))
inductive X4z where
 |x0 (X9z:(List X1)) (X86:(List X9))
def Xn (Xi:(List X1)) (Xc3:(List X1)) (X8u:Int) (X6b:(List Bool)) (Xct:(List X1)):Nat->(List X9)->(List Int)->Option X4z
 |0,_,_=>none
 |n+1,Xe1,X40=>bif (decide ((List.length X40:Int)>(0:Int))) then ((getI X40 (IntKind.i64.wrap ((List.length X40:Int) - 1))).bind λe208=>(X79 X40 0 (IntKind.i64.wrap ((List.length X40:Int) - 1))).bind λm210=>((X7y Xi e208).bind λv227=>bif (v227.2 != (0:Int)) then none else ((X5m v227.1).bind λv230=>bif (bif (v230.2.2==(0:Int)) then v230.2.1 else false) then ((getI X6b e208).bind λe233=>(getI Xi e208).bind λe235=>(X80 v230.1 e233 e235.At).bind λv237=>(getI Xe1 e208).bind λe239=>some (List.set Xe1 (Int.toNat e208) v237)) else (some Xe1)):Option ((List X9))).bind λX93=>(getI X93 e208).bind λe244=>bif (!(!e244.there)) then (Xn Xi Xc3 X8u X6b Xct n X93 m210) else ((getI Xct e208).bind λe247=>(X1z e247.Kind).bind λv249=>bif (v249.1==(1:Int)) then ((X14 (List.length (m210++[e247.A])) 8).bind λu252=>Xn Xi Xc3 X8u X6b Xct n X93 (m210++[e247.A])) else (bif (v249.1==(2:Int)) then ((X14 (List.length (m210++[e247.A,e247.B])) 8).bind λu255=>Xn Xi Xc3 X8u X6b Xct n X93 (m210++[e247.A,e247.B])) else (Xn Xi Xc3 X8u X6b Xct n X93 m210)))) else (some (.x0 Xc3 Xe1))
def X2z (a0:(List X1)):Option ((List X1)×Int) :=
 (X91 a0).bind λv1=>bif (v1.2 != (0:Int)) then (some (([]:List X1),v1.2)) else ((Xoi (List.length a0:Int) (List.length a0:Int) 32).bind λu4=>(Xn  a0 ([]:List X1) 0 v1.1 a0 FU (List.replicate (Int.toNat (List.length a0:Int)) (X9.mk ([]:List X1) false)) [(IntKind.i64.wrap ((List.length a0:Int) - 1))]).bind λo307=>match o307 with|.x0 X9z X86=>((X1e FU a0 X86 (IntKind.i64.wrap ((List.length a0:Int) - 1))).bind λv309=>some (v309.1,v309.2)))
def X5n (a0:X2):Option (X2×Int) :=
 (X3r a0).bind λv1=>bif (v1.2 != (0:Int)) then (some ((X2.mk 0 ([]:List X1) ([]:List Int) false ([]:List X1) (X3.mk 0 0 0) false 0),v1.2)) else ((bif (List.isEmpty a0.Sources) then (some a0.Sources) else ((X14 (List.length a0.Sources) 8).bind λu13=>some a0.Sources):Option ((List Int))).bind λXgp=>bif ((List.length a0.Arg:Int)==(0:Int)) then (bif ((List.length a0.Where:Int)==(0:Int)) then (some ((X2.mk a0.Agg a0.Arg Xgp a0.Join a0.Where a0.Window a0.ByKey a0.Late),0)) else ((X2z a0.Where).bind λv18=>bif (v18.2 != (0:Int)) then (some ((X2.mk 0 ([]:List X1) ([]:List Int) false ([]:List X1) (X3.mk 0 0 0) false 0),v18.2)) else (some ((X2.mk a0.Agg a0.Arg Xgp a0.Join v18.1 a0.Window a0.ByKey a0.Late),0)))) else ((X2z a0.Arg).bind λv21=>bif (v21.2 != (0:Int)) then (some ((X2.mk 0 ([]:List X1) ([]:List Int) false ([]:List X1) (X3.mk 0 0 0) false 0),v21.2)) else (bif ((List.length a0.Where:Int)==(0:Int)) then (some ((X2.mk a0.Agg v21.1 Xgp a0.Join a0.Where a0.Window a0.ByKey a0.Late),0)) else ((X2z a0.Where).bind λv25=>bif (v25.2 != (0:Int)) then (some ((X2.mk 0 ([]:List X1) ([]:List Int) false ([]:List X1) (X3.mk 0 0 0) false 0),v25.2)) else (some ((X2.mk a0.Agg v21.1 Xgp a0.Join v25.1 a0.Window a0.ByKey a0.Late),0))))))
def X5w (a0:X2) (a1:Int):Option (X2×Int) :=
 (X5u a0).bind λv1=>bif (a1==(1:Int)) then ((X5n v1).bind λv4=>some (v4.1,v4.2)) else (bif (a1==(2:Int)) then (bif ((List.length a0.Where:Int)==(0:Int)) then (some (v1,0)) else ((X5m a0.Where).bind λv8=>bif (v8.2.2 != (0:Int)) then (some ((X2.mk 0 ([]:List X1) ([]:List Int) false ([]:List X1) (X3.mk 0 0 0) false 0),v8.2.2)) else ((bif (bif v8.2.1 then (v8.1 != (0:Int)) else false) then (some (X2.mk v1.Agg v1.Arg v1.Sources v1.Join ([]:List X1) v1.Window v1.ByKey v1.Late)) else (some v1):Option (X2)).bind λXml=>some (Xml,0)))) else ((bif (a1==(3:Int)) then (bif (bif (a0.Window.Kind==(2:Int)) then (a0.Window.Size==a0.Window.Every) else false) then (some (X2.mk v1.Agg v1.Arg v1.Sources v1.Join v1.Where (X3.mk 1 a0.Window.Size 0) v1.ByKey v1.Late)) else (some v1)) else (some v1):Option (X2)).bind λXmj=>some (Xmj,0)))
inductive X1a where
 |x0
 |x1
def X08 (X0a:(List X1)) (X5r:(List X1)):List X1->Nat->Option X1a
 |[],k=>some (.x0)
 |x::xs,k=>(getI X5r (k:Int)).bind λe11=>bif (!(X1f x e11)) then (some (.x1)) else (X08 X0a X5r xs (k+1))
def X12 (a0:(List X1)) (a1:(List X1)):Option (Bool) :=
 bif ((List.length a0:Int) != (List.length a1:Int)) then (some false) else ((X6f (List.length a0)).bind λu2=>(X08  a0 a1 a0 0).bind λo14=>match o14 with|.x0=>(some true)|.x1=>(some false))
def X5v (a0:X2) (a1:X2):Option (Bool) :=
 ((X12 a0.Arg a1.Arg).bind λv8=>bif v8 then ((X12 a0.Where a1.Where).bind λv11=>bif v11 then (some (bif (bif v8 then v11 else false) then (X4m a0.Window a1.Window) else false)) else (some (bif (bif v8 then v11 else false) then false else false))) else (some (bif (bif v8 then false else false) then false else false)):Option (Bool)).bind λXvk=>some Xvk
def X0o (a0:X2) (a1:Int):Option (X2×Bool×Int) :=
 (X3r a0).bind λv1=>bif (v1.2 != (0:Int)) then (some ((X2.mk 0 ([]:List X1) ([]:List Int) false ([]:List X1) (X3.mk 0 0 0) false 0),false,v1.2)) else (bif (bif (decide (a1<(1:Int))) then true else (decide (a1>(3:Int)))) then (some ((X2.mk 0 ([]:List X1) ([]:List Int) false ([]:List X1) (X3.mk 0 0 0) false 0),false,2)) else ((X5w a0 a1).bind λv5=>bif (v5.2 != (0:Int)) then (some ((X2.mk 0 ([]:List X1) ([]:List Int) false ([]:List X1) (X3.mk 0 0 0) false 0),false,v5.2)) else ((X5v a0 v5.1).bind λv8=>some (v5.1,(!v8),0))))
def X06 (a0:Int):Option (Int) :=
 bif (decide (a0<=(4:Int))) then (some 0) else (bif (decide (a0<=(6:Int))) then (some 1) else (some 2))
def X4i (a0:X1) (a1:Int) (a2:Int):Option (Bool) :=
 some (bif (bif (bif (bif (bif (bif (bif (decide (a0.Kind >= (1:Int))) then (decide (a0.Kind<=(19:Int))) else false) then (decide (a0.N >= (0:Int))) else false) then (bif (a0.N==(0:Int)) then true else (a0.Kind==(1:Int))) else false) then (decide (a0.At >= (0:Int))) else false) then (decide (a0.At<=(400:Int))) else false) then (a0.A==a1) else false) then (a0.B==a2) else false)
inductive X37 where
 |x0 (Xm:(List Int)) (Xs:(List Int))
 |x1 (X00:(List Int)) (X4e:(List Int))
def X0u (X0a:(List X1)):List X1->Nat->(List Int)->(List Int)->Option X37
 |[],k,Xi,Xc=>some (.x0 Xi Xc)
 |x::xs,k,Xi,Xc=>(X06 x.Kind).bind λv156=>bif (decide (v156>(0:Int))) then (bif (decide ((IntKind.i64.wrap ((k:Int) - 1))<(0:Int))) then (some (.x1 ([]:List Int) ([]:List Int))) else ((getI Xi (IntKind.i64.wrap ((k:Int) - 1))).bind λe160=>(getI Xc (IntKind.i64.wrap ((k:Int) - 1))).bind λe162=>bif (v156==(2:Int)) then (bif (decide ((IntKind.i64.wrap ((IntKind.i64.wrap ((k:Int) - 1)) - e160))<(0:Int))) then (some (.x1 ([]:List Int) ([]:List Int))) else ((getI Xi (IntKind.i64.wrap ((IntKind.i64.wrap ((k:Int) - 1)) - e160))).bind λe166=>(getI Xc (IntKind.i64.wrap ((IntKind.i64.wrap ((k:Int) - 1)) - e160))).bind λe168=>(X4i x (IntKind.i64.wrap ((IntKind.i64.wrap ((k:Int) - 1)) - e160)) (IntKind.i64.wrap ((k:Int) - 1))).bind λv170=>bif (!v170) then (some (.x1 ([]:List Int) ([]:List Int))) else ((X14 (List.length (Xi++[(IntKind.i64.wrap ((IntKind.i64.wrap (1+e160))+e166))])) 8).bind λu173=>(X14 (List.length (Xc++[(if (IntKind.i64.wrap (1+e168))>(IntKind.i64.wrap (1+e162)) then (IntKind.i64.wrap (1+e168)) else (IntKind.i64.wrap (1+e162)))])) 8).bind λu175=>X0u X0a xs (k+1) (Xi++[(IntKind.i64.wrap ((IntKind.i64.wrap (1+e160))+e166))]) (Xc++[(if (IntKind.i64.wrap (1+e168))>(IntKind.i64.wrap (1+e162)) then (IntKind.i64.wrap (1+e168)) else (IntKind.i64.wrap (1+e162)))])))) else ((X4i x (IntKind.i64.wrap ((k:Int) - 1)) 0).bind λv177=>bif (!v177) then (some (.x1 ([]:List Int) ([]:List Int))) else ((X14 (List.length (Xi++[(IntKind.i64.wrap (1+e160))])) 8).bind λu180=>(X14 (List.length (Xc++[(IntKind.i64.wrap (1+e162))])) 8).bind λu182=>X0u X0a xs (k+1) (Xi++[(IntKind.i64.wrap (1+e160))]) (Xc++[(IntKind.i64.wrap (1+e162))]))))) else ((X4i x 0 0).bind λv184=>bif (!v184) then (some (.x1 ([]:List Int) ([]:List Int))) else ((X14 (List.length (Xi++[1])) 8).bind λu187=>(X14 (List.length (Xc++[1])) 8).bind λu189=>X0u X0a xs (k+1) (Xi++[1]) (Xc++[1])))
def X4j (a0:(List X1)):Option ((List Int)×(List Int)×Bool) :=
 (X6f (List.length a0)).bind λu1=>(X0u  a0 a0 0 ([]:List Int) ([]:List Int)).bind λo232=>match o232 with|.x0 Xm Xs=>((bif (decide ((List.length a0:Int)>(0:Int))) then ((getI Xm (IntKind.i64.wrap ((List.length a0:Int) - 1))).bind λe239=>some (bif (decide ((List.length a0:Int)>(0:Int))) then (e239==(List.length a0:Int)) else false)) else (some false):Option (Bool)).bind λXmh=>some (Xm,Xs,Xmh))|.x1 X00 X4e=>(some (X00,X4e,false))
def X34 (a0:(List X1)):Option (Int) :=
 bif (decide ((List.length a0:Int)>(60:Int))) then (some 4) else ((X4j a0).bind λv2=>bif (!v2.2.2) then (some 8) else ((getI v2.2.1 (IntKind.i64.wrap ((List.length a0:Int) - 1))).bind λe5=>bif (decide (e5>(20:Int))) then (some 34) else (some 0)))
inductive X3f where
 |x0
 |x1
def X1y (X0a:(List Int)):List Int->Nat->Option X3f
 |[],k=>some (.x0)
 |x::xs,k=>(bif (decide (x<(0:Int))) then (some (bif (decide (x<(0:Int))) then true else false)) else (some (bif (decide (x<(0:Int))) then true else (decide (x>(3:Int))))):Option (Bool)).bind λXmg=>bif Xmg then (some (.x1)) else (X1y X0a xs (k+1))
inductive X3d where
 |x0
 |x1
def X1x (Xre:(List Int)) (Xrd:Int):Nat->Int->Option X3d
 |0,_=>none
 |n+1,Xqm=>bif (decide (Xqm<Xrd)) then ((getI Xre Xqm).bind λe86=>(getI Xre Xrd).bind λe88=>bif (e86==e88) then (some (.x0)) else (X1x Xre Xrd n (IntKind.i64.wrap (Xqm+1)))) else (some (.x1))
inductive X3e where
 |x0
 |x1
def X1l (Xkn:(List Int)):List Int->Nat->Option X3e
 |[],k=>some (.x0)
 |x::xs,k=>(X1x  Xkn (k:Int) FU 0).bind λo91=>match o91 with|.x0=>(some (.x1))|.x1=>(X1l Xkn xs (k+1))
def X4v (a0:(List Int)) (a1:Bool):Option (Int) :=
 bif (decide ((List.length a0:Int)>(4:Int))) then (some 4) else ((bif ((List.length a0:Int)==(0:Int)) then (some (bif ((List.length a0:Int)==(0:Int)) then true else false)) else (bif a1 then (some (bif ((List.length a0:Int)==(0:Int)) then true else (bif a1 then ((List.length a0:Int) != (2:Int)) else false))) else (some (bif ((List.length a0:Int)==(0:Int)) then true else (bif a1 then false else false)))):Option (Bool)).bind λXsi=>bif Xsi then (some 8) else ((X6f (List.length a0)).bind λu9=>(X1y  a0 a0 0).bind λo27=>match o27 with|.x0=>((X1l  a0 a0 0).bind λo93=>match o93 with|.x0=>(some 0)|.x1=>(some 43))|.x1=>(some 8)))
def X5e (a0:X3):Option (Bool) :=
 bif (bif (decide (a0.Size<(1:Int))) then true else (decide (a0.Size>(1073741824:Int)))) then (some false) else (bif (a0.Kind==(2:Int)) then (some (bif (bif (decide (a0.Every >= (1:Int))) then (decide (a0.Every<=a0.Size)) else false) then (decide (a0.Size<=(IntKind.i64.wrap (16*a0.Every)))) else false)) else (some (bif (bif (a0.Kind==(1:Int)) then true else (a0.Kind==(3:Int))) then (a0.Every==(0:Int)) else false)))
def X6v (a0:X2):Option (Int) :=
 bif (bif (bif (bif (decide (a0.Agg<(1:Int))) then true else (decide (a0.Agg>(4:Int)))) then true else (decide (a0.Late<(1:Int)))) then true else (decide (a0.Late>(2:Int)))) then (some 8) else ((bif (a0.Agg==(1:Int)) then (some (bif (a0.Agg==(1:Int)) then (decide ((List.length a0.Arg:Int)>(0:Int))) else false)) else (some (bif (a0.Agg==(1:Int)) then false else false)):Option (Bool)).bind λXsp=>bif Xsp then (some 8) else ((bif (a0.Agg != (1:Int)) then ((X34 a0.Arg).bind λv12=>some (bif (a0.Agg != (1:Int)) then (v12 != (0:Int)) else false)) else (some (bif (a0.Agg != (1:Int)) then false else false)):Option (Bool)).bind λXmo=>bif Xmo then ((X34 a0.Arg).bind λv16=>some v16) else ((bif (decide ((List.length a0.Where:Int)>(0:Int))) then ((X34 a0.Where).bind λv23=>some (bif (decide ((List.length a0.Where:Int)>(0:Int))) then (v23 != (0:Int)) else false)) else (some (bif (decide ((List.length a0.Where:Int)>(0:Int))) then false else false)):Option (Bool)).bind λXgv=>bif Xgv then ((X34 a0.Where).bind λv27=>some v27) else ((X4v a0.Sources a0.Join).bind λv29=>bif (v29 != (0:Int)) then (some v29) else ((X5e a0.Window).bind λv32=>bif (bif (!v32) then true else (bif a0.Join then (a0.Window.Kind != (1:Int)) else false)) then (some 8) else (some 0))))))
def X3l (a0:Int):Option (Bool) :=
 some (bif (a0==(6:Int)) then true else (decide (a0 >= (12:Int))))
def X7u (a0:(List X1)) (a1:Int):Option (Bool) :=
 (getI a0 a1).bind λe1=>(getI a0 e1.A).bind λe3=>(X3l e3.Kind).bind λv5=>(getI a0 e1.B).bind λe7=>(X3l e7.Kind).bind λv9=>bif (decide (e1.Kind<=(4:Int))) then (some true) else (bif (e1.Kind==(5:Int)) then (some (!v5)) else (bif (e1.Kind==(6:Int)) then (some v5) else (bif (bif (e1.Kind==(16:Int)) then true else (e1.Kind==(17:Int))) then (some (v5==v9)) else (bif (decide (e1.Kind >= (18:Int))) then (some (bif v5 then v9 else false)) else (some (bif (!v5) then (!v9) else false))))))
inductive X49 where
 |x0
 |x1 (Xeq:Int)
def X2o (X0a:(List X1)):List X1->Nat->Option X49
 |[],k=>some (.x0)
 |x::xs,k=>(X7u X0a (k:Int)).bind λv10=>bif (!v10) then (some (.x1 (k:Int))) else (X2o X0a xs (k+1))
def X8a (a0:(List X1)):Option (Int) :=
 (X6f (List.length a0)).bind λu1=>(X2o  a0 a0 0).bind λo13=>match o13 with|.x0=>(some (List.length a0:Int))|.x1 Xeq=>(some Xeq)
def X8b (a0:(List X1)):Option (Bool×Int×Int) :=
 (X34 a0).bind λv1=>bif (v1 != (0:Int)) then (some (false,0,v1)) else ((X8a a0).bind λv4=>bif (decide (v4<(List.length a0:Int))) then (some (false,v4,42)) else ((getI a0 (IntKind.i64.wrap ((List.length a0:Int) - 1))).bind λe7=>(X3l e7.Kind).bind λv9=>some (v9,(IntKind.i64.wrap ((List.length a0:Int) - 1)),0)))
def X5f (a0:(List X1)) (a1:Bool):Option (Int×Int) :=
 (X8b a0).bind λv1=>bif (bif (v1.2.2==(0:Int)) then (!(v1.1==a1)) else false) then (some (v1.2.1,42)) else (some (v1.2.1,v1.2.2))
def X6t (a0:X2):Option (Int×Int) :=
 bif (decide ((List.length a0.Arg:Int)>(0:Int))) then ((X5f a0.Arg false).bind λv2=>bif (v2.2 != (0:Int)) then ((getI a0.Arg v2.1).bind λe5=>some (e5.At,v2.2)) else (bif (decide ((List.length a0.Where:Int)>(0:Int))) then ((X5f a0.Where true).bind λv8=>bif (v8.2 != (0:Int)) then ((getI a0.Where v8.1).bind λe11=>some (e11.At,v8.2)) else (some (0,0))) else (some (0,0)))) else (bif (decide ((List.length a0.Where:Int)>(0:Int))) then ((X5f a0.Where true).bind λv14=>bif (v14.2 != (0:Int)) then ((getI a0.Where v14.1).bind λe17=>some (e17.At,v14.2)) else (some (0,0))) else (some (0,0)))
def X4h (a0:X2):Option (Int×Int) :=
 (X6v a0).bind λv1=>bif (v1 != (0:Int)) then (some (0,v1)) else ((X6t a0).bind λv4=>some (v4.1,v4.2))
def X7t (a0:X2):Option (X2) :=
 bif (List.isEmpty a0.Arg) then (bif (List.isEmpty a0.Where) then (bif (List.isEmpty a0.Sources) then (some a0) else ((X14 (List.length a0.Sources) 8).bind λu4=>some a0)) else ((X14 (List.length a0.Where) 40).bind λu6=>bif (List.isEmpty a0.Sources) then (some a0) else ((X14 (List.length a0.Sources) 8).bind λu9=>some a0))) else ((X14 (List.length a0.Arg) 40).bind λu11=>bif (List.isEmpty a0.Where) then (bif (List.isEmpty a0.Sources) then (some a0) else ((X14 (List.length a0.Sources) 8).bind λu15=>some a0)) else ((X14 (List.length a0.Where) 40).bind λu17=>bif (List.isEmpty a0.Sources) then (some a0) else ((X14 (List.length a0.Sources) 8).bind λu20=>some a0)))
inductive X7k where
 |x0 (Xm:(List X1))
def X31 (X0a:(List X1)) (X5r:Int) (Xnr:Int):Nat->(List X1)->Int->Option X7k
 |0,_,_=>none
 |n+1,Xi,X8t=>bif (decide (X8t<=X5r)) then ((getI X0a X8t).bind λe75=>(X06 e75.Kind).bind λv77=>(bif (decide (v77>(0:Int))) then (some (X1.mk e75.Kind e75.N (IntKind.i64.wrap (e75.A - Xnr)) e75.B e75.At)) else (some e75):Option (X1)).bind λXat=>(X06 Xat.Kind).bind λv83=>(bif (decide (v83>(1:Int))) then (some (X1.mk Xat.Kind Xat.N Xat.A (IntKind.i64.wrap (Xat.B - Xnr)) Xat.At)) else (some Xat):Option (X1)).bind λXj8=>(X14 (List.length (Xi++[Xj8])) 40).bind λu89=>X31 X0a X5r Xnr n (Xi++[Xj8]) (IntKind.i64.wrap (X8t+1))) else (some (.x0 Xi))
def X8x (a0:(List X1)) (a1:Int):Option ((List X1)) :=
 (X4j a0).bind λv1=>(getI v1.1 a1).bind λe3=>(X31  a0 a1 (IntKind.i64.wrap ((IntKind.i64.wrap (a1+1)) - e3)) FU ([]:List X1) (IntKind.i64.wrap ((IntKind.i64.wrap (a1+1)) - e3))).bind λo108=>match o108 with|.x0 Xm=>(some Xm)
inductive X48 where
 |x0
 |x1
def X2n (X0a:(List X1)):List X1->Nat->Option X48
 |[],k=>some (.x0)
 |x::xs,k=>(bif (decide (x.Kind>(1:Int))) then (some (bif (decide (x.Kind>(1:Int))) then (decide (x.Kind<(5:Int))) else false)) else (some (bif (decide (x.Kind>(1:Int))) then false else false)):Option (Bool)).bind λXmk=>bif Xmk then (some (.x1)) else (X2n X0a xs (k+1))
def X5d (a0:(List X1)):Option (Bool) :=
 (X6f (List.length a0)).bind λu1=>(X2n  a0 a0 0).bind λo19=>match o19 with|.x0=>(some true)|.x1=>(some false)
def X4k (a0:Bool):Option (Int) :=
 bif a0 then (some 1) else (some 0)
def X5h (a0:Int):Option (Int) :=
 some (IntKind.i64.wrap (Int.tmod (IntKind.u64.wrap a0) 64))
inductive X64 where
 |x0 (X7r:Int)
def X24 (X0a:Int):Nat->Int->Int->Option X64
 |0,_,_=>none
 |n+1,Xb2,Xrg=>bif (decide (Xrg<X0a)) then (X24 X0a n (IntKind.i64.wrap (Xb2+Xb2)) (IntKind.i64.wrap (Xrg+1))) else (some (.x0 Xb2))
def X5g (a0:Int):Option (Int) :=
 (X24  a0 FU 1 0).bind λo5=>match o5 with|.x0 X7r=>(some X7r)
def X7v (a0:Int):Option (Int) :=
 bif (decide ((Int.tmod a0 2)<(0:Int))) then (some (IntKind.i64.wrap ((IntKind.i64.wrap (Int.tdiv a0 2)) - 1))) else (some (IntKind.i64.wrap (Int.tdiv a0 2)))
def X6d (a0:Int) (a1:Int) (a2:Int):Option (Bool) :=
 bif (a0==(12:Int)) then (some (decide (a1<a2))) else (bif (a0==(13:Int)) then (some (bif (decide (a1<a2)) then true else (a1==a2))) else (bif (a0==(14:Int)) then (some (decide (a2<a1))) else (bif (a0==(15:Int)) then (some (bif (decide (a2<a1)) then true else (a1==a2))) else (bif (a0==(16:Int)) then (some (a1==a2)) else (some (a1 != a2))))))
inductive X65 where
 |x0 (Xer:Int)
def X25 (Xtv:Int):Nat->Int->Int->Option X65
 |0,_,_=>none
 |n+1,X5r,Xrf=>(X5h Xtv).bind λv25=>bif (decide (Xrf<v25)) then ((X7v X5r).bind λv28=>X25 Xtv n v28 (IntKind.i64.wrap (Xrf+1))) else (some (.x0 X5r))
def X2p (a0:Int) (a1:Int) (a2:Int):Option (Int) :=
 bif (a0==(5:Int)) then (some (IntKind.i64.wrap (0 - a1))) else (bif (a0==(6:Int)) then ((X4k (a1==(0:Int))).bind λv3=>some v3) else (bif (a0==(7:Int)) then (some (IntKind.i64.wrap (a1*a2))) else (bif (a0==(8:Int)) then (some (IntKind.i64.wrap (a1+a2))) else (bif (a0==(9:Int)) then (some (IntKind.i64.wrap (a1 - a2))) else (bif (a0==(10:Int)) then ((X5h a2).bind λv9=>(X5g v9).bind λv11=>some (IntKind.i64.wrap (a1*v11))) else (bif (a0==(11:Int)) then ((X25  a2 FU a1 0).bind λo30=>match o30 with|.x0 Xer=>(some Xer)) else (bif (a0==(18:Int)) then ((X4k (bif (a1 != (0:Int)) then (a2 != (0:Int)) else false)).bind λv33=>some v33) else (bif (a0==(19:Int)) then ((X4k (bif (a1 != (0:Int)) then true else (a2 != (0:Int)))).bind λv36=>some v36) else ((X6d a0 a1 a2).bind λv38=>(X4k v38).bind λv40=>some v40)))))))))
def X01:Nat->(List X1)->Int->X0z->Option (Int)
 |0,_,_,_=>none
 |n+1,a0,a1,a2=>(getI a0 a1).bind λe1=>bif (e1.Kind==(1:Int)) then (some e1.N) else (bif (e1.Kind==(2:Int)) then (some a2.Key) else (bif (e1.Kind==(3:Int)) then (some a2.Time) else (bif (e1.Kind==(4:Int)) then (some a2.Value) else ((X06 e1.Kind).bind λv7=>(bif (v7==(2:Int)) then (((X01 n) a0 e1.B a2).bind λv14=>some v14) else (some 0):Option (Int)).bind λXst=>((X01 n) a0 e1.A a2).bind λv17=>(X2p e1.Kind v17 Xst).bind λv19=>some v19))))
def X3k (a0:Int) (a1:Int):Option ((List X1)) :=
 some [(X1.mk 1 a0 0 0 a1)]
inductive X6w where
 |x0 (X32:(List X1))
def X2g (Xnq:(List (List X1))) (Xf4:X1) (Xe0:Int) (Xdz:Int):Nat->(List X1)->Int->Option X6w
 |0,_,_=>none
 |n+1,Xae,Xc2=>(getI Xnq Xe0).bind λe505=>bif (decide (Xc2<(List.length e505:Int))) then ((getI e505 Xc2).bind λe508=>(X06 e508.Kind).bind λv510=>(bif (decide (v510>(0:Int))) then (some (X1.mk e508.Kind e508.N (IntKind.i64.wrap (e508.A+Xdz)) e508.B e508.At)) else (some e508):Option (X1)).bind λX8h=>(X06 X8h.Kind).bind λv516=>(bif (decide (v516>(1:Int))) then (some (X1.mk X8h.Kind X8h.N X8h.A (IntKind.i64.wrap (X8h.B+Xdz)) X8h.At)) else (some X8h):Option (X1)).bind λXfm=>(X14 (List.length (Xae++[Xfm])) 40).bind λu522=>X2g Xnq Xf4 Xe0 Xdz n (Xae++[Xfm]) (IntKind.i64.wrap (Xc2+1))) else (some (.x0 Xae))
inductive X6x where
 |x0 (Xm:(List X1)) (Xs:X1)
def X1b (Xb2:(List (List X1))):List (List X1)->Nat->(List X1)->X1->Option X6x
 |[],k,Xi,Xc=>some (.x0 Xi Xc)
 |x::xs,k,Xi,Xc=>(X2g  Xb2 Xc (k:Int) (List.length Xi:Int) FU Xi 0).bind λo543=>match o543 with|.x0 X32=>((bif ((k:Int)==(0:Int)) then (some (X1.mk Xc.Kind Xc.N (IntKind.i64.wrap ((List.length X32:Int) - 1)) Xc.B Xc.At)) else (some (X1.mk Xc.Kind Xc.N Xc.A (IntKind.i64.wrap ((List.length X32:Int) - 1)) Xc.At)):Option (X1)).bind λXhx=>X1b Xb2 xs (k+1) X32 Xhx)
def X1k (a0:Int) (a1:Int) (a2:Int) (a3:(List (List X1))):Option ((List X1)) :=
 (X6f (List.length a3)).bind λu1=>(X1b  a3 a3 0 ([]:List X1) (X1.mk a0 a1 0 0 a2)).bind λo640=>match o640 with|.x0 Xm Xs=>((X14 (List.length (Xm++[Xs])) 40).bind λu642=>some (Xm++[Xs]))
def X3x (a0:Int) (a1:Bool) (a2:Int):Option ((List X1)×Bool) :=
 (X3k 0 a2).bind λv1=>bif (bif a1 then (a0==(1:Int)) else false) then ((X1k 16 0 a2 [v1,v1]).bind λv4=>some (v4,true)) else (bif a1 then ((X1k 17 0 a2 [v1,v1]).bind λv7=>some (v7,true)) else (bif (decide (a0 >= (0:Int))) then ((X3k a0 a2).bind λv10=>some (v10,true)) else (bif (decide (a0>((-9223372036854775808):Int))) then ((X3k (IntKind.i64.wrap (0 - a0)) a2).bind λv13=>(X1k 5 0 a2 [v13]).bind λv15=>some (v15,true)) else (some (([]:List X1),false)))))
def X1u:Nat->(List X1)->Int->Option ((List X1))
 |0,_,_=>none
 |n+1,a0,a1=>(getI a0 a1).bind λe1=>(X8x a0 a1).bind λv3=>(X5d v3).bind λv5=>bif v5 then ((X01 FU a0 a1 (X0z.mk 0 0 0)).bind λv8=>(X3l e1.Kind).bind λv10=>(X3x v8 v10 e1.At).bind λv12=>bif v12.2 then (some v12.1) else ((X06 e1.Kind).bind λv15=>(bif (decide (v15>(0:Int))) then (((X1u n) a0 e1.A).bind λv22=>some [v22]) else (some ([]:List (List X1))):Option ((List (List X1)))).bind λXdi=>(bif (decide (v15>(1:Int))) then (((X1u n) a0 e1.B).bind λv32=>(X14 (List.length (Xdi++[v32])) 24).bind λu34=>some (Xdi++[v32])) else (some Xdi):Option ((List (List X1)))).bind λXgt=>(X1k e1.Kind e1.N e1.At Xgt).bind λv37=>some v37)) else ((X06 e1.Kind).bind λv57=>(bif (decide (v57>(0:Int))) then (((X1u n) a0 e1.A).bind λv64=>some [v64]) else (some ([]:List (List X1))):Option ((List (List X1)))).bind λXdf=>(bif (decide (v57>(1:Int))) then (((X1u n) a0 e1.B).bind λv74=>(X14 (List.length (Xdf++[v74])) 24).bind λu76=>some (Xdf++[v74])) else (some Xdf):Option ((List (List X1)))).bind λXgr=>(X1k e1.Kind e1.N e1.At Xgr).bind λv79=>some v79)
def X3y (a0:(List X1)):Option ((List X1)×Int) :=
 (X8b a0).bind λv1=>bif (v1.2.2 != (0:Int)) then (some (([]:List X1),v1.2.2)) else ((X1u FU a0 (IntKind.i64.wrap ((List.length a0:Int) - 1))).bind λv4=>some (v4,0))
def X6s (a0:X2):Option (X2×Int) :=
 (X4h a0).bind λv1=>bif (v1.2 != (0:Int)) then (some ((X2.mk 0 ([]:List X1) ([]:List Int) false ([]:List X1) (X3.mk 0 0 0) false 0),v1.2)) else ((bif (decide ((List.length a0.Arg:Int)>(0:Int))) then ((X3y a0.Arg).bind λv9=>some (X2.mk a0.Agg v9.1 a0.Sources a0.Join a0.Where a0.Window a0.ByKey a0.Late)) else (some a0):Option (X2)).bind λX76=>(bif (decide ((List.length X76.Where:Int)>(0:Int))) then ((X3y X76.Where).bind λv17=>some (X2.mk X76.Agg X76.Arg X76.Sources X76.Join v17.1 X76.Window X76.ByKey X76.Late)) else (some X76):Option (X2)).bind λXau=>bif (List.isEmpty Xau.Sources) then (some (Xau,0)) else ((X14 (List.length Xau.Sources) 8).bind λu21=>some (Xau,0)))
def X5c (a0:(List X1)):Option (Int×Bool×Int) :=
 (X8b a0).bind λv1=>bif (v1.2.2 != (0:Int)) then (some (0,false,v1.2.2)) else ((X5d a0).bind λv4=>bif (!v4) then (some (0,false,0)) else ((X01 FU a0 (IntKind.i64.wrap ((List.length a0:Int) - 1)) (X0z.mk 0 0 0)).bind λv7=>some (v7,true,0)))
def X1v (a0:X2) (a1:Int):Option (X2) :=
 (X7t a0).bind λv1=>bif (a1==(1:Int)) then ((X6s a0).bind λv8=>(bif (a1==(2:Int)) then (some (bif (a1==(2:Int)) then (decide ((List.length a0.Where:Int)>(0:Int))) else false)) else (some (bif (a1==(2:Int)) then false else false)):Option (Bool)).bind λXmm=>(bif Xmm then ((X5c a0.Where).bind λv20=>bif (bif v20.2.1 then (v20.1 != (0:Int)) else false) then (some (X2.mk v8.1.Agg v8.1.Arg v8.1.Sources v8.1.Join ([]:List X1) v8.1.Window v8.1.ByKey v8.1.Late)) else (some v8.1)) else (some v8.1):Option (X2)).bind λX94=>(bif (bif (bif (a1==(3:Int)) then (a0.Window.Kind==(2:Int)) else false) then (a0.Window.Size==a0.Window.Every) else false) then (some (X2.mk X94.Agg X94.Arg X94.Sources X94.Join X94.Where (X3.mk 1 X94.Window.Size 0) X94.ByKey X94.Late)) else (some X94):Option (X2)).bind λXmf=>some Xmf) else ((bif (a1==(2:Int)) then (some (bif (a1==(2:Int)) then (decide ((List.length a0.Where:Int)>(0:Int))) else false)) else (some (bif (a1==(2:Int)) then false else false)):Option (Bool)).bind λXmd=>(bif Xmd then ((X5c a0.Where).bind λv38=>bif (bif v38.2.1 then (v38.1 != (0:Int)) else false) then (some (X2.mk v1.Agg v1.Arg v1.Sources v1.Join ([]:List X1) v1.Window v1.ByKey v1.Late)) else (some v1)) else (some v1):Option (X2)).bind λX92=>(bif (bif (bif (a1==(3:Int)) then (a0.Window.Kind==(2:Int)) else false) then (a0.Window.Size==a0.Window.Every) else false) then (some (X2.mk X92.Agg X92.Arg X92.Sources X92.Join X92.Where (X3.mk 1 X92.Window.Size 0) X92.ByKey X92.Late)) else (some X92):Option (X2)).bind λXmc=>some Xmc)
inductive X46 where
 |x0
 |x1
def X23 (X0a:(List X1)) (X5r:(List X1)):List X1->Nat->Option X46
 |[],k=>some (.x0)
 |x::xs,k=>(getI X5r (k:Int)).bind λe11=>bif (!(X1f x e11)) then (some (.x1)) else (X23 X0a X5r xs (k+1))
def X5b (a0:(List X1)) (a1:(List X1)):Option (Bool) :=
 bif ((List.length a0:Int) != (List.length a1:Int)) then (some false) else ((X6f (List.length a0)).bind λu2=>(X23  a0 a1 a0 0).bind λo14=>match o14 with|.x0=>(some true)|.x1=>(some false))
inductive X2b where
 |x0
 |x1
def X0p (X0a:(List Int)) (X5r:(List Int)):List Int->Nat->Option X2b
 |[],k=>some (.x0)
 |x::xs,k=>(getI X5r (k:Int)).bind λe11=>bif (x != e11) then (some (.x1)) else (X0p X0a X5r xs (k+1))
def X2u (a0:(List Int)) (a1:(List Int)):Option (Bool) :=
 bif ((List.length a0:Int) != (List.length a1:Int)) then (some false) else ((X6f (List.length a0)).bind λu2=>(X0p  a0 a1 a0 0).bind λo14=>match o14 with|.x0=>(some true)|.x1=>(some false))
def X0k (a0:X2) (a1:X2):Option (Bool) :=
 (bif (a0.Agg==a1.Agg) then ((X5b a0.Arg a1.Arg).bind λv16=>bif v16 then ((X2u a0.Sources a1.Sources).bind λv19=>bif v19 then (bif (a0.Join==a1.Join) then ((X5b a0.Where a1.Where).bind λv23=>bif v23 then (bif (X4m a0.Window a1.Window) then (bif (a0.ByKey==a1.ByKey) then (some (bif (bif (bif (bif (bif (bif (bif (a0.Agg==a1.Agg) then v16 else false) then v19 else false) then (a0.Join==a1.Join) else false) then v23 else false) then (X4m a0.Window a1.Window) else false) then (a0.ByKey==a1.ByKey) else false) then (a0.Late==a1.Late) else false)) else (some (bif (bif (bif (bif (bif (bif (bif (a0.Agg==a1.Agg) then v16 else false) then v19 else false) then (a0.Join==a1.Join) else false) then v23 else false) then (X4m a0.Window a1.Window) else false) then (a0.ByKey==a1.ByKey) else false) then false else false))) else (some (bif (bif (bif (bif (bif (bif (bif (a0.Agg==a1.Agg) then v16 else false) then v19 else false) then (a0.Join==a1.Join) else false) then v23 else false) then (X4m a0.Window a1.Window) else false) then false else false) then false else false))) else (some (bif (bif (bif (bif (bif (bif (bif (a0.Agg==a1.Agg) then v16 else false) then v19 else false) then (a0.Join==a1.Join) else false) then v23 else false) then false else false) then false else false) then false else false))) else (some (bif (bif (bif (bif (bif (bif (bif (a0.Agg==a1.Agg) then v16 else false) then v19 else false) then (a0.Join==a1.Join) else false) then false else false) then false else false) then false else false) then false else false))) else (some (bif (bif (bif (bif (bif (bif (bif (a0.Agg==a1.Agg) then v16 else false) then v19 else false) then false else false) then false else false) then false else false) then false else false) then false else false))) else (some (bif (bif (bif (bif (bif (bif (bif (a0.Agg==a1.Agg) then v16 else false) then false else false) then false else false) then false else false) then false else false) then false else false) then false else false))) else (some (bif (bif (bif (bif (bif (bif (bif (a0.Agg==a1.Agg) then false else false) then false else false) then false else false) then false else false) then false else false) then false else false) then false else false)):Option (Bool)).bind λXss=>some Xss
def X33 (a0:X2) (a1:Int):Option (X2×Bool×Int) :=
 (X4h a0).bind λv1=>bif (v1.2 != (0:Int)) then (some ((X2.mk 0 ([]:List X1) ([]:List Int) false ([]:List X1) (X3.mk 0 0 0) false 0),false,v1.2)) else (bif (bif (decide (a1<(1:Int))) then true else (decide (a1>(3:Int)))) then (some ((X2.mk 0 ([]:List X1) ([]:List Int) false ([]:List X1) (X3.mk 0 0 0) false 0),false,2)) else ((X1v a0 a1).bind λv5=>(X0k a0 v5).bind λv7=>some (v5,(!v7),0)))
inductive X45 where
 |x0 (X7r:Int)
 |x1 (X4e:X2)
def X2m (Xi:X2):Nat->X2->Int->Option X45
 |0,_,_=>none
 |n+1,Xc,Xhj=>bif (decide (Xhj<(20:Int))) then ((X0o Xc 1).bind λv25=>bif (v25.2.2 != (0:Int)) then (some (.x0 v25.2.2)) else ((X0o v25.1 2).bind λv28=>bif (v28.2.2 != (0:Int)) then (some (.x0 v28.2.2)) else ((X0o v28.1 3).bind λv31=>bif (v31.2.2 != (0:Int)) then (some (.x0 v31.2.2)) else (bif (!(bif (bif (bif false then true else v25.2.1) then true else v28.2.1) then true else v31.2.1)) then (some (.x1 v31.1)) else (X2m Xi n v31.1 (IntKind.i64.wrap (Xhj+1))))))) else (some (.x1 Xc))
def X4g (a0:X2):Option (X2×Int) :=
 (X2m  (X2.mk 0 ([]:List X1) ([]:List Int) false ([]:List X1) (X3.mk 0 0 0) false 0) FU a0 0).bind λo35=>match o35 with|.x0 X7r=>(some ((X2.mk ((X2.mk 0 ([]:List X1) ([]:List Int) false ([]:List X1) (X3.mk 0 0 0) false 0).Agg) ((X2.mk 0 ([]:List X1) ([]:List Int) false ([]:List X1) (X3.mk 0 0 0) false 0).Arg) ((X2.mk 0 ([]:List X1) ([]:List Int) false ([]:List X1) (X3.mk 0 0 0) false 0).Sources) ((X2.mk 0 ([]:List X1) ([]:List Int) false ([]:List X1) (X3.mk 0 0 0) false 0).Join) ((X2.mk 0 ([]:List X1) ([]:List Int) false ([]:List X1) (X3.mk 0 0 0) false 0).Where) ((X2.mk 0 ([]:List X1) ([]:List Int) false ([]:List X1) (X3.mk 0 0 0) false 0).Window) ((X2.mk 0 ([]:List X1) ([]:List Int) false ([]:List X1) (X3.mk 0 0 0) false 0).ByKey) ((X2.mk 0 ([]:List X1) ([]:List Int) false ([]:List X1) (X3.mk 0 0 0) false 0).Late)),X7r))|.x1 X4e=>(some (X4e,0))
def X6r (a0:X2):Option (X2×Int) :=
 (X4h a0).bind λv1=>bif (v1.2 != (0:Int)) then (some ((X2.mk 0 ([]:List X1) ([]:List Int) false ([]:List X1) (X3.mk 0 0 0) false 0),v1.2)) else ((X1v a0 1).bind λv4=>(X1v v4 2).bind λv6=>(X1v v6 3).bind λv8=>(X1v v8 1).bind λv10=>(X1v v10 2).bind λv12=>(X1v v12 3).bind λv14=>some (v14,0))
def X3g (a0:X2) (a1:Int):Option (Bool) :=
 (X6u a0).bind λv1=>bif v1 then (some true) else ((X0o a0 a1).bind λv4=>(X33 a0 a1).bind λv6=>(X4g a0).bind λv8=>(X6r a0).bind λv10=>((X0k v4.1 v6.1).bind λv21=>bif v21 then (bif (v4.2.1==v6.2.1) then (bif (v4.2.2==v6.2.2) then ((X0k v8.1 v10.1).bind λv26=>bif v26 then (some (bif (bif (bif (bif v21 then (v4.2.1==v6.2.1) else false) then (v4.2.2==v6.2.2) else false) then v26 else false) then (v8.2==v10.2) else false)) else (some (bif (bif (bif (bif v21 then (v4.2.1==v6.2.1) else false) then (v4.2.2==v6.2.2) else false) then v26 else false) then false else false))) else (some (bif (bif (bif (bif v21 then (v4.2.1==v6.2.1) else false) then (v4.2.2==v6.2.2) else false) then false else false) then false else false))) else (some (bif (bif (bif (bif v21 then (v4.2.1==v6.2.1) else false) then false else false) then false else false) then false else false))) else (some (bif (bif (bif (bif v21 then false else false) then false else false) then false else false) then false else false)):Option (Bool)).bind λXmi=>some Xmi)
end
end Go.D
