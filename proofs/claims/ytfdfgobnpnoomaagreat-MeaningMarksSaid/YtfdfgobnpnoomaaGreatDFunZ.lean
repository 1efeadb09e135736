/- Printed by decomp.py: the functions. -/
import Derived.Test.YtfdfgobnpnoomaaGreatDTypesZ
set_option linter.all false

namespace Go.D
def Xf0 (a0:Int) (a1:Int) (a2:Int):Option (Xb) :=
 some (Xb.mk false 0 (Xm.mk a0 a1 a2))
def X98 (a0:Int):Option (Xb) :=
 some (Xb.mk true a0 (Xm.mk 0 0 0))
def Xid:Option (X03) :=
 some (X03.mk 2 [(X0c.mk 4 0 0 0 0)] [0] false ([]:List X0c) (X0w.mk 1 10 0) false 2)
def X9w (a0:Int):Option (Int×Int) :=
 bif (bif (decide (a0 >= (1:Int))) then (decide (a0<=(4:Int))) else false) then (some (0,0)) else (bif (bif (a0==(5:Int)) then true else (a0==(6:Int))) then (some (1,0)) else (bif (bif (decide (a0 >= (7:Int))) then (decide (a0<=(19:Int))) else false) then (some (2,0)) else (some (0,2))))
inductive X5v where
 |x0 (X02:(List Xq)) (X0n:(List Xq))
 |x1 (X0k:(List Xq))
def X24 (X5s:(List X0c)):List X0c->Nat->(List Xq)->(List Xq)->Option X5v
 |[],k,Xs,Xo=>some (.x0 Xs Xo)
 |x::xs,k,Xs,Xo=>(X9w x.Kind).bind fun v318=>(bif (v318.2 != (0:Int)) then (some (bif (v318.2 != (0:Int)) then true else false)) else (some (bif (v318.2 != (0:Int)) then true else (decide (v318.1>(List.length Xo:Int))))):Option (Bool)).bind fun Xq5=>bif Xq5 then (some (.x1 Xs)) else ((X71 Xo 0 (IntKind.i64.wrap ((List.length Xo:Int) - v318.1))).bind fun m331=>(X71 Xo (IntKind.i64.wrap ((List.length Xo:Int) - v318.1)) (List.length Xo:Int)).bind fun m333=>bif (List.isEmpty m333) then ((bif (x.Kind==(1:Int)) then (some (X0c.mk x.Kind (if 0>x.N then 0 else x.N) 0 0 (if 400<(if 0>x.At then 0 else x.At) then 400 else (if 0>x.At then 0 else x.At)))) else (some (X0c.mk x.Kind 0 0 0 (if 400<(if 0>x.At then 0 else x.At) then 400 else (if 0>x.At then 0 else x.At)))):Option (X0c)).bind fun Xq4=>bif (!(X7l Xq4 x)) then (some (.x1 Xs)) else ((X1w (List.length (m331++[(Xq.mk (k:Int) 1 1)])) 24).bind fun u341=>(X1w (List.length (Xs++[(Xq.mk (k:Int) 1 1)])) 24).bind fun u343=>X24 X5s xs (k+1) (Xs++[(Xq.mk (k:Int) 1 1)]) (m331++[(Xq.mk (k:Int) 1 1)]))) else (bif ((List.length m333:Int)==(1:Int)) then ((X2c m333 0).bind fun e346=>(bif (x.Kind==(1:Int)) then (some (X0c.mk x.Kind (if 0>x.N then 0 else x.N) e346.at_ 0 (if 400<(if 0>x.At then 0 else x.At) then 400 else (if 0>x.At then 0 else x.At)))) else (some (X0c.mk x.Kind 0 e346.at_ 0 (if 400<(if 0>x.At then 0 else x.At) then 400 else (if 0>x.At then 0 else x.At)))):Option (X0c)).bind fun Xq3=>bif (!(X7l Xq3 x)) then (some (.x1 Xs)) else ((X1w (List.length (m331++[(Xq.mk (k:Int) (IntKind.i64.wrap (1+e346.size)) (if (IntKind.i64.wrap (e346.depth+1))>1 then (IntKind.i64.wrap (e346.depth+1)) else 1))])) 24).bind fun u353=>(X1w (List.length (Xs++[(Xq.mk (k:Int) (IntKind.i64.wrap (1+e346.size)) (if (IntKind.i64.wrap (e346.depth+1))>1 then (IntKind.i64.wrap (e346.depth+1)) else 1))])) 24).bind fun u355=>X24 X5s xs (k+1) (Xs++[(Xq.mk (k:Int) (IntKind.i64.wrap (1+e346.size)) (if (IntKind.i64.wrap (e346.depth+1))>1 then (IntKind.i64.wrap (e346.depth+1)) else 1))]) (m331++[(Xq.mk (k:Int) (IntKind.i64.wrap (1+e346.size)) (if (IntKind.i64.wrap (e346.depth+1))>1 then (IntKind.i64.wrap (e346.depth+1)) else 1))]))) else (bif ((List.length m333:Int)==(2:Int)) then ((X2c m333 0).bind fun e358=>(X2c m333 1).bind fun e360=>(bif (x.Kind==(1:Int)) then (some (X0c.mk x.Kind (if 0>x.N then 0 else x.N) e358.at_ e360.at_ (if 400<(if 0>x.At then 0 else x.At) then 400 else (if 0>x.At then 0 else x.At)))) else (some (X0c.mk x.Kind 0 e358.at_ e360.at_ (if 400<(if 0>x.At then 0 else x.At) then 400 else (if 0>x.At then 0 else x.At)))):Option (X0c)).bind fun Xq2=>bif (!(X7l Xq2 x)) then (some (.x1 Xs)) else ((X1w (List.length (m331++[(Xq.mk (k:Int) (IntKind.i64.wrap ((IntKind.i64.wrap (1+e358.size))+e360.size)) (if (IntKind.i64.wrap (e360.depth+1))>(if (IntKind.i64.wrap (e358.depth+1))>1 then (IntKind.i64.wrap (e358.depth+1)) else 1) then (IntKind.i64.wrap (e360.depth+1)) else (if (IntKind.i64.wrap (e358.depth+1))>1 then (IntKind.i64.wrap (e358.depth+1)) else 1)))])) 24).bind fun u367=>(X1w (List.length (Xs++[(Xq.mk (k:Int) (IntKind.i64.wrap ((IntKind.i64.wrap (1+e358.size))+e360.size)) (if (IntKind.i64.wrap (e360.depth+1))>(if (IntKind.i64.wrap (e358.depth+1))>1 then (IntKind.i64.wrap (e358.depth+1)) else 1) then (IntKind.i64.wrap (e360.depth+1)) else (if (IntKind.i64.wrap (e358.depth+1))>1 then (IntKind.i64.wrap (e358.depth+1)) else 1)))])) 24).bind fun u369=>X24 X5s xs (k+1) (Xs++[(Xq.mk (k:Int) (IntKind.i64.wrap ((IntKind.i64.wrap (1+e358.size))+e360.size)) (if (IntKind.i64.wrap (e360.depth+1))>(if (IntKind.i64.wrap (e358.depth+1))>1 then (IntKind.i64.wrap (e358.depth+1)) else 1) then (IntKind.i64.wrap (e360.depth+1)) else (if (IntKind.i64.wrap (e358.depth+1))>1 then (IntKind.i64.wrap (e358.depth+1)) else 1)))]) (m331++[(Xq.mk (k:Int) (IntKind.i64.wrap ((IntKind.i64.wrap (1+e358.size))+e360.size)) (if (IntKind.i64.wrap (e360.depth+1))>(if (IntKind.i64.wrap (e358.depth+1))>1 then (IntKind.i64.wrap (e358.depth+1)) else 1) then (IntKind.i64.wrap (e360.depth+1)) else (if (IntKind.i64.wrap (e358.depth+1))>1 then (IntKind.i64.wrap (e358.depth+1)) else 1)))]))) else none)))
def Xdh (a0:(List X0c)):Option ((List Xq)×Bool) :=
 (X4u (List.length a0)).bind fun u1=>(X24  a0 a0 0 ([]:List Xq) ([]:List Xq)).bind fun o475=>match o475 with|.x0 X02 X0n=>(some (X02,((List.length X0n:Int)==(1:Int))))|.x1 X0k=>(some (X0k,false))
def X9v (a0:(List X0c)):Option ((List Xq)×Int) :=
 bif (decide ((List.length a0:Int)>(60:Int))) then (some (([]:List Xq),4)) else ((Xdh a0).bind fun v2=>bif (!v2.2) then (some (([]:List Xq),8)) else ((X2c v2.1 (IntKind.i64.wrap ((List.length v2.1:Int) - 1))).bind fun e5=>bif (decide (e5.depth>(20:Int))) then (some (([]:List Xq),34)) else (some (v2.1,0))))
def X5w (a0:(List X0c)):Option (Int) :=
 (X9v a0).bind fun v1=>some v1.2
def X68 (a0:Int):Option (Bool) :=
 some (bif (decide (a0<(0:Int))) then true else (decide (a0 >= (4:Int))))
inductive X23 where
 |x0
 |x1 (Xa7:Int)
def X10 (X0y:(List Int)):List Int->Nat->Option X23
 |[],k=>some (.x0)
 |x::xs,k=>(X68 x).bind fun v10=>bif v10 then (some (.x1 (k:Int))) else (X10 X0y xs (k+1))
def X0x (a0:(List Int)):Option (Int) :=
 (X4u (List.length a0)).bind fun u1=>(X10  a0 a0 0).bind fun o13=>match o13 with|.x0=>(some (-1))|.x1 Xa7=>(some Xa7)
def X0b (a0:(List Int)):Option (Bool) :=
 (X0x a0).bind fun v1=>some (decide (v1 >= (0:Int)))
def X39 (l:List Int):Option Int:=(X4u (List.length l)).bind fun _=>some ((X8q [] l).length:Int)
def X2f (a0:(List Int)) (a1:Bool):Option (Int) :=
 bif (decide ((List.length a0:Int)>(4:Int))) then (some 4) else ((bif ((List.length a0:Int)==(0:Int)) then (some (bif (bif ((List.length a0:Int)==(0:Int)) then true else false) then true else false)) else (bif a1 then (bif ((List.length a0:Int) != (2:Int)) then (some (bif (bif ((List.length a0:Int)==(0:Int)) then true else (bif a1 then ((List.length a0:Int) != (2:Int)) else false)) then true else false)) else ((X0b a0).bind fun v13=>some (bif (bif ((List.length a0:Int)==(0:Int)) then true else (bif a1 then ((List.length a0:Int) != (2:Int)) else false)) then true else v13))) else ((X0b a0).bind fun v15=>some (bif (bif ((List.length a0:Int)==(0:Int)) then true else (bif a1 then false else false)) then true else v15))):Option (Bool)).bind fun X032=>bif X032 then (some 8) else ((X39 a0).bind fun v19=>bif (decide (v19<(List.length a0:Int))) then (some 43) else (some 0)))
def X1f (a0:X0w):Option (Int) :=
 bif (bif (decide (a0.Size<(1:Int))) then true else (decide (a0.Size>(1073741824:Int)))) then (some 8) else (bif (a0.Kind==(2:Int)) then (bif (bif (bif (decide (a0.Every >= (1:Int))) then (decide (a0.Every<=a0.Size)) else false) then (decide (a0.Size<=(IntKind.i64.wrap (16*a0.Every)))) else false) then (some 0) else (some 8)) else (bif (a0.Kind==(1:Int)) then (bif (a0.Every==(0:Int)) then (some 0) else (some 8)) else (bif (a0.Kind==(3:Int)) then (bif (a0.Every==(0:Int)) then (some 0) else (some 8)) else (some 8))))
def X7p (a0:X03):Option (Int) :=
 bif (bif (bif (decide (a0.Agg<(1:Int))) then true else (decide (a0.Agg>(4:Int)))) then true else (bif (a0.Late != (1:Int)) then (a0.Late != (2:Int)) else false)) then (some 8) else (bif (a0.Agg != (1:Int)) then ((X5w a0.Arg).bind fun v3=>bif (v3 != (0:Int)) then (some v3) else (bif (decide ((List.length a0.Where:Int)>(0:Int))) then ((X5w a0.Where).bind fun v7=>bif (v7 != (0:Int)) then (some v7) else ((X2f a0.Sources a0.Join).bind fun v10=>bif (v10 != (0:Int)) then (some v10) else (bif (bif a0.Join then (a0.Window.Kind != (1:Int)) else false) then (some 8) else ((X1f a0.Window).bind fun v14=>some v14)))) else ((X2f a0.Sources a0.Join).bind fun v16=>bif (v16 != (0:Int)) then (some v16) else (bif (bif a0.Join then (a0.Window.Kind != (1:Int)) else false) then (some 8) else ((X1f a0.Window).bind fun v20=>some v20))))) else (bif (decide ((List.length a0.Arg:Int)>(0:Int))) then (some 8) else (bif (decide ((List.length a0.Where:Int)>(0:Int))) then ((X5w a0.Where).bind fun v24=>bif (v24 != (0:Int)) then (some v24) else ((X2f a0.Sources a0.Join).bind fun v27=>bif (v27 != (0:Int)) then (some v27) else (bif (bif a0.Join then (a0.Window.Kind != (1:Int)) else false) then (some 8) else ((X1f a0.Window).bind fun v31=>some v31)))) else ((X2f a0.Sources a0.Join).bind fun v33=>bif (v33 != (0:Int)) then (some v33) else (bif (bif a0.Join then (a0.Window.Kind != (1:Int)) else false) then (some 8) else ((X1f a0.Window).bind fun v37=>some v37))))))
inductive X2b where
 |x0
 |x1
def X0p (Xo:(List Bool)) (Xam:(V2 Bool)) (X1b:(List Int)):List Int->Nat->Option X2b
 |[],k=>some (.x0)
 |x::xs,k=>(X2c Xo x).bind fun e3011=>bif (!(e3011==false)) then (some (.x1)) else (X0p Xo Xam X1b xs (k+1))
inductive X20 where
 |x0
 |x1
def X0r (Xo:(List Bool)) (X1q:(List Int)):List Int->Nat->Option X20
 |[],k=>some (.x0)
 |x::xs,k=>(X2c Xo x).bind fun e3127=>bif (!(e3127==true)) then (some (.x1)) else (X0r Xo X1q xs (k+1))
inductive X5z where
 |x0 (X0n:(List Bool))
 |x1 (X0k:(List Bool)) (Xaz:Int)
def X1u (X0y:(List X0c)):List X0c->Nat->(List Bool)->Option X5z
 |[],k,Xo=>some (.x0 Xo)
 |x::xs,k,Xo=>bif (decide (x.Kind<=(4:Int))) then ((X1w (List.length (Xo++[false])) 1).bind fun u2525=>X1u X0y xs (k+1) (Xo++[false])) else (bif (x.Kind==(5:Int)) then (((X2c Xo x.A).bind fun e2546=>bif (!(e2546==false)) then (some (bif (!(bif true then false else false)) then (!(bif false then false else false)) else false)) else (some (bif (!(bif true then true else false)) then false else false)):Option (Bool)).bind fun Xls=>bif Xls then (some (.x1 ([]:List Bool) (k:Int))) else ((X1w (List.length (Xo++[false])) 1).bind fun u2551=>X1u X0y xs (k+1) (Xo++[false]))) else (bif (x.Kind==(6:Int)) then (((X2c Xo x.A).bind fun e2571=>bif (!(e2571==true)) then (some false) else (some true):Option (Bool)).bind fun Xlr=>bif (bif (!(bif false then false else false)) then (!(bif true then Xlr else false)) else false) then (some (.x1 ([]:List Bool) (k:Int))) else ((X1w (List.length (Xo++[true])) 1).bind fun u2576=>X1u X0y xs (k+1) (Xo++[true]))) else ((bif (decide (x.Kind<=(11:Int))) then (some ((V2.mk true false),false)) else (bif (decide (x.Kind<=(15:Int))) then (some ((V2.mk true false),true)) else (bif (decide (x.Kind<=(17:Int))) then (some ((V2.mk true true),true)) else (some ((V2.mk false true),true)))):Option ((V2 Bool)×Bool)).bind fun w2581=>(bif w2581.1.e0 then (((X4u (List.length [x.A,x.B])).bind fun u2980=>(X0p  Xo w2581.1 [x.A,x.B] [x.A,x.B] 0).bind fun o3016=>match o3016 with|.x0=>(some true)|.x1=>(some false):Option (Bool)).bind fun Xc0=>bif (!(bif w2581.1.e0 then Xc0 else false)) then (bif w2581.1.e1 then (((X4u (List.length [x.A,x.B])).bind fun u3096=>(X0r  Xo [x.A,x.B] [x.A,x.B] 0).bind fun o3132=>match o3132 with|.x0=>(some true)|.x1=>(some false):Option (Bool)).bind fun Xlp=>some (bif (!(bif w2581.1.e0 then Xc0 else false)) then (!(bif w2581.1.e1 then Xlp else false)) else false)) else (some (bif (!(bif w2581.1.e0 then Xc0 else false)) then (!(bif w2581.1.e1 then false else false)) else false))) else (some (bif (!(bif w2581.1.e0 then Xc0 else false)) then false else false))) else (bif (!(bif w2581.1.e0 then false else false)) then (bif w2581.1.e1 then (((X4u (List.length [x.A,x.B])).bind fun u3192=>(X0r  Xo [x.A,x.B] [x.A,x.B] 0).bind fun o3218=>match o3218 with|.x0=>(some true)|.x1=>(some false):Option (Bool)).bind fun Xlo=>some (bif (!(bif w2581.1.e0 then false else false)) then (!(bif w2581.1.e1 then Xlo else false)) else false)) else (some (bif (!(bif w2581.1.e0 then false else false)) then (!(bif w2581.1.e1 then false else false)) else false))) else (some (bif (!(bif w2581.1.e0 then false else false)) then false else false))):Option (Bool)).bind fun Xlq=>bif Xlq then (some (.x1 ([]:List Bool) (k:Int))) else ((X1w (List.length (Xo++[w2581.2])) 1).bind fun u3223=>X1u X0y xs (k+1) (Xo++[w2581.2])))))
def Xdi (a0:(List X0c)):Option ((List Bool)×Int) :=
 (X4u (List.length a0)).bind fun u1=>(X1u  a0 a0 0 ([]:List Bool)).bind fun o3784=>match o3784 with|.x0 X0n=>(some (X0n,(List.length a0:Int)))|.x1 X0k Xaz=>(some (X0k,Xaz))
def Xdj (a0:(List X0c)):Option (Bool×Int×Int) :=
 (X5w a0).bind fun v1=>bif (v1 != (0:Int)) then (some (false,0,v1)) else ((Xdi a0).bind fun v4=>bif (decide (v4.2<(List.length a0:Int))) then (some (false,v4.2,42)) else ((X2c v4.1 (IntKind.i64.wrap (v4.2 - 1))).bind fun e7=>some (e7,(IntKind.i64.wrap (v4.2 - 1)),0)))
def X99 (a0:(List X0c)) (a1:Bool):Option (Int×Int) :=
 (Xdj a0).bind fun v1=>(bif (bif (v1.2.2==(0:Int)) then (!(v1.1==a1)) else false) then (some 42) else (some v1.2.2):Option (Int)).bind fun j4_8=>some (v1.2.1,j4_8)
def Xa1 (a0:(List X0c)):Option (Int×Int) :=
 (X99 a0 true).bind fun v1=>some (v1.1,v1.2)
def Xae (a0:(List X0c)):Option (Int×Int) :=
 (X99 a0 false).bind fun v1=>some (v1.1,v1.2)
def X8r (a0:X03):Option (Int×Int) :=
 (X7p a0).bind fun v1=>bif (v1 != (0:Int)) then (some (0,v1)) else ((bif ((List.length a0.Arg:Int)==(0:Int)) then (bif ((List.length a0.Where:Int)==(0:Int)) then (some (0,0)) else ((Xa1 a0.Where).bind fun v25=>bif (v25.2 != (0:Int)) then ((X2c a0.Where v25.1).bind fun e28=>some (e28.At,v25.2)) else (some (0,0)))) else ((Xae a0.Arg).bind fun v30=>bif (v30.2 != (0:Int)) then ((X2c a0.Arg v30.1).bind fun e33=>some (e33.At,v30.2)) else (bif ((List.length a0.Where:Int)==(0:Int)) then (some (0,0)) else ((Xa1 a0.Where).bind fun v36=>bif (v36.2 != (0:Int)) then ((X2c a0.Where v36.1).bind fun e39=>some (e39.At,v36.2)) else (some (0,0))))):Option (Int×Int)).bind fun w22=>some (w22.1,w22.2))
def Xbd (a0:Int):Option (Bool) :=
 some (bif (decide (a0 >= ((-1099511627776):Int))) then (decide (a0<=(1099511627776:Int))) else false)
inductive X7h where
 |x0
 |x1
def X52 (X4j:(List Xb)):List Xb->Nat->Option X7h
 |[],k=>some (.x0)
 |x::xs,k=>(bif (X4g x.Record (Xm.mk 0 0 0)) then ((Xbd x.Time).bind fun v49=>bif v49 then (some (bif (X4g x.Record (Xm.mk 0 0 0)) then (bif v49 then true else false) else false)) else (some (bif (X4g x.Record (Xm.mk 0 0 0)) then (bif v49 then true else (x.Time==(9223372036854775807:Int))) else false))) else (some (bif (X4g x.Record (Xm.mk 0 0 0)) then false else false)):Option (Bool)).bind fun X007=>(bif (x.Time==(0:Int)) then ((Xbd x.Record.Time).bind fun v58=>some (bif (x.Time==(0:Int)) then v58 else false)) else (some (bif (x.Time==(0:Int)) then false else false)):Option (Bool)).bind fun X03b=>bif (bif (bif x.Mark then (!X007) else false) then true else (bif (!x.Mark) then (!X03b) else false)) then (some (.x1)) else (X52 X4j xs (k+1))
def X8a (a0:(List Xb)):Option (Int) :=
 bif (decide ((List.length a0:Int)>(60:Int))) then (some 4) else ((X4u (List.length a0)).bind fun u2=>(X52  a0 a0 0).bind fun o62=>match o62 with|.x0=>(some 0)|.x1=>(some 8))
inductive X4z where
 |x0
 |x1 (X4k:Int)
def X2m (Xdz:(List (List Xb))):List (List Xb)->Nat->Option X4z
 |[],k=>some (.x0)
 |x::xs,k=>(X8a x).bind fun v10=>bif (v10 != (0:Int)) then (some (.x1 v10)) else (X2m Xdz xs (k+1))
def X5d (a0:(List (List Xb))):Option (Int) :=
 (X4u (List.length a0)).bind fun u1=>(X2m  a0 a0 0).bind fun o13=>match o13 with|.x0=>(some 0)|.x1 X4k=>(some X4k)
inductive Xa0 where
 |x0 (X02:(List Xm)) (X0n:(List Xm))
def X43 (Xcp:(List Xb)):List Xb->Nat->(List Xm)->(List Xm)->Int->Option Xa0
 |[],k,Xs,Xo,Xam=>some (.x0 Xs Xo)
 |x::xs,k,Xs,Xo,Xam=>(bif x.Mark then (some (if x.Time>Xam then x.Time else Xam)) else (some Xam):Option (Int)).bind fun Xlx=>(bif x.Mark then (some (Xs,Xo)) else (bif (decide (x.Record.Time<Xam)) then ((X1w (List.length (Xo++[x.Record])) 24).bind fun u200=>some (Xs,(Xo++[x.Record]))) else ((X1w (List.length (Xs++[x.Record])) 24).bind fun u202=>some ((Xs++[x.Record]),Xo))):Option ((List Xm)×(List Xm))).bind fun w197=>X43 Xcp xs (k+1) w197.1 w197.2 Xlx
def Xbe (a0:(List Xb)):Option ((List Xm)×(List Xm)×Int) :=
 (X8a a0).bind fun v1=>bif (v1 != (0:Int)) then (some (([]:List Xm),([]:List Xm),v1)) else ((X4u (List.length a0)).bind fun u4=>(X43  a0 a0 0 ([]:List Xm) ([]:List Xm) (-9223372036854775808)).bind fun o271=>match o271 with|.x0 X02 X0n=>(some (X02,X0n,0)))
def Xc6 (a0:(List X0c)):Option (Int) :=
 (Xdj a0).bind fun v1=>some v1.2.2
def X3w (a0:Bool):Option (Int) :=
 bif a0 then (some 1) else (some 0)
def Xg0 (a0:Int) (a1:Int) (a2:Int):Option (Int×Int) :=
 bif (a0==(5:Int)) then (some ((IntKind.i64.wrap (0 - a1)),0)) else (bif (a0==(6:Int)) then ((X3w (a1==(0:Int))).bind fun v3=>some (v3,0)) else (bif (a0==(7:Int)) then (some ((IntKind.i64.wrap (a1*a2)),0)) else (bif (a0==(8:Int)) then (some ((IntKind.i64.wrap (a1+a2)),0)) else (bif (a0==(9:Int)) then (some ((IntKind.i64.wrap (a1 - a2)),0)) else (bif (a0==(10:Int)) then ((shOk (bits .and IntKind.i64 a2 63)).bind fun u9=>some ((IntKind.i64.wrap (a1*2 ^ (min (Int.toNat (bits .and IntKind.i64 a2 63)) IntKind.i64.bits))),0)) else (bif (a0==(11:Int)) then ((shOk (bits .and IntKind.i64 a2 63)).bind fun u12=>some ((Int.fdiv a1 (2 ^ (min (Int.toNat (bits .and IntKind.i64 a2 63)) IntKind.i64.bits))),0)) else (bif (a0==(12:Int)) then ((X3w (decide (a1<a2))).bind fun v15=>some (v15,0)) else (bif (a0==(13:Int)) then ((X3w (decide (a1<=a2))).bind fun v18=>some (v18,0)) else (bif (a0==(14:Int)) then ((X3w (decide (a1>a2))).bind fun v21=>some (v21,0)) else (bif (a0==(15:Int)) then ((X3w (decide (a1 >= a2))).bind fun v24=>some (v24,0)) else (bif (a0==(16:Int)) then ((X3w (a1==a2)).bind fun v27=>some (v27,0)) else (bif (a0==(17:Int)) then ((X3w (a1 != a2)).bind fun v30=>some (v30,0)) else (bif (a0==(18:Int)) then ((X3w (bif (a1 != (0:Int)) then (a2 != (0:Int)) else false)).bind fun v33=>some (v33,0)) else (bif (a0==(19:Int)) then ((X3w ((bits .or IntKind.i64 a1 a2) != (0:Int))).bind fun v36=>some (v36,0)) else (some (0,2))))))))))))))))
inductive X8j where
 |x0 (X02:(List Int))
 |x1 (X0k:(List Int)) (Xay:Int)
def X61 (Xs:(V5 Int)) (X80:(List X0c)):List X0c->Nat->(List Int)->Option X8j
 |[],k,Xo=>some (.x0 Xo)
 |x::xs,k,Xo=>bif (x.Kind==(1:Int)) then ((X2c Xo (k:Int)).bind fun e151=>X61 Xs X80 xs (k+1) (List.set Xo (Int.toNat (k:Int)) x.N)) else (bif (decide (x.Kind<=(4:Int))) then ((bif (x.Kind==(0:Int)) then ((X2c Xo (k:Int)).bind fun e168=>some (List.set Xo (Int.toNat (k:Int)) Xs.e0)) else (bif (x.Kind==(2:Int)) then ((X2c Xo (k:Int)).bind fun e171=>some (List.set Xo (Int.toNat (k:Int)) Xs.e2)) else (bif (x.Kind==(3:Int)) then ((X2c Xo (k:Int)).bind fun e174=>some (List.set Xo (Int.toNat (k:Int)) Xs.e3)) else (bif (x.Kind==(4:Int)) then ((X2c Xo (k:Int)).bind fun e177=>some (List.set Xo (Int.toNat (k:Int)) Xs.e4)) else none))):Option ((List Int))).bind fun Xin=>X61 Xs X80 xs (k+1) Xin) else ((X2c Xo x.A).bind fun e180=>(X2c Xo x.B).bind fun e182=>(Xg0 x.Kind e180 e182).bind fun v184=>bif (v184.2 != (0:Int)) then (some (.x1 ([]:List Int) v184.2)) else ((X2c Xo (k:Int)).bind fun e187=>X61 Xs X80 xs (k+1) (List.set Xo (Int.toNat (k:Int)) v184.1))))
inductive X6r where
 |x0 (X02:(List Int))
 |x1 (X0k:(List Int)) (Xay:Int)
def X2e (Xs:(V5 Int)) (X80:(List X0c)):List X0c->Nat->(List Int)->Option X6r
 |[],k,Xo=>some (.x0 Xo)
 |x::xs,k,Xo=>bif (x.Kind==(1:Int)) then ((X2c Xo (k:Int)).bind fun e304=>X2e Xs X80 xs (k+1) (List.set Xo (Int.toNat (k:Int)) x.N)) else (bif (decide (x.Kind<=(4:Int))) then ((bif (x.Kind==(0:Int)) then ((X2c Xo (k:Int)).bind fun e321=>some (List.set Xo (Int.toNat (k:Int)) Xs.e0)) else (bif (x.Kind==(2:Int)) then ((X2c Xo (k:Int)).bind fun e324=>some (List.set Xo (Int.toNat (k:Int)) Xs.e2)) else (bif (x.Kind==(3:Int)) then ((X2c Xo (k:Int)).bind fun e327=>some (List.set Xo (Int.toNat (k:Int)) Xs.e3)) else (bif (x.Kind==(4:Int)) then ((X2c Xo (k:Int)).bind fun e330=>some (List.set Xo (Int.toNat (k:Int)) Xs.e4)) else none))):Option ((List Int))).bind fun Xln=>X2e Xs X80 xs (k+1) Xln) else ((X2c Xo x.A).bind fun e333=>(X2c Xo x.B).bind fun e335=>(Xg0 x.Kind e333 e335).bind fun v337=>bif (v337.2 != (0:Int)) then (some (.x1 ([]:List Int) v337.2)) else ((X2c Xo (k:Int)).bind fun e340=>X2e Xs X80 xs (k+1) (List.set Xo (Int.toNat (k:Int)) v337.1))))
def Xfa (a0:(List X0c)) (a1:Xm):Option ((List Int)×Int) :=
 (Xc6 a0).bind fun v1=>bif (v1 != (0:Int)) then (some (([]:List Int),v1)) else ((mkOk (List.length a0:Int) (List.length a0:Int) 8).bind fun u4=>bif ((List.length a0:Int)==(0:Int)) then ((X4u (List.length a0)).bind fun u7=>(X61  (V5.mk 0 0 a1.Key a1.Time a1.Value) a0 a0 0 (List.replicate (Int.toNat (List.length a0:Int)) 0)).bind fun o220=>match o220 with|.x0 X02=>(some (X02,0))|.x1 X0k Xay=>(some (X0k,Xay))) else ((X4u (List.length a0)).bind fun u222=>(X2e  (V5.mk 0 0 a1.Key a1.Time a1.Value) a0 a0 0 (List.replicate (Int.toNat (List.length a0:Int)) 0)).bind fun o342=>match o342 with|.x0 X02=>(some (X02,0))|.x1 X0k Xay=>(some (X0k,Xay))))
def X6q (a0:(List X0c)) (a1:Xm):Option (Int×Int) :=
 (Xfa a0 a1).bind fun v1=>bif (v1.2 != (0:Int)) then (some (0,v1.2)) else ((X2c v1.1 (IntKind.i64.wrap ((List.length v1.1:Int) - 1))).bind fun e4=>some (e4,0))
def X6e (a0:X03) (a1:Xm):Option (Xm×Bool) :=
 bif (decide ((List.length a0.Where:Int)>(0:Int))) then ((X6q a0.Where a1).bind fun v2=>bif (bif (v2.2 != (0:Int)) then true else (v2.1==(0:Int))) then (some ((Xm.mk 0 0 0),false)) else ((bif a0.ByKey then (some (Xm.mk a1.Key a1.Time 0)) else (some (Xm.mk 0 a1.Time 0)):Option (Xm)).bind fun Xl8=>(bif (a0.Agg != (1:Int)) then ((X6q a0.Arg a1).bind fun v14=>some (Xm.mk Xl8.Key Xl8.Time v14.1)) else (some Xl8):Option (Xm)).bind fun Xni=>some (Xni,true))) else ((bif a0.ByKey then (some (Xm.mk a1.Key a1.Time 0)) else (some (Xm.mk 0 a1.Time 0)):Option (Xm)).bind fun Xnh=>(bif (a0.Agg != (1:Int)) then ((X6q a0.Arg a1).bind fun v26=>some (Xm.mk Xnh.Key Xnh.Time v26.1)) else (some Xnh):Option (Xm)).bind fun Xww=>some (Xww,true))
def X3e (a0:X1k):Option (Int) :=
 (bif (a0.Count==(0:Int)) then (some (Xuj a0 (X1k.mk 0 0 0 0))) else (bif (a0.Count==(1:Int)) then (some (bif (a0.Sum==a0.Min) then (a0.Sum==a0.Max) else false)) else (bif (bif (decide (a0.Count>(1:Int))) then (decide (a0.Count<=(1073741824:Int))) else false) then (some (decide (a0.Min<=a0.Max))) else (some false))):Option (Bool)).bind fun j4_3=>bif (!j4_3) then (some 8) else (some 0)
def X9f (a0:Xa):Option (Bool) :=
 bif (bif (bif (decide (a0.Span.Start<((-1100585369600):Int))) then true else (decide (a0.Span.End<=a0.Span.Start))) then true else (decide (a0.Span.End>(1100585369600:Int)))) then (some false) else (((X3e a0.Values.e0).bind fun v9=>bif (v9==(0:Int)) then ((X3e a0.Values.e1).bind fun v12=>bif (v12==(0:Int)) then (some (bif (bif (v9==(0:Int)) then (v12==(0:Int)) else false) then (decide ((IntKind.i64.wrap (a0.Values.e0.Count+a0.Values.e1.Count))>(0:Int))) else false)) else (some (bif (bif (v9==(0:Int)) then (v12==(0:Int)) else false) then false else false))) else (some (bif (bif (v9==(0:Int)) then false else false) then false else false)):Option (Bool)).bind fun j8_2=>some j8_2)
def X62 (a0:Int):Option (Bool) :=
 some (a0 != a0)
def X2r (a0:Int) (a1:Int):Option (Int) :=
 (X62 a0).bind fun v1=>(X62 a1).bind fun v3=>bif v1 then (bif v3 then (some 0) else (some (-1))) else (bif v3 then (some 1) else (bif (decide (a0<a1)) then (some (-1)) else (bif (decide (a0>a1)) then (some 1) else (some 0))))
inductive X7n where
 |x0
 |x1 (X4k:Int)
def X67 (Xdz:(List Int)):List Int->Nat->Option X7n
 |[],k=>some (.x0)
 |x::xs,k=>bif (x != (0:Int)) then (some (.x1 x)) else (X67 Xdz xs (k+1))
def Xdp (a0:(List Int)):Option (Int) :=
 (X4u (List.length a0)).bind fun u1=>(X67  a0 a0 0).bind fun o7=>match o7 with|.x0=>(some 0)|.x1 X4k=>(some X4k)
def X6t (a0:Xa) (a1:Xa):Option (Int) :=
 (X2r a0.Span.End a1.Span.End).bind fun v1=>(X2r a0.Span.Start a1.Span.Start).bind fun v3=>(X2r a0.Key a1.Key).bind fun v5=>(Xdp [v1,v3,v5]).bind fun v7=>some v7
inductive X6h where
 |x0
 |x1
def X47 (X0y:(List Xa)):List Xa->Nat->Option X6h
 |[],k=>some (.x0)
 |x::xs,k=>((X9f x).bind fun v52=>bif (!v52) then (some true) else (bif (decide ((k:Int)>(0:Int))) then ((X2c X0y (IntKind.i64.wrap ((k:Int) - 1))).bind fun e56=>(X6t e56 x).bind fun v58=>some (bif (!v52) then true else (bif (decide ((k:Int)>(0:Int))) then (decide (v58 >= (0:Int))) else false))) else (some (bif (!v52) then true else false))):Option (Bool)).bind fun Xwk=>bif Xwk then (some (.x1)) else (X47 X0y xs (k+1))
def X9g (a0:(List Xa)):Option (Int) :=
 bif (decide ((List.length a0:Int)>(4000:Int))) then (some 4) else ((X4u (List.length a0)).bind fun u2=>(X47  a0 a0 0).bind fun o62=>match o62 with|.x0=>(some 0)|.x1=>(some 8))
def Xa2 (a0:Int):Option (X1k) :=
 some (X1k.mk 1 a0 a0 a0)
def X3z (a0:Int) (a1:Int):Option (Int) :=
 bif (bif (decide (a1<(1:Int))) then true else (decide (a1>(1073741824:Int)))) then (some 2) else (bif (bif (decide (a0<((-1099511627776):Int))) then true else (decide (a0>(1099511627776:Int)))) then (some 16) else (some 0))
def Xgf:List Int:=[0,1,2,2,3,3,3,3,4,4,4,4,4,4,4,4,5,5,5,5,5,5,5,5,5,5,5,5,5,5,5,5,6,6,6,6,6,6,6,6,6,6,6,6,6,6,6,6,6,6,6,6,6,6,6,6,6,6,6,6,6,6,6,6,7,7,7,7,7,7,7,7,7,7,7,7,7,7,7,7,7,7,7,7,7,7,7,7,7,7,7,7,7,7,7,7,7,7,7,7,7,7,7,7,7,7,7,7,7,7,7,7,7,7,7,7,7,7,7,7,7,7,7,7,7,7,7,7,8,8,8,8,8,8,8,8,8,8,8,8,8,8,8,8,8,8,8,8,8,8,8,8,8,8,8,8,8,8,8,8,8,8,8,8,8,8,8,8,8,8,8,8,8,8,8,8,8,8,8,8,8,8,8,8,8,8,8,8,8,8,8,8,8,8,8,8,8,8,8,8,8,8,8,8,8,8,8,8,8,8,8,8,8,8,8,8,8,8,8,8,8,8,8,8,8,8,8,8,8,8,8,8,8,8,8,8,8,8,8,8,8,8,8,8,8,8,8,8,8,8,8,8,8,8,8,8]
def X9y (a0:Int):Option (Int) :=
 (bif (decide (a0 >= (4294967296:Int))) then (some ((Int.fdiv a0 (2 ^ (min (Int.toNat 32) IntKind.u64.bits))),32)) else (some (a0,0)):Option (Int×Int)).bind fun w2=>(bif (decide (w2.1 >= (65536:Int))) then (some ((Int.fdiv w2.1 (2 ^ (min (Int.toNat 16) IntKind.u64.bits))),(IntKind.i64.wrap (w2.2+16)))) else (some (w2.1,w2.2)):Option (Int×Int)).bind fun w6=>(bif (decide (w6.1 >= (256:Int))) then (some ((Int.fdiv w6.1 (2 ^ (min (Int.toNat 8) IntKind.u64.bits))),(IntKind.i64.wrap (w6.2+8)))) else (some (w6.1,w6.2)):Option (Int×Int)).bind fun w10=>(X2c Xgf (IntKind.u8.wrap w10.1)).bind fun b13=>some (IntKind.i64.wrap (w10.2+(IntKind.i64.wrap b13)))
def X91 (a0:Int):Option (Int) :=
 (X9y a0).bind fun v1=>some v1
inductive X1a where
 |x0 (Xdy:Int)
def X06 (X0y:(List Xa)) (Xs:Xa) (Xe7:Int):Nat->Int->Int->Option X1a
 |0,_,_=>none
 |n+1,Xko,X4j=>bif (decide (Xko<X4j)) then ((X2c X0y (IntKind.i64.wrap (Int.fdiv (IntKind.u64.wrap (IntKind.i64.wrap (Xko+X4j))) (2 ^ (min (Int.toNat 1) IntKind.u64.bits))))).bind fun e15=>(X6t e15 Xs).bind fun v17=>bif (decide (v17<(0:Int))) then (X06 X0y Xs Xe7 n (IntKind.i64.wrap ((IntKind.i64.wrap (Int.fdiv (IntKind.u64.wrap (IntKind.i64.wrap (Xko+X4j))) (2 ^ (min (Int.toNat 1) IntKind.u64.bits))))+1)) X4j) else (X06 X0y Xs Xe7 n Xko (IntKind.i64.wrap (Int.fdiv (IntKind.u64.wrap (IntKind.i64.wrap (Xko+X4j))) (2 ^ (min (Int.toNat 1) IntKind.u64.bits)))))) else (some (.x0 Xko))
def Xt (a0:(List Xa)) (a1:Xa):Option (Int×Bool) :=
 (X06  a0 a1 (List.length a0:Int) FU 0 (List.length a0:Int)).bind fun o20=>match o20 with|.x0 Xdy=>((bif (decide (Xdy<(List.length a0:Int))) then ((X2c a0 Xdy).bind fun e29=>(X6t e29 a1).bind fun v31=>some (bif (decide (Xdy<(List.length a0:Int))) then (v31==(0:Int)) else false)) else (some false):Option (Bool)).bind fun X03s=>some (Xdy,X03s))
def X2g (a0:X1k) (a1:X1k):Option (X1k×Int) :=
 ((X3e a0).bind fun v7=>bif (v7 != (0:Int)) then (some (bif (v7 != (0:Int)) then true else false)) else ((X3e a1).bind fun v10=>some (bif (v7 != (0:Int)) then true else (v10 != (0:Int)))):Option (Bool)).bind fun X037=>bif X037 then (some ((X1k.mk 0 0 0 0),8)) else (bif (decide ((IntKind.i64.wrap (a0.Count+a1.Count))>(1073741824:Int))) then (some ((X1k.mk 0 0 0 0),4)) else (bif (a0.Count==(0:Int)) then (some (a1,0)) else (bif (a1.Count==(0:Int)) then (some (a0,0)) else (some ((X1k.mk (IntKind.i64.wrap (a0.Count+a1.Count)) (IntKind.i64.wrap (a0.Sum+a1.Sum)) (if a1.Min<a0.Min then a1.Min else a0.Min) (if a1.Max>a0.Max then a1.Max else a0.Max)),0)))))
def Xab (a0:Int) (a1:Int):Option (Int) :=
 bif (bif (decide (a1<(1:Int))) then true else (decide (a1>(1073741824:Int)))) then (some 2) else (bif (bif (decide (a0<((-1099511627776):Int))) then true else (decide (a0>(1099511627776:Int)))) then (some 16) else (some 0))
def X79 (a0:Int) (a1:Int):Option (Int×Int) :=
 (Xab a0 a1).bind fun v1=>bif (v1 != (0:Int)) then (some (0,v1)) else ((Xxp a1).bind fun u4=>(bif (decide ((Int.tmod a0 a1)<(0:Int))) then (some (IntKind.i64.wrap ((IntKind.i64.wrap (Int.tdiv a0 a1)) - 1))) else (some (IntKind.i64.wrap (Int.tdiv a0 a1))):Option (Int)).bind fun j7_7=>some (j7_7,0))
def Xb2 (a0:Int) (a1:Int):Option (X13×Int) :=
 (X79 a0 a1).bind fun v1=>bif (v1.2 != (0:Int)) then (some ((X13.mk 0 0),v1.2)) else (some ((X13.mk (IntKind.i64.wrap (v1.1*a1)) (IntKind.i64.wrap ((IntKind.i64.wrap (v1.1+1))*a1))),0))
inductive Xaq where
 |x0 (X02:(List X13))
def X5u (X0y:Int) (Xel:Int) (Xo7:Int):Nat->(List X13)->Int->Option Xaq
 |0,_,_=>none
 |n+1,Xs,Xho=>bif (decide ((IntKind.i64.wrap (Xho+Xel))>X0y)) then ((X1w (List.length (Xs++[(X13.mk Xho (IntKind.i64.wrap (Xho+Xel)))])) 16).bind fun u19=>X5u X0y Xel Xo7 n (Xs++[(X13.mk Xho (IntKind.i64.wrap (Xho+Xel)))]) (IntKind.i64.wrap (Xho - Xo7))) else (some (.x0 Xs))
inductive X85 where
 |x0 (X4w:(List X13)) (Xcn:(List X13))
def X3l (X1q:(List X13)):Nat->(List X13)->Int->Option X85
 |0,_,_=>none
 |n+1,X1b,Xkp=>bif (decide (Xkp >= (0:Int))) then ((X2c X1q Xkp).bind fun e68=>(X1w (List.length (X1b++[e68])) 16).bind fun u72=>X3l X1q n (X1b++[e68]) (IntKind.i64.wrap (Xkp - 1))) else (some (.x0 X1b X1q))
def Xcu (a0:Int) (a1:Int) (a2:Int):Option ((List X13)×Int) :=
 bif (bif (bif (bif (decide ((if a2<a1 then a2 else a1)<(1:Int))) then true else (decide (a1>(1073741824:Int)))) then true else (decide (a2>a1))) then true else (decide (a1>(IntKind.i64.wrap (16*a2))))) then (some (([]:List X13),2)) else ((Xb2 a0 a2).bind fun v2=>bif (v2.2 != (0:Int)) then (some (([]:List X13),v2.2)) else ((X5u  a0 a1 a2 FU ([]:List X13) v2.1.Start).bind fun o24=>match o24 with|.x0 X02=>((X3l  X02 FU ([]:List X13) (IntKind.i64.wrap ((List.length X02:Int) - 1))).bind fun o87=>match o87 with|.x0 X4w Xcn=>(some (X4w,0)))))
def Xen (a0:X0w) (a1:Int):Option ((List X13)×Int) :=
 (X1f a0).bind fun v1=>bif (v1 != (0:Int)) then (some (([]:List X13),v1)) else (bif (a0.Kind==(1:Int)) then ((Xb2 a1 a0.Size).bind fun v5=>bif (v5.2 != (0:Int)) then (some (([]:List X13),v5.2)) else (some ([v5.1],0))) else (bif (a0.Kind==(2:Int)) then ((Xcu a1 a0.Size a0.Every).bind fun v9=>some (v9.1,v9.2)) else (some (([]:List X13),2))))
inductive X0m where
 |x0
 |x1 (Xa7:Int)
def Xv (X1b:(List Xa)) (X1q:Xa):List Xa->Nat->Option X0m
 |[],k=>some (.x0)
 |x::xs,k=>bif (bif (bif (x.Key==X1q.Key) then (decide (x.Span.Start<X1q.Span.End)) else false) then (decide (X1q.Span.Start<x.Span.End)) else false) then (some (.x1 (k:Int))) else (Xv X1b X1q xs (k+1))
inductive X48 where
 |x0 (X4w:(List Xa)) (Xa8:Int)
def X1r:Nat->(List Xa)->Xa->Option X48
 |0,_,_=>none
 |n+1,X1b,X1q=>((X4u (List.length X1b)).bind fun u1330=>(Xv  X1b X1q X1b 0).bind fun o1342=>match o1342 with|.x0=>(some (-1))|.x1 Xa7=>(some Xa7):Option (Int)).bind fun Xdk=>bif (decide (Xdk<(0:Int))) then (((Xt X1b X1q).bind fun v1393=>bif (!v1393.2) then (bif (v1393.1==(List.length X1b:Int)) then (((X71 X1b v1393.1 (List.length X1b:Int)).bind fun m1405=>bif (List.isEmpty m1405) then ((X1w (List.length (X1b++[X1q])) 88).bind fun u1408=>some ()) else ((X1w (List.length (X1b++[X1q])) 88).bind fun u1410=>some ()):Option (Unit)).bind fun _=>some ((X1b++[X1q]),0)) else ((Xtt X1b v1393.1 X1q 88).bind fun m1413=>some (m1413,0))) else ((X2c X1b v1393.1).bind fun e1415=>((X2g e1415.Values.e0 X1q.Values.e0).bind fun v1430=>bif (v1430.2 != (0:Int)) then (some (X1b,v1430.2)) else ((X2g (((Xa.mk e1415.Key e1415.Span (V2.mk v1430.1 e1415.Values.e1)).Values).e1) X1q.Values.e1).bind fun v1435=>bif (v1435.2 != (0:Int)) then (some ((List.set X1b (Int.toNat v1393.1) (Xa.mk e1415.Key e1415.Span (V2.mk v1430.1 e1415.Values.e1))),v1435.2)) else (some ((List.set (List.set X1b (Int.toNat v1393.1) (Xa.mk e1415.Key e1415.Span (V2.mk v1430.1 e1415.Values.e1))) (Int.toNat v1393.1) (Xa.mk ((Xa.mk e1415.Key e1415.Span (V2.mk v1430.1 e1415.Values.e1)).Key) ((Xa.mk e1415.Key e1415.Span (V2.mk v1430.1 e1415.Values.e1)).Span) (V2.mk (((Xa.mk e1415.Key e1415.Span (V2.mk v1430.1 e1415.Values.e1)).Values).e0) v1435.1))),0))):Option ((List Xa)×Int)).bind fun w1427=>some (w1427.1,w1427.2)):Option ((List Xa)×Int)).bind fun w1392=>some (.x0 w1392.1 w1392.2)) else ((X2c X1b Xdk).bind fun e1440=>((X2g X1q.Values.e0 e1440.Values.e0).bind fun v1455=>bif (v1455.2 != (0:Int)) then (some (X1q,v1455.2)) else ((X2g X1q.Values.e1 e1440.Values.e1).bind fun v1460=>bif (v1460.2 != (0:Int)) then (some ((Xa.mk X1q.Key X1q.Span (V2.mk v1455.1 X1q.Values.e1)),v1460.2)) else (some ((Xa.mk X1q.Key X1q.Span (V2.mk v1455.1 v1460.1)),0))):Option (Xa×Int)).bind fun w1452=>bif (w1452.2 != (0:Int)) then (some (.x0 ([]:List Xa) w1452.2)) else ((delI X1b Xdk).bind fun m1465=>X1r n m1465 (Xa.mk w1452.1.Key (X13.mk (if e1440.Span.Start<w1452.1.Span.Start then e1440.Span.Start else w1452.1.Span.Start) (if e1440.Span.End>w1452.1.Span.End then e1440.Span.End else w1452.1.Span.End)) w1452.1.Values)))
inductive X8g where
 |x0 (X02:(List Xa))
 |x1 (X0k:(List Xa)) (Xhm:Int)
def X4v (Xfe:(List X13)):List X13->Nat->Xa->(List Xa)->Option X8g
 |[],k,Xs,Xo=>some (.x0 Xo)
 |x::xs,k,Xs,Xo=>((Xt Xo (Xa.mk Xs.Key x Xs.Values)).bind fun v1891=>bif (!v1891.2) then (bif (v1891.1==(List.length Xo:Int)) then (((X71 Xo v1891.1 (List.length Xo:Int)).bind fun m1903=>bif (List.isEmpty m1903) then ((X1w (List.length (Xo++[(Xa.mk Xs.Key x Xs.Values)])) 88).bind fun u1906=>some ()) else ((X1w (List.length (Xo++[(Xa.mk Xs.Key x Xs.Values)])) 88).bind fun u1908=>some ()):Option (Unit)).bind fun _=>some ((Xa.mk ((Xa.mk Xs.Key x Xs.Values).Key) ((Xa.mk Xs.Key x Xs.Values).Span) (V2.mk (((Xa.mk Xs.Key x Xs.Values).Values).e0) (((Xa.mk Xs.Key x Xs.Values).Values).e1))),(Xo++[(Xa.mk Xs.Key x Xs.Values)]),0)) else ((Xtt Xo v1891.1 (Xa.mk Xs.Key x Xs.Values) 88).bind fun m1911=>some ((Xa.mk Xs.Key x Xs.Values),m1911,0))) else ((X2c Xo v1891.1).bind fun e1913=>((X2g e1913.Values.e0 Xs.Values.e0).bind fun v1928=>bif (v1928.2 != (0:Int)) then (some (Xo,v1928.2)) else ((X2g (((Xa.mk e1913.Key e1913.Span (V2.mk v1928.1 e1913.Values.e1)).Values).e1) Xs.Values.e1).bind fun v1933=>bif (v1933.2 != (0:Int)) then (some ((List.set Xo (Int.toNat v1891.1) (Xa.mk e1913.Key e1913.Span (V2.mk v1928.1 e1913.Values.e1))),v1933.2)) else (some ((List.set (List.set Xo (Int.toNat v1891.1) (Xa.mk e1913.Key e1913.Span (V2.mk v1928.1 e1913.Values.e1))) (Int.toNat v1891.1) (Xa.mk ((Xa.mk e1913.Key e1913.Span (V2.mk v1928.1 e1913.Values.e1)).Key) ((Xa.mk e1913.Key e1913.Span (V2.mk v1928.1 e1913.Values.e1)).Span) (V2.mk (((Xa.mk e1913.Key e1913.Span (V2.mk v1928.1 e1913.Values.e1)).Values).e0) v1933.1))),0))):Option ((List Xa)×Int)).bind fun w1925=>some ((Xa.mk ((Xa.mk Xs.Key x Xs.Values).Key) ((Xa.mk Xs.Key x Xs.Values).Span) (V2.mk (((Xa.mk Xs.Key x Xs.Values).Values).e0) (((Xa.mk Xs.Key x Xs.Values).Values).e1))),w1925.1,w1925.2)):Option (Xa×(List Xa)×Int)).bind fun w1890=>bif (w1890.2.2 != (0:Int)) then (some (.x1 ([]:List Xa) w1890.2.2)) else (X4v Xfe xs (k+1) w1890.1 w1890.2.1)
def X8n (a0:(List Xa)) (a1:X0w) (a2:Xm) (a3:Int):Option ((List Xa)×Int) :=
 (X9g a0).bind fun v1=>bif (v1 != (0:Int)) then (some (([]:List Xa),v1)) else ((X1f a1).bind fun v4=>bif (v4 != (0:Int)) then (some (([]:List Xa),v4)) else (bif (bif (a3 != (0:Int)) then (a3 != (1:Int)) else false) then (some (([]:List Xa),2)) else (bif (bif (decide (a2.Time<((-1099511627776):Int))) then true else (decide (a2.Time>(1099511627776:Int)))) then (some (([]:List Xa),16)) else (((Xa2 a2.Value).bind fun v14=>bif (a3==(0:Int)) then (some (Xa.mk a2.Key (X13.mk 0 0) (V2.mk v14 (X1k.mk 0 0 0 0)))) else (bif (a3==(1:Int)) then (some (Xa.mk a2.Key (X13.mk 0 0) (V2.mk (X1k.mk 0 0 0 0) v14))) else none):Option (Xa)).bind fun Xgp=>(bif (List.isEmpty a0) then (some a0) else ((X1w (List.length a0) 88).bind fun u28=>some a0):Option ((List Xa))).bind fun Xgo=>bif (a1.Kind==(3:Int)) then (((X3z 0 a1.Size).bind fun v51=>bif (v51 != (0:Int)) then (some (([]:List X13),v51)) else ((X3z a2.Time a1.Size).bind fun v54=>bif (v54 != (0:Int)) then (some (([]:List X13),v54)) else ((X91 1).bind fun v67=>some ([(X13.mk a2.Time (IntKind.i64.wrap (a2.Time+a1.Size)))],0))):Option ((List X13)×Int)).bind fun w50=>bif (w50.2 != (0:Int)) then (some (([]:List Xa),w50.2)) else ((X2c w50.1 0).bind fun e71=>((X1r  FU Xgo (Xa.mk Xgp.Key e71 Xgp.Values)).bind fun o1548=>match o1548 with|.x0 X4w Xa8=>(some (X4w,Xa8)):Option ((List Xa)×Int)).bind fun w811=>bif (w811.2 != (0:Int)) then (some (([]:List Xa),w811.2)) else (bif (decide ((List.length w811.1:Int)>(4000:Int))) then (some (([]:List Xa),4)) else (some (w811.1,0))))) else ((Xen a1 a2.Time).bind fun v1558=>bif (v1558.2 != (0:Int)) then (some (([]:List Xa),v1558.2)) else ((X4u (List.length v1558.1)).bind fun u1561=>(X4v  v1558.1 v1558.1 0 Xgp Xgo).bind fun o1984=>match o1984 with|.x0 X02=>(bif (decide ((List.length X02:Int)>(4000:Int))) then (some (([]:List Xa),4)) else (some (X02,0)))|.x1 X0k Xhm=>(some (X0k,Xhm))))))))
def X76 (a0:Int) (a1:X1k):Option (Int×Int) :=
 bif (bif (decide (a0<(1:Int))) then true else (decide (a0>(4:Int)))) then (some (0,2)) else ((X3e a1).bind fun v2=>bif (v2 != (0:Int)) then (some (0,v2)) else (bif (a1.Count==(0:Int)) then (some (0,6)) else ((bif (a0==(0:Int)) then (some 0) else (bif (a0==(1:Int)) then (some a1.Count) else (bif (a0==(2:Int)) then (some a1.Sum) else (bif (a0==(3:Int)) then (some a1.Min) else (bif (a0==(4:Int)) then (some a1.Max) else none)))):Option (Int)).bind fun X03u=>some (X03u,0))))
def X9x (a0:X03) (a1:Xa):Option (X2u×Bool) :=
 (X76 a0.Agg a1.Values.e0).bind fun v3=>bif (v3.2 != (0:Int)) then (some ((X2u.mk 0 (X13.mk 0 0) (V2.mk 0 0)),false)) else (bif (bif ((1:Int)==(1:Int)) then (!a0.Join) else false) then (some ((X2u.mk a1.Key a1.Span (V2.mk v3.1 0)),true)) else ((X76 a0.Agg a1.Values.e1).bind fun v9=>bif (v9.2 != (0:Int)) then (some ((X2u.mk 0 (X13.mk 0 0) (V2.mk 0 0)),false)) else (some ((X2u.mk a1.Key a1.Span (V2.mk v3.1 v9.1)),true))))
inductive X6o where
 |x0 (X9b:(List Xa)) (X22:(List Xm))
 |x1 (X7z:(List X2u)) (X7y:(List Xm)) (Xcm:Int)
def X2s (X6:X03) (X3v:(List Xm)) (Xml:Int) (Xmk:(List (List Xb))) (Xmj:Int) (Xmi:Int) (Xek:(List Xm)):List Xm->Nat->(List Xa)->Option X6o
 |[],k,Xhn=>some (.x0 Xhn X3v)
 |x::xs,k,Xhn=>(X6e X6 x).bind fun v482=>bif (!v482.2) then (X2s X6 X3v Xml Xmk Xmj Xmi Xek xs (k+1) Xhn) else ((bif X6.Join then (some Xml) else (some 0):Option (Int)).bind fun Xq1=>(X8n Xhn X6.Window v482.1 Xq1).bind fun v489=>bif (v489.2 != (0:Int)) then (some (.x1 ([]:List X2u) ([]:List Xm) v489.2)) else (X2s X6 X3v Xml Xmk Xmj Xmi Xek xs (k+1) v489.1))
inductive X6p where
 |x0 (X78:(List Xa)) (X0n:(List Xm))
 |x1 (X0k:(List X2u)) (X5r:(List Xm)) (Xjv:Int)
def X2t (Xs:X03) (Xa4:(List (List Xb))):List (List Xb)->Nat->(List Xa)->(List Xm)->Option X6p
 |[],k,X4j,Xo=>some (.x0 X4j Xo)
 |x::xs,k,X4j,Xo=>(Xbe x).bind fun v435=>bif (v435.2.2 != (0:Int)) then (some (.x1 ([]:List X2u) ([]:List Xm) v435.2.2)) else (bif (List.isEmpty v435.2.1) then ((X4u (List.length v435.1)).bind fun u439=>(X2s  Xs (Xo++v435.2.1) (k:Int) Xa4 (List.length Xa4:Int) (k:Int) v435.1 v435.1 0 X4j).bind fun o502=>match o502 with|.x0 X9b X22=>(X2t Xs Xa4 xs (k+1) X9b X22)|.x1 X7z X7y Xcm=>(some (.x1 X7z X7y Xcm))) else ((X1w (List.length (Xo++v435.2.1)) 24).bind fun u504=>(X4u (List.length v435.1)).bind fun u506=>(X2s  Xs (Xo++v435.2.1) (k:Int) Xa4 (List.length Xa4:Int) (k:Int) v435.1 v435.1 0 X4j).bind fun o549=>match o549 with|.x0 X9b X22=>(X2t Xs Xa4 xs (k+1) X9b X22)|.x1 X7z X7y Xcm=>(some (.x1 X7z X7y Xcm))))
inductive X8v where
 |x0 (X0j:(List Xm)) (X08:(List X2u))
def X3c (X3u:X03) (X32:(List Xm)) (Xco:(List Xa)):List Xa->Nat->(List X2u)->Option X8v
 |[],k,X2z=>some (.x0 X32 X2z)
 |x::xs,k,X2z=>(X9x X3u x).bind fun v732=>(bif v732.2 then ((X1w (List.length (X2z++[v732.1])) 40).bind fun u739=>some (X2z++[v732.1])) else (some X2z):Option ((List X2u))).bind fun Xij=>X3c X3u X32 Xco xs (k+1) Xij
def X4f (a0:X03) (a1:(List (List Xb))):Option ((List X2u)×(List Xm)×Int) :=
 (X8r a0).bind fun v1=>bif (v1.2 != (0:Int)) then (some (([]:List X2u),([]:List Xm),v1.2)) else (bif ((List.length a1:Int) != (List.length a0.Sources:Int)) then (some (([]:List X2u),([]:List Xm),2)) else ((X5d a1).bind fun v5=>bif (v5 != (0:Int)) then (some (([]:List X2u),([]:List Xm),v5)) else ((X4u (List.length a1)).bind fun u8=>(X2t  a0 a1 a1 0 ([]:List Xa) ([]:List Xm)).bind fun o647=>match o647 with|.x0 X78 X0n=>((X4u (List.length X78)).bind fun u649=>(X3c  a0 X0n X78 X78 0 ([]:List X2u)).bind fun o772=>match o772 with|.x0 X0j X08=>((bif (a0.Late != (2:Int)) then (some ([]:List Xm)) else (some X0j):Option ((List Xm))).bind fun Xii=>some (X08,Xii,0)))|.x1 X0k X5r Xjv=>(some (X0k,X5r,Xjv)))))
inductive Xau where
 |x0 (X02:Int)
def X5y (Xkr:(List Xb)):List Xb->Nat->Int->Option Xau
 |[],k,Xs=>some (.x0 Xs)
 |x::xs,k,Xs=>(bif x.Mark then (some (if x.Time>Xs then x.Time else Xs)) else (some Xs):Option (Int)).bind fun Xwt=>X5y Xkr xs (k+1) Xwt
def Xd1 (a0:(List Xb)):Option (Int×Int) :=
 (X8a a0).bind fun v1=>bif (v1 != (0:Int)) then (some (0,v1)) else ((X4u (List.length a0)).bind fun u4=>(X5y  a0 a0 0 (-9223372036854775808)).bind fun o31=>match o31 with|.x0 X02=>(some (X02,0)))
inductive X5l where
 |x0 (Xa8:Int)
 |x1 (Xaz:Int)
def X36 (Xkq:(List (List Xb))):List (List Xb)->Nat->Int->Option X5l
 |[],k,Xob=>some (.x0 Xob)
 |x::xs,k,Xob=>(Xd1 x).bind fun v18=>bif (v18.2 != (0:Int)) then (some (.x1 v18.2)) else (X36 Xkq xs (k+1) (if v18.1<Xob then v18.1 else Xob))
def X65 (a0:(List (List Xb))):Option (Int×Int) :=
 (bif (decide ((List.length a0:Int)<(1:Int))) then (some (bif (decide ((List.length a0:Int)<(1:Int))) then true else false)) else (some (bif (decide ((List.length a0:Int)<(1:Int))) then true else (decide ((List.length a0:Int)>(4:Int))))):Option (Bool)).bind fun X03r=>bif X03r then (some (0,2)) else ((X5d a0).bind fun v6=>bif (v6 != (0:Int)) then (some (0,v6)) else ((X4u (List.length a0)).bind fun u9=>(X36  a0 a0 0 9223372036854775807).bind fun o21=>match o21 with|.x0 Xa8=>(some (Xa8,0))|.x1 Xaz=>(some (0,Xaz))))
inductive X6c where
 |x0 (X02:(List X2u))
def X1z (Xe7:(List Xm)) (X4j:Int) (Xff:(List X2u)):List X2u->Nat->(List X2u)->Option X6c
 |[],k,Xs=>some (.x0 Xs)
 |x::xs,k,Xs=>(bif (decide (x.Span.End<=X4j)) then ((X1w (List.length (Xs++[x])) 40).bind fun u47=>some (Xs++[x])) else (some Xs):Option ((List X2u))).bind fun Xnf=>X1z Xe7 X4j Xff xs (k+1) Xnf
def X2x (a0:X03) (a1:(List (List Xb))):Option ((List X2u)×(List Xm)×Int) :=
 (X4f a0 a1).bind fun v1=>bif (v1.2.2 != (0:Int)) then (some (([]:List X2u),([]:List Xm),v1.2.2)) else ((X65 a1).bind fun v4=>bif (v4.2 != (0:Int)) then (some (([]:List X2u),([]:List Xm),v4.2)) else ((X4u (List.length v1.1)).bind fun u7=>(X1z  v1.2.1 v4.1 v1.1 v1.1 0 ([]:List X2u)).bind fun o58=>match o58 with|.x0 X02=>(some (X02,v1.2.1,0))))
def Xez (a0:Int) (a1:Int) (a2:Int):Option (X2u) :=
 some (X2u.mk 0 (X13.mk a0 a1) (V2.mk a2 0))
inductive X7d where
 |x0
 |x1
def X4x (X0y:(List X2u)) (Xel:(List X2u)):List X2u->Nat->Option X7d
 |[],k=>some (.x0)
 |x::xs,k=>(X2c Xel (k:Int)).bind fun e11=>bif (!(Xm8 x e11)) then (some (.x1)) else (X4x X0y Xel xs (k+1))
def X64 (a0:(List X2u)) (a1:(List X2u)):Option (Bool) :=
 bif ((List.length a0:Int) != (List.length a1:Int)) then (some false) else ((X4u (List.length a0)).bind fun u2=>(X4x  a0 a1 a0 0).bind fun o14=>match o14 with|.x0=>(some true)|.x1=>(some false))
def X9z:Option (Bool) :=
 (Xf0 1 3 5).bind fun v1=>(X98 10).bind fun v3=>(Xf0 1 12 7).bind fun v5=>(Xf0 1 9 1).bind fun v7=>(Xid).bind fun v9=>(X4f v9 [[v1,v3,v5,v7]]).bind fun v11=>(X2x v9 [[v1,v3,v5,v7]]).bind fun v13=>(bif (v11.2.2==(0:Int)) then ((Xez 0 10 5).bind fun v34=>(Xez 10 20 7).bind fun v36=>(X64 v11.1 [v34,v36]).bind fun v38=>bif v38 then (bif ((List.length v11.2.1:Int)==(1:Int)) then ((X2c v11.2.1 0).bind fun e42=>bif (e42.Time==(9:Int)) then (bif (v13.2.2==(0:Int)) then ((X71 v11.1 0 1).bind fun m46=>(X64 v13.1 m46).bind fun v48=>some (bif (bif (bif (bif (bif (v11.2.2==(0:Int)) then v38 else false) then ((List.length v11.2.1:Int)==(1:Int)) else false) then (e42.Time==(9:Int)) else false) then (v13.2.2==(0:Int)) else false) then v48 else false)) else (some (bif (bif (bif (bif (bif (v11.2.2==(0:Int)) then v38 else false) then ((List.length v11.2.1:Int)==(1:Int)) else false) then (e42.Time==(9:Int)) else false) then (v13.2.2==(0:Int)) else false) then false else false))) else (some (bif (bif (bif (bif (bif (v11.2.2==(0:Int)) then v38 else false) then ((List.length v11.2.1:Int)==(1:Int)) else false) then (e42.Time==(9:Int)) else false) then false else false) then false else false))) else (some (bif (bif (bif (bif (bif (v11.2.2==(0:Int)) then v38 else false) then ((List.length v11.2.1:Int)==(1:Int)) else false) then false else false) then false else false) then false else false))) else (some (bif (bif (bif (bif (bif (v11.2.2==(0:Int)) then v38 else false) then false else false) then false else false) then false else false) then false else false))) else (some (bif (bif (bif (bif (bif (v11.2.2==(0:Int)) then false else false) then false else false) then false else false) then false else false) then false else false)):Option (Bool)).bind fun X03q=>some X03q
def X9t (a0:(List X0c)):Option (Bool) :=
 some (decide ((List.length a0:Int)>(70:Int)))
def X9r (a0:X03):Option (Bool) :=
 ((X9t a0.Arg).bind fun v8=>bif v8 then (some (bif (bif v8 then true else false) then true else false)) else ((X9t a0.Where).bind fun v11=>bif v11 then (some (bif (bif v8 then true else v11) then true else false)) else (some (bif (bif v8 then true else v11) then true else (decide ((List.length a0.Sources:Int)>(10:Int)))))):Option (Bool)).bind fun j7_2=>some j7_2
inductive X6k where
 |x0
 |x1
def X4c (X0y:(List (List Xb))):Nat->Int->Option X6k
 |0,_=>none
 |n+1,Xkp=>bif (bif (decide (Xkp<(List.length X0y:Int))) then (decide (Xkp<(7:Int))) else false) then (((X2c X0y Xkp).bind fun e27=>bif (decide ((List.length e27:Int)>(20:Int))) then (some (bif (decide ((List.length e27:Int)>(20:Int))) then ((List.length e27:Int) != (61:Int)) else false)) else (some (bif (decide ((List.length e27:Int)>(20:Int))) then false else false)):Option (Bool)).bind fun Xwu=>bif Xwu then (some (.x0)) else (X4c X0y n (IntKind.i64.wrap (Xkp+1)))) else (some (.x1))
def X9m (a0:(List (List Xb))):Option (Bool) :=
 (X4c  a0 FU 0).bind fun o32=>match o32 with|.x0=>(some true)|.x1=>(some (decide ((List.length a0:Int)>(6:Int))))
def Xbq (a0:Int):Option (Int) :=
 bif (decide (a0<=(4:Int))) then (some 0) else (bif (decide (a0<=(6:Int))) then (some 1) else (some 2))
def X6w (a0:X0c) (a1:Int) (a2:Int):Option (Bool) :=
 some (bif (bif (bif (bif (bif (bif (bif (decide (a0.Kind >= (1:Int))) then (decide (a0.Kind<=(19:Int))) else false) then (decide (a0.N >= (0:Int))) else false) then (bif (a0.N==(0:Int)) then true else (a0.Kind==(1:Int))) else false) then (decide (a0.At >= (0:Int))) else false) then (decide (a0.At<=(400:Int))) else false) then (a0.A==a1) else false) then (a0.B==a2) else false)
inductive X57 where
 |x0 (X02:(List Int)) (X0n:(List Int))
 |x1 (X0k:(List Int)) (X5r:(List Int))
def X1p (X0y:(List X0c)):List X0c->Nat->(List Int)->(List Int)->Option X57
 |[],k,Xs,Xo=>some (.x0 Xs Xo)
 |x::xs,k,Xs,Xo=>(Xbq x.Kind).bind fun v156=>bif (decide (v156>(0:Int))) then (bif (decide ((IntKind.i64.wrap ((k:Int) - 1))<(0:Int))) then (some (.x1 ([]:List Int) ([]:List Int))) else ((X2c Xs (IntKind.i64.wrap ((k:Int) - 1))).bind fun e160=>(X2c Xo (IntKind.i64.wrap ((k:Int) - 1))).bind fun e162=>bif (v156==(2:Int)) then (bif (decide ((IntKind.i64.wrap ((IntKind.i64.wrap ((k:Int) - 1)) - e160))<(0:Int))) then (some (.x1 ([]:List Int) ([]:List Int))) else ((X2c Xs (IntKind.i64.wrap ((IntKind.i64.wrap ((k:Int) - 1)) - e160))).bind fun e166=>(X2c Xo (IntKind.i64.wrap ((IntKind.i64.wrap ((k:Int) - 1)) - e160))).bind fun e168=>(X6w x (IntKind.i64.wrap ((IntKind.i64.wrap ((k:Int) - 1)) - e160)) (IntKind.i64.wrap ((k:Int) - 1))).bind fun v170=>bif (!v170) then (some (.x1 ([]:List Int) ([]:List Int))) else ((X1w (List.length (Xs++[(IntKind.i64.wrap ((IntKind.i64.wrap (1+e160))+e166))])) 8).bind fun u173=>(X1w (List.length (Xo++[(if (IntKind.i64.wrap (1+e168))>(IntKind.i64.wrap (1+e162)) then (IntKind.i64.wrap (1+e168)) else (IntKind.i64.wrap (1+e162)))])) 8).bind fun u175=>X1p X0y xs (k+1) (Xs++[(IntKind.i64.wrap ((IntKind.i64.wrap (1+e160))+e166))]) (Xo++[(if (IntKind.i64.wrap (1+e168))>(IntKind.i64.wrap (1+e162)) then (IntKind.i64.wrap (1+e168)) else (IntKind.i64.wrap (1+e162)))])))) else ((X6w x (IntKind.i64.wrap ((k:Int) - 1)) 0).bind fun v177=>bif (!v177) then (some (.x1 ([]:List Int) ([]:List Int))) else ((X1w (List.length (Xs++[(IntKind.i64.wrap (1+e160))])) 8).bind fun u180=>(X1w (List.length (Xo++[(IntKind.i64.wrap (1+e162))])) 8).bind fun u182=>X1p X0y xs (k+1) (Xs++[(IntKind.i64.wrap (1+e160))]) (Xo++[(IntKind.i64.wrap (1+e162))]))))) else ((X6w x 0 0).bind fun v184=>bif (!v184) then (some (.x1 ([]:List Int) ([]:List Int))) else ((X1w (List.length (Xs++[1])) 8).bind fun u187=>(X1w (List.length (Xo++[1])) 8).bind fun u189=>X1p X0y xs (k+1) (Xs++[1]) (Xo++[1])))
def Xbp (a0:(List X0c)):Option ((List Int)×(List Int)×Bool) :=
 (X4u (List.length a0)).bind fun u1=>(X1p  a0 a0 0 ([]:List Int) ([]:List Int)).bind fun o232=>match o232 with|.x0 X02 X0n=>((bif (decide ((List.length a0:Int)>(0:Int))) then ((X2c X02 (IntKind.i64.wrap ((List.length a0:Int) - 1))).bind fun e239=>some (bif (decide ((List.length a0:Int)>(0:Int))) then (e239==(List.length a0:Int)) else false)) else (some false):Option (Bool)).bind fun Xwy=>some (X02,X0n,Xwy))|.x1 X0k X5r=>(some (X0k,X5r,false))
def X4y (a0:(List X0c)):Option (Int) :=
 bif (decide ((List.length a0:Int)>(60:Int))) then (some 4) else ((Xbp a0).bind fun v2=>bif (!v2.2.2) then (some 8) else ((X2c v2.2.1 (IntKind.i64.wrap ((List.length a0:Int) - 1))).bind fun e5=>bif (decide (e5>(20:Int))) then (some 34) else (some 0)))
inductive X5k where
 |x0
 |x1
def X35 (X0y:(List Int)):List Int->Nat->Option X5k
 |[],k=>some (.x0)
 |x::xs,k=>(bif (decide (x<(0:Int))) then (some (bif (decide (x<(0:Int))) then true else false)) else (some (bif (decide (x<(0:Int))) then true else (decide (x>(3:Int))))):Option (Bool)).bind fun Xwx=>bif Xwx then (some (.x1)) else (X35 X0y xs (k+1))
inductive X5i where
 |x0
 |x1
def X34 (y2_0:(List Int)) (Xj7:Int):Nat->Int->Option X5i
 |0,_=>none
 |n+1,Xei=>bif (decide (Xei<Xj7)) then ((X2c y2_0 Xei).bind fun e86=>(X2c y2_0 Xj7).bind fun e88=>bif (e86==e88) then (some (.x0)) else (X34 y2_0 Xj7 n (IntKind.i64.wrap (Xei+1)))) else (some (.x1))
inductive X5j where
 |x0
 |x1
def X2i (Xus:(List Int)):List Int->Nat->Option X5j
 |[],k=>some (.x0)
 |x::xs,k=>(X34  Xus (k:Int) FU 0).bind fun o91=>match o91 with|.x0=>(some (.x1))|.x1=>(X2i Xus xs (k+1))
def X7e (a0:(List Int)) (a1:Bool):Option (Int) :=
 bif (decide ((List.length a0:Int)>(4:Int))) then (some 4) else ((bif ((List.length a0:Int)==(0:Int)) then (some (bif ((List.length a0:Int)==(0:Int)) then true else false)) else (bif a1 then (some (bif ((List.length a0:Int)==(0:Int)) then true else (bif a1 then ((List.length a0:Int) != (2:Int)) else false))) else (some (bif ((List.length a0:Int)==(0:Int)) then true else (bif a1 then false else false)))):Option (Bool)).bind fun X03f=>bif X03f then (some 8) else ((X4u (List.length a0)).bind fun u9=>(X35  a0 a0 0).bind fun o27=>match o27 with|.x0=>((X2i  a0 a0 0).bind fun o93=>match o93 with|.x0=>(some 0)|.x1=>(some 43))|.x1=>(some 8)))
def X87 (a0:X0w):Option (Bool) :=
 bif (bif (decide (a0.Size<(1:Int))) then true else (decide (a0.Size>(1073741824:Int)))) then (some false) else (bif (a0.Kind==(2:Int)) then (some (bif (bif (decide (a0.Every >= (1:Int))) then (decide (a0.Every<=a0.Size)) else false) then (decide (a0.Size<=(IntKind.i64.wrap (16*a0.Every)))) else false)) else (some (bif (bif (a0.Kind==(1:Int)) then true else (a0.Kind==(3:Int))) then (a0.Every==(0:Int)) else false)))
def X9s (a0:X03):Option (Int) :=
 bif (bif (bif (bif (decide (a0.Agg<(1:Int))) then true else (decide (a0.Agg>(4:Int)))) then true else (decide (a0.Late<(1:Int)))) then true else (decide (a0.Late>(2:Int)))) then (some 8) else ((bif (a0.Agg==(1:Int)) then (some (bif (a0.Agg==(1:Int)) then (decide ((List.length a0.Arg:Int)>(0:Int))) else false)) else (some (bif (a0.Agg==(1:Int)) then false else false)):Option (Bool)).bind fun X03n=>bif X03n then (some 8) else ((bif (a0.Agg != (1:Int)) then ((X4y a0.Arg).bind fun v12=>some (bif (a0.Agg != (1:Int)) then (v12 != (0:Int)) else false)) else (some (bif (a0.Agg != (1:Int)) then false else false)):Option (Bool)).bind fun Xx2=>bif Xx2 then ((X4y a0.Arg).bind fun v16=>some v16) else ((bif (decide ((List.length a0.Where:Int)>(0:Int))) then ((X4y a0.Where).bind fun v23=>some (bif (decide ((List.length a0.Where:Int)>(0:Int))) then (v23 != (0:Int)) else false)) else (some (bif (decide ((List.length a0.Where:Int)>(0:Int))) then false else false)):Option (Bool)).bind fun Xng=>bif Xng then ((X4y a0.Where).bind fun v27=>some v27) else ((X7e a0.Sources a0.Join).bind fun v29=>bif (v29 != (0:Int)) then (some v29) else ((X87 a0.Window).bind fun v32=>bif (bif (!v32) then true else (bif a0.Join then (a0.Window.Kind != (1:Int)) else false)) then (some 8) else (some 0))))))
def X6v (a0:Int):Option (Bool) :=
 some (bif (a0==(6:Int)) then true else (decide (a0 >= (12:Int))))
def Xb5 (a0:(List X0c)) (a1:Int):Option (Bool) :=
 (X2c a0 a1).bind fun e1=>(X2c a0 e1.A).bind fun e3=>(X6v e3.Kind).bind fun v5=>(X2c a0 e1.B).bind fun e7=>(X6v e7.Kind).bind fun v9=>bif (decide (e1.Kind<=(4:Int))) then (some true) else (bif (e1.Kind==(5:Int)) then (some (!v5)) else (bif (e1.Kind==(6:Int)) then (some v5) else (bif (bif (e1.Kind==(16:Int)) then true else (e1.Kind==(17:Int))) then (some (v5==v9)) else (bif (decide (e1.Kind >= (18:Int))) then (some (bif v5 then v9 else false)) else (some (bif (!v5) then (!v9) else false))))))
inductive X6m where
 |x0
 |x1 (X4k:Int)
def X4e (X0y:(List X0c)):List X0c->Nat->Option X6m
 |[],k=>some (.x0)
 |x::xs,k=>(Xb5 X0y (k:Int)).bind fun v10=>bif (!v10) then (some (.x1 (k:Int))) else (X4e X0y xs (k+1))
def Xbo (a0:(List X0c)):Option (Int) :=
 (X4u (List.length a0)).bind fun u1=>(X4e  a0 a0 0).bind fun o13=>match o13 with|.x0=>(some (List.length a0:Int))|.x1 X4k=>(some X4k)
def Xes (a0:(List X0c)):Option (Bool×Int×Int) :=
 (X4y a0).bind fun v1=>bif (v1 != (0:Int)) then (some (false,0,v1)) else ((Xbo a0).bind fun v4=>bif (decide (v4<(List.length a0:Int))) then (some (false,v4,42)) else ((X2c a0 (IntKind.i64.wrap ((List.length a0:Int) - 1))).bind fun e7=>(X6v e7.Kind).bind fun v9=>some (v9,(IntKind.i64.wrap ((List.length a0:Int) - 1)),0)))
def X88 (a0:(List X0c)) (a1:Bool):Option (Int×Int) :=
 (Xes a0).bind fun v1=>bif (bif (v1.2.2==(0:Int)) then (!(v1.1==a1)) else false) then (some (v1.2.1,42)) else (some (v1.2.1,v1.2.2))
def X9p (a0:X03):Option (Int×Int) :=
 bif (decide ((List.length a0.Arg:Int)>(0:Int))) then ((X88 a0.Arg false).bind fun v2=>bif (v2.2 != (0:Int)) then ((X2c a0.Arg v2.1).bind fun e5=>some (e5.At,v2.2)) else (bif (decide ((List.length a0.Where:Int)>(0:Int))) then ((X88 a0.Where true).bind fun v8=>bif (v8.2 != (0:Int)) then ((X2c a0.Where v8.1).bind fun e11=>some (e11.At,v8.2)) else (some (0,0))) else (some (0,0)))) else (bif (decide ((List.length a0.Where:Int)>(0:Int))) then ((X88 a0.Where true).bind fun v14=>bif (v14.2 != (0:Int)) then ((X2c a0.Where v14.1).bind fun e17=>some (e17.At,v14.2)) else (some (0,0))) else (some (0,0)))
def X9q (a0:X03):Option (Int×Int) :=
 (X9s a0).bind fun v1=>bif (v1 != (0:Int)) then (some (0,v1)) else ((X9p a0).bind fun v4=>some (v4.1,v4.2))
def X86 (a0:Int) (a1:Int):Option (Int) :=
 bif (bif (decide (a1<(1:Int))) then true else (decide (a1>(1073741824:Int)))) then (some 2) else (bif (bif (decide (a0<((-1099511627776):Int))) then true else (decide (a0>(1099511627776:Int)))) then (some 16) else (some 0))
def X9n (a0:Xb):Option (Bool) :=
 bif a0.Mark then ((bif (X4g a0.Record (Xm.mk 0 0 0)) then (bif (a0.Time==(9223372036854775807:Int)) then (some (bif (X4g a0.Record (Xm.mk 0 0 0)) then (bif (a0.Time==(9223372036854775807:Int)) then true else false) else false)) else ((X86 a0.Time 1).bind fun v9=>some (bif (X4g a0.Record (Xm.mk 0 0 0)) then (bif (a0.Time==(9223372036854775807:Int)) then true else (v9==(0:Int))) else false))) else (some (bif (X4g a0.Record (Xm.mk 0 0 0)) then false else false)):Option (Bool)).bind fun j6_2=>some j6_2) else ((bif (a0.Time==(0:Int)) then ((X86 a0.Record.Time 1).bind fun v17=>some (bif (a0.Time==(0:Int)) then (v17==(0:Int)) else false)) else (some (bif (a0.Time==(0:Int)) then false else false)):Option (Bool)).bind fun X03t=>some X03t)
inductive X6l where
 |x0
 |x1
def X4d (X0y:(List Xb)):List Xb->Nat->Option X6l
 |[],k=>some (.x0)
 |x::xs,k=>(X9n x).bind fun v11=>bif (!v11) then (some (.x1)) else (X4d X0y xs (k+1))
def X9o (a0:(List Xb)):Option (Int) :=
 bif (decide ((List.length a0:Int)>(60:Int))) then (some 4) else ((X4u (List.length a0)).bind fun u2=>(X4d  a0 a0 0).bind fun o14=>match o14 with|.x0=>(some 0)|.x1=>(some 8))
inductive X6j where
 |x0
 |x1 (X4k:Int)
def X4b (X0y:(List (List Xb))):List (List Xb)->Nat->Option X6j
 |[],k=>some (.x0)
 |x::xs,k=>(X9o x).bind fun v10=>bif (v10 != (0:Int)) then (some (.x1 v10)) else (X4b X0y xs (k+1))
def X9l (a0:(List (List Xb))):Option (Int) :=
 (X4u (List.length a0)).bind fun u1=>(X4b  a0 a0 0).bind fun o13=>match o13 with|.x0=>(some 0)|.x1 X4k=>(some X4k)
def Xbn (a0:X03) (a1:(List (List Xb))):Option (Int) :=
 (X9q a0).bind fun v1=>bif (v1.2 != (0:Int)) then (some v1.2) else (bif ((List.length a1:Int) != (List.length a0.Sources:Int)) then (some 2) else ((X9l a1).bind fun v5=>some v5))
def Xba (a0:X03) (a1:(List (List Xb))):Option (Bool) :=
 ((X9r a0).bind fun v10=>bif (!v10) then ((X9m a1).bind fun v13=>bif (!v13) then ((Xbn a0 a1).bind fun v16=>some (bif (bif (!v10) then (!v13) else false) then (v16==(0:Int)) else false)) else (some (bif (bif (!v10) then (!v13) else false) then false else false))) else (some (bif (bif (!v10) then false else false) then false else false)):Option (Bool)).bind fun j9_4=>some j9_4
inductive X3r where
 |x0 (X0n:(List X2u))
 |x1
def X1m (Xel:(List (List Xb))) (Xo7:Int) (Xs:X03) (Xzf:Bool) (Xe7:(List X2u)):List X2u->Nat->(List X2u)->Option X3r
 |[],k,Xo=>some (.x0 Xo)
 |x::xs,k,Xo=>(bif (!Xs.ByKey) then (some (bif (!Xs.ByKey) then (x.Key != (0:Int)) else false)) else (some (bif (!Xs.ByKey) then false else false)):Option (Bool)).bind fun Xwi=>bif Xwi then (some (.x1)) else ((bif (x.Key==Xo7) then ((X1w (List.length (Xo++[x])) 40).bind fun u74=>some (Xo++[x])) else (some Xo):Option ((List X2u))).bind fun Xne=>X1m Xel Xo7 Xs Xzf Xe7 xs (k+1) Xne)
inductive X5f where
 |x0 (X0j:(List X2u)) (X08:(List (List Xb))) (Xi:(List Xb))
def X1v (Xcg:(List (List Xb))) (Xj6:Int) (X3u:X03) (Xei:Bool) (X32:(List X2u)) (X2z:(List (List Xb))) (Xa3:Int):Nat->(List Xb)->Int->Option X5f
 |0,_,_=>none
 |n+1,X6s,X8s=>(X2c Xcg Xa3).bind fun e3929=>bif (decide (X8s<(List.length e3929:Int))) then (((X2c e3929 X8s).bind fun e3936=>bif e3936.Mark then (some (bif e3936.Mark then true else false)) else (some (bif e3936.Mark then true else (e3936.Record.Key==Xj6))):Option (Bool)).bind fun Xik=>(bif Xik then ((X2c e3929 X8s).bind fun e3947=>(X1w (List.length (X6s++[e3947])) 40).bind fun u3949=>some (X6s++[e3947])) else (some X6s):Option ((List Xb))).bind fun Xf3=>X1v Xcg Xj6 X3u Xei X32 X2z Xa3 n Xf3 (IntKind.i64.wrap (X8s+1))) else (some (.x0 X32 X2z X6s))
inductive X5g where
 |x0 (X22:(List X2u)) (X5e:(List (List Xb)))
def X1l (X8l:(List (List Xb))) (Xze:Int) (X6:X03) (Xyg:Bool):List (List Xb)->Nat->(List X2u)->(List (List Xb))->Option X5g
 |[],k,X3v,X6d=>some (.x0 X3v X6d)
 |x::xs,k,X3v,X6d=>(X1v  X8l Xze X6 Xyg X3v X6d (k:Int) FU ([]:List Xb) 0).bind fun o4113=>match o4113 with|.x0 X0j X08 Xi=>((X1w (List.length (X08++[Xi])) 24).bind fun u4115=>X1l X8l Xze X6 Xyg xs (k+1) X0j (X08++[Xi]))
def X4o (a0:X03) (a1:(List (List Xb))) (a2:Int):Option (Bool) :=
 (X9z).bind fun v1=>(Xba a0 a1).bind fun v3=>bif (bif (!v3) then true else (!v1)) then (some v1) else ((X4f a0 a1).bind fun v6=>bif (v6.2.2 != (0:Int)) then (some false) else ((X4u (List.length v6.1)).bind fun u9=>(X1m  a1 a2 a0 v1 v6.1 v6.1 0 ([]:List X2u)).bind fun o90=>match o90 with|.x0 X0n=>(bif (!a0.ByKey) then (some v1) else ((X4u (List.length a1)).bind fun u93=>(X1l  a1 a2 a0 v1 a1 0 X0n ([]:List (List Xb))).bind fun o5292=>match o5292 with|.x0 X22 X5e=>((X4f a0 X5e).bind fun v5294=>(bif v1 then (bif (v5294.2.2==(0:Int)) then ((X64 v5294.1 X22).bind fun v5303=>some (bif (bif v1 then (v5294.2.2==(0:Int)) else false) then v5303 else false)) else (some (bif (bif v1 then (v5294.2.2==(0:Int)) else false) then false else false))) else (some (bif (bif v1 then false else false) then false else false)):Option (Bool)).bind fun Xq0=>some Xq0)))|.x1=>(some false)))
inductive X3a where
 |x0
 |x1
def X1o (Xel:(List (List Xb))) (Xs:X03) (Xob:Bool) (Xdz:(List X2u)) (Xko:(List X2u)) (Xv3:Int):List X2u->Nat->Option X3a
 |[],k=>some (.x0)
 |x::xs,k=>bif (!((decide (x.Span.End<=Xv3))==(decide ((k:Int)<(List.length Xko:Int))))) then (some (.x1)) else (X1o Xel Xs Xob Xdz Xko Xv3 xs (k+1))
inductive X50 where
 |x0 (X0j:(List (List Xb))) (X08:(List (List Xb))) (Xi:(List Xb))
def X1h (Xcg:(List (List Xb))) (X3u:X03) (Xsq:Bool) (Xj7:(List X2u)) (X32:(List (List Xb))) (X2z:(List (List Xb))) (Xej:Int):Nat->(List Xb)->Int->Option X50
 |0,_,_=>none
 |n+1,X6s,Xds=>(X2c Xcg Xej).bind fun e4218=>bif (decide (Xds<(List.length e4218:Int))) then ((X2c e4218 Xds).bind fun e4221=>(bif (!e4221.Mark) then ((X1w (List.length (X6s++[e4221])) 40).bind fun u4228=>some (X6s++[e4221])) else (some X6s):Option ((List Xb))).bind fun Xf2=>X1h Xcg X3u Xsq Xj7 X32 X2z Xej n Xf2 (IntKind.i64.wrap (Xds+1))) else (some (.x0 X32 X2z X6s))
inductive X51 where
 |x0 (X22:(List (List Xb))) (X5e:(List (List Xb)))
def X16 (X8l:(List (List Xb))) (X6:X03) (Xo6:Bool) (Xo5:(List X2u)):List (List Xb)->Nat->(List (List Xb))->(List (List Xb))->Option X51
 |[],k,X3v,X6d=>some (.x0 X3v X6d)
 |x::xs,k,X3v,X6d=>bif (List.isEmpty x) then ((X98 9223372036854775807).bind fun v4003=>(X1w (List.length (x++[v4003])) 40).bind fun u4005=>(X1w (List.length (X3v++[(x++[v4003])])) 24).bind fun u4007=>(X1h  X8l X6 Xo6 Xo5 (X3v++[(x++[v4003])]) X6d (k:Int) FU ([]:List Xb) 0).bind fun o4322=>match o4322 with|.x0 X0j X08 Xi=>((X1w (List.length (X08++[Xi])) 24).bind fun u4324=>X16 X8l X6 Xo6 Xo5 xs (k+1) X0j (X08++[Xi]))) else ((X1w (List.length x) 40).bind fun u4340=>(X98 9223372036854775807).bind fun v4342=>(X1w (List.length (x++[v4342])) 40).bind fun u4344=>(X1w (List.length (X3v++[(x++[v4342])])) 24).bind fun u4346=>(X1h  X8l X6 Xo6 Xo5 (X3v++[(x++[v4342])]) X6d (k:Int) FU ([]:List Xb) 0).bind fun o4557=>match o4557 with|.x0 X0j X08 Xi=>((X1w (List.length (X08++[Xi])) 24).bind fun u4559=>X16 X8l X6 Xo6 Xo5 xs (k+1) X0j (X08++[Xi])))
def X42 (a0:X03) (a1:(List (List Xb))):Option (Bool) :=
 (X9z).bind fun v1=>(Xba a0 a1).bind fun v3=>bif (bif (!v3) then true else (!v1)) then (some v1) else ((X4f a0 a1).bind fun v6=>(X2x a0 a1).bind fun v8=>(X65 a1).bind fun v10=>(bif (v6.2.2 != (0:Int)) then (some (bif (bif (bif (bif (v6.2.2 != (0:Int)) then true else false) then true else false) then true else false) then true else false)) else (bif (v8.2.2 != (0:Int)) then (some (bif (bif (bif (bif (v6.2.2 != (0:Int)) then true else (v8.2.2 != (0:Int))) then true else false) then true else false) then true else false)) else (bif (v10.2 != (0:Int)) then (some (bif (bif (bif (bif (v6.2.2 != (0:Int)) then true else (v8.2.2 != (0:Int))) then true else (v10.2 != (0:Int))) then true else false) then true else false)) else (bif (decide ((List.length v8.1:Int)>(List.length v6.1:Int))) then (some (bif (bif (bif (bif (v6.2.2 != (0:Int)) then true else (v8.2.2 != (0:Int))) then true else (v10.2 != (0:Int))) then true else (decide ((List.length v8.1:Int)>(List.length v6.1:Int)))) then true else false)) else ((X71 v6.1 0 (List.length v8.1:Int)).bind fun m25=>(X64 v8.1 m25).bind fun v27=>some (bif (bif (bif (bif (v6.2.2 != (0:Int)) then true else (v8.2.2 != (0:Int))) then true else (v10.2 != (0:Int))) then true else (decide ((List.length v8.1:Int)>(List.length v6.1:Int)))) then true else (!v27)))))):Option (Bool)).bind fun Xx1=>bif Xx1 then (some false) else ((X4u (List.length v6.1)).bind fun u31=>(X1o  a1 a0 v1 v6.1 v8.1 v10.1 v6.1 0).bind fun o37=>match o37 with|.x0=>((X4u (List.length a1)).bind fun u39=>(X16  a1 a0 v1 v6.1 a1 0 ([]:List (List Xb)) ([]:List (List Xb))).bind fun o5982=>match o5982 with|.x0 X22 X5e=>((X2x a0 X22).bind fun v5984=>(X2x a0 X5e).bind fun v5986=>(bif v1 then (bif (v5984.2.2==(0:Int)) then ((X64 v5984.1 v6.1).bind fun v5998=>bif v5998 then (bif (v5986.2.2==(0:Int)) then (bif ((List.length v5986.1:Int)==(0:Int)) then (some (bif (bif (bif (bif (bif v1 then (v5984.2.2==(0:Int)) else false) then v5998 else false) then (v5986.2.2==(0:Int)) else false) then ((List.length v5986.1:Int)==(0:Int)) else false) then ((List.length v5986.2.1:Int)==(0:Int)) else false)) else (some (bif (bif (bif (bif (bif v1 then (v5984.2.2==(0:Int)) else false) then v5998 else false) then (v5986.2.2==(0:Int)) else false) then ((List.length v5986.1:Int)==(0:Int)) else false) then false else false))) else (some (bif (bif (bif (bif (bif v1 then (v5984.2.2==(0:Int)) else false) then v5998 else false) then (v5986.2.2==(0:Int)) else false) then false else false) then false else false))) else (some (bif (bif (bif (bif (bif v1 then (v5984.2.2==(0:Int)) else false) then v5998 else false) then false else false) then false else false) then false else false))) else (some (bif (bif (bif (bif (bif v1 then (v5984.2.2==(0:Int)) else false) then false else false) then false else false) then false else false) then false else false))) else (some (bif (bif (bif (bif (bif v1 then false else false) then false else false) then false else false) then false else false) then false else false)):Option (Bool)).bind fun Xpz=>some Xpz))|.x1=>(some false)))
end Go.D
