/- Printed by decomp.py: the functions. -/
import Derived.Test.YtfdfgobnpnoomaaGreatDTypesZ
set_option linter.all false

namespace Go.D
def Xdj (a0:Int) (a1:Int) (a2:Int):Option (Xg) :=
 some (Xg.mk false 0 (Xb.mk a0 a1 a2))
def Xee (a0:Int):Option (Xg) :=
 some (Xg.mk true a0 (Xb.mk 0 0 0))
def Xh8:Option (Xu) :=
 some (Xu.mk 2 [(Xw.mk 4 0 0 0 0)] [0] false ([]:List Xw) (X0l.mk 1 10 0) false 2)
def X8t (a0:Int):Option (Int×Int) :=
 bif (bif (decide (a0 >= (1:Int))) then (decide (a0<=(4:Int))) else false) then (some (0,0)) else (bif (bif (a0==(5:Int)) then true else (a0==(6:Int))) then (some (1,0)) else (bif (bif (decide (a0 >= (7:Int))) then (decide (a0<=(19:Int))) else false) then (some (2,0)) else (some (0,2))))
inductive X4s where
 |x0 (Xr:(List Xe)) (X0d:(List Xe))
 |x1 (X04:(List Xe))
def X1p (X4o:(List Xw)):List Xw->Nat->(List Xe)->(List Xe)->Option X4s
 |[],k,Xm,Xh=>some (.x0 Xm Xh)
 |x::xs,k,Xm,Xh=>(X8t x.Kind).bind fun v318=>(bif (v318.2 != (0:Int)) then (some (bif (v318.2 != (0:Int)) then true else false)) else (some (bif (v318.2 != (0:Int)) then true else (decide (v318.1>(List.length Xh:Int))))):Option (Bool)).bind fun Xnz=>bif Xnz then (some (.x1 Xm)) else ((X68 Xh 0 (IntKind.i64.wrap ((List.length Xh:Int) - v318.1))).bind fun m331=>(X68 Xh (IntKind.i64.wrap ((List.length Xh:Int) - v318.1)) (List.length Xh:Int)).bind fun m333=>bif (List.isEmpty m333) then ((bif (x.Kind==(1:Int)) then (some (Xw.mk x.Kind (if 0>x.N then 0 else x.N) 0 0 (if 400<(if 0>x.At then 0 else x.At) then 400 else (if 0>x.At then 0 else x.At)))) else (some (Xw.mk x.Kind 0 0 0 (if 400<(if 0>x.At then 0 else x.At) then 400 else (if 0>x.At then 0 else x.At)))):Option (Xw)).bind fun Xny=>bif (!(X6i Xny x)) then (some (.x1 Xm)) else ((X1u (List.length (m331++[(Xe.mk (k:Int) 1 1)])) 24).bind fun u341=>(X1u (List.length (Xm++[(Xe.mk (k:Int) 1 1)])) 24).bind fun u343=>X1p X4o xs (k+1) (Xm++[(Xe.mk (k:Int) 1 1)]) (m331++[(Xe.mk (k:Int) 1 1)]))) else (bif ((List.length m333:Int)==(1:Int)) then ((X1w m333 0).bind fun e346=>(bif (x.Kind==(1:Int)) then (some (Xw.mk x.Kind (if 0>x.N then 0 else x.N) e346.at_ 0 (if 400<(if 0>x.At then 0 else x.At) then 400 else (if 0>x.At then 0 else x.At)))) else (some (Xw.mk x.Kind 0 e346.at_ 0 (if 400<(if 0>x.At then 0 else x.At) then 400 else (if 0>x.At then 0 else x.At)))):Option (Xw)).bind fun Xnx=>bif (!(X6i Xnx x)) then (some (.x1 Xm)) else ((X1u (List.length (m331++[(Xe.mk (k:Int) (IntKind.i64.wrap (1+e346.size)) (if (IntKind.i64.wrap (e346.depth+1))>1 then (IntKind.i64.wrap (e346.depth+1)) else 1))])) 24).bind fun u353=>(X1u (List.length (Xm++[(Xe.mk (k:Int) (IntKind.i64.wrap (1+e346.size)) (if (IntKind.i64.wrap (e346.depth+1))>1 then (IntKind.i64.wrap (e346.depth+1)) else 1))])) 24).bind fun u355=>X1p X4o xs (k+1) (Xm++[(Xe.mk (k:Int) (IntKind.i64.wrap (1+e346.size)) (if (IntKind.i64.wrap (e346.depth+1))>1 then (IntKind.i64.wrap (e346.depth+1)) else 1))]) (m331++[(Xe.mk (k:Int) (IntKind.i64.wrap (1+e346.size)) (if (IntKind.i64.wrap (e346.depth+1))>1 then (IntKind.i64.wrap (e346.depth+1)) else 1))]))) else (bif ((List.length m333:Int)==(2:Int)) then ((X1w m333 0).bind fun e358=>(X1w m333 1).bind fun e360=>(bif (x.Kind==(1:Int)) then (some (Xw.mk x.Kind (if 0>x.N then 0 else x.N) e358.at_ e360.at_ (if 400<(if 0>x.At then 0 else x.At) then 400 else (if 0>x.At then 0 else x.At)))) else (some (Xw.mk x.Kind 0 e358.at_ e360.at_ (if 400<(if 0>x.At then 0 else x.At) then 400 else (if 0>x.At then 0 else x.At)))):Option (Xw)).bind fun Xnw=>bif (!(X6i Xnw x)) then (some (.x1 Xm)) else ((X1u (List.length (m331++[(Xe.mk (k:Int) (IntKind.i64.wrap ((IntKind.i64.wrap (1+e358.size))+e360.size)) (if (IntKind.i64.wrap (e360.depth+1))>(if (IntKind.i64.wrap (e358.depth+1))>1 then (IntKind.i64.wrap (e358.depth+1)) else 1) then (IntKind.i64.wrap (e360.depth+1)) else (if (IntKind.i64.wrap (e358.depth+1))>1 then (IntKind.i64.wrap (e358.depth+1)) else 1)))])) 24).bind fun u367=>(X1u (List.length (Xm++[(Xe.mk (k:Int) (IntKind.i64.wrap ((IntKind.i64.wrap (1+e358.size))+e360.size)) (if (IntKind.i64.wrap (e360.depth+1))>(if (IntKind.i64.wrap (e358.depth+1))>1 then (IntKind.i64.wrap (e358.depth+1)) else 1) then (IntKind.i64.wrap (e360.depth+1)) else (if (IntKind.i64.wrap (e358.depth+1))>1 then (IntKind.i64.wrap (e358.depth+1)) else 1)))])) 24).bind fun u369=>X1p X4o xs (k+1) (Xm++[(Xe.mk (k:Int) (IntKind.i64.wrap ((IntKind.i64.wrap (1+e358.size))+e360.size)) (if (IntKind.i64.wrap (e360.depth+1))>(if (IntKind.i64.wrap (e358.depth+1))>1 then (IntKind.i64.wrap (e358.depth+1)) else 1) then (IntKind.i64.wrap (e360.depth+1)) else (if (IntKind.i64.wrap (e358.depth+1))>1 then (IntKind.i64.wrap (e358.depth+1)) else 1)))]) (m331++[(Xe.mk (k:Int) (IntKind.i64.wrap ((IntKind.i64.wrap (1+e358.size))+e360.size)) (if (IntKind.i64.wrap (e360.depth+1))>(if (IntKind.i64.wrap (e358.depth+1))>1 then (IntKind.i64.wrap (e358.depth+1)) else 1) then (IntKind.i64.wrap (e360.depth+1)) else (if (IntKind.i64.wrap (e358.depth+1))>1 then (IntKind.i64.wrap (e358.depth+1)) else 1)))]))) else none)))
def Xc8 (a0:(List Xw)):Option ((List Xe)×Bool) :=
 (X4b (List.length a0)).bind fun u1=>(X1p  a0 a0 0 ([]:List Xe) ([]:List Xe)).bind fun o475=>match o475 with|.x0 Xr X0d=>(some (Xr,((List.length X0d:Int)==(1:Int))))|.x1 X04=>(some (X04,false))
def X8s (a0:(List Xw)):Option ((List Xe)×Int) :=
 bif (decide ((List.length a0:Int)>(60:Int))) then (some (([]:List Xe),4)) else ((Xc8 a0).bind fun v2=>bif (!v2.2) then (some (([]:List Xe),8)) else ((X1w v2.1 (IntKind.i64.wrap ((List.length v2.1:Int) - 1))).bind fun e5=>bif (decide (e5.depth>(20:Int))) then (some (([]:List Xe),34)) else (some (v2.1,0))))
def X4t (a0:(List Xw)):Option (Int) :=
 (X8s a0).bind fun v1=>some v1.2
def X54 (a0:Int):Option (Bool) :=
 some (bif (decide (a0<(0:Int))) then true else (decide (a0 >= (4:Int))))
inductive X1o where
 |x0
 |x1 (X93:Int)
def X0k (X0i:(List Int)):List Int->Nat->Option X1o
 |[],k=>some (.x0)
 |x::xs,k=>(X54 x).bind fun v10=>bif v10 then (some (.x1 (k:Int))) else (X0k X0i xs (k+1))
def X0h (a0:(List Int)):Option (Int) :=
 (X4b (List.length a0)).bind fun u1=>(X0k  a0 a0 0).bind fun o13=>match o13 with|.x0=>(some (-1))|.x1 X93=>(some X93)
def Xz (a0:(List Int)):Option (Bool) :=
 (X0h a0).bind fun v1=>some (decide (v1 >= (0:Int)))
def X2q (l:List Int):Option Int:=(X4b (List.length l)).bind fun _=>some ((X7m [] l).length:Int)
def X23 (a0:(List Int)) (a1:Bool):Option (Int) :=
 bif (decide ((List.length a0:Int)>(4:Int))) then (some 4) else ((bif ((List.length a0:Int)==(0:Int)) then (some (bif (bif ((List.length a0:Int)==(0:Int)) then true else false) then true else false)) else (bif a1 then (bif ((List.length a0:Int) != (2:Int)) then (some (bif (bif ((List.length a0:Int)==(0:Int)) then true else (bif a1 then ((List.length a0:Int) != (2:Int)) else false)) then true else false)) else ((Xz a0).bind fun v13=>some (bif (bif ((List.length a0:Int)==(0:Int)) then true else (bif a1 then ((List.length a0:Int) != (2:Int)) else false)) then true else v13))) else ((Xz a0).bind fun v15=>some (bif (bif ((List.length a0:Int)==(0:Int)) then true else (bif a1 then false else false)) then true else v15))):Option (Bool)).bind fun X00l=>bif X00l then (some 8) else ((X2q a0).bind fun v19=>bif (decide (v19<(List.length a0:Int))) then (some 43) else (some 0)))
def X0z (a0:X0l):Option (Int) :=
 bif (bif (decide (a0.Size<(1:Int))) then true else (decide (a0.Size>(1073741824:Int)))) then (some 8) else (bif (a0.Kind==(2:Int)) then (bif (bif (bif (decide (a0.Every >= (1:Int))) then (decide (a0.Every<=a0.Size)) else false) then (decide (a0.Size<=(IntKind.i64.wrap (16*a0.Every)))) else false) then (some 0) else (some 8)) else (bif (a0.Kind==(1:Int)) then (bif (a0.Every==(0:Int)) then (some 0) else (some 8)) else (bif (a0.Kind==(3:Int)) then (bif (a0.Every==(0:Int)) then (some 0) else (some 8)) else (some 8))))
def X6m (a0:Xu):Option (Int) :=
 bif (bif (bif (decide (a0.Agg<(1:Int))) then true else (decide (a0.Agg>(4:Int)))) then true else (bif (a0.Late != (1:Int)) then (a0.Late != (2:Int)) else false)) then (some 8) else (bif (a0.Agg != (1:Int)) then ((X4t a0.Arg).bind fun v3=>bif (v3 != (0:Int)) then (some v3) else (bif (decide ((List.length a0.Where:Int)>(0:Int))) then ((X4t a0.Where).bind fun v7=>bif (v7 != (0:Int)) then (some v7) else ((X23 a0.Sources a0.Join).bind fun v10=>bif (v10 != (0:Int)) then (some v10) else (bif (bif a0.Join then (a0.Window.Kind != (1:Int)) else false) then (some 8) else ((X0z a0.Window).bind fun v14=>some v14)))) else ((X23 a0.Sources a0.Join).bind fun v16=>bif (v16 != (0:Int)) then (some v16) else (bif (bif a0.Join then (a0.Window.Kind != (1:Int)) else false) then (some 8) else ((X0z a0.Window).bind fun v20=>some v20))))) else (bif (decide ((List.length a0.Arg:Int)>(0:Int))) then (some 8) else (bif (decide ((List.length a0.Where:Int)>(0:Int))) then ((X4t a0.Where).bind fun v24=>bif (v24 != (0:Int)) then (some v24) else ((X23 a0.Sources a0.Join).bind fun v27=>bif (v27 != (0:Int)) then (some v27) else (bif (bif a0.Join then (a0.Window.Kind != (1:Int)) else false) then (some 8) else ((X0z a0.Window).bind fun v31=>some v31)))) else ((X23 a0.Sources a0.Join).bind fun v33=>bif (v33 != (0:Int)) then (some v33) else (bif (bif a0.Join then (a0.Window.Kind != (1:Int)) else false) then (some 8) else ((X0z a0.Window).bind fun v37=>some v37))))))
inductive X1s where
 |x0
 |x1
def X0a (Xh:(List Bool)) (X5d:(V2 Bool)) (X0j:(List Int)):List Int->Nat->Option X1s
 |[],k=>some (.x0)
 |x::xs,k=>(X1w Xh x).bind fun e3011=>bif (!(e3011==false)) then (some (.x1)) else (X0a Xh X5d X0j xs (k+1))
inductive X1m where
 |x0
 |x1
def X0c (Xh:(List Bool)) (X1c:(List Int)):List Int->Nat->Option X1m
 |[],k=>some (.x0)
 |x::xs,k=>(X1w Xh x).bind fun e3127=>bif (!(e3127==true)) then (some (.x1)) else (X0c Xh X1c xs (k+1))
inductive X4v where
 |x0 (X0d:(List Bool))
 |x1 (X04:(List Bool)) (X9v:Int)
def X1f (X0i:(List Xw)):List Xw->Nat->(List Bool)->Option X4v
 |[],k,Xh=>some (.x0 Xh)
 |x::xs,k,Xh=>bif (decide (x.Kind<=(4:Int))) then ((X1u (List.length (Xh++[false])) 1).bind fun u2525=>X1f X0i xs (k+1) (Xh++[false])) else (bif (x.Kind==(5:Int)) then (((X1w Xh x.A).bind fun e2546=>bif (!(e2546==false)) then (some (bif (!(bif true then false else false)) then (!(bif false then false else false)) else false)) else (some (bif (!(bif true then true else false)) then false else false)):Option (Bool)).bind fun Xk9=>bif Xk9 then (some (.x1 ([]:List Bool) (k:Int))) else ((X1u (List.length (Xh++[false])) 1).bind fun u2551=>X1f X0i xs (k+1) (Xh++[false]))) else (bif (x.Kind==(6:Int)) then (((X1w Xh x.A).bind fun e2571=>bif (!(e2571==true)) then (some false) else (some true):Option (Bool)).bind fun Xk8=>bif (bif (!(bif false then false else false)) then (!(bif true then Xk8 else false)) else false) then (some (.x1 ([]:List Bool) (k:Int))) else ((X1u (List.length (Xh++[true])) 1).bind fun u2576=>X1f X0i xs (k+1) (Xh++[true]))) else ((bif (decide (x.Kind<=(11:Int))) then (some ((V2.mk true false),false)) else (bif (decide (x.Kind<=(15:Int))) then (some ((V2.mk true false),true)) else (bif (decide (x.Kind<=(17:Int))) then (some ((V2.mk true true),true)) else (some ((V2.mk false true),true)))):Option ((V2 Bool)×Bool)).bind fun w2581=>(bif w2581.1.e0 then (((X4b (List.length [x.A,x.B])).bind fun u2980=>(X0a  Xh w2581.1 [x.A,x.B] [x.A,x.B] 0).bind fun o3016=>match o3016 with|.x0=>(some true)|.x1=>(some false):Option (Bool)).bind fun Xau=>bif (!(bif w2581.1.e0 then Xau else false)) then (bif w2581.1.e1 then (((X4b (List.length [x.A,x.B])).bind fun u3096=>(X0c  Xh [x.A,x.B] [x.A,x.B] 0).bind fun o3132=>match o3132 with|.x0=>(some true)|.x1=>(some false):Option (Bool)).bind fun Xk6=>some (bif (!(bif w2581.1.e0 then Xau else false)) then (!(bif w2581.1.e1 then Xk6 else false)) else false)) else (some (bif (!(bif w2581.1.e0 then Xau else false)) then (!(bif w2581.1.e1 then false else false)) else false))) else (some (bif (!(bif w2581.1.e0 then Xau else false)) then false else false))) else (bif (!(bif w2581.1.e0 then false else false)) then (bif w2581.1.e1 then (((X4b (List.length [x.A,x.B])).bind fun u3192=>(X0c  Xh [x.A,x.B] [x.A,x.B] 0).bind fun o3218=>match o3218 with|.x0=>(some true)|.x1=>(some false):Option (Bool)).bind fun Xk5=>some (bif (!(bif w2581.1.e0 then false else false)) then (!(bif w2581.1.e1 then Xk5 else false)) else false)) else (some (bif (!(bif w2581.1.e0 then false else false)) then (!(bif w2581.1.e1 then false else false)) else false))) else (some (bif (!(bif w2581.1.e0 then false else false)) then false else false))):Option (Bool)).bind fun Xk7=>bif Xk7 then (some (.x1 ([]:List Bool) (k:Int))) else ((X1u (List.length (Xh++[w2581.2])) 1).bind fun u3223=>X1f X0i xs (k+1) (Xh++[w2581.2])))))
def Xc9 (a0:(List Xw)):Option ((List Bool)×Int) :=
 (X4b (List.length a0)).bind fun u1=>(X1f  a0 a0 0 ([]:List Bool)).bind fun o3784=>match o3784 with|.x0 X0d=>(some (X0d,(List.length a0:Int)))|.x1 X04 X9v=>(some (X04,X9v))
def Xca (a0:(List Xw)):Option (Bool×Int×Int) :=
 (X4t a0).bind fun v1=>bif (v1 != (0:Int)) then (some (false,0,v1)) else ((Xc9 a0).bind fun v4=>bif (decide (v4.2<(List.length a0:Int))) then (some (false,v4.2,42)) else ((X1w v4.1 (IntKind.i64.wrap (v4.2 - 1))).bind fun e7=>some (e7,(IntKind.i64.wrap (v4.2 - 1)),0)))
def X88 (a0:(List Xw)) (a1:Bool):Option (Int×Int) :=
 (Xca a0).bind fun v1=>(bif (bif (v1.2.2==(0:Int)) then (!(v1.1==a1)) else false) then (some 42) else (some v1.2.2):Option (Int)).bind fun j4_8=>some (v1.2.1,j4_8)
def X8y (a0:(List Xw)):Option (Int×Int) :=
 (X88 a0 true).bind fun v1=>some (v1.1,v1.2)
def X9c (a0:(List Xw)):Option (Int×Int) :=
 (X88 a0 false).bind fun v1=>some (v1.1,v1.2)
def X7n (a0:Xu):Option (Int×Int) :=
 (X6m a0).bind fun v1=>bif (v1 != (0:Int)) then (some (0,v1)) else ((bif ((List.length a0.Arg:Int)==(0:Int)) then (bif ((List.length a0.Where:Int)==(0:Int)) then (some (0,0)) else ((X8y a0.Where).bind fun v25=>bif (v25.2 != (0:Int)) then ((X1w a0.Where v25.1).bind fun e28=>some (e28.At,v25.2)) else (some (0,0)))) else ((X9c a0.Arg).bind fun v30=>bif (v30.2 != (0:Int)) then ((X1w a0.Arg v30.1).bind fun e33=>some (e33.At,v30.2)) else (bif ((List.length a0.Where:Int)==(0:Int)) then (some (0,0)) else ((X8y a0.Where).bind fun v36=>bif (v36.2 != (0:Int)) then ((X1w a0.Where v36.1).bind fun e39=>some (e39.At,v36.2)) else (some (0,0))))):Option (Int×Int)).bind fun w22=>some (w22.1,w22.2))
def Xa5 (a0:Int):Option (Bool) :=
 some (bif (decide (a0 >= ((-1099511627776):Int))) then (decide (a0<=(1099511627776:Int))) else false)
inductive X6e where
 |x0
 |x1
def X42 (X3p:(List Xg)):List Xg->Nat->Option X6e
 |[],k=>some (.x0)
 |x::xs,k=>(bif (X3n x.Record (Xb.mk 0 0 0)) then ((Xa5 x.Time).bind fun v49=>bif v49 then (some (bif (X3n x.Record (Xb.mk 0 0 0)) then (bif v49 then true else false) else false)) else (some (bif (X3n x.Record (Xb.mk 0 0 0)) then (bif v49 then true else (x.Time==(9223372036854775807:Int))) else false))) else (some (bif (X3n x.Record (Xb.mk 0 0 0)) then false else false)):Option (Bool)).bind fun Xxi=>(bif (x.Time==(0:Int)) then ((Xa5 x.Record.Time).bind fun v58=>some (bif (x.Time==(0:Int)) then v58 else false)) else (some (bif (x.Time==(0:Int)) then false else false)):Option (Bool)).bind fun X00n=>bif (bif (bif x.Mark then (!Xxi) else false) then true else (bif (!x.Mark) then (!X00n) else false)) then (some (.x1)) else (X42 X3p xs (k+1))
def X77 (a0:(List Xg)):Option (Int) :=
 bif (decide ((List.length a0:Int)>(60:Int))) then (some 4) else ((X4b (List.length a0)).bind fun u2=>(X42  a0 a0 0).bind fun o62=>match o62 with|.x0=>(some 0)|.x1=>(some 8))
inductive X40 where
 |x0
 |x1 (X3q:Int)
def X28 (Xjj:(List (List Xg))):List (List Xg)->Nat->Option X40
 |[],k=>some (.x0)
 |x::xs,k=>(X77 x).bind fun v10=>bif (v10 != (0:Int)) then (some (.x1 v10)) else (X28 Xjj xs (k+1))
def X4a (a0:(List (List Xg))):Option (Int) :=
 (X4b (List.length a0)).bind fun u1=>(X28  a0 a0 0).bind fun o13=>match o13 with|.x0=>(some 0)|.x1 X3q=>(some X3q)
inductive X8x where
 |x0 (Xr:(List Xb)) (X0d:(List Xb))
def X38 (Xbg:(List Xg)):List Xg->Nat->(List Xb)->(List Xb)->Int->Option X8x
 |[],k,Xm,Xh,X5d=>some (.x0 Xm Xh)
 |x::xs,k,Xm,Xh,X5d=>(bif x.Mark then (some (if x.Time>X5d then x.Time else X5d)) else (some X5d):Option (Int)).bind fun Xke=>(bif x.Mark then (some (Xm,Xh)) else (bif (decide (x.Record.Time<X5d)) then ((X1u (List.length (Xh++[x.Record])) 24).bind fun u200=>some (Xm,(Xh++[x.Record]))) else ((X1u (List.length (Xm++[x.Record])) 24).bind fun u202=>some ((Xm++[x.Record]),Xh))):Option ((List Xb)×(List Xb))).bind fun w197=>X38 Xbg xs (k+1) w197.1 w197.2 Xke
def Xa6 (a0:(List Xg)):Option ((List Xb)×(List Xb)×Int) :=
 (X77 a0).bind fun v1=>bif (v1 != (0:Int)) then (some (([]:List Xb),([]:List Xb),v1)) else ((X4b (List.length a0)).bind fun u4=>(X38  a0 a0 0 ([]:List Xb) ([]:List Xb) (-9223372036854775808)).bind fun o271=>match o271 with|.x0 Xr X0d=>(some (Xr,X0d,0)))
def Xaz (a0:(List Xw)):Option (Int) :=
 (Xca a0).bind fun v1=>some v1.2.2
def X32 (a0:Bool):Option (Int) :=
 bif a0 then (some 1) else (some 0)
def Xef (a0:Int) (a1:Int) (a2:Int):Option (Int×Int) :=
 bif (a0==(5:Int)) then (some ((IntKind.i64.wrap (0 - a1)),0)) else (bif (a0==(6:Int)) then ((X32 (a1==(0:Int))).bind fun v3=>some (v3,0)) else (bif (a0==(7:Int)) then (some ((IntKind.i64.wrap (a1*a2)),0)) else (bif (a0==(8:Int)) then (some ((IntKind.i64.wrap (a1+a2)),0)) else (bif (a0==(9:Int)) then (some ((IntKind.i64.wrap (a1 - a2)),0)) else (bif (a0==(10:Int)) then ((shOk (bits .and IntKind.i64 a2 63)).bind fun u9=>some ((IntKind.i64.wrap (a1*2 ^ (min (Int.toNat (bits .and IntKind.i64 a2 63)) IntKind.i64.bits))),0)) else (bif (a0==(11:Int)) then ((shOk (bits .and IntKind.i64 a2 63)).bind fun u12=>some ((Int.fdiv a1 (2 ^ (min (Int.toNat (bits .and IntKind.i64 a2 63)) IntKind.i64.bits))),0)) else (bif (a0==(12:Int)) then ((X32 (decide (a1<a2))).bind fun v15=>some (v15,0)) else (bif (a0==(13:Int)) then ((X32 (decide (a1<=a2))).bind fun v18=>some (v18,0)) else (bif (a0==(14:Int)) then ((X32 (decide (a1>a2))).bind fun v21=>some (v21,0)) else (bif (a0==(15:Int)) then ((X32 (decide (a1 >= a2))).bind fun v24=>some (v24,0)) else (bif (a0==(16:Int)) then ((X32 (a1==a2)).bind fun v27=>some (v27,0)) else (bif (a0==(17:Int)) then ((X32 (a1 != a2)).bind fun v30=>some (v30,0)) else (bif (a0==(18:Int)) then ((X32 (bif (a1 != (0:Int)) then (a2 != (0:Int)) else false)).bind fun v33=>some (v33,0)) else (bif (a0==(19:Int)) then ((X32 ((bits .or IntKind.i64 a1 a2) != (0:Int))).bind fun v36=>some (v36,0)) else (some (0,2))))))))))))))))
inductive X7g where
 |x0 (Xr:(List Int))
 |x1 (X04:(List Int)) (X9u:Int)
def X4x (Xm:(V5 Int)) (X6x:(List Xw)):List Xw->Nat->(List Int)->Option X7g
 |[],k,Xh=>some (.x0 Xh)
 |x::xs,k,Xh=>bif (x.Kind==(1:Int)) then ((X1w Xh (k:Int)).bind fun e151=>X4x Xm X6x xs (k+1) (List.set Xh (Int.toNat (k:Int)) x.N)) else (bif (decide (x.Kind<=(4:Int))) then ((bif (x.Kind==(0:Int)) then ((X1w Xh (k:Int)).bind fun e168=>some (List.set Xh (Int.toNat (k:Int)) Xm.e0)) else (bif (x.Kind==(2:Int)) then ((X1w Xh (k:Int)).bind fun e171=>some (List.set Xh (Int.toNat (k:Int)) Xm.e2)) else (bif (x.Kind==(3:Int)) then ((X1w Xh (k:Int)).bind fun e174=>some (List.set Xh (Int.toNat (k:Int)) Xm.e3)) else (bif (x.Kind==(4:Int)) then ((X1w Xh (k:Int)).bind fun e177=>some (List.set Xh (Int.toNat (k:Int)) Xm.e4)) else none))):Option ((List Int))).bind fun Xhi=>X4x Xm X6x xs (k+1) Xhi) else ((X1w Xh x.A).bind fun e180=>(X1w Xh x.B).bind fun e182=>(Xef x.Kind e180 e182).bind fun v184=>bif (v184.2 != (0:Int)) then (some (.x1 ([]:List Int) v184.2)) else ((X1w Xh (k:Int)).bind fun e187=>X4x Xm X6x xs (k+1) (List.set Xh (Int.toNat (k:Int)) v184.1))))
inductive X5o where
 |x0 (Xr:(List Int))
 |x1 (X04:(List Int)) (X9u:Int)
def X1x (Xm:(V5 Int)) (X6x:(List Xw)):List Xw->Nat->(List Int)->Option X5o
 |[],k,Xh=>some (.x0 Xh)
 |x::xs,k,Xh=>bif (x.Kind==(1:Int)) then ((X1w Xh (k:Int)).bind fun e304=>X1x Xm X6x xs (k+1) (List.set Xh (Int.toNat (k:Int)) x.N)) else (bif (decide (x.Kind<=(4:Int))) then ((bif (x.Kind==(0:Int)) then ((X1w Xh (k:Int)).bind fun e321=>some (List.set Xh (Int.toNat (k:Int)) Xm.e0)) else (bif (x.Kind==(2:Int)) then ((X1w Xh (k:Int)).bind fun e324=>some (List.set Xh (Int.toNat (k:Int)) Xm.e2)) else (bif (x.Kind==(3:Int)) then ((X1w Xh (k:Int)).bind fun e327=>some (List.set Xh (Int.toNat (k:Int)) Xm.e3)) else (bif (x.Kind==(4:Int)) then ((X1w Xh (k:Int)).bind fun e330=>some (List.set Xh (Int.toNat (k:Int)) Xm.e4)) else none))):Option ((List Int))).bind fun Xk4=>X1x Xm X6x xs (k+1) Xk4) else ((X1w Xh x.A).bind fun e333=>(X1w Xh x.B).bind fun e335=>(Xef x.Kind e333 e335).bind fun v337=>bif (v337.2 != (0:Int)) then (some (.x1 ([]:List Int) v337.2)) else ((X1w Xh (k:Int)).bind fun e340=>X1x Xm X6x xs (k+1) (List.set Xh (Int.toNat (k:Int)) v337.1))))
def Xdr (a0:(List Xw)) (a1:Xb):Option ((List Int)×Int) :=
 (Xaz a0).bind fun v1=>bif (v1 != (0:Int)) then (some (([]:List Int),v1)) else ((mkOk (List.length a0:Int) (List.length a0:Int) 8).bind fun u4=>bif ((List.length a0:Int)==(0:Int)) then ((X4b (List.length a0)).bind fun u7=>(X4x  (V5.mk 0 0 a1.Key a1.Time a1.Value) a0 a0 0 (List.replicate (Int.toNat (List.length a0:Int)) 0)).bind fun o220=>match o220 with|.x0 Xr=>(some (Xr,0))|.x1 X04 X9u=>(some (X04,X9u))) else ((X4b (List.length a0)).bind fun u222=>(X1x  (V5.mk 0 0 a1.Key a1.Time a1.Value) a0 a0 0 (List.replicate (Int.toNat (List.length a0:Int)) 0)).bind fun o342=>match o342 with|.x0 Xr=>(some (Xr,0))|.x1 X04 X9u=>(some (X04,X9u))))
def X5n (a0:(List Xw)) (a1:Xb):Option (Int×Int) :=
 (Xdr a0 a1).bind fun v1=>bif (v1.2 != (0:Int)) then (some (0,v1.2)) else ((X1w v1.1 (IntKind.i64.wrap ((List.length v1.1:Int) - 1))).bind fun e4=>some (e4,0))
def X5e (a0:Xu) (a1:Xb):Option (Xb×Bool) :=
 bif (decide ((List.length a0.Where:Int)>(0:Int))) then ((X5n a0.Where a1).bind fun v2=>bif (bif (v2.2 != (0:Int)) then true else (v2.1==(0:Int))) then (some ((Xb.mk 0 0 0),false)) else ((bif a0.ByKey then (some (Xb.mk a1.Key a1.Time 0)) else (some (Xb.mk 0 a1.Time 0)):Option (Xb)).bind fun Xk3=>(bif (a0.Agg != (1:Int)) then ((X5n a0.Arg a1).bind fun v14=>some (Xb.mk Xk3.Key Xk3.Time v14.1)) else (some Xk3):Option (Xb)).bind fun Xlz=>some (Xlz,true))) else ((bif a0.ByKey then (some (Xb.mk a1.Key a1.Time 0)) else (some (Xb.mk 0 a1.Time 0)):Option (Xb)).bind fun Xly=>(bif (a0.Agg != (1:Int)) then ((X5n a0.Arg a1).bind fun v26=>some (Xb.mk Xly.Key Xly.Time v26.1)) else (some Xly):Option (Xb)).bind fun Xub=>some (Xub,true))
def X2u (a0:X12):Option (Int) :=
 (bif (a0.Count==(0:Int)) then (some (Xs3 a0 (X12.mk 0 0 0 0))) else (bif (a0.Count==(1:Int)) then (some (bif (a0.Sum==a0.Min) then (a0.Sum==a0.Max) else false)) else (bif (bif (decide (a0.Count>(1:Int))) then (decide (a0.Count<=(1073741824:Int))) else false) then (some (decide (a0.Min<=a0.Max))) else (some false))):Option (Bool)).bind fun j4_3=>bif (!j4_3) then (some 8) else (some 0)
def X8e (a0:X5):Option (Bool) :=
 bif (bif (bif (decide (a0.Span.Start<((-1100585369600):Int))) then true else (decide (a0.Span.End<=a0.Span.Start))) then true else (decide (a0.Span.End>(1100585369600:Int)))) then (some false) else (((X2u a0.Values.e0).bind fun v9=>bif (v9==(0:Int)) then ((X2u a0.Values.e1).bind fun v12=>bif (v12==(0:Int)) then (some (bif (bif (v9==(0:Int)) then (v12==(0:Int)) else false) then (decide ((IntKind.i64.wrap (a0.Values.e0.Count+a0.Values.e1.Count))>(0:Int))) else false)) else (some (bif (bif (v9==(0:Int)) then (v12==(0:Int)) else false) then false else false))) else (some (bif (bif (v9==(0:Int)) then false else false) then false else false)):Option (Bool)).bind fun j8_2=>some j8_2)
def X4y (a0:Int):Option (Bool) :=
 some (a0 != a0)
def X2f (a0:Int) (a1:Int):Option (Int) :=
 (X4y a0).bind fun v1=>(X4y a1).bind fun v3=>bif v1 then (bif v3 then (some 0) else (some (-1))) else (bif v3 then (some 1) else (bif (decide (a0<a1)) then (some (-1)) else (bif (decide (a0>a1)) then (some 1) else (some 0))))
inductive X6k where
 |x0
 |x1 (X3q:Int)
def X53 (Xjj:(List Int)):List Int->Nat->Option X6k
 |[],k=>some (.x0)
 |x::xs,k=>bif (x != (0:Int)) then (some (.x1 x)) else (X53 Xjj xs (k+1))
def Xcf (a0:(List Int)):Option (Int) :=
 (X4b (List.length a0)).bind fun u1=>(X53  a0 a0 0).bind fun o7=>match o7 with|.x0=>(some 0)|.x1 X3q=>(some X3q)
def X5p (a0:X5) (a1:X5):Option (Int) :=
 (X2f a0.Span.End a1.Span.End).bind fun v1=>(X2f a0.Span.Start a1.Span.Start).bind fun v3=>(X2f a0.Key a1.Key).bind fun v5=>(Xcf [v1,v3,v5]).bind fun v7=>some v7
inductive X5g where
 |x0
 |x1
def X3f (X0i:(List X5)):List X5->Nat->Option X5g
 |[],k=>some (.x0)
 |x::xs,k=>((X8e x).bind fun v52=>bif (!v52) then (some true) else (bif (decide ((k:Int)>(0:Int))) then ((X1w X0i (IntKind.i64.wrap ((k:Int) - 1))).bind fun e56=>(X5p e56 x).bind fun v58=>some (bif (!v52) then true else (bif (decide ((k:Int)>(0:Int))) then (decide (v58 >= (0:Int))) else false))) else (some (bif (!v52) then true else false))):Option (Bool)).bind fun Xu6=>bif Xu6 then (some (.x1)) else (X3f X0i xs (k+1))
def X8f (a0:(List X5)):Option (Int) :=
 bif (decide ((List.length a0:Int)>(4000:Int))) then (some 4) else ((X4b (List.length a0)).bind fun u2=>(X3f  a0 a0 0).bind fun o62=>match o62 with|.x0=>(some 0)|.x1=>(some 8))
def X8z (a0:Int):Option (X12) :=
 some (X12.mk 1 a0 a0 a0)
def X36 (a0:Int) (a1:Int):Option (Int) :=
 bif (bif (decide (a1<(1:Int))) then true else (decide (a1>(1073741824:Int)))) then (some 2) else (bif (bif (decide (a0<((-1099511627776):Int))) then true else (decide (a0>(1099511627776:Int)))) then (some 16) else (some 0))
def Xev:List Int:=[0,1,2,2,3,3,3,3,4,4,4,4,4,4,4,4,5,5,5,5,5,5,5,5,5,5,5,5,5,5,5,5,6,6,6,6,6,6,6,6,6,6,6,6,6,6,6,6,6,6,6,6,6,6,6,6,6,6,6,6,6,6,6,6,7,7,7,7,7,7,7,7,7,7,7,7,7,7,7,7,7,7,7,7,7,7,7,7,7,7,7,7,7,7,7,7,7,7,7,7,7,7,7,7,7,7,7,7,7,7,7,7,7,7,7,7,7,7,7,7,7,7,7,7,7,7,7,7,8,8,8,8,8,8,8,8,8,8,8,8,8,8,8,8,8,8,8,8,8,8,8,8,8,8,8,8,8,8,8,8,8,8,8,8,8,8,8,8,8,8,8,8,8,8,8,8,8,8,8,8,8,8,8,8,8,8,8,8,8,8,8,8,8,8,8,8,8,8,8,8,8,8,8,8,8,8,8,8,8,8,8,8,8,8,8,8,8,8,8,8,8,8,8,8,8,8,8,8,8,8,8,8,8,8,8,8,8,8,8,8,8,8,8,8,8,8,8,8,8,8,8,8,8,8,8,8]
def X8w (a0:Int):Option (Int) :=
 (bif (decide (a0 >= (4294967296:Int))) then (some ((Int.fdiv a0 (2 ^ (min (Int.toNat 32) IntKind.u64.bits))),32)) else (some (a0,0)):Option (Int×Int)).bind fun w2=>(bif (decide (w2.1 >= (65536:Int))) then (some ((Int.fdiv w2.1 (2 ^ (min (Int.toNat 16) IntKind.u64.bits))),(IntKind.i64.wrap (w2.2+16)))) else (some (w2.1,w2.2)):Option (Int×Int)).bind fun w6=>(bif (decide (w6.1 >= (256:Int))) then (some ((Int.fdiv w6.1 (2 ^ (min (Int.toNat 8) IntKind.u64.bits))),(IntKind.i64.wrap (w6.2+8)))) else (some (w6.1,w6.2)):Option (Int×Int)).bind fun w10=>(X1w Xev (IntKind.u8.wrap w10.1)).bind fun b13=>some (IntKind.i64.wrap (w10.2+(IntKind.i64.wrap b13)))
def X7z (a0:Int):Option (Int) :=
 (X8w a0).bind fun v1=>some v1
inductive X0v where
 |x0 (Xck:Int)
def Xv (X0i:(List X5)) (Xm:X5) (Xes:Int):Nat->Int->Int->Option X0v
 |0,_,_=>none
 |n+1,Xsq,X3p=>bif (decide (Xsq<X3p)) then ((X1w X0i (IntKind.i64.wrap (Int.fdiv (IntKind.u64.wrap (IntKind.i64.wrap (Xsq+X3p))) (2 ^ (min (Int.toNat 1) IntKind.u64.bits))))).bind fun e15=>(X5p e15 Xm).bind fun v17=>bif (decide (v17<(0:Int))) then (Xv X0i Xm Xes n (IntKind.i64.wrap ((IntKind.i64.wrap (Int.fdiv (IntKind.u64.wrap (IntKind.i64.wrap (Xsq+X3p))) (2 ^ (min (Int.toNat 1) IntKind.u64.bits))))+1)) X3p) else (Xv X0i Xm Xes n Xsq (IntKind.i64.wrap (Int.fdiv (IntKind.u64.wrap (IntKind.i64.wrap (Xsq+X3p))) (2 ^ (min (Int.toNat 1) IntKind.u64.bits)))))) else (some (.x0 Xsq))
def Xi (a0:(List X5)) (a1:X5):Option (Int×Bool) :=
 (Xv  a0 a1 (List.length a0:Int) FU 0 (List.length a0:Int)).bind fun o20=>match o20 with|.x0 Xck=>((bif (decide (Xck<(List.length a0:Int))) then ((X1w a0 Xck).bind fun e29=>(X5p e29 a1).bind fun v31=>some (bif (decide (Xck<(List.length a0:Int))) then (v31==(0:Int)) else false)) else (some false):Option (Bool)).bind fun X015=>some (Xck,X015))
def X24 (a0:X12) (a1:X12):Option (X12×Int) :=
 ((X2u a0).bind fun v7=>bif (v7 != (0:Int)) then (some (bif (v7 != (0:Int)) then true else false)) else ((X2u a1).bind fun v10=>some (bif (v7 != (0:Int)) then true else (v10 != (0:Int)))):Option (Bool)).bind fun X00m=>bif X00m then (some ((X12.mk 0 0 0 0),8)) else (bif (decide ((IntKind.i64.wrap (a0.Count+a1.Count))>(1073741824:Int))) then (some ((X12.mk 0 0 0 0),4)) else (bif (a0.Count==(0:Int)) then (some (a1,0)) else (bif (a1.Count==(0:Int)) then (some (a0,0)) else (some ((X12.mk (IntKind.i64.wrap (a0.Count+a1.Count)) (IntKind.i64.wrap (a0.Sum+a1.Sum)) (if a1.Min<a0.Min then a1.Min else a0.Min) (if a1.Max>a0.Max then a1.Max else a0.Max)),0)))))
def X97 (a0:Int) (a1:Int):Option (Int) :=
 bif (bif (decide (a1<(1:Int))) then true else (decide (a1>(1073741824:Int)))) then (some 2) else (bif (bif (decide (a0<((-1099511627776):Int))) then true else (decide (a0>(1099511627776:Int)))) then (some 16) else (some 0))
def X66 (a0:Int) (a1:Int):Option (Int×Int) :=
 (X97 a0 a1).bind fun v1=>bif (v1 != (0:Int)) then (some (0,v1)) else ((Xv4 a1).bind fun u4=>(bif (decide ((Int.tmod a0 a1)<(0:Int))) then (some (IntKind.i64.wrap ((IntKind.i64.wrap (Int.tdiv a0 a1)) - 1))) else (some (IntKind.i64.wrap (Int.tdiv a0 a1))):Option (Int)).bind fun j7_7=>some (j7_7,0))
def X9x (a0:Int) (a1:Int):Option (X0n×Int) :=
 (X66 a0 a1).bind fun v1=>bif (v1.2 != (0:Int)) then (some ((X0n.mk 0 0),v1.2)) else (some ((X0n.mk (IntKind.i64.wrap (v1.1*a1)) (IntKind.i64.wrap ((IntKind.i64.wrap (v1.1+1))*a1))),0))
inductive X9m where
 |x0 (Xr:(List X0n))
def X4q (X0i:Int) (Xft:Int) (y0_2:Int):Nat->(List X0n)->Int->Option X9m
 |0,_,_=>none
 |n+1,Xm,Xgk=>bif (decide ((IntKind.i64.wrap (Xgk+Xft))>X0i)) then ((X1u (List.length (Xm++[(X0n.mk Xgk (IntKind.i64.wrap (Xgk+Xft)))])) 16).bind fun u19=>X4q X0i Xft y0_2 n (Xm++[(X0n.mk Xgk (IntKind.i64.wrap (Xgk+Xft)))]) (IntKind.i64.wrap (Xgk - y0_2))) else (some (.x0 Xm))
inductive X71 where
 |x0 (X1y:(List X0n)) (Xbe:(List X0n))
def X2x (X1c:(List X0n)):Nat->(List X0n)->Int->Option X71
 |0,_,_=>none
 |n+1,X0j,Xjk=>bif (decide (Xjk >= (0:Int))) then ((X1w X1c Xjk).bind fun e68=>(X1u (List.length (X0j++[e68])) 16).bind fun u72=>X2x X1c n (X0j++[e68]) (IntKind.i64.wrap (Xjk - 1))) else (some (.x0 X0j X1c))
def Xbk (a0:Int) (a1:Int) (a2:Int):Option ((List X0n)×Int) :=
 bif (bif (bif (bif (decide ((if a2<a1 then a2 else a1)<(1:Int))) then true else (decide (a1>(1073741824:Int)))) then true else (decide (a2>a1))) then true else (decide (a1>(IntKind.i64.wrap (16*a2))))) then (some (([]:List X0n),2)) else ((X9x a0 a2).bind fun v2=>bif (v2.2 != (0:Int)) then (some (([]:List X0n),v2.2)) else ((X4q  a0 a1 a2 FU ([]:List X0n) v2.1.Start).bind fun o24=>match o24 with|.x0 Xr=>((X2x  Xr FU ([]:List X0n) (IntKind.i64.wrap ((List.length Xr:Int) - 1))).bind fun o87=>match o87 with|.x0 X1y Xbe=>(some (X1y,0)))))
def Xd8 (a0:X0l) (a1:Int):Option ((List X0n)×Int) :=
 (X0z a0).bind fun v1=>bif (v1 != (0:Int)) then (some (([]:List X0n),v1)) else (bif (a0.Kind==(1:Int)) then ((X9x a1 a0.Size).bind fun v5=>bif (v5.2 != (0:Int)) then (some (([]:List X0n),v5.2)) else (some ([v5.1],0))) else (bif (a0.Kind==(2:Int)) then ((Xbk a1 a0.Size a0.Every).bind fun v9=>some (v9.1,v9.2)) else (some (([]:List X0n),2))))
inductive X05 where
 |x0
 |x1 (X93:Int)
def Xj (X0j:(List X5)) (X1c:X5):List X5->Nat->Option X05
 |[],k=>some (.x0)
 |x::xs,k=>bif (bif (bif (x.Key==X1c.Key) then (decide (x.Span.Start<X1c.Span.End)) else false) then (decide (X1c.Span.Start<x.Span.End)) else false) then (some (.x1 (k:Int))) else (Xj X0j X1c xs (k+1))
inductive X3g where
 |x0 (X1y:(List X5)) (X94:Int)
def X1d:Nat->(List X5)->X5->Option X3g
 |0,_,_=>none
 |n+1,X0j,X1c=>((X4b (List.length X0j)).bind fun u1330=>(Xj  X0j X1c X0j 0).bind fun o1342=>match o1342 with|.x0=>(some (-1))|.x1 X93=>(some X93):Option (Int)).bind fun Xcb=>bif (decide (Xcb<(0:Int))) then (((Xi X0j X1c).bind fun v1393=>bif (!v1393.2) then (bif (v1393.1==(List.length X0j:Int)) then (((X68 X0j v1393.1 (List.length X0j:Int)).bind fun m1405=>bif (List.isEmpty m1405) then ((X1u (List.length (X0j++[X1c])) 88).bind fun u1408=>some ()) else ((X1u (List.length (X0j++[X1c])) 88).bind fun u1410=>some ()):Option (Unit)).bind fun _=>some ((X0j++[X1c]),0)) else ((Xrc X0j v1393.1 X1c 88).bind fun m1413=>some (m1413,0))) else ((X1w X0j v1393.1).bind fun e1415=>((X24 e1415.Values.e0 X1c.Values.e0).bind fun v1430=>bif (v1430.2 != (0:Int)) then (some (X0j,v1430.2)) else ((X24 (((X5.mk e1415.Key e1415.Span (V2.mk v1430.1 e1415.Values.e1)).Values).e1) X1c.Values.e1).bind fun v1435=>bif (v1435.2 != (0:Int)) then (some ((List.set X0j (Int.toNat v1393.1) (X5.mk e1415.Key e1415.Span (V2.mk v1430.1 e1415.Values.e1))),v1435.2)) else (some ((List.set (List.set X0j (Int.toNat v1393.1) (X5.mk e1415.Key e1415.Span (V2.mk v1430.1 e1415.Values.e1))) (Int.toNat v1393.1) (X5.mk ((X5.mk e1415.Key e1415.Span (V2.mk v1430.1 e1415.Values.e1)).Key) ((X5.mk e1415.Key e1415.Span (V2.mk v1430.1 e1415.Values.e1)).Span) (V2.mk (((X5.mk e1415.Key e1415.Span (V2.mk v1430.1 e1415.Values.e1)).Values).e0) v1435.1))),0))):Option ((List X5)×Int)).bind fun w1427=>some (w1427.1,w1427.2)):Option ((List X5)×Int)).bind fun w1392=>some (.x0 w1392.1 w1392.2)) else ((X1w X0j Xcb).bind fun e1440=>((X24 X1c.Values.e0 e1440.Values.e0).bind fun v1455=>bif (v1455.2 != (0:Int)) then (some (X1c,v1455.2)) else ((X24 X1c.Values.e1 e1440.Values.e1).bind fun v1460=>bif (v1460.2 != (0:Int)) then (some ((X5.mk X1c.Key X1c.Span (V2.mk v1455.1 X1c.Values.e1)),v1460.2)) else (some ((X5.mk X1c.Key X1c.Span (V2.mk v1455.1 v1460.1)),0))):Option (X5×Int)).bind fun w1452=>bif (w1452.2 != (0:Int)) then (some (.x0 ([]:List X5) w1452.2)) else ((delI X0j Xcb).bind fun m1465=>X1d n m1465 (X5.mk w1452.1.Key (X0n.mk (if e1440.Span.Start<w1452.1.Span.Start then e1440.Span.Start else w1452.1.Span.Start) (if e1440.Span.End>w1452.1.Span.End then e1440.Span.End else w1452.1.Span.End)) w1452.1.Values)))
inductive X7e where
 |x0 (Xr:(List X5))
 |x1 (X04:(List X5)) (Xg8:Int)
def X3y (Xdw:(List X0n)):List X0n->Nat->X5->(List X5)->Option X7e
 |[],k,Xm,Xh=>some (.x0 Xh)
 |x::xs,k,Xm,Xh=>((Xi Xh (X5.mk Xm.Key x Xm.Values)).bind fun v1891=>bif (!v1891.2) then (bif (v1891.1==(List.length Xh:Int)) then (((X68 Xh v1891.1 (List.length Xh:Int)).bind fun m1903=>bif (List.isEmpty m1903) then ((X1u (List.length (Xh++[(X5.mk Xm.Key x Xm.Values)])) 88).bind fun u1906=>some ()) else ((X1u (List.length (Xh++[(X5.mk Xm.Key x Xm.Values)])) 88).bind fun u1908=>some ()):Option (Unit)).bind fun _=>some ((X5.mk ((X5.mk Xm.Key x Xm.Values).Key) ((X5.mk Xm.Key x Xm.Values).Span) (V2.mk (((X5.mk Xm.Key x Xm.Values).Values).e0) (((X5.mk Xm.Key x Xm.Values).Values).e1))),(Xh++[(X5.mk Xm.Key x Xm.Values)]),0)) else ((Xrc Xh v1891.1 (X5.mk Xm.Key x Xm.Values) 88).bind fun m1911=>some ((X5.mk Xm.Key x Xm.Values),m1911,0))) else ((X1w Xh v1891.1).bind fun e1913=>((X24 e1913.Values.e0 Xm.Values.e0).bind fun v1928=>bif (v1928.2 != (0:Int)) then (some (Xh,v1928.2)) else ((X24 (((X5.mk e1913.Key e1913.Span (V2.mk v1928.1 e1913.Values.e1)).Values).e1) Xm.Values.e1).bind fun v1933=>bif (v1933.2 != (0:Int)) then (some ((List.set Xh (Int.toNat v1891.1) (X5.mk e1913.Key e1913.Span (V2.mk v1928.1 e1913.Values.e1))),v1933.2)) else (some ((List.set (List.set Xh (Int.toNat v1891.1) (X5.mk e1913.Key e1913.Span (V2.mk v1928.1 e1913.Values.e1))) (Int.toNat v1891.1) (X5.mk ((X5.mk e1913.Key e1913.Span (V2.mk v1928.1 e1913.Values.e1)).Key) ((X5.mk e1913.Key e1913.Span (V2.mk v1928.1 e1913.Values.e1)).Span) (V2.mk (((X5.mk e1913.Key e1913.Span (V2.mk v1928.1 e1913.Values.e1)).Values).e0) v1933.1))),0))):Option ((List X5)×Int)).bind fun w1925=>some ((X5.mk ((X5.mk Xm.Key x Xm.Values).Key) ((X5.mk Xm.Key x Xm.Values).Span) (V2.mk (((X5.mk Xm.Key x Xm.Values).Values).e0) (((X5.mk Xm.Key x Xm.Values).Values).e1))),w1925.1,w1925.2)):Option (X5×(List X5)×Int)).bind fun w1890=>bif (w1890.2.2 != (0:Int)) then (some (.x1 ([]:List X5) w1890.2.2)) else (X3y Xdw xs (k+1) w1890.1 w1890.2.1)
def X7k (a0:(List X5)) (a1:X0l) (a2:Xb) (a3:Int):Option ((List X5)×Int) :=
 (X8f a0).bind fun v1=>bif (v1 != (0:Int)) then (some (([]:List X5),v1)) else ((X0z a1).bind fun v4=>bif (v4 != (0:Int)) then (some (([]:List X5),v4)) else (bif (bif (a3 != (0:Int)) then (a3 != (1:Int)) else false) then (some (([]:List X5),2)) else (bif (bif (decide (a2.Time<((-1099511627776):Int))) then true else (decide (a2.Time>(1099511627776:Int)))) then (some (([]:List X5),16)) else (((X8z a2.Value).bind fun v14=>bif (a3==(0:Int)) then (some (X5.mk a2.Key (X0n.mk 0 0) (V2.mk v14 (X12.mk 0 0 0 0)))) else (bif (a3==(1:Int)) then (some (X5.mk a2.Key (X0n.mk 0 0) (V2.mk (X12.mk 0 0 0 0) v14))) else none):Option (X5)).bind fun Xf4=>(bif (List.isEmpty a0) then (some a0) else ((X1u (List.length a0) 88).bind fun u28=>some a0):Option ((List X5))).bind fun Xf3=>bif (a1.Kind==(3:Int)) then (((X36 0 a1.Size).bind fun v51=>bif (v51 != (0:Int)) then (some (([]:List X0n),v51)) else ((X36 a2.Time a1.Size).bind fun v54=>bif (v54 != (0:Int)) then (some (([]:List X0n),v54)) else ((X7z 1).bind fun v67=>some ([(X0n.mk a2.Time (IntKind.i64.wrap (a2.Time+a1.Size)))],0))):Option ((List X0n)×Int)).bind fun w50=>bif (w50.2 != (0:Int)) then (some (([]:List X5),w50.2)) else ((X1w w50.1 0).bind fun e71=>((X1d  FU Xf3 (X5.mk Xf4.Key e71 Xf4.Values)).bind fun o1548=>match o1548 with|.x0 X1y X94=>(some (X1y,X94)):Option ((List X5)×Int)).bind fun w811=>bif (w811.2 != (0:Int)) then (some (([]:List X5),w811.2)) else (bif (decide ((List.length w811.1:Int)>(4000:Int))) then (some (([]:List X5),4)) else (some (w811.1,0))))) else ((Xd8 a1 a2.Time).bind fun v1558=>bif (v1558.2 != (0:Int)) then (some (([]:List X5),v1558.2)) else ((X4b (List.length v1558.1)).bind fun u1561=>(X3y  v1558.1 v1558.1 0 Xf4 Xf3).bind fun o1984=>match o1984 with|.x0 Xr=>(bif (decide ((List.length Xr:Int)>(4000:Int))) then (some (([]:List X5),4)) else (some (Xr,0)))|.x1 X04 Xg8=>(some (X04,Xg8))))))))
def X63 (a0:Int) (a1:X12):Option (Int×Int) :=
 bif (bif (decide (a0<(1:Int))) then true else (decide (a0>(4:Int)))) then (some (0,2)) else ((X2u a1).bind fun v2=>bif (v2 != (0:Int)) then (some (0,v2)) else (bif (a1.Count==(0:Int)) then (some (0,6)) else ((bif (a0==(0:Int)) then (some 0) else (bif (a0==(1:Int)) then (some a1.Count) else (bif (a0==(2:Int)) then (some a1.Sum) else (bif (a0==(3:Int)) then (some a1.Min) else (bif (a0==(4:Int)) then (some a1.Max) else none)))):Option (Int)).bind fun X01a=>some (X01a,0))))
def X8v (a0:Xu) (a1:X5):Option (X3w×Bool) :=
 (X63 a0.Agg a1.Values.e0).bind fun v3=>bif (v3.2 != (0:Int)) then (some ((X3w.mk 0 (X0n.mk 0 0) (V2.mk 0 0)),false)) else (bif (bif ((1:Int)==(1:Int)) then (!a0.Join) else false) then (some ((X3w.mk a1.Key a1.Span (V2.mk v3.1 0)),true)) else ((X63 a0.Agg a1.Values.e1).bind fun v9=>bif (v9.2 != (0:Int)) then (some ((X3w.mk 0 (X0n.mk 0 0) (V2.mk 0 0)),false)) else (some ((X3w.mk a1.Key a1.Span (V2.mk v3.1 v9.1)),true))))
inductive X5l where
 |x0 (X8a:(List X5)) (X6w:(List Xb))
 |x1 (X6v:(List X3w)) (X6u:(List Xb)) (Xbd:Int)
def X2g (Xb8:Xu) (Xi4:(List Xb)) (Xcs:Int) (Xl2:(List (List Xg))) (Xl1:Int) (Xl0:Int) (Xd5:(List Xb)):List Xb->Nat->(List X5)->Option X5l
 |[],k,Xga=>some (.x0 Xga Xi4)
 |x::xs,k,Xga=>(X5e Xb8 x).bind fun v482=>bif (!v482.2) then (X2g Xb8 Xi4 Xcs Xl2 Xl1 Xl0 Xd5 xs (k+1) Xga) else ((bif Xb8.Join then (some Xcs) else (some 0):Option (Int)).bind fun Xnv=>(X7k Xga Xb8.Window v482.1 Xnv).bind fun v489=>bif (v489.2 != (0:Int)) then (some (.x1 ([]:List X3w) ([]:List Xb) v489.2)) else (X2g Xb8 Xi4 Xcs Xl2 Xl1 Xl0 Xd5 xs (k+1) v489.1))
inductive X5m where
 |x0 (X65:(List X5)) (X0d:(List Xb))
 |x1 (X04:(List X3w)) (X4n:(List Xb)) (Xir:Int)
def X2h (Xm:Xu) (X90:(List (List Xg))):List (List Xg)->Nat->(List X5)->(List Xb)->Option X5m
 |[],k,X3p,Xh=>some (.x0 X3p Xh)
 |x::xs,k,X3p,Xh=>(Xa6 x).bind fun v435=>bif (v435.2.2 != (0:Int)) then (some (.x1 ([]:List X3w) ([]:List Xb) v435.2.2)) else (bif (List.isEmpty v435.2.1) then ((X4b (List.length v435.1)).bind fun u439=>(X2g  Xm (Xh++v435.2.1) (k:Int) X90 (List.length X90:Int) (k:Int) v435.1 v435.1 0 X3p).bind fun o502=>match o502 with|.x0 X8a X6w=>(X2h Xm X90 xs (k+1) X8a X6w)|.x1 X6v X6u Xbd=>(some (.x1 X6v X6u Xbd))) else ((X1u (List.length (Xh++v435.2.1)) 24).bind fun u504=>(X4b (List.length v435.1)).bind fun u506=>(X2g  Xm (Xh++v435.2.1) (k:Int) X90 (List.length X90:Int) (k:Int) v435.1 v435.1 0 X3p).bind fun o549=>match o549 with|.x0 X8a X6w=>(X2h Xm X90 xs (k+1) X8a X6w)|.x1 X6v X6u Xbd=>(some (.x1 X6v X6u Xbd))))
inductive X7r where
 |x0 (Xad:(List Xb)) (X4m:(List X3w))
def X2s (Xi3:Xu) (Xg9:(List Xb)) (Xbf:(List X5)):List X5->Nat->(List X3w)->Option X7r
 |[],k,Xfb=>some (.x0 Xg9 Xfb)
 |x::xs,k,Xfb=>(X8v Xi3 x).bind fun v732=>(bif v732.2 then ((X1u (List.length (Xfb++[v732.1])) 40).bind fun u739=>some (Xfb++[v732.1])) else (some Xfb):Option ((List X3w))).bind fun Xhf=>X2s Xi3 Xg9 Xbf xs (k+1) Xhf
def X5u (a0:Xu) (a1:(List (List Xg))):Option ((List X3w)×(List Xb)×Int) :=
 (X7n a0).bind fun v1=>bif (v1.2 != (0:Int)) then (some (([]:List X3w),([]:List Xb),v1.2)) else (bif ((List.length a1:Int) != (List.length a0.Sources:Int)) then (some (([]:List X3w),([]:List Xb),2)) else ((X4a a1).bind fun v5=>bif (v5 != (0:Int)) then (some (([]:List X3w),([]:List Xb),v5)) else ((X4b (List.length a1)).bind fun u8=>(X2h  a0 a1 a1 0 ([]:List X5) ([]:List Xb)).bind fun o647=>match o647 with|.x0 X65 X0d=>((X4b (List.length X65)).bind fun u649=>(X2s  a0 X0d X65 X65 0 ([]:List X3w)).bind fun o772=>match o772 with|.x0 Xad X4m=>((bif (a0.Late != (2:Int)) then (some ([]:List Xb)) else (some Xad):Option ((List Xb))).bind fun Xhe=>some (X4m,Xhe,0)))|.x1 X04 X4n Xir=>(some (X04,X4n,Xir)))))
inductive X9q where
 |x0 (Xr:Int)
def X4u (Xjm:(List Xg)):List Xg->Nat->Int->Option X9q
 |[],k,Xm=>some (.x0 Xm)
 |x::xs,k,Xm=>(bif x.Mark then (some (if x.Time>Xm then x.Time else Xm)) else (some Xm):Option (Int)).bind fun Xu8=>X4u Xjm xs (k+1) Xu8
def Xbs (a0:(List Xg)):Option (Int×Int) :=
 (X77 a0).bind fun v1=>bif (v1 != (0:Int)) then (some (0,v1)) else ((X4b (List.length a0)).bind fun u4=>(X4u  a0 a0 0 (-9223372036854775808)).bind fun o31=>match o31 with|.x0 Xr=>(some (Xr,0)))
inductive X4g where
 |x0 (X94:Int)
 |x1 (X9v:Int)
def X2o (Xjl:(List (List Xg))):List (List Xg)->Nat->Int->Option X4g
 |[],k,Xmr=>some (.x0 Xmr)
 |x::xs,k,Xmr=>(Xbs x).bind fun v18=>bif (v18.2 != (0:Int)) then (some (.x1 v18.2)) else (X2o Xjl xs (k+1) (if v18.1<Xmr then v18.1 else Xmr))
def X6d (a0:(List (List Xg))):Option (Int×Int) :=
 (bif (decide ((List.length a0:Int)<(1:Int))) then (some (bif (decide ((List.length a0:Int)<(1:Int))) then true else false)) else (some (bif (decide ((List.length a0:Int)<(1:Int))) then true else (decide ((List.length a0:Int)>(4:Int))))):Option (Bool)).bind fun X014=>bif X014 then (some (0,2)) else ((X4a a0).bind fun v6=>bif (v6 != (0:Int)) then (some (0,v6)) else ((X4b (List.length a0)).bind fun u9=>(X2o  a0 a0 0 9223372036854775807).bind fun o21=>match o21 with|.x0 X94=>(some (X94,0))|.x1 X9v=>(some (0,X9v))))
inductive X5b where
 |x0 (Xr:(List X3w))
def X1l (Xes:(List Xb)) (X3p:Int) (Xdx:(List X3w)):List X3w->Nat->(List X3w)->Option X5b
 |[],k,Xm=>some (.x0 Xm)
 |x::xs,k,Xm=>(bif (decide (x.Span.End<=X3p)) then ((X1u (List.length (Xm++[x])) 40).bind fun u47=>some (Xm++[x])) else (some Xm):Option ((List X3w))).bind fun Xlv=>X1l Xes X3p Xdx xs (k+1) Xlv
def X21 (a0:Xu) (a1:(List (List Xg))):Option ((List X3w)×(List Xb)×Int) :=
 (X5u a0 a1).bind fun v1=>bif (v1.2.2 != (0:Int)) then (some (([]:List X3w),([]:List Xb),v1.2.2)) else ((X6d a1).bind fun v4=>bif (v4.2 != (0:Int)) then (some (([]:List X3w),([]:List Xb),v4.2)) else ((X4b (List.length v1.1)).bind fun u7=>(X1l  v1.2.1 v4.1 v1.1 v1.1 0 ([]:List X3w)).bind fun o58=>match o58 with|.x0 Xr=>(some (Xr,v1.2.1,0))))
def Xdi (a0:Int) (a1:Int) (a2:Int):Option (X3w) :=
 some (X3w.mk 0 (X0n.mk a0 a1) (V2.mk a2 0))
inductive X69 where
 |x0
 |x1
def X6a (X0i:(List X3w)) (Xft:(List X3w)):List X3w->Nat->Option X69
 |[],k=>some (.x0)
 |x::xs,k=>(X1w Xft (k:Int)).bind fun e11=>bif (!(Xg5 x e11)) then (some (.x1)) else (X6a X0i Xft xs (k+1))
def Xc7 (a0:(List X3w)) (a1:(List X3w)):Option (Bool) :=
 bif ((List.length a0:Int) != (List.length a1:Int)) then (some false) else ((X4b (List.length a0)).bind fun u2=>(X6a  a0 a1 a0 0).bind fun o14=>match o14 with|.x0=>(some true)|.x1=>(some false))
def Xar:Option (Bool) :=
 (Xdj 1 3 5).bind fun v1=>(Xee 10).bind fun v3=>(Xdj 1 12 7).bind fun v5=>(Xdj 1 9 1).bind fun v7=>(Xh8).bind fun v9=>(X5u v9 [[v1,v3,v5,v7]]).bind fun v11=>(X21 v9 [[v1,v3,v5,v7]]).bind fun v13=>(bif (v11.2.2==(0:Int)) then ((Xdi 0 10 5).bind fun v34=>(Xdi 10 20 7).bind fun v36=>(Xc7 v11.1 [v34,v36]).bind fun v38=>bif v38 then (bif ((List.length v11.2.1:Int)==(1:Int)) then ((X1w v11.2.1 0).bind fun e42=>bif (e42.Time==(9:Int)) then (bif (v13.2.2==(0:Int)) then ((X68 v11.1 0 1).bind fun m46=>(Xc7 v13.1 m46).bind fun v48=>some (bif (bif (bif (bif (bif (v11.2.2==(0:Int)) then v38 else false) then ((List.length v11.2.1:Int)==(1:Int)) else false) then (e42.Time==(9:Int)) else false) then (v13.2.2==(0:Int)) else false) then v48 else false)) else (some (bif (bif (bif (bif (bif (v11.2.2==(0:Int)) then v38 else false) then ((List.length v11.2.1:Int)==(1:Int)) else false) then (e42.Time==(9:Int)) else false) then (v13.2.2==(0:Int)) else false) then false else false))) else (some (bif (bif (bif (bif (bif (v11.2.2==(0:Int)) then v38 else false) then ((List.length v11.2.1:Int)==(1:Int)) else false) then (e42.Time==(9:Int)) else false) then false else false) then false else false))) else (some (bif (bif (bif (bif (bif (v11.2.2==(0:Int)) then v38 else false) then ((List.length v11.2.1:Int)==(1:Int)) else false) then false else false) then false else false) then false else false))) else (some (bif (bif (bif (bif (bif (v11.2.2==(0:Int)) then v38 else false) then false else false) then false else false) then false else false) then false else false))) else (some (bif (bif (bif (bif (bif (v11.2.2==(0:Int)) then false else false) then false else false) then false else false) then false else false) then false else false)):Option (Bool)).bind fun X013=>some X013
def X8q (a0:(List Xw)):Option (Bool) :=
 some (decide ((List.length a0:Int)>(70:Int)))
def X8o (a0:Xu):Option (Bool) :=
 ((X8q a0.Arg).bind fun v8=>bif v8 then (some (bif (bif v8 then true else false) then true else false)) else ((X8q a0.Where).bind fun v11=>bif v11 then (some (bif (bif v8 then true else v11) then true else false)) else (some (bif (bif v8 then true else v11) then true else (decide ((List.length a0.Sources:Int)>(10:Int)))))):Option (Bool)).bind fun j7_2=>some j7_2
inductive X5i where
 |x0
 |x1
def X3k (X0i:(List (List Xg))):Nat->Int->Option X5i
 |0,_=>none
 |n+1,Xjk=>bif (bif (decide (Xjk<(List.length X0i:Int))) then (decide (Xjk<(7:Int))) else false) then (((X1w X0i Xjk).bind fun e27=>bif (decide ((List.length e27:Int)>(20:Int))) then (some (bif (decide ((List.length e27:Int)>(20:Int))) then ((List.length e27:Int) != (61:Int)) else false)) else (some (bif (decide ((List.length e27:Int)>(20:Int))) then false else false)):Option (Bool)).bind fun Xu9=>bif Xu9 then (some (.x0)) else (X3k X0i n (IntKind.i64.wrap (Xjk+1)))) else (some (.x1))
def X8j (a0:(List (List Xg))):Option (Bool) :=
 (X3k  a0 FU 0).bind fun o32=>match o32 with|.x0=>(some true)|.x1=>(some (decide ((List.length a0:Int)>(6:Int))))
def Xak (a0:Int):Option (Int) :=
 bif (decide (a0<=(4:Int))) then (some 0) else (bif (decide (a0<=(6:Int))) then (some 1) else (some 2))
def X5t (a0:Xw) (a1:Int) (a2:Int):Option (Bool) :=
 some (bif (bif (bif (bif (bif (bif (bif (decide (a0.Kind >= (1:Int))) then (decide (a0.Kind<=(19:Int))) else false) then (decide (a0.N >= (0:Int))) else false) then (bif (a0.N==(0:Int)) then true else (a0.Kind==(1:Int))) else false) then (decide (a0.At >= (0:Int))) else false) then (decide (a0.At<=(400:Int))) else false) then (a0.A==a1) else false) then (a0.B==a2) else false)
inductive X44 where
 |x0 (Xr:(List Int)) (X0d:(List Int))
 |x1 (X04:(List Int)) (X4n:(List Int))
def X1b (X0i:(List Xw)):List Xw->Nat->(List Int)->(List Int)->Option X44
 |[],k,Xm,Xh=>some (.x0 Xm Xh)
 |x::xs,k,Xm,Xh=>(Xak x.Kind).bind fun v156=>bif (decide (v156>(0:Int))) then (bif (decide ((IntKind.i64.wrap ((k:Int) - 1))<(0:Int))) then (some (.x1 ([]:List Int) ([]:List Int))) else ((X1w Xm (IntKind.i64.wrap ((k:Int) - 1))).bind fun e160=>(X1w Xh (IntKind.i64.wrap ((k:Int) - 1))).bind fun e162=>bif (v156==(2:Int)) then (bif (decide ((IntKind.i64.wrap ((IntKind.i64.wrap ((k:Int) - 1)) - e160))<(0:Int))) then (some (.x1 ([]:List Int) ([]:List Int))) else ((X1w Xm (IntKind.i64.wrap ((IntKind.i64.wrap ((k:Int) - 1)) - e160))).bind fun e166=>(X1w Xh (IntKind.i64.wrap ((IntKind.i64.wrap ((k:Int) - 1)) - e160))).bind fun e168=>(X5t x (IntKind.i64.wrap ((IntKind.i64.wrap ((k:Int) - 1)) - e160)) (IntKind.i64.wrap ((k:Int) - 1))).bind fun v170=>bif (!v170) then (some (.x1 ([]:List Int) ([]:List Int))) else ((X1u (List.length (Xm++[(IntKind.i64.wrap ((IntKind.i64.wrap (1+e160))+e166))])) 8).bind fun u173=>(X1u (List.length (Xh++[(if (IntKind.i64.wrap (1+e168))>(IntKind.i64.wrap (1+e162)) then (IntKind.i64.wrap (1+e168)) else (IntKind.i64.wrap (1+e162)))])) 8).bind fun u175=>X1b X0i xs (k+1) (Xm++[(IntKind.i64.wrap ((IntKind.i64.wrap (1+e160))+e166))]) (Xh++[(if (IntKind.i64.wrap (1+e168))>(IntKind.i64.wrap (1+e162)) then (IntKind.i64.wrap (1+e168)) else (IntKind.i64.wrap (1+e162)))])))) else ((X5t x (IntKind.i64.wrap ((k:Int) - 1)) 0).bind fun v177=>bif (!v177) then (some (.x1 ([]:List Int) ([]:List Int))) else ((X1u (List.length (Xm++[(IntKind.i64.wrap (1+e160))])) 8).bind fun u180=>(X1u (List.length (Xh++[(IntKind.i64.wrap (1+e162))])) 8).bind fun u182=>X1b X0i xs (k+1) (Xm++[(IntKind.i64.wrap (1+e160))]) (Xh++[(IntKind.i64.wrap (1+e162))]))))) else ((X5t x 0 0).bind fun v184=>bif (!v184) then (some (.x1 ([]:List Int) ([]:List Int))) else ((X1u (List.length (Xm++[1])) 8).bind fun u187=>(X1u (List.length (Xh++[1])) 8).bind fun u189=>X1b X0i xs (k+1) (Xm++[1]) (Xh++[1])))
def Xaj (a0:(List Xw)):Option ((List Int)×(List Int)×Bool) :=
 (X4b (List.length a0)).bind fun u1=>(X1b  a0 a0 0 ([]:List Int) ([]:List Int)).bind fun o232=>match o232 with|.x0 Xr X0d=>((bif (decide ((List.length a0:Int)>(0:Int))) then ((X1w Xr (IntKind.i64.wrap ((List.length a0:Int) - 1))).bind fun e239=>some (bif (decide ((List.length a0:Int)>(0:Int))) then (e239==(List.length a0:Int)) else false)) else (some false):Option (Bool)).bind fun Xud=>some (Xr,X0d,Xud))|.x1 X04 X4n=>(some (X04,X4n,false))
def X3z (a0:(List Xw)):Option (Int) :=
 bif (decide ((List.length a0:Int)>(60:Int))) then (some 4) else ((Xaj a0).bind fun v2=>bif (!v2.2.2) then (some 8) else ((X1w v2.2.1 (IntKind.i64.wrap ((List.length a0:Int) - 1))).bind fun e5=>bif (decide (e5>(20:Int))) then (some 34) else (some 0)))
inductive X4f where
 |x0
 |x1
def X2n (X0i:(List Int)):List Int->Nat->Option X4f
 |[],k=>some (.x0)
 |x::xs,k=>(bif (decide (x<(0:Int))) then (some (bif (decide (x<(0:Int))) then true else false)) else (some (bif (decide (x<(0:Int))) then true else (decide (x>(3:Int))))):Option (Bool)).bind fun Xuc=>bif Xuc then (some (.x1)) else (X2n X0i xs (k+1))
inductive X4d where
 |x0
 |x1
def X2m (Xzg:(List Int)) (Xzf:Int):Nat->Int->Option X4d
 |0,_=>none
 |n+1,Xyn=>bif (decide (Xyn<Xzf)) then ((X1w Xzg Xyn).bind fun e86=>(X1w Xzg Xzf).bind fun e88=>bif (e86==e88) then (some (.x0)) else (X2m Xzg Xzf n (IntKind.i64.wrap (Xyn+1)))) else (some (.x1))
inductive X4e where
 |x0
 |x1
def X26 (Xsf:(List Int)):List Int->Nat->Option X4e
 |[],k=>some (.x0)
 |x::xs,k=>(X2m  Xsf (k:Int) FU 0).bind fun o91=>match o91 with|.x0=>(some (.x1))|.x1=>(X26 Xsf xs (k+1))
def X6b (a0:(List Int)) (a1:Bool):Option (Int) :=
 bif (decide ((List.length a0:Int)>(4:Int))) then (some 4) else ((bif ((List.length a0:Int)==(0:Int)) then (some (bif ((List.length a0:Int)==(0:Int)) then true else false)) else (bif a1 then (some (bif ((List.length a0:Int)==(0:Int)) then true else (bif a1 then ((List.length a0:Int) != (2:Int)) else false))) else (some (bif ((List.length a0:Int)==(0:Int)) then true else (bif a1 then false else false)))):Option (Bool)).bind fun X00o=>bif X00o then (some 8) else ((X4b (List.length a0)).bind fun u9=>(X2n  a0 a0 0).bind fun o27=>match o27 with|.x0=>((X26  a0 a0 0).bind fun o93=>match o93 with|.x0=>(some 0)|.x1=>(some 43))|.x1=>(some 8)))
def X74 (a0:X0l):Option (Bool) :=
 bif (bif (decide (a0.Size<(1:Int))) then true else (decide (a0.Size>(1073741824:Int)))) then (some false) else (bif (a0.Kind==(2:Int)) then (some (bif (bif (decide (a0.Every >= (1:Int))) then (decide (a0.Every<=a0.Size)) else false) then (decide (a0.Size<=(IntKind.i64.wrap (16*a0.Every)))) else false)) else (some (bif (bif (a0.Kind==(1:Int)) then true else (a0.Kind==(3:Int))) then (a0.Every==(0:Int)) else false)))
def X8p (a0:Xu):Option (Int) :=
 bif (bif (bif (bif (decide (a0.Agg<(1:Int))) then true else (decide (a0.Agg>(4:Int)))) then true else (decide (a0.Late<(1:Int)))) then true else (decide (a0.Late>(2:Int)))) then (some 8) else ((bif (a0.Agg==(1:Int)) then (some (bif (a0.Agg==(1:Int)) then (decide ((List.length a0.Arg:Int)>(0:Int))) else false)) else (some (bif (a0.Agg==(1:Int)) then false else false)):Option (Bool)).bind fun X00y=>bif X00y then (some 8) else ((bif (a0.Agg != (1:Int)) then ((X3z a0.Arg).bind fun v12=>some (bif (a0.Agg != (1:Int)) then (v12 != (0:Int)) else false)) else (some (bif (a0.Agg != (1:Int)) then false else false)):Option (Bool)).bind fun Xug=>bif Xug then ((X3z a0.Arg).bind fun v16=>some v16) else ((bif (decide ((List.length a0.Where:Int)>(0:Int))) then ((X3z a0.Where).bind fun v23=>some (bif (decide ((List.length a0.Where:Int)>(0:Int))) then (v23 != (0:Int)) else false)) else (some (bif (decide ((List.length a0.Where:Int)>(0:Int))) then false else false)):Option (Bool)).bind fun Xlx=>bif Xlx then ((X3z a0.Where).bind fun v27=>some v27) else ((X6b a0.Sources a0.Join).bind fun v29=>bif (v29 != (0:Int)) then (some v29) else ((X74 a0.Window).bind fun v32=>bif (bif (!v32) then true else (bif a0.Join then (a0.Window.Kind != (1:Int)) else false)) then (some 8) else (some 0))))))
def X5s (a0:Int):Option (Bool) :=
 some (bif (a0==(6:Int)) then true else (decide (a0 >= (12:Int))))
def Xa0 (a0:(List Xw)) (a1:Int):Option (Bool) :=
 (X1w a0 a1).bind fun e1=>(X1w a0 e1.A).bind fun e3=>(X5s e3.Kind).bind fun v5=>(X1w a0 e1.B).bind fun e7=>(X5s e7.Kind).bind fun v9=>bif (decide (e1.Kind<=(4:Int))) then (some true) else (bif (e1.Kind==(5:Int)) then (some (!v5)) else (bif (e1.Kind==(6:Int)) then (some v5) else (bif (bif (e1.Kind==(16:Int)) then true else (e1.Kind==(17:Int))) then (some (v5==v9)) else (bif (decide (e1.Kind >= (18:Int))) then (some (bif v5 then v9 else false)) else (some (bif (!v5) then (!v9) else false))))))
inductive X5k where
 |x0
 |x1 (X3q:Int)
def X3m (X0i:(List Xw)):List Xw->Nat->Option X5k
 |[],k=>some (.x0)
 |x::xs,k=>(Xa0 X0i (k:Int)).bind fun v10=>bif (!v10) then (some (.x1 (k:Int))) else (X3m X0i xs (k+1))
def Xai (a0:(List Xw)):Option (Int) :=
 (X4b (List.length a0)).bind fun u1=>(X3m  a0 a0 0).bind fun o13=>match o13 with|.x0=>(some (List.length a0:Int))|.x1 X3q=>(some X3q)
def Xdb (a0:(List Xw)):Option (Bool×Int×Int) :=
 (X3z a0).bind fun v1=>bif (v1 != (0:Int)) then (some (false,0,v1)) else ((Xai a0).bind fun v4=>bif (decide (v4<(List.length a0:Int))) then (some (false,v4,42)) else ((X1w a0 (IntKind.i64.wrap ((List.length a0:Int) - 1))).bind fun e7=>(X5s e7.Kind).bind fun v9=>some (v9,(IntKind.i64.wrap ((List.length a0:Int) - 1)),0)))
def X75 (a0:(List Xw)) (a1:Bool):Option (Int×Int) :=
 (Xdb a0).bind fun v1=>bif (bif (v1.2.2==(0:Int)) then (!(v1.1==a1)) else false) then (some (v1.2.1,42)) else (some (v1.2.1,v1.2.2))
def X8m (a0:Xu):Option (Int×Int) :=
 bif (decide ((List.length a0.Arg:Int)>(0:Int))) then ((X75 a0.Arg false).bind fun v2=>bif (v2.2 != (0:Int)) then ((X1w a0.Arg v2.1).bind fun e5=>some (e5.At,v2.2)) else (bif (decide ((List.length a0.Where:Int)>(0:Int))) then ((X75 a0.Where true).bind fun v8=>bif (v8.2 != (0:Int)) then ((X1w a0.Where v8.1).bind fun e11=>some (e11.At,v8.2)) else (some (0,0))) else (some (0,0)))) else (bif (decide ((List.length a0.Where:Int)>(0:Int))) then ((X75 a0.Where true).bind fun v14=>bif (v14.2 != (0:Int)) then ((X1w a0.Where v14.1).bind fun e17=>some (e17.At,v14.2)) else (some (0,0))) else (some (0,0)))
def X8n (a0:Xu):Option (Int×Int) :=
 (X8p a0).bind fun v1=>bif (v1 != (0:Int)) then (some (0,v1)) else ((X8m a0).bind fun v4=>some (v4.1,v4.2))
def X73 (a0:Int) (a1:Int):Option (Int) :=
 bif (bif (decide (a1<(1:Int))) then true else (decide (a1>(1073741824:Int)))) then (some 2) else (bif (bif (decide (a0<((-1099511627776):Int))) then true else (decide (a0>(1099511627776:Int)))) then (some 16) else (some 0))
def X8k (a0:Xg):Option (Bool) :=
 bif a0.Mark then ((bif (X3n a0.Record (Xb.mk 0 0 0)) then (bif (a0.Time==(9223372036854775807:Int)) then (some (bif (X3n a0.Record (Xb.mk 0 0 0)) then (bif (a0.Time==(9223372036854775807:Int)) then true else false) else false)) else ((X73 a0.Time 1).bind fun v9=>some (bif (X3n a0.Record (Xb.mk 0 0 0)) then (bif (a0.Time==(9223372036854775807:Int)) then true else (v9==(0:Int))) else false))) else (some (bif (X3n a0.Record (Xb.mk 0 0 0)) then false else false)):Option (Bool)).bind fun j6_2=>some j6_2) else ((bif (a0.Time==(0:Int)) then ((X73 a0.Record.Time 1).bind fun v17=>some (bif (a0.Time==(0:Int)) then (v17==(0:Int)) else false)) else (some (bif (a0.Time==(0:Int)) then false else false)):Option (Bool)).bind fun X019=>some X019)
inductive X5j where
 |x0
 |x1
def X3l (X0i:(List Xg)):List Xg->Nat->Option X5j
 |[],k=>some (.x0)
 |x::xs,k=>(X8k x).bind fun v11=>bif (!v11) then (some (.x1)) else (X3l X0i xs (k+1))
def X8l (a0:(List Xg)):Option (Int) :=
 bif (decide ((List.length a0:Int)>(60:Int))) then (some 4) else ((X4b (List.length a0)).bind fun u2=>(X3l  a0 a0 0).bind fun o14=>match o14 with|.x0=>(some 0)|.x1=>(some 8))
inductive X5h where
 |x0
 |x1 (X3q:Int)
def X3j (X0i:(List (List Xg))):List (List Xg)->Nat->Option X5h
 |[],k=>some (.x0)
 |x::xs,k=>(X8l x).bind fun v10=>bif (v10 != (0:Int)) then (some (.x1 v10)) else (X3j X0i xs (k+1))
def X8i (a0:(List (List Xg))):Option (Int) :=
 (X4b (List.length a0)).bind fun u1=>(X3j  a0 a0 0).bind fun o13=>match o13 with|.x0=>(some 0)|.x1 X3q=>(some X3q)
def Xah (a0:Xu) (a1:(List (List Xg))):Option (Int) :=
 (X8n a0).bind fun v1=>bif (v1.2 != (0:Int)) then (some v1.2) else (bif ((List.length a1:Int) != (List.length a0.Sources:Int)) then (some 2) else ((X8i a1).bind fun v5=>some v5))
def Xbp (a0:Xu) (a1:(List (List Xg))):Option (Bool) :=
 ((X8o a0).bind fun v10=>bif (!v10) then ((X8j a1).bind fun v13=>bif (!v13) then ((Xah a0 a1).bind fun v16=>some (bif (bif (!v10) then (!v13) else false) then (v16==(0:Int)) else false)) else (some (bif (bif (!v10) then (!v13) else false) then false else false))) else (some (bif (bif (!v10) then false else false) then false else false)):Option (Bool)).bind fun j9_4=>some j9_4
inductive X41 where
 |x0 (Xae:(List Int)) (X1y:(List (List Xg)))
def X11 (Xft:(List (List Xg))) (Xm:Xu) (Xmr:Bool) (Xgj:Int) (Xgi:(List Xw)) (Xgh:Bool) (Xgg:(List Xw)) (Xgf:Int) (Xge:Int) (Xgd:Int) (Xgc:Bool) (Xgb:Int):Nat->(List Int)->(List (List Xg))->Int->Option X41
 |0,_,_,_=>none
 |n+1,X5d,X0j,Xes=>bif (decide (Xes >= (0:Int))) then ((X1w Xm.Sources Xes).bind fun e108=>(X1w X5d (IntKind.i64.wrap ((IntKind.i64.wrap ((List.length Xft:Int) - 1)) - Xes))).bind fun e110=>(X1w Xft Xes).bind fun e112=>(X1u (List.length (X0j++[e112])) 24).bind fun u114=>X11 Xft Xm Xmr Xgj Xgi Xgh Xgg Xgf Xge Xgd Xgc Xgb n (List.set X5d (Int.toNat (IntKind.i64.wrap ((IntKind.i64.wrap ((List.length Xft:Int) - 1)) - Xes))) e108) (X0j++[e112]) (IntKind.i64.wrap (Xes - 1))) else (some (.x0 X5d X0j))
inductive X2r where
 |x0
 |x1
def X1a (Xb8:Xu) (y1_5:Bool) (Xsp:(List X3w)) (Xcs:(List X3w)):List X3w->Nat->Option X2r
 |[],k=>some (.x0)
 |x::xs,k=>(X1w Xcs (k:Int)).bind fun e167=>(bif Xb8.Join then (some (X3w.mk e167.Key e167.Span (V2.mk e167.Values.e1 e167.Values.e0))) else (some e167):Option (X3w)).bind fun Xoa=>bif (!(Xg5 x Xoa)) then (some (.x1)) else (X1a Xb8 y1_5 Xsp Xcs xs (k+1))
def X37 (a0:Xu) (a1:(List (List Xg))):Option (Bool) :=
 (Xar).bind fun v1=>(Xbp a0 a1).bind fun v3=>bif (bif (!v3) then true else (!v1)) then (some v1) else ((bif (List.isEmpty a0.Arg) then (bif (List.isEmpty a0.Where) then (bif (List.isEmpty a0.Sources) then (some a0.Sources) else ((X1u (List.length a0.Sources) 8).bind fun u31=>some a0.Sources)) else ((X1u (List.length a0.Where) 40).bind fun u33=>bif (List.isEmpty a0.Sources) then (some a0.Sources) else ((X1u (List.length a0.Sources) 8).bind fun u36=>some a0.Sources))) else ((X1u (List.length a0.Arg) 40).bind fun u38=>bif (List.isEmpty a0.Where) then (bif (List.isEmpty a0.Sources) then (some a0.Sources) else ((X1u (List.length a0.Sources) 8).bind fun u42=>some a0.Sources)) else ((X1u (List.length a0.Where) 40).bind fun u44=>bif (List.isEmpty a0.Sources) then (some a0.Sources) else ((X1u (List.length a0.Sources) 8).bind fun u47=>some a0.Sources))):Option ((List Int))).bind fun Xlw=>(X11  a1 a0 v1 a0.Agg a0.Arg a0.Join a0.Where a0.Window.Kind a0.Window.Size a0.Window.Every a0.ByKey a0.Late FU Xlw ([]:List (List Xg)) (IntKind.i64.wrap ((List.length a1:Int) - 1))).bind fun o135=>match o135 with|.x0 Xae X1y=>((X21 a0 a1).bind fun v137=>(X21 (Xu.mk a0.Agg a0.Arg Xae a0.Join a0.Where a0.Window a0.ByKey a0.Late) X1y).bind fun v139=>(bif (v137.2.2 != (0:Int)) then (some (bif (bif (bif (v137.2.2 != (0:Int)) then true else false) then true else false) then true else false)) else (bif (v139.2.2 != (0:Int)) then (some (bif (bif (bif (v137.2.2 != (0:Int)) then true else (v139.2.2 != (0:Int))) then true else false) then true else false)) else (bif ((List.length v137.2.1:Int) != (List.length v139.2.1:Int)) then (some (bif (bif (bif (v137.2.2 != (0:Int)) then true else (v139.2.2 != (0:Int))) then true else ((List.length v137.2.1:Int) != (List.length v139.2.1:Int))) then true else false)) else (some (bif (bif (bif (v137.2.2 != (0:Int)) then true else (v139.2.2 != (0:Int))) then true else ((List.length v137.2.1:Int) != (List.length v139.2.1:Int))) then true else ((List.length v137.1:Int) != (List.length v139.1:Int)))))):Option (Bool)).bind fun Xob=>bif Xob then (some false) else ((X4b (List.length v137.1)).bind fun u150=>(X1a  a0 v1 v137.1 v139.1 v137.1 0).bind fun o174=>match o174 with|.x0=>(some v1)|.x1=>(some false))))
end Go.D
