/- Printed by decomp.py: the functions. -/
import Derived.Test.YtfdfgobnpnoomaaGreatDTypesZ
set_option linter.all false

namespace Go.D
def Xbq (a0:(List X05)):Option (Bool) :=
 some (decide ((List.length a0:Int)>(70:Int)))
def Xbo (a0:Xu):Option (Bool) :=
 ((Xbq a0.Arg).bind fun v8=>bif v8 then (some (bif (bif v8 then true else false) then true else false)) else ((Xbq a0.Where).bind fun v11=>bif v11 then (some (bif (bif v8 then true else v11) then true else false)) else (some (bif (bif v8 then true else v11) then true else (decide ((List.length a0.Sources:Int)>(10:Int)))))):Option (Bool)).bind fun j7_2=>some j7_2
inductive X78 where
 |x0
 |x1
def X4t (X1s:(List (List Xk))):List (List Xk)->Nat->Option X78
 |[],k=>some (.x0)
 |x::xs,k=>bif (decide ((List.length x:Int)>(70:Int))) then (some (.x1)) else (X4t X1s xs (k+1))
def X9b (a0:Xu) (a1:(List (List Xk))):Option (Bool) :=
 ((Xbo a0).bind fun v5=>bif v5 then (some (bif v5 then true else false)) else (some (bif v5 then true else (decide ((List.length a1:Int)>(6:Int))))):Option (Bool)).bind fun X09a=>bif X09a then (some true) else ((X2o (List.length a1)).bind fun u10=>(X4t  a1 a1 0).bind fun o16=>match o16 with|.x0=>(some false)|.x1=>(some true))
def Xbu (a0:Int):Option (Int×Int) :=
 bif (bif (decide (a0 >= (1:Int))) then (decide (a0<=(4:Int))) else false) then (some (0,0)) else (bif (bif (a0==(5:Int)) then true else (a0==(6:Int))) then (some (1,0)) else (bif (bif (decide (a0 >= (7:Int))) then (decide (a0<=(19:Int))) else false) then (some (2,0)) else (some (0,2))))
inductive X6i where
 |x0 (Xe:(List Xo)) (X0s:(List Xo))
 |x1 (X0e:(List Xo))
def X2a (X6d:(List X05)):List X05->Nat->(List Xo)->(List Xo)->Option X6i
 |[],k,Xf,Xi=>some (.x0 Xf Xi)
 |x::xs,k,Xf,Xi=>(Xbu x.Kind).bind fun v318=>(bif (v318.2 != (0:Int)) then (some (bif (v318.2 != (0:Int)) then true else false)) else (some (bif (v318.2 != (0:Int)) then true else (decide (v318.1>(List.length Xi:Int))))):Option (Bool)).bind fun Xuk=>bif Xuk then (some (.x1 Xf)) else ((X71 Xi 0 (IntKind.i64.wrap ((List.length Xi:Int) - v318.1))).bind fun m331=>(X71 Xi (IntKind.i64.wrap ((List.length Xi:Int) - v318.1)) (List.length Xi:Int)).bind fun m333=>bif (List.isEmpty m333) then ((bif (x.Kind==(1:Int)) then (some (X05.mk x.Kind (if 0>x.N then 0 else x.N) 0 0 (if 400<(if 0>x.At then 0 else x.At) then 400 else (if 0>x.At then 0 else x.At)))) else (some (X05.mk x.Kind 0 0 0 (if 400<(if 0>x.At then 0 else x.At) then 400 else (if 0>x.At then 0 else x.At)))):Option (X05)).bind fun Xuj=>bif (!(X8r Xuj x)) then (some (.x1 Xf)) else ((X1l (List.length (m331++[(Xo.mk (k:Int) 1 1)])) 24).bind fun u341=>(X1l (List.length (Xf++[(Xo.mk (k:Int) 1 1)])) 24).bind fun u343=>X2a X6d xs (k+1) (Xf++[(Xo.mk (k:Int) 1 1)]) (m331++[(Xo.mk (k:Int) 1 1)]))) else (bif ((List.length m333:Int)==(1:Int)) then ((X1p m333 0).bind fun e346=>(bif (x.Kind==(1:Int)) then (some (X05.mk x.Kind (if 0>x.N then 0 else x.N) e346.at_ 0 (if 400<(if 0>x.At then 0 else x.At) then 400 else (if 0>x.At then 0 else x.At)))) else (some (X05.mk x.Kind 0 e346.at_ 0 (if 400<(if 0>x.At then 0 else x.At) then 400 else (if 0>x.At then 0 else x.At)))):Option (X05)).bind fun Xui=>bif (!(X8r Xui x)) then (some (.x1 Xf)) else ((X1l (List.length (m331++[(Xo.mk (k:Int) (IntKind.i64.wrap (1+e346.size)) (if (IntKind.i64.wrap (e346.depth+1))>1 then (IntKind.i64.wrap (e346.depth+1)) else 1))])) 24).bind fun u353=>(X1l (List.length (Xf++[(Xo.mk (k:Int) (IntKind.i64.wrap (1+e346.size)) (if (IntKind.i64.wrap (e346.depth+1))>1 then (IntKind.i64.wrap (e346.depth+1)) else 1))])) 24).bind fun u355=>X2a X6d xs (k+1) (Xf++[(Xo.mk (k:Int) (IntKind.i64.wrap (1+e346.size)) (if (IntKind.i64.wrap (e346.depth+1))>1 then (IntKind.i64.wrap (e346.depth+1)) else 1))]) (m331++[(Xo.mk (k:Int) (IntKind.i64.wrap (1+e346.size)) (if (IntKind.i64.wrap (e346.depth+1))>1 then (IntKind.i64.wrap (e346.depth+1)) else 1))]))) else (bif ((List.length m333:Int)==(2:Int)) then ((X1p m333 0).bind fun e358=>(X1p m333 1).bind fun e360=>(bif (x.Kind==(1:Int)) then (some (X05.mk x.Kind (if 0>x.N then 0 else x.N) e358.at_ e360.at_ (if 400<(if 0>x.At then 0 else x.At) then 400 else (if 0>x.At then 0 else x.At)))) else (some (X05.mk x.Kind 0 e358.at_ e360.at_ (if 400<(if 0>x.At then 0 else x.At) then 400 else (if 0>x.At then 0 else x.At)))):Option (X05)).bind fun Xuh=>bif (!(X8r Xuh x)) then (some (.x1 Xf)) else ((X1l (List.length (m331++[(Xo.mk (k:Int) (IntKind.i64.wrap ((IntKind.i64.wrap (1+e358.size))+e360.size)) (if (IntKind.i64.wrap (e360.depth+1))>(if (IntKind.i64.wrap (e358.depth+1))>1 then (IntKind.i64.wrap (e358.depth+1)) else 1) then (IntKind.i64.wrap (e360.depth+1)) else (if (IntKind.i64.wrap (e358.depth+1))>1 then (IntKind.i64.wrap (e358.depth+1)) else 1)))])) 24).bind fun u367=>(X1l (List.length (Xf++[(Xo.mk (k:Int) (IntKind.i64.wrap ((IntKind.i64.wrap (1+e358.size))+e360.size)) (if (IntKind.i64.wrap (e360.depth+1))>(if (IntKind.i64.wrap (e358.depth+1))>1 then (IntKind.i64.wrap (e358.depth+1)) else 1) then (IntKind.i64.wrap (e360.depth+1)) else (if (IntKind.i64.wrap (e358.depth+1))>1 then (IntKind.i64.wrap (e358.depth+1)) else 1)))])) 24).bind fun u369=>X2a X6d xs (k+1) (Xf++[(Xo.mk (k:Int) (IntKind.i64.wrap ((IntKind.i64.wrap (1+e358.size))+e360.size)) (if (IntKind.i64.wrap (e360.depth+1))>(if (IntKind.i64.wrap (e358.depth+1))>1 then (IntKind.i64.wrap (e358.depth+1)) else 1) then (IntKind.i64.wrap (e360.depth+1)) else (if (IntKind.i64.wrap (e358.depth+1))>1 then (IntKind.i64.wrap (e358.depth+1)) else 1)))]) (m331++[(Xo.mk (k:Int) (IntKind.i64.wrap ((IntKind.i64.wrap (1+e358.size))+e360.size)) (if (IntKind.i64.wrap (e360.depth+1))>(if (IntKind.i64.wrap (e358.depth+1))>1 then (IntKind.i64.wrap (e358.depth+1)) else 1) then (IntKind.i64.wrap (e360.depth+1)) else (if (IntKind.i64.wrap (e358.depth+1))>1 then (IntKind.i64.wrap (e358.depth+1)) else 1)))]))) else none)))
def Xge (a0:(List X05)):Option ((List Xo)×Bool) :=
 (X2o (List.length a0)).bind fun u1=>(X2a  a0 a0 0 ([]:List Xo) ([]:List Xo)).bind fun o475=>match o475 with|.x0 Xe X0s=>(some (Xe,((List.length X0s:Int)==(1:Int))))|.x1 X0e=>(some (X0e,false))
def Xbt (a0:(List X05)):Option ((List Xo)×Int) :=
 bif (decide ((List.length a0:Int)>(60:Int))) then (some (([]:List Xo),4)) else ((Xge a0).bind fun v2=>bif (!v2.2) then (some (([]:List Xo),8)) else ((X1p v2.1 (IntKind.i64.wrap ((List.length v2.1:Int) - 1))).bind fun e5=>bif (decide (e5.depth>(20:Int))) then (some (([]:List Xo),34)) else (some (v2.1,0))))
def X6j (a0:(List X05)):Option (Int) :=
 (Xbt a0).bind fun v1=>some v1.2
def X6t (a0:Int):Option (Bool) :=
 some (bif (decide (a0<(0:Int))) then true else (decide (a0 >= (4:Int))))
inductive X29 where
 |x0
 |x1 (X6z:Int)
def X0z (X00:(List Int)):List Int->Nat->Option X29
 |[],k=>some (.x0)
 |x::xs,k=>(X6t x).bind fun v10=>bif v10 then (some (.x1 (k:Int))) else (X0z X00 xs (k+1))
def X0y (a0:(List Int)):Option (Int) :=
 (X2o (List.length a0)).bind fun u1=>(X0z  a0 a0 0).bind fun o13=>match o13 with|.x0=>(some (-1))|.x1 X6z=>(some X6z)
def X09 (a0:(List Int)):Option (Bool) :=
 (X0y a0).bind fun v1=>some (decide (v1 >= (0:Int)))
def X3s (l:List Int):Option Int:=(X2o (List.length l)).bind fun _=>some ((Xa8 [] l).length:Int)
def X2l (a0:(List Int)) (a1:Bool):Option (Int) :=
 bif (decide ((List.length a0:Int)>(4:Int))) then (some 4) else ((bif ((List.length a0:Int)==(0:Int)) then (some (bif (bif ((List.length a0:Int)==(0:Int)) then true else false) then true else false)) else (bif a1 then (bif ((List.length a0:Int) != (2:Int)) then (some (bif (bif ((List.length a0:Int)==(0:Int)) then true else (bif a1 then ((List.length a0:Int) != (2:Int)) else false)) then true else false)) else ((X09 a0).bind fun v13=>some (bif (bif ((List.length a0:Int)==(0:Int)) then true else (bif a1 then ((List.length a0:Int) != (2:Int)) else false)) then true else v13))) else ((X09 a0).bind fun v15=>some (bif (bif ((List.length a0:Int)==(0:Int)) then true else (bif a1 then false else false)) then true else v15))):Option (Bool)).bind fun X092=>bif X092 then (some 8) else ((X3s a0).bind fun v19=>bif (decide (v19<(List.length a0:Int))) then (some 43) else (some 0)))
def X1f (a0:X0l):Option (Int) :=
 bif (bif (decide (a0.Size<(1:Int))) then true else (decide (a0.Size>(1073741824:Int)))) then (some 8) else (bif (a0.Kind==(2:Int)) then (bif (bif (bif (decide (a0.Every >= (1:Int))) then (decide (a0.Every<=a0.Size)) else false) then (decide (a0.Size<=(IntKind.i64.wrap (16*a0.Every)))) else false) then (some 0) else (some 8)) else (bif (a0.Kind==(1:Int)) then (bif (a0.Every==(0:Int)) then (some 0) else (some 8)) else (bif (a0.Kind==(3:Int)) then (bif (a0.Every==(0:Int)) then (some 0) else (some 8)) else (some 8))))
def X8v (a0:Xu):Option (Int) :=
 bif (bif (bif (decide (a0.Agg<(1:Int))) then true else (decide (a0.Agg>(4:Int)))) then true else (bif (a0.Late != (1:Int)) then (a0.Late != (2:Int)) else false)) then (some 8) else (bif (a0.Agg != (1:Int)) then ((X6j a0.Arg).bind fun v3=>bif (v3 != (0:Int)) then (some v3) else (bif (decide ((List.length a0.Where:Int)>(0:Int))) then ((X6j a0.Where).bind fun v7=>bif (v7 != (0:Int)) then (some v7) else ((X2l a0.Sources a0.Join).bind fun v10=>bif (v10 != (0:Int)) then (some v10) else (bif (bif a0.Join then (a0.Window.Kind != (1:Int)) else false) then (some 8) else ((X1f a0.Window).bind fun v14=>some v14)))) else ((X2l a0.Sources a0.Join).bind fun v16=>bif (v16 != (0:Int)) then (some v16) else (bif (bif a0.Join then (a0.Window.Kind != (1:Int)) else false) then (some 8) else ((X1f a0.Window).bind fun v20=>some v20))))) else (bif (decide ((List.length a0.Arg:Int)>(0:Int))) then (some 8) else (bif (decide ((List.length a0.Where:Int)>(0:Int))) then ((X6j a0.Where).bind fun v24=>bif (v24 != (0:Int)) then (some v24) else ((X2l a0.Sources a0.Join).bind fun v27=>bif (v27 != (0:Int)) then (some v27) else (bif (bif a0.Join then (a0.Window.Kind != (1:Int)) else false) then (some 8) else ((X1f a0.Window).bind fun v31=>some v31)))) else ((X2l a0.Sources a0.Join).bind fun v33=>bif (v33 != (0:Int)) then (some v33) else (bif (bif a0.Join then (a0.Window.Kind != (1:Int)) else false) then (some 8) else ((X1f a0.Window).bind fun v37=>some v37))))))
inductive X2f where
 |x0
 |x1
def X0o (Xi:(List Bool)) (X1t:(V2 Bool)) (X0h:(List Int)):List Int->Nat->Option X2f
 |[],k=>some (.x0)
 |x::xs,k=>(X1p Xi x).bind fun e3011=>bif (!(e3011==false)) then (some (.x1)) else (X0o Xi X1t X0h xs (k+1))
inductive X27 where
 |x0
 |x1
def X0p (Xi:(List Bool)) (X1a:(List Int)):List Int->Nat->Option X27
 |[],k=>some (.x0)
 |x::xs,k=>(X1p Xi x).bind fun e3127=>bif (!(e3127==true)) then (some (.x1)) else (X0p Xi X1a xs (k+1))
inductive X6k where
 |x0 (X0s:(List Bool))
 |x1 (X0e:(List Bool)) (Xhr:Int)
def X1w (X00:(List X05)):List X05->Nat->(List Bool)->Option X6k
 |[],k,Xi=>some (.x0 Xi)
 |x::xs,k,Xi=>bif (decide (x.Kind<=(4:Int))) then ((X1l (List.length (Xi++[false])) 1).bind fun u2525=>X1w X00 xs (k+1) (Xi++[false])) else (bif (x.Kind==(5:Int)) then (((X1p Xi x.A).bind fun e2546=>bif (!(e2546==false)) then (some (bif (!(bif true then false else false)) then (!(bif false then false else false)) else false)) else (some (bif (!(bif true then true else false)) then false else false)):Option (Bool)).bind fun Xpp=>bif Xpp then (some (.x1 ([]:List Bool) (k:Int))) else ((X1l (List.length (Xi++[false])) 1).bind fun u2551=>X1w X00 xs (k+1) (Xi++[false]))) else (bif (x.Kind==(6:Int)) then (((X1p Xi x.A).bind fun e2571=>bif (!(e2571==true)) then (some false) else (some true):Option (Bool)).bind fun Xpo=>bif (bif (!(bif false then false else false)) then (!(bif true then Xpo else false)) else false) then (some (.x1 ([]:List Bool) (k:Int))) else ((X1l (List.length (Xi++[true])) 1).bind fun u2576=>X1w X00 xs (k+1) (Xi++[true]))) else ((bif (decide (x.Kind<=(11:Int))) then (some ((V2.mk true false),false)) else (bif (decide (x.Kind<=(15:Int))) then (some ((V2.mk true false),true)) else (bif (decide (x.Kind<=(17:Int))) then (some ((V2.mk true true),true)) else (some ((V2.mk false true),true)))):Option ((V2 Bool)×Bool)).bind fun w2581=>(bif w2581.1.e0 then (((X2o (List.length [x.A,x.B])).bind fun u2980=>(X0o  Xi w2581.1 [x.A,x.B] [x.A,x.B] 0).bind fun o3016=>match o3016 with|.x0=>(some true)|.x1=>(some false):Option (Bool)).bind fun Xea=>bif (!(bif w2581.1.e0 then Xea else false)) then (bif w2581.1.e1 then (((X2o (List.length [x.A,x.B])).bind fun u3096=>(X0p  Xi [x.A,x.B] [x.A,x.B] 0).bind fun o3132=>match o3132 with|.x0=>(some true)|.x1=>(some false):Option (Bool)).bind fun Xpm=>some (bif (!(bif w2581.1.e0 then Xea else false)) then (!(bif w2581.1.e1 then Xpm else false)) else false)) else (some (bif (!(bif w2581.1.e0 then Xea else false)) then (!(bif w2581.1.e1 then false else false)) else false))) else (some (bif (!(bif w2581.1.e0 then Xea else false)) then false else false))) else (bif (!(bif w2581.1.e0 then false else false)) then (bif w2581.1.e1 then (((X2o (List.length [x.A,x.B])).bind fun u3192=>(X0p  Xi [x.A,x.B] [x.A,x.B] 0).bind fun o3218=>match o3218 with|.x0=>(some true)|.x1=>(some false):Option (Bool)).bind fun Xpl=>some (bif (!(bif w2581.1.e0 then false else false)) then (!(bif w2581.1.e1 then Xpl else false)) else false)) else (some (bif (!(bif w2581.1.e0 then false else false)) then (!(bif w2581.1.e1 then false else false)) else false))) else (some (bif (!(bif w2581.1.e0 then false else false)) then false else false))):Option (Bool)).bind fun Xpn=>bif Xpn then (some (.x1 ([]:List Bool) (k:Int))) else ((X1l (List.length (Xi++[w2581.2])) 1).bind fun u3223=>X1w X00 xs (k+1) (Xi++[w2581.2])))))
def Xgh (a0:(List X05)):Option ((List Bool)×Int) :=
 (X2o (List.length a0)).bind fun u1=>(X1w  a0 a0 0 ([]:List Bool)).bind fun o3784=>match o3784 with|.x0 X0s=>(some (X0s,(List.length a0:Int)))|.x1 X0e Xhr=>(some (X0e,Xhr))
def Xgi (a0:(List X05)):Option (Bool×Int×Int) :=
 (X6j a0).bind fun v1=>bif (v1 != (0:Int)) then (some (false,0,v1)) else ((Xgh a0).bind fun v4=>bif (decide (v4.2<(List.length a0:Int))) then (some (false,v4.2,42)) else ((X1p v4.1 (IntKind.i64.wrap (v4.2 - 1))).bind fun e7=>some (e7,(IntKind.i64.wrap (v4.2 - 1)),0)))
def Xay (a0:(List X05)) (a1:Bool):Option (Int×Int) :=
 (Xgi a0).bind fun v1=>(bif (bif (v1.2.2==(0:Int)) then (!(v1.1==a1)) else false) then (some 42) else (some v1.2.2):Option (Int)).bind fun j4_8=>some (v1.2.1,j4_8)
def Xby (a0:(List X05)):Option (Int×Int) :=
 (Xay a0 true).bind fun v1=>some (v1.1,v1.2)
def Xci (a0:(List X05)):Option (Int×Int) :=
 (Xay a0 false).bind fun v1=>some (v1.1,v1.2)
def Xa9 (a0:Xu):Option (Int×Int) :=
 (X8v a0).bind fun v1=>bif (v1 != (0:Int)) then (some (0,v1)) else ((bif ((List.length a0.Arg:Int)==(0:Int)) then (bif ((List.length a0.Where:Int)==(0:Int)) then (some (0,0)) else ((Xby a0.Where).bind fun v25=>bif (v25.2 != (0:Int)) then ((X1p a0.Where v25.1).bind fun e28=>some (e28.At,v25.2)) else (some (0,0)))) else ((Xci a0.Arg).bind fun v30=>bif (v30.2 != (0:Int)) then ((X1p a0.Arg v30.1).bind fun e33=>some (e33.At,v30.2)) else (bif ((List.length a0.Where:Int)==(0:Int)) then (some (0,0)) else ((Xby a0.Where).bind fun v36=>bif (v36.2 != (0:Int)) then ((X1p a0.Where v36.1).bind fun e39=>some (e39.At,v36.2)) else (some (0,0))))):Option (Int×Int)).bind fun w22=>some (w22.1,w22.2))
def Xdl (a0:Int):Option (Bool) :=
 some (bif (decide (a0 >= ((-1099511627776):Int))) then (decide (a0<=(1099511627776:Int))) else false)
inductive X8l where
 |x0
 |x1
def X5l (X5z:(List Xk)):List Xk->Nat->Option X8l
 |[],k=>some (.x0)
 |x::xs,k=>(bif (X4b x.Record (X7.mk 0 0 0)) then ((Xdl x.Time).bind fun v49=>bif v49 then (some (bif (X4b x.Record (X7.mk 0 0 0)) then (bif v49 then true else false) else false)) else (some (bif (X4b x.Record (X7.mk 0 0 0)) then (bif v49 then true else (x.Time==(9223372036854775807:Int))) else false))) else (some (bif (X4b x.Record (X7.mk 0 0 0)) then false else false)):Option (Bool)).bind fun X05t=>(bif (x.Time==(0:Int)) then ((Xdl x.Record.Time).bind fun v58=>some (bif (x.Time==(0:Int)) then v58 else false)) else (some (bif (x.Time==(0:Int)) then false else false)):Option (Bool)).bind fun X098=>bif (bif (bif x.Mark then (!X05t) else false) then true else (bif (!x.Mark) then (!X098) else false)) then (some (.x1)) else (X5l X5z xs (k+1))
def X9k (a0:(List Xk)):Option (Int) :=
 bif (decide ((List.length a0:Int)>(60:Int))) then (some 4) else ((X2o (List.length a0)).bind fun u2=>(X5l  a0 a0 0).bind fun o62=>match o62 with|.x0=>(some 0)|.x1=>(some 8))
inductive X5k where
 |x0
 |x1 (X53:Int)
def X2u (Xht:(List (List Xk))):List (List Xk)->Nat->Option X5k
 |[],k=>some (.x0)
 |x::xs,k=>(X9k x).bind fun v10=>bif (v10 != (0:Int)) then (some (.x1 v10)) else (X2u Xht xs (k+1))
def X5y (a0:(List (List Xk))):Option (Int) :=
 (X2o (List.length a0)).bind fun u1=>(X2u  a0 a0 0).bind fun o13=>match o13 with|.x0=>(some 0)|.x1 X53=>(some X53)
inductive Xbx where
 |x0 (Xe:(List X7)) (X0s:(List X7))
def X4n (Xf6:(List Xk)):List Xk->Nat->(List X7)->(List X7)->Int->Option Xbx
 |[],k,Xf,Xi,X1t=>some (.x0 Xf Xi)
 |x::xs,k,Xf,Xi,X1t=>(bif x.Mark then (some (if x.Time>X1t then x.Time else X1t)) else (some X1t):Option (Int)).bind fun Xpv=>(bif x.Mark then (some (Xf,Xi)) else (bif (decide (x.Record.Time<X1t)) then ((X1l (List.length (Xi++[x.Record])) 24).bind fun u200=>some (Xf,(Xi++[x.Record]))) else ((X1l (List.length (Xf++[x.Record])) 24).bind fun u202=>some ((Xf++[x.Record]),Xi))):Option ((List X7)×(List X7))).bind fun w197=>X4n Xf6 xs (k+1) w197.1 w197.2 Xpv
def Xdm (a0:(List Xk)):Option ((List X7)×(List X7)×Int) :=
 (X9k a0).bind fun v1=>bif (v1 != (0:Int)) then (some (([]:List X7),([]:List X7),v1)) else ((X2o (List.length a0)).bind fun u4=>(X4n  a0 a0 0 ([]:List X7) ([]:List X7) (-9223372036854775808)).bind fun o271=>match o271 with|.x0 Xe X0s=>(some (Xe,X0s,0)))
def Xc0 (a0:(List X05)):Option (Int) :=
 (Xgi a0).bind fun v1=>some v1.2.2
def X4e (a0:Bool):Option (Int) :=
 bif a0 then (some 1) else (some 0)
def Xfn (a0:Int) (a1:Int) (a2:Int):Option (Int×Int) :=
 bif (a0==(5:Int)) then (some ((IntKind.i64.wrap (0 - a1)),0)) else (bif (a0==(6:Int)) then ((X4e (a1==(0:Int))).bind fun v3=>some (v3,0)) else (bif (a0==(7:Int)) then (some ((IntKind.i64.wrap (a1*a2)),0)) else (bif (a0==(8:Int)) then (some ((IntKind.i64.wrap (a1+a2)),0)) else (bif (a0==(9:Int)) then (some ((IntKind.i64.wrap (a1 - a2)),0)) else (bif (a0==(10:Int)) then ((shOk (bits .and IntKind.i64 a2 63)).bind fun u9=>some ((IntKind.i64.wrap (a1*2 ^ (min (Int.toNat (bits .and IntKind.i64 a2 63)) IntKind.i64.bits))),0)) else (bif (a0==(11:Int)) then ((shOk (bits .and IntKind.i64 a2 63)).bind fun u12=>some ((Int.fdiv a1 (2 ^ (min (Int.toNat (bits .and IntKind.i64 a2 63)) IntKind.i64.bits))),0)) else (bif (a0==(12:Int)) then ((X4e (decide (a1<a2))).bind fun v15=>some (v15,0)) else (bif (a0==(13:Int)) then ((X4e (decide (a1<=a2))).bind fun v18=>some (v18,0)) else (bif (a0==(14:Int)) then ((X4e (decide (a1>a2))).bind fun v21=>some (v21,0)) else (bif (a0==(15:Int)) then ((X4e (decide (a1 >= a2))).bind fun v24=>some (v24,0)) else (bif (a0==(16:Int)) then ((X4e (a1==a2)).bind fun v27=>some (v27,0)) else (bif (a0==(17:Int)) then ((X4e (a1 != a2)).bind fun v30=>some (v30,0)) else (bif (a0==(18:Int)) then ((X4e (bif (a1 != (0:Int)) then (a2 != (0:Int)) else false)).bind fun v33=>some (v33,0)) else (bif (a0==(19:Int)) then ((X4e ((bits .or IntKind.i64 a1 a2) != (0:Int))).bind fun v36=>some (v36,0)) else (some (0,2))))))))))))))))
inductive X9y where
 |x0 (Xe:(List Int))
 |x1 (X0e:(List Int)) (Xd4:Int)
def X6m (Xf:(V5 Int)) (X96:(List X05)):List X05->Nat->(List Int)->Option X9y
 |[],k,Xi=>some (.x0 Xi)
 |x::xs,k,Xi=>bif (x.Kind==(1:Int)) then ((X1p Xi (k:Int)).bind fun e151=>X6m Xf X96 xs (k+1) (List.set Xi (Int.toNat (k:Int)) x.N)) else (bif (decide (x.Kind<=(4:Int))) then ((bif (x.Kind==(0:Int)) then ((X1p Xi (k:Int)).bind fun e168=>some (List.set Xi (Int.toNat (k:Int)) Xf.e0)) else (bif (x.Kind==(2:Int)) then ((X1p Xi (k:Int)).bind fun e171=>some (List.set Xi (Int.toNat (k:Int)) Xf.e2)) else (bif (x.Kind==(3:Int)) then ((X1p Xi (k:Int)).bind fun e174=>some (List.set Xi (Int.toNat (k:Int)) Xf.e3)) else (bif (x.Kind==(4:Int)) then ((X1p Xi (k:Int)).bind fun e177=>some (List.set Xi (Int.toNat (k:Int)) Xf.e4)) else none))):Option ((List Int))).bind fun Xmg=>X6m Xf X96 xs (k+1) Xmg) else ((X1p Xi x.A).bind fun e180=>(X1p Xi x.B).bind fun e182=>(Xfn x.Kind e180 e182).bind fun v184=>bif (v184.2 != (0:Int)) then (some (.x1 ([]:List Int) v184.2)) else ((X1p Xi (k:Int)).bind fun e187=>X6m Xf X96 xs (k+1) (List.set Xi (Int.toNat (k:Int)) v184.1))))
inductive X7h where
 |x0 (Xe:(List Int))
 |x1 (X0e:(List Int)) (Xd4:Int)
def X1k (Xf:(V5 Int)) (X96:(List X05)):List X05->Nat->(List Int)->Option X7h
 |[],k,Xi=>some (.x0 Xi)
 |x::xs,k,Xi=>bif (x.Kind==(1:Int)) then ((X1p Xi (k:Int)).bind fun e304=>X1k Xf X96 xs (k+1) (List.set Xi (Int.toNat (k:Int)) x.N)) else (bif (decide (x.Kind<=(4:Int))) then ((bif (x.Kind==(0:Int)) then ((X1p Xi (k:Int)).bind fun e321=>some (List.set Xi (Int.toNat (k:Int)) Xf.e0)) else (bif (x.Kind==(2:Int)) then ((X1p Xi (k:Int)).bind fun e324=>some (List.set Xi (Int.toNat (k:Int)) Xf.e2)) else (bif (x.Kind==(3:Int)) then ((X1p Xi (k:Int)).bind fun e327=>some (List.set Xi (Int.toNat (k:Int)) Xf.e3)) else (bif (x.Kind==(4:Int)) then ((X1p Xi (k:Int)).bind fun e330=>some (List.set Xi (Int.toNat (k:Int)) Xf.e4)) else none))):Option ((List Int))).bind fun Xpk=>X1k Xf X96 xs (k+1) Xpk) else ((X1p Xi x.A).bind fun e333=>(X1p Xi x.B).bind fun e335=>(Xfn x.Kind e333 e335).bind fun v337=>bif (v337.2 != (0:Int)) then (some (.x1 ([]:List Int) v337.2)) else ((X1p Xi (k:Int)).bind fun e340=>X1k Xf X96 xs (k+1) (List.set Xi (Int.toNat (k:Int)) v337.1))))
def Xg0 (a0:(List X05)) (a1:X7):Option ((List Int)×Int) :=
 (Xc0 a0).bind fun v1=>bif (v1 != (0:Int)) then (some (([]:List Int),v1)) else ((mkOk (List.length a0:Int) (List.length a0:Int) 8).bind fun u4=>bif ((List.length a0:Int)==(0:Int)) then ((X2o (List.length a0)).bind fun u7=>(X6m  (V5.mk 0 0 a1.Key a1.Time a1.Value) a0 a0 0 (List.replicate (Int.toNat (List.length a0:Int)) 0)).bind fun o220=>match o220 with|.x0 Xe=>(some (Xe,0))|.x1 X0e Xd4=>(some (X0e,Xd4))) else ((X2o (List.length a0)).bind fun u222=>(X1k  (V5.mk 0 0 a1.Key a1.Time a1.Value) a0 a0 0 (List.replicate (Int.toNat (List.length a0:Int)) 0)).bind fun o342=>match o342 with|.x0 Xe=>(some (Xe,0))|.x1 X0e Xd4=>(some (X0e,Xd4))))
def X67 (a0:(List X05)) (a1:X7):Option (Int×Int) :=
 (Xg0 a0 a1).bind fun v1=>bif (v1.2 != (0:Int)) then (some (0,v1.2)) else ((X1p v1.1 (IntKind.i64.wrap ((List.length v1.1:Int) - 1))).bind fun e4=>some (e4,0))
def X73 (a0:Xu) (a1:X7):Option (X7×Bool) :=
 bif (decide ((List.length a0.Where:Int)>(0:Int))) then ((X67 a0.Where a1).bind fun v2=>bif (bif (v2.2 != (0:Int)) then true else (v2.1==(0:Int))) then (some ((X7.mk 0 0 0),false)) else ((bif a0.ByKey then (some (X7.mk a1.Key a1.Time 0)) else (some (X7.mk 0 a1.Time 0)):Option (X7)).bind fun Xpj=>(bif (a0.Agg != (1:Int)) then ((X67 a0.Arg a1).bind fun v14=>some (X7.mk Xpj.Key Xpj.Time v14.1)) else (some Xpj):Option (X7)).bind fun Xs3=>some (Xs3,true))) else ((bif a0.ByKey then (some (X7.mk a1.Key a1.Time 0)) else (some (X7.mk 0 a1.Time 0)):Option (X7)).bind fun Xs2=>(bif (a0.Agg != (1:Int)) then ((X67 a0.Arg a1).bind fun v26=>some (X7.mk Xs2.Key Xs2.Time v26.1)) else (some Xs2):Option (X7)).bind fun X01u=>some (X01u,true))
def X40 (a0:X0b):Option (Int) :=
 (bif (a0.Count==(0:Int)) then (some (Xyx a0 (X0b.mk 0 0 0 0))) else (bif (a0.Count==(1:Int)) then (some (bif (a0.Sum==a0.Min) then (a0.Sum==a0.Max) else false)) else (bif (bif (decide (a0.Count>(1:Int))) then (decide (a0.Count<=(1073741824:Int))) else false) then (some (decide (a0.Min<=a0.Max))) else (some false))):Option (Bool)).bind fun j4_3=>bif (!j4_3) then (some 8) else (some 0)
def Xb3 (a0:X8):Option (Bool) :=
 bif (bif (bif (decide (a0.Span.Start<((-1100585369600):Int))) then true else (decide (a0.Span.End<=a0.Span.Start))) then true else (decide (a0.Span.End>(1100585369600:Int)))) then (some false) else (((X40 a0.Values.e0).bind fun v9=>bif (v9==(0:Int)) then ((X40 a0.Values.e1).bind fun v12=>bif (v12==(0:Int)) then (some (bif (bif (v9==(0:Int)) then (v12==(0:Int)) else false) then (decide ((IntKind.i64.wrap (a0.Values.e0.Count+a0.Values.e1.Count))>(0:Int))) else false)) else (some (bif (bif (v9==(0:Int)) then (v12==(0:Int)) else false) then false else false))) else (some (bif (bif (v9==(0:Int)) then false else false) then false else false)):Option (Bool)).bind fun j8_2=>some j8_2)
def X3f (a0:Int):Option (Bool) :=
 some (a0 != a0)
def X0j (a0:Int) (a1:Int):Option (Int) :=
 (X3f a0).bind fun v1=>(X3f a1).bind fun v3=>bif v1 then (bif v3 then (some 0) else (some (-1))) else (bif v3 then (some 1) else (bif (decide (a0<a1)) then (some (-1)) else (bif (decide (a0>a1)) then (some 1) else (some 0))))
inductive X8t where
 |x0
 |x1 (X53:Int)
def X3u (Xht:(List Int)):List Int->Nat->Option X8t
 |[],k=>some (.x0)
 |x::xs,k=>bif (x != (0:Int)) then (some (.x1 x)) else (X3u Xht xs (k+1))
def X81 (a0:(List Int)):Option (Int) :=
 (X2o (List.length a0)).bind fun u1=>(X3u  a0 a0 0).bind fun o7=>match o7 with|.x0=>(some 0)|.x1 X53=>(some X53)
def X7j (a0:X8) (a1:X8):Option (Int) :=
 (X0j a0.Span.End a1.Span.End).bind fun v1=>(X0j a0.Span.Start a1.Span.Start).bind fun v3=>(X0j a0.Key a1.Key).bind fun v5=>(X81 [v1,v3,v5]).bind fun v7=>some v7
inductive X76 where
 |x0
 |x1
def X4p (X00:(List X8)):List X8->Nat->Option X76
 |[],k=>some (.x0)
 |x::xs,k=>((Xb3 x).bind fun v52=>bif (!v52) then (some true) else (bif (decide ((k:Int)>(0:Int))) then ((X1p X00 (IntKind.i64.wrap ((k:Int) - 1))).bind fun e56=>(X7j e56 x).bind fun v58=>some (bif (!v52) then true else (bif (decide ((k:Int)>(0:Int))) then (decide (v58 >= (0:Int))) else false))) else (some (bif (!v52) then true else false))):Option (Bool)).bind fun X01p=>bif X01p then (some (.x1)) else (X4p X00 xs (k+1))
def Xb4 (a0:(List X8)):Option (Int) :=
 bif (decide ((List.length a0:Int)>(4000:Int))) then (some 4) else ((X2o (List.length a0)).bind fun u2=>(X4p  a0 a0 0).bind fun o62=>match o62 with|.x0=>(some 0)|.x1=>(some 8))
def Xc1 (a0:Int):Option (X0b) :=
 some (X0b.mk 1 a0 a0 a0)
def X4h (a0:Int) (a1:Int):Option (Int) :=
 bif (bif (decide (a1<(1:Int))) then true else (decide (a1>(1073741824:Int)))) then (some 2) else (bif (bif (decide (a0<((-1099511627776):Int))) then true else (decide (a0>(1099511627776:Int)))) then (some 16) else (some 0))
def Xju:List Int:=[0,1,2,2,3,3,3,3,4,4,4,4,4,4,4,4,5,5,5,5,5,5,5,5,5,5,5,5,5,5,5,5,6,6,6,6,6,6,6,6,6,6,6,6,6,6,6,6,6,6,6,6,6,6,6,6,6,6,6,6,6,6,6,6,7,7,7,7,7,7,7,7,7,7,7,7,7,7,7,7,7,7,7,7,7,7,7,7,7,7,7,7,7,7,7,7,7,7,7,7,7,7,7,7,7,7,7,7,7,7,7,7,7,7,7,7,7,7,7,7,7,7,7,7,7,7,7,7,8,8,8,8,8,8,8,8,8,8,8,8,8,8,8,8,8,8,8,8,8,8,8,8,8,8,8,8,8,8,8,8,8,8,8,8,8,8,8,8,8,8,8,8,8,8,8,8,8,8,8,8,8,8,8,8,8,8,8,8,8,8,8,8,8,8,8,8,8,8,8,8,8,8,8,8,8,8,8,8,8,8,8,8,8,8,8,8,8,8,8,8,8,8,8,8,8,8,8,8,8,8,8,8,8,8,8,8,8,8,8,8,8,8,8,8,8,8,8,8,8,8,8,8,8,8,8,8]
def Xbw (a0:Int):Option (Int) :=
 (bif (decide (a0 >= (4294967296:Int))) then (some ((Int.fdiv a0 (2 ^ (min (Int.toNat 32) IntKind.u64.bits))),32)) else (some (a0,0)):Option (Int×Int)).bind fun w2=>(bif (decide (w2.1 >= (65536:Int))) then (some ((Int.fdiv w2.1 (2 ^ (min (Int.toNat 16) IntKind.u64.bits))),(IntKind.i64.wrap (w2.2+16)))) else (some (w2.1,w2.2)):Option (Int×Int)).bind fun w6=>(bif (decide (w6.1 >= (256:Int))) then (some ((Int.fdiv w6.1 (2 ^ (min (Int.toNat 8) IntKind.u64.bits))),(IntKind.i64.wrap (w6.2+8)))) else (some (w6.1,w6.2)):Option (Int×Int)).bind fun w10=>(X1p Xju (IntKind.u8.wrap w10.1)).bind fun b13=>some (IntKind.i64.wrap (w10.2+(IntKind.i64.wrap b13)))
def Xan (a0:Int):Option (Int) :=
 (Xbw a0).bind fun v1=>some v1
inductive X18 where
 |x0 (Xgx:Int)
def Xz (X00:(List X8)) (Xf:X8) (Xgq:Int):Nat->Int->Int->Option X18
 |0,_,_=>none
 |n+1,X84,X5z=>bif (decide (X84<X5z)) then ((X1p X00 (IntKind.i64.wrap (Int.fdiv (IntKind.u64.wrap (IntKind.i64.wrap (X84+X5z))) (2 ^ (min (Int.toNat 1) IntKind.u64.bits))))).bind fun e15=>(X7j e15 Xf).bind fun v17=>bif (decide (v17<(0:Int))) then (Xz X00 Xf Xgq n (IntKind.i64.wrap ((IntKind.i64.wrap (Int.fdiv (IntKind.u64.wrap (IntKind.i64.wrap (X84+X5z))) (2 ^ (min (Int.toNat 1) IntKind.u64.bits))))+1)) X5z) else (Xz X00 Xf Xgq n X84 (IntKind.i64.wrap (Int.fdiv (IntKind.u64.wrap (IntKind.i64.wrap (X84+X5z))) (2 ^ (min (Int.toNat 1) IntKind.u64.bits)))))) else (some (.x0 X84))
def Xp (a0:(List X8)) (a1:X8):Option (Int×Bool) :=
 (Xz  a0 a1 (List.length a0:Int) FU 0 (List.length a0:Int)).bind fun o20=>match o20 with|.x0 Xgx=>((bif (decide (Xgx<(List.length a0:Int))) then ((X1p a0 Xgx).bind fun e29=>(X7j e29 a1).bind fun v31=>some (bif (decide (Xgx<(List.length a0:Int))) then (v31==(0:Int)) else false)) else (some false):Option (Bool)).bind fun X09l=>some (Xgx,X09l))
def X2m (a0:X0b) (a1:X0b):Option (X0b×Int) :=
 ((X40 a0).bind fun v7=>bif (v7 != (0:Int)) then (some (bif (v7 != (0:Int)) then true else false)) else ((X40 a1).bind fun v10=>some (bif (v7 != (0:Int)) then true else (v10 != (0:Int)))):Option (Bool)).bind fun X097=>bif X097 then (some ((X0b.mk 0 0 0 0),8)) else (bif (decide ((IntKind.i64.wrap (a0.Count+a1.Count))>(1073741824:Int))) then (some ((X0b.mk 0 0 0 0),4)) else (bif (a0.Count==(0:Int)) then (some (a1,0)) else (bif (a1.Count==(0:Int)) then (some (a0,0)) else (some ((X0b.mk (IntKind.i64.wrap (a0.Count+a1.Count)) (IntKind.i64.wrap (a0.Sum+a1.Sum)) (if a1.Min<a0.Min then a1.Min else a0.Min) (if a1.Max>a0.Max then a1.Max else a0.Max)),0)))))
def Xc7 (a0:Int) (a1:Int):Option (Int) :=
 bif (bif (decide (a1<(1:Int))) then true else (decide (a1>(1073741824:Int)))) then (some 2) else (bif (bif (decide (a0<((-1099511627776):Int))) then true else (decide (a0>(1099511627776:Int)))) then (some 16) else (some 0))
def X88 (a0:Int) (a1:Int):Option (Int×Int) :=
 (Xc7 a0 a1).bind fun v1=>bif (v1 != (0:Int)) then (some (0,v1)) else ((Xsp a1).bind fun u4=>(bif (decide ((Int.tmod a0 a1)<(0:Int))) then (some (IntKind.i64.wrap ((IntKind.i64.wrap (Int.tdiv a0 a1)) - 1))) else (some (IntKind.i64.wrap (Int.tdiv a0 a1))):Option (Int)).bind fun j7_7=>some (j7_7,0))
def Xd7 (a0:Int) (a1:Int):Option (Xr×Int) :=
 (X88 a0 a1).bind fun v1=>bif (v1.2 != (0:Int)) then (some ((Xr.mk 0 0),v1.2)) else (some ((Xr.mk (IntKind.i64.wrap (v1.1*a1)) (IntKind.i64.wrap ((IntKind.i64.wrap (v1.1+1))*a1))),0))
inductive Xct where
 |x0 (Xe:(List Xr))
def X6e (X00:Int) (X1s:Int) (X9z:Int):Nat->(List Xr)->Int->Option Xct
 |0,_,_=>none
 |n+1,Xf,X85=>bif (decide ((IntKind.i64.wrap (X85+X1s))>X00)) then ((X1l (List.length (Xf++[(Xr.mk X85 (IntKind.i64.wrap (X85+X1s)))])) 16).bind fun u19=>X6e X00 X1s X9z n (Xf++[(Xr.mk X85 (IntKind.i64.wrap (X85+X1s)))]) (IntKind.i64.wrap (X85 - X9z))) else (some (.x0 Xf))
inductive X99 where
 |x0 (X0q:(List Xr)) (X20:(List Xr))
def X45 (X1a:(List Xr)):Nat->(List Xr)->Int->Option X99
 |0,_,_=>none
 |n+1,X0h,Xgz=>bif (decide (Xgz >= (0:Int))) then ((X1p X1a Xgz).bind fun e68=>(X1l (List.length (X0h++[e68])) 16).bind fun u72=>X45 X1a n (X0h++[e68]) (IntKind.i64.wrap (Xgz - 1))) else (some (.x0 X0h X1a))
def Xfb (a0:Int) (a1:Int) (a2:Int):Option ((List Xr)×Int) :=
 bif (bif (bif (bif (decide ((if a2<a1 then a2 else a1)<(1:Int))) then true else (decide (a1>(1073741824:Int)))) then true else (decide (a2>a1))) then true else (decide (a1>(IntKind.i64.wrap (16*a2))))) then (some (([]:List Xr),2)) else ((Xd7 a0 a2).bind fun v2=>bif (v2.2 != (0:Int)) then (some (([]:List Xr),v2.2)) else ((X6e  a0 a1 a2 FU ([]:List Xr) v2.1.Start).bind fun o24=>match o24 with|.x0 Xe=>((X45  Xe FU ([]:List Xr) (IntKind.i64.wrap ((List.length Xe:Int) - 1))).bind fun o87=>match o87 with|.x0 X0q X20=>(some (X0q,0)))))
def Xhy (a0:X0l) (a1:Int):Option ((List Xr)×Int) :=
 (X1f a0).bind fun v1=>bif (v1 != (0:Int)) then (some (([]:List Xr),v1)) else (bif (a0.Kind==(1:Int)) then ((Xd7 a1 a0.Size).bind fun v5=>bif (v5.2 != (0:Int)) then (some (([]:List Xr),v5.2)) else (some ([v5.1],0))) else (bif (a0.Kind==(2:Int)) then ((Xfb a1 a0.Size a0.Every).bind fun v9=>some (v9.1,v9.2)) else (some (([]:List Xr),2))))
inductive X0f where
 |x0
 |x1 (X6z:Int)
def Xq (X0h:(List X8)) (X1a:X8):List X8->Nat->Option X0f
 |[],k=>some (.x0)
 |x::xs,k=>bif (bif (bif (x.Key==X1a.Key) then (decide (x.Span.Start<X1a.Span.End)) else false) then (decide (X1a.Span.Start<x.Span.End)) else false) then (some (.x1 (k:Int))) else (Xq X0h X1a xs (k+1))
inductive X4q where
 |x0 (X0q:(List X8)) (Xgy:Int)
def X1u:Nat->(List X8)->X8->Option X4q
 |0,_,_=>none
 |n+1,X0h,X1a=>((X2o (List.length X0h)).bind fun u1330=>(Xq  X0h X1a X0h 0).bind fun o1342=>match o1342 with|.x0=>(some (-1))|.x1 X6z=>(some X6z):Option (Int)).bind fun Xgj=>bif (decide (Xgj<(0:Int))) then (((Xp X0h X1a).bind fun v1393=>bif (!v1393.2) then (bif (v1393.1==(List.length X0h:Int)) then (((X71 X0h v1393.1 (List.length X0h:Int)).bind fun m1405=>bif (List.isEmpty m1405) then ((X1l (List.length (X0h++[X1a])) 88).bind fun u1408=>some ()) else ((X1l (List.length (X0h++[X1a])) 88).bind fun u1410=>some ()):Option (Unit)).bind fun _=>some ((X0h++[X1a]),0)) else ((Xy7 X0h v1393.1 X1a 88).bind fun m1413=>some (m1413,0))) else ((X1p X0h v1393.1).bind fun e1415=>((X2m e1415.Values.e0 X1a.Values.e0).bind fun v1430=>bif (v1430.2 != (0:Int)) then (some (X0h,v1430.2)) else ((X2m (((X8.mk e1415.Key e1415.Span (V2.mk v1430.1 e1415.Values.e1)).Values).e1) X1a.Values.e1).bind fun v1435=>bif (v1435.2 != (0:Int)) then (some ((List.set X0h (Int.toNat v1393.1) (X8.mk e1415.Key e1415.Span (V2.mk v1430.1 e1415.Values.e1))),v1435.2)) else (some ((List.set (List.set X0h (Int.toNat v1393.1) (X8.mk e1415.Key e1415.Span (V2.mk v1430.1 e1415.Values.e1))) (Int.toNat v1393.1) (X8.mk ((X8.mk e1415.Key e1415.Span (V2.mk v1430.1 e1415.Values.e1)).Key) ((X8.mk e1415.Key e1415.Span (V2.mk v1430.1 e1415.Values.e1)).Span) (V2.mk (((X8.mk e1415.Key e1415.Span (V2.mk v1430.1 e1415.Values.e1)).Values).e0) v1435.1))),0))):Option ((List X8)×Int)).bind fun w1427=>some (w1427.1,w1427.2)):Option ((List X8)×Int)).bind fun w1392=>some (.x0 w1392.1 w1392.2)) else ((X1p X0h Xgj).bind fun e1440=>((X2m X1a.Values.e0 e1440.Values.e0).bind fun v1455=>bif (v1455.2 != (0:Int)) then (some (X1a,v1455.2)) else ((X2m X1a.Values.e1 e1440.Values.e1).bind fun v1460=>bif (v1460.2 != (0:Int)) then (some ((X8.mk X1a.Key X1a.Span (V2.mk v1455.1 X1a.Values.e1)),v1460.2)) else (some ((X8.mk X1a.Key X1a.Span (V2.mk v1455.1 v1460.1)),0))):Option (X8×Int)).bind fun w1452=>bif (w1452.2 != (0:Int)) then (some (.x0 ([]:List X8) w1452.2)) else ((delI X0h Xgj).bind fun m1465=>X1u n m1465 (X8.mk w1452.1.Key (Xr.mk (if e1440.Span.Start<w1452.1.Span.Start then e1440.Span.Start else w1452.1.Span.Start) (if e1440.Span.End>w1452.1.Span.End then e1440.Span.End else w1452.1.Span.End)) w1452.1.Values)))
inductive X9s where
 |x0 (Xe:(List X8))
 |x1 (X0e:(List X8)) (Xld:Int)
def X5a (Xix:(List Xr)):List Xr->Nat->X8->(List X8)->Option X9s
 |[],k,Xf,Xi=>some (.x0 Xi)
 |x::xs,k,Xf,Xi=>((Xp Xi (X8.mk Xf.Key x Xf.Values)).bind fun v1891=>bif (!v1891.2) then (bif (v1891.1==(List.length Xi:Int)) then (((X71 Xi v1891.1 (List.length Xi:Int)).bind fun m1903=>bif (List.isEmpty m1903) then ((X1l (List.length (Xi++[(X8.mk Xf.Key x Xf.Values)])) 88).bind fun u1906=>some ()) else ((X1l (List.length (Xi++[(X8.mk Xf.Key x Xf.Values)])) 88).bind fun u1908=>some ()):Option (Unit)).bind fun _=>some ((X8.mk ((X8.mk Xf.Key x Xf.Values).Key) ((X8.mk Xf.Key x Xf.Values).Span) (V2.mk (((X8.mk Xf.Key x Xf.Values).Values).e0) (((X8.mk Xf.Key x Xf.Values).Values).e1))),(Xi++[(X8.mk Xf.Key x Xf.Values)]),0)) else ((Xy7 Xi v1891.1 (X8.mk Xf.Key x Xf.Values) 88).bind fun m1911=>some ((X8.mk Xf.Key x Xf.Values),m1911,0))) else ((X1p Xi v1891.1).bind fun e1913=>((X2m e1913.Values.e0 Xf.Values.e0).bind fun v1928=>bif (v1928.2 != (0:Int)) then (some (Xi,v1928.2)) else ((X2m (((X8.mk e1913.Key e1913.Span (V2.mk v1928.1 e1913.Values.e1)).Values).e1) Xf.Values.e1).bind fun v1933=>bif (v1933.2 != (0:Int)) then (some ((List.set Xi (Int.toNat v1891.1) (X8.mk e1913.Key e1913.Span (V2.mk v1928.1 e1913.Values.e1))),v1933.2)) else (some ((List.set (List.set Xi (Int.toNat v1891.1) (X8.mk e1913.Key e1913.Span (V2.mk v1928.1 e1913.Values.e1))) (Int.toNat v1891.1) (X8.mk ((X8.mk e1913.Key e1913.Span (V2.mk v1928.1 e1913.Values.e1)).Key) ((X8.mk e1913.Key e1913.Span (V2.mk v1928.1 e1913.Values.e1)).Span) (V2.mk (((X8.mk e1913.Key e1913.Span (V2.mk v1928.1 e1913.Values.e1)).Values).e0) v1933.1))),0))):Option ((List X8)×Int)).bind fun w1925=>some ((X8.mk ((X8.mk Xf.Key x Xf.Values).Key) ((X8.mk Xf.Key x Xf.Values).Span) (V2.mk (((X8.mk Xf.Key x Xf.Values).Values).e0) (((X8.mk Xf.Key x Xf.Values).Values).e1))),w1925.1,w1925.2)):Option (X8×(List X8)×Int)).bind fun w1890=>bif (w1890.2.2 != (0:Int)) then (some (.x1 ([]:List X8) w1890.2.2)) else (X5a Xix xs (k+1) w1890.1 w1890.2.1)
def Xa1 (a0:(List X8)) (a1:X0l) (a2:X7) (a3:Int):Option ((List X8)×Int) :=
 (Xb4 a0).bind fun v1=>bif (v1 != (0:Int)) then (some (([]:List X8),v1)) else ((X1f a1).bind fun v4=>bif (v4 != (0:Int)) then (some (([]:List X8),v4)) else (bif (bif (a3 != (0:Int)) then (a3 != (1:Int)) else false) then (some (([]:List X8),2)) else (bif (bif (decide (a2.Time<((-1099511627776):Int))) then true else (decide (a2.Time>(1099511627776:Int)))) then (some (([]:List X8),16)) else (((Xc1 a2.Value).bind fun v14=>bif (a3==(0:Int)) then (some (X8.mk a2.Key (Xr.mk 0 0) (V2.mk v14 (X0b.mk 0 0 0 0)))) else (bif (a3==(1:Int)) then (some (X8.mk a2.Key (Xr.mk 0 0) (V2.mk (X0b.mk 0 0 0 0) v14))) else none):Option (X8)).bind fun Xk8=>(bif (List.isEmpty a0) then (some a0) else ((X1l (List.length a0) 88).bind fun u28=>some a0):Option ((List X8))).bind fun Xk7=>bif (a1.Kind==(3:Int)) then (((X4h 0 a1.Size).bind fun v51=>bif (v51 != (0:Int)) then (some (([]:List Xr),v51)) else ((X4h a2.Time a1.Size).bind fun v54=>bif (v54 != (0:Int)) then (some (([]:List Xr),v54)) else ((Xan 1).bind fun v67=>some ([(Xr.mk a2.Time (IntKind.i64.wrap (a2.Time+a1.Size)))],0))):Option ((List Xr)×Int)).bind fun w50=>bif (w50.2 != (0:Int)) then (some (([]:List X8),w50.2)) else ((X1p w50.1 0).bind fun e71=>((X1u  FU Xk7 (X8.mk Xk8.Key e71 Xk8.Values)).bind fun o1548=>match o1548 with|.x0 X0q Xgy=>(some (X0q,Xgy)):Option ((List X8)×Int)).bind fun w811=>bif (w811.2 != (0:Int)) then (some (([]:List X8),w811.2)) else (bif (decide ((List.length w811.1:Int)>(4000:Int))) then (some (([]:List X8),4)) else (some (w811.1,0))))) else ((Xhy a1 a2.Time).bind fun v1558=>bif (v1558.2 != (0:Int)) then (some (([]:List X8),v1558.2)) else ((X2o (List.length v1558.1)).bind fun u1561=>(X5a  v1558.1 v1558.1 0 Xk8 Xk7).bind fun o1984=>match o1984 with|.x0 Xe=>(bif (decide ((List.length Xe:Int)>(4000:Int))) then (some (([]:List X8),4)) else (some (Xe,0)))|.x1 X0e Xld=>(some (X0e,Xld))))))))
def X82 (a0:Int) (a1:X0b):Option (Int×Int) :=
 bif (bif (decide (a0<(1:Int))) then true else (decide (a0>(4:Int)))) then (some (0,2)) else ((X40 a1).bind fun v2=>bif (v2 != (0:Int)) then (some (0,v2)) else (bif (a1.Count==(0:Int)) then (some (0,6)) else ((bif (a0==(0:Int)) then (some 0) else (bif (a0==(1:Int)) then (some a1.Count) else (bif (a0==(2:Int)) then (some a1.Sum) else (bif (a0==(3:Int)) then (some a1.Min) else (bif (a0==(4:Int)) then (some a1.Max) else none)))):Option (Int)).bind fun X09s=>some (X09s,0))))
def Xbv (a0:Xu) (a1:X8):Option (X0t×Bool) :=
 (X82 a0.Agg a1.Values.e0).bind fun v3=>bif (v3.2 != (0:Int)) then (some ((X0t.mk 0 (Xr.mk 0 0) (V2.mk 0 0)),false)) else (bif (bif ((1:Int)==(1:Int)) then (!a0.Join) else false) then (some ((X0t.mk a1.Key a1.Span (V2.mk v3.1 0)),true)) else ((X82 a0.Agg a1.Values.e1).bind fun v9=>bif (v9.2 != (0:Int)) then (some ((X0t.mk 0 (Xr.mk 0 0) (V2.mk 0 0)),false)) else (some ((X0t.mk a1.Key a1.Span (V2.mk v3.1 v9.1)),true))))
inductive X7f where
 |x0 (Xb0:(List X8)) (X1z:(List X7))
 |x1 (X95:(List X0t)) (X94:(List X7)) (Xf2:Int)
def X38 (X1m:Xu) (X3p:(List X7)) (Xql:Int) (Xqk:(List (List Xk))) (Xqj:Int) (Xqi:Int) (Xhs:(List X7)):List X7->Nat->(List X8)->Option X7f
 |[],k,Xle=>some (.x0 Xle X3p)
 |x::xs,k,Xle=>(X73 X1m x).bind fun v482=>bif (!v482.2) then (X38 X1m X3p Xql Xqk Xqj Xqi Xhs xs (k+1) Xle) else ((bif X1m.Join then (some Xql) else (some 0):Option (Int)).bind fun Xug=>(Xa1 Xle X1m.Window v482.1 Xug).bind fun v489=>bif (v489.2 != (0:Int)) then (some (.x1 ([]:List X0t) ([]:List X7) v489.2)) else (X38 X1m X3p Xql Xqk Xqj Xqi Xhs xs (k+1) v489.1))
inductive X7g where
 |x0 (X87:(List X8)) (X0s:(List X7))
 |x1 (X0e:(List X0t)) (X6c:(List X7)) (Xo2:Int)
def X39 (Xf:Xu) (Xc4:(List (List Xk))):List (List Xk)->Nat->(List X8)->(List X7)->Option X7g
 |[],k,X5z,Xi=>some (.x0 X5z Xi)
 |x::xs,k,X5z,Xi=>(Xdm x).bind fun v435=>bif (v435.2.2 != (0:Int)) then (some (.x1 ([]:List X0t) ([]:List X7) v435.2.2)) else (bif (List.isEmpty v435.2.1) then ((X2o (List.length v435.1)).bind fun u439=>(X38  Xf (Xi++v435.2.1) (k:Int) Xc4 (List.length Xc4:Int) (k:Int) v435.1 v435.1 0 X5z).bind fun o502=>match o502 with|.x0 Xb0 X1z=>(X39 Xf Xc4 xs (k+1) Xb0 X1z)|.x1 X95 X94 Xf2=>(some (.x1 X95 X94 Xf2))) else ((X1l (List.length (Xi++v435.2.1)) 24).bind fun u504=>(X2o (List.length v435.1)).bind fun u506=>(X38  Xf (Xi++v435.2.1) (k:Int) Xc4 (List.length Xc4:Int) (k:Int) v435.1 v435.1 0 X5z).bind fun o549=>match o549 with|.x0 Xb0 X1z=>(X39 Xf Xc4 xs (k+1) Xb0 X1z)|.x1 X95 X94 Xf2=>(some (.x1 X95 X94 Xf2))))
inductive Xaf where
 |x0 (X5d:(List X7)) (X6b:(List X0t))
def X3y (Xev:Xu) (X92:(List X7)) (Xf3:(List X8)):List X8->Nat->(List X0t)->Option Xaf
 |[],k,Xke=>some (.x0 X92 Xke)
 |x::xs,k,Xke=>(Xbv Xev x).bind fun v732=>(bif v732.2 then ((X1l (List.length (Xke++[v732.1])) 40).bind fun u739=>some (Xke++[v732.1])) else (some Xke):Option ((List X0t))).bind fun Xmb=>X3y Xev X92 Xf3 xs (k+1) Xmb
def X4a (a0:Xu) (a1:(List (List Xk))):Option ((List X0t)×(List X7)×Int) :=
 (Xa9 a0).bind fun v1=>bif (v1.2 != (0:Int)) then (some (([]:List X0t),([]:List X7),v1.2)) else (bif ((List.length a1:Int) != (List.length a0.Sources:Int)) then (some (([]:List X0t),([]:List X7),2)) else ((X5y a1).bind fun v5=>bif (v5 != (0:Int)) then (some (([]:List X0t),([]:List X7),v5)) else ((X2o (List.length a1)).bind fun u8=>(X39  a0 a1 a1 0 ([]:List X8) ([]:List X7)).bind fun o647=>match o647 with|.x0 X87 X0s=>((X2o (List.length X87)).bind fun u649=>(X3y  a0 X0s X87 X87 0 ([]:List X0t)).bind fun o772=>match o772 with|.x0 X5d X6b=>((bif (a0.Late != (2:Int)) then (some ([]:List X7)) else (some X5d):Option ((List X7))).bind fun Xma=>some (X6b,Xma,0)))|.x1 X0e X6c Xo2=>(some (X0e,X6c,Xo2)))))
def X77 (a0:X8x) (a1:X8x):Option (Int) :=
 (X0j a0.Span.End a1.Span.End).bind fun v1=>(X0j a0.Span.Start a1.Span.Start).bind fun v3=>(X0j a0.Key a1.Key).bind fun v5=>(X0j a0.Values.e0 a1.Values.e0).bind fun v7=>(X0j a0.Values.e1 a1.Values.e1).bind fun v9=>(X81 [v1,v3,v5,v7,v9]).bind fun v11=>some v11
def X07 (a0:X0t) (a1:X0t):Option (Int) :=
 (X77 (X8x.mk a0.Key a0.Span a0.Values) (X8x.mk a1.Key a1.Span a1.Values)).bind fun v1=>some v1
def Xfd (a0:(List X0t)):Option ((List X0t)×Int) :=
 (bif (decide ((List.length a0:Int)>(4000:Int))) then (some (([]:List X0t),4)) else ((bif (List.isEmpty a0) then (some a0) else ((X1l (List.length a0) 40).bind fun u29=>some a0):Option ((List X0t))).bind fun Xmd=>(Xp1 X07 Xmd).bind fun m32=>some (m32,0)):Option ((List X0t)×Int)).bind fun w18=>some (w18.1,w18.2)
def X46 (a0:X7) (a1:X7):Option (Int) :=
 (X0j a0.Time a1.Time).bind fun v1=>(X0j a0.Key a1.Key).bind fun v3=>(X0j a0.Value a1.Value).bind fun v5=>(X81 [v1,v3,v5]).bind fun v7=>some v7
def X26 (a0:(List X7)):Option ((List X7)×Int) :=
 bif (decide ((List.length a0:Int)>(4000:Int))) then (some (([]:List X7),4)) else ((bif (List.isEmpty a0) then (some a0) else ((X1l (List.length a0) 24).bind fun u11=>some a0):Option ((List X7))).bind fun Xu7=>(Xp1 X46 Xu7).bind fun m14=>some (m14,0))
def Xfe (a0:(List X7)):Option ((List X7)×Int) :=
 (X26 a0).bind fun v1=>some (v1.1,v1.2)
inductive X7r where
 |x0 (X5f:(List X0t)) (X0q:(List X7))
def X2d (X9z:Int) (Xf:X2c) (X84:(List X7)) (X0h:(List X7)) (Xf5:(List X0t)):List X0t->Nat->(List X0t)->Option X7r
 |[],k,X1t=>some (.x0 X1t X0h)
 |x::xs,k,X1t=>(bif (decide (x.Span.End<=X9z)) then ((X1l (List.length (X1t++[x])) 40).bind fun u76=>some (X1t++[x])) else (some X1t):Option ((List X0t))).bind fun Xry=>X2d X9z Xf X84 X0h Xf5 xs (k+1) Xry
def X50 (a0:Xu) (a1:(List (List Xk))) (a2:Int):Option (X2c×Int) :=
 (X4a a0 a1).bind fun v1=>bif (v1.2.2 != (0:Int)) then (some ((X2c.mk ([]:List X0t) ([]:List X7)),v1.2.2)) else ((X2o (List.length v1.1)).bind fun u4=>(X2d  a2 (X2c.mk ([]:List X0t) ([]:List X7)) v1.2.1 ([]:List X7) v1.1 v1.1 0 ([]:List X0t)).bind fun o103=>match o103 with|.x0 X5f X0q=>((Xfd X5f).bind fun v105=>bif (v105.2 != (0:Int)) then (some ((X2c.mk ([]:List X0t) ([]:List X7)),v105.2)) else ((Xfe v1.2.1).bind fun v108=>bif (v108.2 != (0:Int)) then (some ((X2c.mk ([]:List X0t) ([]:List X7)),v108.2)) else (some ((X2c.mk v105.1 v108.1),0)))))
def X2k (a0:Int):Option (Int) :=
 bif (decide (a0<=(4:Int))) then (some 0) else (bif (decide (a0<=(6:Int))) then (some 1) else (some 2))
def X7p (a0:X05) (a1:Int) (a2:Int):Option (Bool) :=
 some (bif (bif (bif (bif (bif (bif (bif (decide (a0.Kind >= (1:Int))) then (decide (a0.Kind<=(19:Int))) else false) then (decide (a0.N >= (0:Int))) else false) then (bif (a0.N==(0:Int)) then true else (a0.Kind==(1:Int))) else false) then (decide (a0.At >= (0:Int))) else false) then (decide (a0.At<=(400:Int))) else false) then (a0.A==a1) else false) then (a0.B==a2) else false)
inductive X5u where
 |x0 (Xe:(List Int)) (X0s:(List Int))
 |x1 (X0e:(List Int)) (X6c:(List Int))
def X1r (X00:(List X05)):List X05->Nat->(List Int)->(List Int)->Option X5u
 |[],k,Xf,Xi=>some (.x0 Xf Xi)
 |x::xs,k,Xf,Xi=>(X2k x.Kind).bind fun v156=>bif (decide (v156>(0:Int))) then (bif (decide ((IntKind.i64.wrap ((k:Int) - 1))<(0:Int))) then (some (.x1 ([]:List Int) ([]:List Int))) else ((X1p Xf (IntKind.i64.wrap ((k:Int) - 1))).bind fun e160=>(X1p Xi (IntKind.i64.wrap ((k:Int) - 1))).bind fun e162=>bif (v156==(2:Int)) then (bif (decide ((IntKind.i64.wrap ((IntKind.i64.wrap ((k:Int) - 1)) - e160))<(0:Int))) then (some (.x1 ([]:List Int) ([]:List Int))) else ((X1p Xf (IntKind.i64.wrap ((IntKind.i64.wrap ((k:Int) - 1)) - e160))).bind fun e166=>(X1p Xi (IntKind.i64.wrap ((IntKind.i64.wrap ((k:Int) - 1)) - e160))).bind fun e168=>(X7p x (IntKind.i64.wrap ((IntKind.i64.wrap ((k:Int) - 1)) - e160)) (IntKind.i64.wrap ((k:Int) - 1))).bind fun v170=>bif (!v170) then (some (.x1 ([]:List Int) ([]:List Int))) else ((X1l (List.length (Xf++[(IntKind.i64.wrap ((IntKind.i64.wrap (1+e160))+e166))])) 8).bind fun u173=>(X1l (List.length (Xi++[(if (IntKind.i64.wrap (1+e168))>(IntKind.i64.wrap (1+e162)) then (IntKind.i64.wrap (1+e168)) else (IntKind.i64.wrap (1+e162)))])) 8).bind fun u175=>X1r X00 xs (k+1) (Xf++[(IntKind.i64.wrap ((IntKind.i64.wrap (1+e160))+e166))]) (Xi++[(if (IntKind.i64.wrap (1+e168))>(IntKind.i64.wrap (1+e162)) then (IntKind.i64.wrap (1+e168)) else (IntKind.i64.wrap (1+e162)))])))) else ((X7p x (IntKind.i64.wrap ((k:Int) - 1)) 0).bind fun v177=>bif (!v177) then (some (.x1 ([]:List Int) ([]:List Int))) else ((X1l (List.length (Xf++[(IntKind.i64.wrap (1+e160))])) 8).bind fun u180=>(X1l (List.length (Xi++[(IntKind.i64.wrap (1+e162))])) 8).bind fun u182=>X1r X00 xs (k+1) (Xf++[(IntKind.i64.wrap (1+e160))]) (Xi++[(IntKind.i64.wrap (1+e162))]))))) else ((X7p x 0 0).bind fun v184=>bif (!v184) then (some (.x1 ([]:List Int) ([]:List Int))) else ((X1l (List.length (Xf++[1])) 8).bind fun u187=>(X1l (List.length (Xi++[1])) 8).bind fun u189=>X1r X00 xs (k+1) (Xf++[1]) (Xi++[1])))
def Xe1 (a0:(List X05)):Option ((List Int)×(List Int)×Bool) :=
 (X2o (List.length a0)).bind fun u1=>(X1r  a0 a0 0 ([]:List Int) ([]:List Int)).bind fun o232=>match o232 with|.x0 Xe X0s=>((bif (decide ((List.length a0:Int)>(0:Int))) then ((X1p Xe (IntKind.i64.wrap ((List.length a0:Int) - 1))).bind fun e239=>some (bif (decide ((List.length a0:Int)>(0:Int))) then (e239==(List.length a0:Int)) else false)) else (some false):Option (Bool)).bind fun X01w=>some (Xe,X0s,X01w))|.x1 X0e X6c=>(some (X0e,X6c,false))
def X5j (a0:(List X05)):Option (Int) :=
 bif (decide ((List.length a0:Int)>(60:Int))) then (some 4) else ((Xe1 a0).bind fun v2=>bif (!v2.2.2) then (some 8) else ((X1p v2.2.1 (IntKind.i64.wrap ((List.length a0:Int) - 1))).bind fun e5=>bif (decide (e5>(20:Int))) then (some 34) else (some 0)))
inductive X65 where
 |x0
 |x1
def X3o (X00:(List Int)):List Int->Nat->Option X65
 |[],k=>some (.x0)
 |x::xs,k=>(bif (decide (x<(0:Int))) then (some (bif (decide (x<(0:Int))) then true else false)) else (some (bif (decide (x<(0:Int))) then true else (decide (x>(3:Int))))):Option (Bool)).bind fun X01v=>bif X01v then (some (.x1)) else (X3o X00 xs (k+1))
inductive X63 where
 |x0
 |x1
def X3n (y2_0:(List Int)) (y2_6:Int):Nat->Int->Option X63
 |0,_=>none
 |n+1,Xt0=>bif (decide (Xt0<y2_6)) then ((X1p y2_0 Xt0).bind fun e86=>(X1p y2_0 y2_6).bind fun e88=>bif (e86==e88) then (some (.x0)) else (X3n y2_0 y2_6 n (IntKind.i64.wrap (Xt0+1)))) else (some (.x1))
inductive X64 where
 |x0
 |x1
def X2r (Xky:(List Int)):List Int->Nat->Option X64
 |[],k=>some (.x0)
 |x::xs,k=>(X3n  Xky (k:Int) FU 0).bind fun o91=>match o91 with|.x0=>(some (.x1))|.x1=>(X2r Xky xs (k+1))
def X8h (a0:(List Int)) (a1:Bool):Option (Int) :=
 bif (decide ((List.length a0:Int)>(4:Int))) then (some 4) else ((bif ((List.length a0:Int)==(0:Int)) then (some (bif ((List.length a0:Int)==(0:Int)) then true else false)) else (bif a1 then (some (bif ((List.length a0:Int)==(0:Int)) then true else (bif a1 then ((List.length a0:Int) != (2:Int)) else false))) else (some (bif ((List.length a0:Int)==(0:Int)) then true else (bif a1 then false else false)))):Option (Bool)).bind fun X099=>bif X099 then (some 8) else ((X2o (List.length a0)).bind fun u9=>(X3o  a0 a0 0).bind fun o27=>match o27 with|.x0=>((X2r  a0 a0 0).bind fun o93=>match o93 with|.x0=>(some 0)|.x1=>(some 43))|.x1=>(some 8)))
def X9e (a0:X0l):Option (Bool) :=
 bif (bif (decide (a0.Size<(1:Int))) then true else (decide (a0.Size>(1073741824:Int)))) then (some false) else (bif (a0.Kind==(2:Int)) then (some (bif (bif (decide (a0.Every >= (1:Int))) then (decide (a0.Every<=a0.Size)) else false) then (decide (a0.Size<=(IntKind.i64.wrap (16*a0.Every)))) else false)) else (some (bif (bif (a0.Kind==(1:Int)) then true else (a0.Kind==(3:Int))) then (a0.Every==(0:Int)) else false)))
def Xbp (a0:Xu):Option (Int) :=
 bif (bif (bif (bif (decide (a0.Agg<(1:Int))) then true else (decide (a0.Agg>(4:Int)))) then true else (decide (a0.Late<(1:Int)))) then true else (decide (a0.Late>(2:Int)))) then (some 8) else ((bif (a0.Agg==(1:Int)) then (some (bif (a0.Agg==(1:Int)) then (decide ((List.length a0.Arg:Int)>(0:Int))) else false)) else (some (bif (a0.Agg==(1:Int)) then false else false)):Option (Bool)).bind fun X09i=>bif X09i then (some 8) else ((bif (a0.Agg != (1:Int)) then ((X5j a0.Arg).bind fun v12=>some (bif (a0.Agg != (1:Int)) then (v12 != (0:Int)) else false)) else (some (bif (a0.Agg != (1:Int)) then false else false)):Option (Bool)).bind fun X026=>bif X026 then ((X5j a0.Arg).bind fun v16=>some v16) else ((bif (decide ((List.length a0.Where:Int)>(0:Int))) then ((X5j a0.Where).bind fun v23=>some (bif (decide ((List.length a0.Where:Int)>(0:Int))) then (v23 != (0:Int)) else false)) else (some (bif (decide ((List.length a0.Where:Int)>(0:Int))) then false else false)):Option (Bool)).bind fun Xs1=>bif Xs1 then ((X5j a0.Where).bind fun v27=>some v27) else ((X8h a0.Sources a0.Join).bind fun v29=>bif (v29 != (0:Int)) then (some v29) else ((X9e a0.Window).bind fun v32=>bif (bif (!v32) then true else (bif a0.Join then (a0.Window.Kind != (1:Int)) else false)) then (some 8) else (some 0))))))
def X7o (a0:Int):Option (Bool) :=
 some (bif (a0==(6:Int)) then true else (decide (a0 >= (12:Int))))
def Xdf (a0:(List X05)) (a1:Int):Option (Bool) :=
 (X1p a0 a1).bind fun e1=>(X1p a0 e1.A).bind fun e3=>(X7o e3.Kind).bind fun v5=>(X1p a0 e1.B).bind fun e7=>(X7o e7.Kind).bind fun v9=>bif (decide (e1.Kind<=(4:Int))) then (some true) else (bif (e1.Kind==(5:Int)) then (some (!v5)) else (bif (e1.Kind==(6:Int)) then (some v5) else (bif (bif (e1.Kind==(16:Int)) then true else (e1.Kind==(17:Int))) then (some (v5==v9)) else (bif (decide (e1.Kind >= (18:Int))) then (some (bif v5 then v9 else false)) else (some (bif (!v5) then (!v9) else false))))))
inductive X7c where
 |x0
 |x1 (X53:Int)
def X4z (X00:(List X05)):List X05->Nat->Option X7c
 |[],k=>some (.x0)
 |x::xs,k=>(Xdf X00 (k:Int)).bind fun v10=>bif (!v10) then (some (.x1 (k:Int))) else (X4z X00 xs (k+1))
def Xe0 (a0:(List X05)):Option (Int) :=
 (X2o (List.length a0)).bind fun u1=>(X4z  a0 a0 0).bind fun o13=>match o13 with|.x0=>(some (List.length a0:Int))|.x1 X53=>(some X53)
def Xgc (a0:(List X05)):Option (Bool×Int×Int) :=
 (X5j a0).bind fun v1=>bif (v1 != (0:Int)) then (some (false,0,v1)) else ((Xe0 a0).bind fun v4=>bif (decide (v4<(List.length a0:Int))) then (some (false,v4,42)) else ((X1p a0 (IntKind.i64.wrap ((List.length a0:Int) - 1))).bind fun e7=>(X7o e7.Kind).bind fun v9=>some (v9,(IntKind.i64.wrap ((List.length a0:Int) - 1)),0)))
def X9f (a0:(List X05)) (a1:Bool):Option (Int×Int) :=
 (Xgc a0).bind fun v1=>bif (bif (v1.2.2==(0:Int)) then (!(v1.1==a1)) else false) then (some (v1.2.1,42)) else (some (v1.2.1,v1.2.2))
def Xbm (a0:Xu):Option (Int×Int) :=
 bif (decide ((List.length a0.Arg:Int)>(0:Int))) then ((X9f a0.Arg false).bind fun v2=>bif (v2.2 != (0:Int)) then ((X1p a0.Arg v2.1).bind fun e5=>some (e5.At,v2.2)) else (bif (decide ((List.length a0.Where:Int)>(0:Int))) then ((X9f a0.Where true).bind fun v8=>bif (v8.2 != (0:Int)) then ((X1p a0.Where v8.1).bind fun e11=>some (e11.At,v8.2)) else (some (0,0))) else (some (0,0)))) else (bif (decide ((List.length a0.Where:Int)>(0:Int))) then ((X9f a0.Where true).bind fun v14=>bif (v14.2 != (0:Int)) then ((X1p a0.Where v14.1).bind fun e17=>some (e17.At,v14.2)) else (some (0,0))) else (some (0,0)))
def Xbn (a0:Xu):Option (Int×Int) :=
 (Xbp a0).bind fun v1=>bif (v1 != (0:Int)) then (some (0,v1)) else ((Xbm a0).bind fun v4=>some (v4.1,v4.2))
def X5i (a0:Int) (a1:Int):Option (Int) :=
 bif (bif (decide (a1<(1:Int))) then true else (decide (a1>(1073741824:Int)))) then (some 2) else (bif (bif (decide (a0<((-1099511627776):Int))) then true else (decide (a0>(1099511627776:Int)))) then (some 16) else (some 0))
def Xbk (a0:Xk):Option (Bool) :=
 bif a0.Mark then ((bif (X4b a0.Record (X7.mk 0 0 0)) then (bif (a0.Time==(9223372036854775807:Int)) then (some (bif (X4b a0.Record (X7.mk 0 0 0)) then (bif (a0.Time==(9223372036854775807:Int)) then true else false) else false)) else ((X5i a0.Time 1).bind fun v9=>some (bif (X4b a0.Record (X7.mk 0 0 0)) then (bif (a0.Time==(9223372036854775807:Int)) then true else (v9==(0:Int))) else false))) else (some (bif (X4b a0.Record (X7.mk 0 0 0)) then false else false)):Option (Bool)).bind fun j6_2=>some j6_2) else ((bif (a0.Time==(0:Int)) then ((X5i a0.Record.Time 1).bind fun v17=>some (bif (a0.Time==(0:Int)) then (v17==(0:Int)) else false)) else (some (bif (a0.Time==(0:Int)) then false else false)):Option (Bool)).bind fun X09q=>some X09q)
inductive X7b where
 |x0
 |x1
def X4y (X00:(List Xk)):List Xk->Nat->Option X7b
 |[],k=>some (.x0)
 |x::xs,k=>(Xbk x).bind fun v11=>bif (!v11) then (some (.x1)) else (X4y X00 xs (k+1))
def Xbl (a0:(List Xk)):Option (Int) :=
 bif (decide ((List.length a0:Int)>(60:Int))) then (some 4) else ((X2o (List.length a0)).bind fun u2=>(X4y  a0 a0 0).bind fun o14=>match o14 with|.x0=>(some 0)|.x1=>(some 8))
inductive X7a where
 |x0
 |x1 (X53:Int)
def X4x (X00:(List (List Xk))):List (List Xk)->Nat->Option X7a
 |[],k=>some (.x0)
 |x::xs,k=>(Xbl x).bind fun v10=>bif (v10 != (0:Int)) then (some (.x1 v10)) else (X4x X00 xs (k+1))
def Xbb (a0:(List (List Xk))):Option (Int) :=
 (X2o (List.length a0)).bind fun u1=>(X4x  a0 a0 0).bind fun o13=>match o13 with|.x0=>(some 0)|.x1 X53=>(some X53)
def Xbj (a0:Xu) (a1:(List (List Xk))):Option (Int) :=
 (Xbn a0).bind fun v1=>bif (v1.2 != (0:Int)) then (some v1.2) else (bif ((List.length a1:Int) != (List.length a0.Sources:Int)) then (some 2) else ((Xbb a1).bind fun v5=>some v5))
inductive Xdw where
 |x0 (Xai:Int)
def X7m (X00:(List Xk)):List Xk->Nat->Int->Option Xdw
 |[],k,Xgz=>some (.x0 Xgz)
 |x::xs,k,Xgz=>(bif x.Mark then (some (bif x.Mark then (decide (x.Time>Xgz)) else false)) else (some (bif x.Mark then false else false)):Option (Bool)).bind fun X01y=>(bif X01y then (some x.Time) else (some Xgz):Option (Int)).bind fun X09m=>X7m X00 xs (k+1) X09m
def Xdx (a0:(List Xk)):Option (Int) :=
 (X2o (List.length a0)).bind fun u1=>(X7m  a0 a0 0 (-9223372036854775808)).bind fun o28=>match o28 with|.x0 Xai=>(some Xai)
inductive X8d where
 |x0 (Xe:(List X7))
def X2q (X00:(List Xk)) (X1s:Bool):List Xk->Nat->(List X7)->Option X8d
 |[],k,Xf=>some (.x0 Xf)
 |x::xs,k,Xf=>(bif (!x.Mark) then ((X71 X00 0 (k:Int)).bind fun m91=>(Xdx m91).bind fun v93=>some (bif (!x.Mark) then ((decide (x.Record.Time<v93))==X1s) else false)) else (some false):Option (Bool)).bind fun X01k=>(bif X01k then ((X1l (List.length (Xf++[x.Record])) 24).bind fun u101=>some (Xf++[x.Record])) else (some Xf):Option ((List X7))).bind fun Xrx=>X2q X00 X1s xs (k+1) Xrx
def X6p (a0:(List Xk)) (a1:Bool):Option ((List X7)) :=
 (X2o (List.length a0)).bind fun u1=>(X2q  a0 a1 a0 0 ([]:List X7)).bind fun o124=>match o124 with|.x0 Xe=>(some Xe)
def X7q (a0:Bool):Option (Int) :=
 bif a0 then (some 1) else (some 0)
def X9h (a0:Int):Option (Int) :=
 some (IntKind.i64.wrap (Int.tmod (IntKind.u64.wrap a0) 64))
inductive Xad where
 |x0 (Xai:Int)
def X3w (X00:Int):Nat->Int->Int->Option Xad
 |0,_,_=>none
 |n+1,Xgz,Xzk=>bif (decide (Xzk<X00)) then (X3w X00 n (IntKind.i64.wrap (Xgz+Xgz)) (IntKind.i64.wrap (Xzk+1))) else (some (.x0 Xgz))
def X9g (a0:Int):Option (Int) :=
 (X3w  a0 FU 1 0).bind fun o5=>match o5 with|.x0 Xai=>(some Xai)
def Xdg (a0:Int):Option (Int) :=
 bif (decide ((Int.tmod a0 2)<(0:Int))) then (some (IntKind.i64.wrap ((IntKind.i64.wrap (Int.tdiv a0 2)) - 1))) else (some (IntKind.i64.wrap (Int.tdiv a0 2)))
def Xal (a0:Int) (a1:Int) (a2:Int):Option (Bool) :=
 bif (a0==(12:Int)) then (some (decide (a1<a2))) else (bif (a0==(13:Int)) then (some (bif (decide (a1<a2)) then true else (a1==a2))) else (bif (a0==(14:Int)) then (some (decide (a2<a1))) else (bif (a0==(15:Int)) then (some (bif (decide (a2<a1)) then true else (a1==a2))) else (bif (a0==(16:Int)) then (some (a1==a2)) else (some (a1 != a2))))))
inductive Xae where
 |x0 (Xo3:Int)
def X3x (X9z:Int):Nat->Int->Int->Option Xae
 |0,_,_=>none
 |n+1,X1s,Xt7=>(X9h X9z).bind fun v25=>bif (decide (Xt7<v25)) then ((Xdg X1s).bind fun v28=>X3x X9z n v28 (IntKind.i64.wrap (Xt7+1))) else (some (.x0 X1s))
def X48 (a0:Int) (a1:Int) (a2:Int):Option (Int) :=
 bif (a0==(5:Int)) then (some (IntKind.i64.wrap (0 - a1))) else (bif (a0==(6:Int)) then ((X7q (a1==(0:Int))).bind fun v3=>some v3) else (bif (a0==(7:Int)) then (some (IntKind.i64.wrap (a1*a2))) else (bif (a0==(8:Int)) then (some (IntKind.i64.wrap (a1+a2))) else (bif (a0==(9:Int)) then (some (IntKind.i64.wrap (a1 - a2))) else (bif (a0==(10:Int)) then ((X9h a2).bind fun v9=>(X9g v9).bind fun v11=>some (IntKind.i64.wrap (a1*v11))) else (bif (a0==(11:Int)) then ((X3x  a2 FU a1 0).bind fun o30=>match o30 with|.x0 Xo3=>(some Xo3)) else (bif (a0==(18:Int)) then ((X7q (bif (a1 != (0:Int)) then (a2 != (0:Int)) else false)).bind fun v33=>some v33) else (bif (a0==(19:Int)) then ((X7q (bif (a1 != (0:Int)) then true else (a2 != (0:Int)))).bind fun v36=>some v36) else ((Xal a0 a1 a2).bind fun v38=>(X7q v38).bind fun v40=>some v40)))))))))
def X1c:Nat->(List X05)->Int->X7->Option (Int)
 |0,_,_,_=>none
 |n+1,a0,a1,a2=>(X1p a0 a1).bind fun e1=>bif (e1.Kind==(1:Int)) then (some e1.N) else (bif (e1.Kind==(2:Int)) then (some a2.Key) else (bif (e1.Kind==(3:Int)) then (some a2.Time) else (bif (e1.Kind==(4:Int)) then (some a2.Value) else ((X2k e1.Kind).bind fun v7=>(bif (v7==(2:Int)) then (((X1c n) a0 e1.B a2).bind fun v14=>some v14) else (some 0):Option (Int)).bind fun X09r=>((X1c n) a0 e1.A a2).bind fun v17=>(X48 e1.Kind v17 X09r).bind fun v19=>some v19))))
def Xgb (a0:(List X05)) (a1:X7):Option (Int×Int) :=
 (Xgc a0).bind fun v1=>bif (v1.2.2 != (0:Int)) then (some (0,v1.2.2)) else ((X1c FU a0 (IntKind.i64.wrap ((List.length a0:Int) - 1)) a1).bind fun v4=>some (v4,0))
def X4w (a0:(List X05)) (a1:X7):Option (Int) :=
 (Xgb a0 a1).bind fun v1=>some v1.1
inductive Xbg where
 |x0 (X1z:(List Xv))
def X36 (Xvq:(List (List Xk))) (X1m:Xu) (Xiu:Int) (Xf4:(List X7)):List X7->Nat->(List Xv)->Option Xbg
 |[],k,X3p=>some (.x0 X3p)
 |x::xs,k,X3p=>(bif (decide ((List.length X1m.Where:Int)>(0:Int))) then ((X4w X1m.Where x).bind fun v690=>some (bif (decide ((List.length X1m.Where:Int)>(0:Int))) then (v690==(0:Int)) else false)) else (some false):Option (Bool)).bind fun Xuf=>bif Xuf then (X36 Xvq X1m Xiu Xf4 xs (k+1) X3p) else ((bif X1m.ByKey then (some (Xv.mk (X7.mk x.Key x.Time 0) 0)) else (some (Xv.mk (X7.mk 0 x.Time 0) 0)):Option (Xv)).bind fun Xbz=>(bif (X1m.Agg != (1:Int)) then ((X4w X1m.Arg x).bind fun v703=>some (Xv.mk (X7.mk Xbz.Record.Key Xbz.Record.Time v703) Xbz.Side)) else (some Xbz):Option (Xv)).bind fun Xhm=>(bif X1m.Join then (some (Xv.mk Xhm.Record Xiu)) else (some Xhm):Option (Xv)).bind fun Xpi=>(X1l (List.length (X3p++[Xpi])) 32).bind fun u710=>X36 Xvq X1m Xiu Xf4 xs (k+1) (X3p++[Xpi]))
inductive Xbh where
 |x0 (Xe:(List Xv))
def X4l (X1s:(List (List Xk))) (Xf:Xu):List (List Xk)->Nat->(List Xv)->Option Xbh
 |[],k,Xi=>some (.x0 Xi)
 |x::xs,k,Xi=>(X6p x false).bind fun v572=>(X2o (List.length v572)).bind fun u574=>(X36  X1s Xf (k:Int) v572 v572 0 Xi).bind fun o739=>match o739 with|.x0 X1z=>(X4l X1s Xf xs (k+1) X1z)
def Xdc (a0:Xu) (a1:(List (List Xk))):Option ((List Xv)) :=
 (X2o (List.length a1)).bind fun u1=>(X4l  a1 a0 a1 0 ([]:List Xv)).bind fun o856=>match o856 with|.x0 Xe=>(some Xe)
def X8e (a0:Xr) (a1:Xr):Option (Bool) :=
 some (bif (decide (a0.Start<a1.End)) then (decide (a1.Start<a0.End)) else false)
def Xga (a0:Int) (a1:Int):Option (Int) :=
 (Xsp a1).bind fun u1=>some (IntKind.i64.wrap ((IntKind.i64.wrap (Int.tdiv (IntKind.i64.wrap (a0+(IntKind.i64.wrap ((IntKind.i64.wrap ((IntKind.i64.wrap (Int.tdiv 1099511627776 a1))+1))*a1)))) a1)) - (IntKind.i64.wrap ((IntKind.i64.wrap (Int.tdiv 1099511627776 a1))+1))))
def Xi4 (a0:Int) (a1:Int):Option (Xr×Int) :=
 (X5i a0 a1).bind fun v1=>bif (v1 != (0:Int)) then (some ((Xr.mk 0 0),v1)) else ((Xga a0 a1).bind fun v4=>some ((Xr.mk (IntKind.i64.wrap (v4*a1)) (IntKind.i64.wrap ((IntKind.i64.wrap (v4*a1))+a1))),0))
inductive X8f where
 |x0 (Xe:(List Xr))
def X3m (X00:Int) (X1s:Int) (X9z:Int) (Xt7:Int):Nat->(List Xr)->Int->Option X8f
 |0,_,_=>none
 |n+1,Xf,X84=>bif (decide (X84<=(IntKind.i64.wrap (Xt7+1)))) then ((bif (bif (decide ((IntKind.i64.wrap (X84*X9z))<=X00)) then (decide (X00<(IntKind.i64.wrap ((IntKind.i64.wrap (X84*X9z))+X1s)))) else false) then ((X1l (List.length (Xf++[(Xr.mk (IntKind.i64.wrap (X84*X9z)) (IntKind.i64.wrap ((IntKind.i64.wrap (X84*X9z))+X1s)))])) 16).bind fun u46=>some (Xf++[(Xr.mk (IntKind.i64.wrap (X84*X9z)) (IntKind.i64.wrap ((IntKind.i64.wrap (X84*X9z))+X1s)))])) else (some Xf):Option ((List Xr))).bind fun Xrz=>X3m X00 X1s X9z Xt7 n Xrz (IntKind.i64.wrap (X84+1))) else (some (.x0 Xf))
def X8g (a0:Int) (a1:Int) (a2:Int):Option ((List Xr)) :=
 (Xga a0 a2).bind fun v1=>(X3m  a0 a1 a2 v1 FU ([]:List Xr) (IntKind.i64.wrap (v1 - 16))).bind fun o58=>match o58 with|.x0 Xe=>(some Xe)
def X7n (a0:X0l) (a1:Int):Option ((List Xr)) :=
 bif (a0.Kind==(1:Int)) then ((Xi4 a1 a0.Size).bind fun v2=>some [v2.1]) else ((X8g a1 a0.Size a0.Every).bind fun v4=>some v4)
inductive X3k where
 |x0 (X5f:Xr) (X0q:(List Xr)) (X20:(List Xr))
def X0m (Xf:X0l) (X1t:(List Xr)):List Xr->Nat->Xr->(List Xr)->(List Xr)->Option X3k
 |[],k,X0h,X1a,Xiw=>some (.x0 X0h X1a Xiw)
 |x::xs,k,X0h,X1a,Xiw=>(X8e x X0h).bind fun v11415=>(bif v11415 then (some ((Xr.mk (if x.Start<X0h.Start then x.Start else X0h.Start) (if x.End>X0h.End then x.End else X0h.End)),X1a,Xiw)) else (bif (decide (x.Start<X0h.Start)) then ((X1l (List.length (X1a++[x])) 16).bind fun u11426=>some (X0h,(X1a++[x]),Xiw)) else ((X1l (List.length (Xiw++[x])) 16).bind fun u11428=>some (X0h,X1a,(Xiw++[x])))):Option (Xr×(List Xr)×(List Xr))).bind fun w11423=>X0m Xf X1t xs (k+1) w11423.1 w11423.2.1 w11423.2.2
inductive X8c where
 |x0 (Xe:(List Xr))
def X3l (X1s:(List Xv)) (X9z:Int) (Xf:X0l):List Xv->Nat->(List Xr)->Option X8c
 |[],k,Xi=>some (.x0 Xi)
 |x::xs,k,Xi=>(bif (x.Record.Key != X9z) then (some Xi) else (bif (Xf.Kind==(3:Int)) then (((X2o (List.length Xi)).bind fun u11069=>(X0m  Xf Xi Xi 0 (Xr.mk x.Record.Time (IntKind.i64.wrap (x.Record.Time+Xf.Size))) ([]:List Xr) ([]:List Xr)).bind fun o11479=>match o11479 with|.x0 X5f X0q X20=>((X1l (List.length (X0q++[X5f])) 16).bind fun u11481=>bif (List.isEmpty X20) then (some ((X0q++[X5f])++X20)) else ((X1l (List.length ((X0q++[X5f])++X20)) 16).bind fun u11484=>some ((X0q++[X5f])++X20))):Option ((List Xr))).bind fun Xfk=>some Xfk) else ((X7n Xf x.Record.Time).bind fun v11502=>bif (List.isEmpty v11502) then (some (Xi++v11502)) else ((X1l (List.length (Xi++v11502)) 16).bind fun u11505=>some (Xi++v11502)))):Option ((List Xr))).bind fun Xfl=>X3l X1s X9z Xf xs (k+1) Xfl
def X6o (a0:X0l) (a1:(List Xv)) (a2:Int):Option ((List Xr)) :=
 (X2o (List.length a1)).bind fun u1=>(X3l  a1 a2 a0 a1 0 ([]:List Xr)).bind fun o13348=>match o13348 with|.x0 Xe=>(some Xe)
inductive X9v where
 |x0
 |x1
def X5c (X00:(List X0t)) (X1s:Int) (Xf:Xr):List X0t->Nat->Option X9v
 |[],k=>some (.x0)
 |x::xs,k=>(bif (x.Key==X1s) then (some (bif (x.Key==X1s) then (Xdp x.Span Xf) else false)) else (some false):Option (Bool)).bind fun X021=>bif X021 then (some (.x1)) else (X5c X00 X1s Xf xs (k+1))
def Xfh (a0:(List X0t)) (a1:Int) (a2:Xr):Option (Bool) :=
 (X2o (List.length a0)).bind fun u1=>(X5c  a0 a1 a2 a0 0).bind fun o19=>match o19 with|.x0=>(some false)|.x1=>(some true)
def X7y (a0:X0b) (a1:Int):Option (X0b) :=
 (bif (a0.Count==(0:Int)) then (some (X0b.mk a0.Count a0.Sum a1 a1)) else (some a0):Option (X0b)).bind fun Xul=>(bif (decide (a1<Xul.Min)) then (some (X0b.mk Xul.Count Xul.Sum a1 Xul.Max)) else (some Xul):Option (X0b)).bind fun Xue=>(bif (decide (a1>Xue.Max)) then (some (X0b.mk Xue.Count Xue.Sum Xue.Min a1)) else (some Xue):Option (X0b)).bind fun Xok=>(X48 8 Xok.Sum a1).bind fun v13=>some (X0b.mk (IntKind.i64.wrap (Xok.Count+1)) v13 Xok.Min Xok.Max)
def Xav (a0:Int) (a1:X0b):Option (Int) :=
 bif (a0==(1:Int)) then (some a1.Count) else (bif (a0==(2:Int)) then (some a1.Sum) else (bif (a0==(3:Int)) then (some a1.Min) else (some a1.Max)))
inductive Xcu where
 |x0 (X0q:(V2 X0b))
def X6h (X1s:(List Xv)) (X9z:Int) (Xf:Xu) (Xi:Xr) (X1t:X0t):List Xv->Nat->(V2 X0b)->Option Xcu
 |[],k,X0h=>some (.x0 X0h)
 |x::xs,k,X0h=>(bif (bif (bif (x.Record.Key==X9z) then (decide (Xi.Start<=x.Record.Time)) else false) then (decide (x.Record.Time<Xi.End)) else false) then ((bif (x.Side==(0:Int)) then ((X7y X0h.e0 x.Record.Value).bind fun v93=>some (V2.mk v93 X0h.e1)) else (bif (x.Side==(1:Int)) then ((X7y X0h.e1 x.Record.Value).bind fun v96=>some (V2.mk X0h.e0 v96)) else none):Option ((V2 X0b))).bind fun X01i=>some X01i) else (some X0h):Option ((V2 X0b))).bind fun X01l=>X6h X1s X9z Xf Xi X1t xs (k+1) X01l
def Xfg (a0:Xu) (a1:(List Xv)) (a2:Int) (a3:Xr):Option (X0t×Bool) :=
 (X2o (List.length a1)).bind fun u1=>(X6h  a1 a2 a0 a3 (X0t.mk 0 (Xr.mk 0 0) (V2.mk 0 0)) a1 0 (V2.mk (X0b.mk 0 0 0 0) (X0b.mk 0 0 0 0))).bind fun o100=>match o100 with|.x0 X0q=>((bif (X0q.e0.Count==(0:Int)) then (some (bif (X0q.e0.Count==(0:Int)) then true else false)) else (bif a0.Join then (some (bif (X0q.e0.Count==(0:Int)) then true else (bif a0.Join then (X0q.e1.Count==(0:Int)) else false))) else (some (bif (X0q.e0.Count==(0:Int)) then true else (bif a0.Join then false else false)))):Option (Bool)).bind fun Xv0=>bif Xv0 then (some ((X0t.mk 0 (Xr.mk 0 0) (V2.mk 0 0)),false)) else ((Xav a0.Agg X0q.e0).bind fun v109=>(bif a0.Join then ((Xav a0.Agg X0q.e1).bind fun v116=>some (X0t.mk ((X0t.mk a2 a3 (V2.mk 0 0)).Key) ((X0t.mk a2 a3 (V2.mk 0 0)).Span) (V2.mk v109 v116))) else (some (X0t.mk ((X0t.mk a2 a3 (V2.mk 0 0)).Key) ((X0t.mk a2 a3 (V2.mk 0 0)).Span) (V2.mk v109 (((X0t.mk a2 a3 (V2.mk 0 0)).Values).e1)))):Option (X0t)).bind fun Xuz=>some (Xuz,true)))
def Xg9 (a0:X8) (a1:X8):Option (Bool) :=
 bif (a0.Span.End != a1.Span.End) then (some (decide (a0.Span.End<a1.Span.End))) else (bif (a0.Span.Start != a1.Span.Start) then (some (decide (a0.Span.Start<a1.Span.Start))) else (some (decide (a0.Key<a1.Key))))
def Xdd (a0:X0t) (a1:X0t):Option (Bool) :=
 (Xg9 (X8.mk a0.Key a0.Span (V2.mk (X0b.mk 0 0 0 0) (X0b.mk 0 0 0 0))) (X8.mk a1.Key a1.Span (V2.mk (X0b.mk 0 0 0 0) (X0b.mk 0 0 0 0)))).bind fun v1=>some v1
inductive Xbd where
 |x0 (X5d:(List X0t))
def X5h (Xev:Xu) (y2_5:(List Xv)) (Xt0:Int) (y2_8:Int) (y2_9:(List Xr)) (Xt6:Int):Nat->(List X0t)->Int->Option Xbd
 |0,_,_=>none
 |n+1,X92,Xew=>(bif (decide (Xew>(0:Int))) then ((X1p X92 Xew).bind fun e2543=>(X1p X92 (IntKind.i64.wrap (Xew - 1))).bind fun e2545=>(Xdd e2543 e2545).bind fun v2547=>some (bif (decide (Xew>(0:Int))) then v2547 else false)) else (some false):Option (Bool)).bind fun Xmf=>bif Xmf then ((X1p X92 (IntKind.i64.wrap (Xew - 1))).bind fun e2551=>(X1p X92 Xew).bind fun e2553=>(X1p (List.set X92 (Int.toNat Xew) e2551) (IntKind.i64.wrap (Xew - 1))).bind fun e2555=>X5h Xev y2_5 Xt0 y2_8 y2_9 Xt6 n (List.set (List.set X92 (Int.toNat Xew) e2551) (Int.toNat (IntKind.i64.wrap (Xew - 1))) e2553) (IntKind.i64.wrap (Xew - 1))) else (some (.x0 X92))
inductive Xbe where
 |x0 (X1z:(List X0t))
def X35 (X1m:Xu) (Xiv:(List Xv)) (Xf4:Int) (Xwy:Int) (Xot:(List Xr)):List Xr->Nat->(List X0t)->Option Xbe
 |[],k,X3p=>some (.x0 X3p)
 |x::xs,k,X3p=>(X1p Xiv Xf4).bind fun e2447=>(bif (decide (e2447.Record.Time<x.Start)) then (some (bif (bif (decide (e2447.Record.Time<x.Start)) then true else false) then true else false)) else (bif (decide (e2447.Record.Time >= x.End)) then (some (bif (bif (decide (e2447.Record.Time<x.Start)) then true else (decide (e2447.Record.Time >= x.End))) then true else false)) else ((Xfh X3p Xwy x).bind fun v2456=>some (bif (bif (decide (e2447.Record.Time<x.Start)) then true else (decide (e2447.Record.Time >= x.End))) then true else v2456))):Option (Bool)).bind fun Xpq=>bif Xpq then (X35 X1m Xiv Xf4 Xwy Xot xs (k+1) X3p) else ((Xfg X1m Xiv Xwy x).bind fun v2460=>bif (!v2460.2) then (X35 X1m Xiv Xf4 Xwy Xot xs (k+1) X3p) else ((X1l (List.length (X3p++[v2460.1])) 40).bind fun u2463=>(X5h  X1m Xiv Xf4 Xwy Xot (k:Int) FU (X3p++[v2460.1]) (IntKind.i64.wrap ((List.length (X3p++[v2460.1]):Int) - 1))).bind fun o2568=>match o2568 with|.x0 X5d=>(X35 X1m Xiv Xf4 Xwy Xot xs (k+1) X5d)))
inductive Xbf where
 |x0 (Xe:(List X0t))
def X4k (Xf:Xu) (Xnb:(List Xv)):List Xv->Nat->(List X0t)->Option Xbf
 |[],k,Xi=>some (.x0 Xi)
 |x::xs,k,Xi=>(X6o Xf.Window Xnb x.Record.Key).bind fun v2018=>(X2o (List.length v2018)).bind fun u2020=>(X35  Xf Xnb (k:Int) x.Record.Key v2018 v2018 0 Xi).bind fun o2659=>match o2659 with|.x0 X1z=>(X4k Xf Xnb xs (k+1) X1z)
def Xdb (a0:Xu) (a1:(List (List Xk))):Option ((List X0t)) :=
 (Xdc a0 a1).bind fun v1=>(X2o (List.length v1)).bind fun u3=>(X4k  a0 v1 v1 0 ([]:List X0t)).bind fun o3024=>match o3024 with|.x0 Xe=>(some Xe)
inductive Xbi where
 |x0 (Xe:(List X7))
def X37 (X1s:(List (List Xk))) (Xf:Xu):Nat->(List X7)->Int->Option Xbi
 |0,_,_=>none
 |n+1,Xi,Xht=>bif (bif (decide (Xht<(List.length X1s:Int))) then (Xf.Late==(2:Int)) else false) then ((X1p X1s Xht).bind fun e35=>(X6p e35 true).bind fun v37=>bif (List.isEmpty v37) then (X37 X1s Xf n (Xi++v37) (IntKind.i64.wrap (Xht+1))) else ((X1l (List.length (Xi++v37)) 24).bind fun u40=>X37 X1s Xf n (Xi++v37) (IntKind.i64.wrap (Xht+1)))) else (some (.x0 Xi))
def Xde (a0:Xu) (a1:(List (List Xk))):Option ((List X7)) :=
 (X37  a1 a0 FU ([]:List X7) 0).bind fun o50=>match o50 with|.x0 Xe=>(some Xe)
def X72 (a0:Xu) (a1:(List (List Xk))):Option ((List X0t)×(List X7)×Int) :=
 (Xbj a0 a1).bind fun v1=>bif (v1 != (0:Int)) then (some (([]:List X0t),([]:List X7),v1)) else ((Xdb a0 a1).bind fun v4=>(Xde a0 a1).bind fun v6=>some (v4,v6,0))
def Xcc (a0:X7):Option ((List Int)) :=
 some [a0.Time,a0.Key,a0.Value]
inductive X79 where
 |x0
 |x1 (X6z:Bool)
def X4v (X00:(List Int)) (X1s:(List Int)):List Int->Nat->Option X79
 |[],k=>some (.x0)
 |x::xs,k=>(X1p X1s (k:Int)).bind fun e10=>bif (x != e10) then (some (.x1 (decide (x<e10)))) else (X4v X00 X1s xs (k+1))
def Xb8 (a0:(List Int)) (a1:(List Int)):Option (Bool) :=
 (X2o (List.length a0)).bind fun u1=>(X4v  a0 a1 a0 0).bind fun o13=>match o13 with|.x0=>(some false)|.x1 X6z=>(some X6z)
inductive Xab where
 |x0 (Xe:(List Int))
def X34 (X00:(List (List Int))) (Xgq:(List Int)) (X84:(List Int)):Nat->(List Int)->Int->Int->Option Xab
 |0,_,_,_=>none
 |n+1,Xf,X85,Xf7=>(bif (decide (X85<(List.length Xgq:Int))) then (some (bif (decide (X85<(List.length Xgq:Int))) then true else false)) else (some (bif (decide (X85<(List.length Xgq:Int))) then true else (decide (Xf7<(List.length X84:Int))))):Option (Bool)).bind fun Xux=>bif Xux then ((bif (Xf7==(List.length X84:Int)) then (some true) else (bif (decide (X85<(List.length Xgq:Int))) then ((X1p X84 Xf7).bind fun e188=>(X1p X00 e188).bind fun e190=>(X1p Xgq X85).bind fun e192=>(X1p X00 e192).bind fun e194=>(Xb8 e190 e194).bind fun v196=>some (bif (Xf7==(List.length X84:Int)) then true else (bif (decide (X85<(List.length Xgq:Int))) then (!v196) else false))) else (some (bif (Xf7==(List.length X84:Int)) then true else false))):Option (Bool)).bind fun Xuw=>bif Xuw then ((X1p Xgq X85).bind fun e200=>(X1l (List.length (Xf++[e200])) 8).bind fun u202=>X34 X00 Xgq X84 n (Xf++[e200]) (IntKind.i64.wrap (X85+1)) Xf7) else ((X1p X84 Xf7).bind fun e204=>(X1l (List.length (Xf++[e204])) 8).bind fun u206=>X34 X00 Xgq X84 n (Xf++[e204]) X85 (IntKind.i64.wrap (Xf7+1)))) else (some (.x0 Xf))
def X4u:Nat->(List (List Int))->Int->Int->Option ((List Int))
 |0,_,_,_=>none
 |n+1,a0,a1,a2=>bif (decide ((IntKind.i64.wrap (a2 - a1))<(2:Int))) then (bif (decide (a2>a1)) then (some [a1]) else (some ([]:List Int))) else (((X4u n) a0 a1 (IntKind.i64.wrap (Int.tdiv (IntKind.i64.wrap (a1+a2)) 2))).bind fun v3=>((X4u n) a0 (IntKind.i64.wrap (Int.tdiv (IntKind.i64.wrap (a1+a2)) 2)) a2).bind fun v5=>(X34  a0 v3 v5 FU ([]:List Int) 0 0).bind fun o248=>match o248 with|.x0 Xe=>(some Xe))
inductive Xba where
 |x0 (Xe:(List (List Int)))
def X4j (X00:(List X7)):List X7->Nat->(List (List Int))->Option Xba
 |[],k,Xf=>some (.x0 Xf)
 |x::xs,k,Xf=>(Xcc x).bind fun v21=>(X1l (List.length (Xf++[v21])) 24).bind fun u23=>X4j X00 xs (k+1) (Xf++[v21])
inductive Xb9 where
 |x0 (X5e:(List X7))
def X4i (Xky:(List X7)) (Xiu:(List Int)):List Int->Nat->(List X7)->Option Xb9
 |[],k,X1m=>some (.x0 X1m)
 |x::xs,k,X1m=>(X1p Xky x).bind fun e52=>(X1l (List.length (X1m++[e52])) 24).bind fun u54=>X4i Xky Xiu xs (k+1) (X1m++[e52])
def Xda (a0:(List X7)):Option ((List X7)×Int) :=
 bif (decide ((List.length a0:Int)>(4000:Int))) then (some (([]:List X7),4)) else ((X2o (List.length a0)).bind fun u2=>(X4j  a0 a0 0 ([]:List (List Int))).bind fun o29=>match o29 with|.x0 Xe=>((X4u FU Xe 0 (List.length Xe:Int)).bind fun v31=>(X2o (List.length v31)).bind fun u33=>(X4i  a0 v31 v31 0 ([]:List X7)).bind fun o60=>match o60 with|.x0 X5e=>(some (X5e,0))))
inductive Xac where
 |x0 (Xe:(List X0t))
def X3v (X00:(List X0t)) (X1s:Int):List X0t->Nat->(List X0t)->Option Xac
 |[],k,Xf=>some (.x0 Xf)
 |x::xs,k,Xf=>(bif (decide (x.Span.End<=X1s)) then ((X1l (List.length (Xf++[x])) 40).bind fun u41=>some (Xf++[x])) else (some Xf):Option ((List X0t))).bind fun Xs0=>X3v X00 X1s xs (k+1) Xs0
def Xbc (a0:(List X0t)) (a1:Int):Option ((List X0t)) :=
 (X2o (List.length a0)).bind fun u1=>(X3v  a0 a1 a0 0 ([]:List X0t)).bind fun o52=>match o52 with|.x0 Xe=>(some Xe)
def Xi0 (a0:X0t):Option ((List Int)) :=
 some [a0.Span.End,a0.Span.Start,a0.Key,a0.Values.e0,a0.Values.e1]
inductive X9d where
 |x0 (Xe:(List (List Int)))
def X3e (X00:(List X0t)):List X0t->Nat->(List (List Int))->Option X9d
 |[],k,Xf=>some (.x0 Xf)
 |x::xs,k,Xf=>(Xi0 x).bind fun v20=>(X1l (List.length (Xf++[v20])) 24).bind fun u22=>X3e X00 xs (k+1) (Xf++[v20])
inductive X9c where
 |x0 (X5e:(List X0t))
def X3d (Xky:(List X0t)) (Xiv:(List Int)):List Int->Nat->(List X0t)->Option X9c
 |[],k,X1m=>some (.x0 X1m)
 |x::xs,k,X1m=>(X1p Xky x).bind fun e51=>(X1l (List.length (X1m++[e51])) 40).bind fun u53=>X3d Xky Xiv xs (k+1) (X1m++[e51])
def Xa4 (a0:(List X0t)):Option ((List X0t)) :=
 (X2o (List.length a0)).bind fun u1=>(X3e  a0 a0 0 ([]:List (List Int))).bind fun o28=>match o28 with|.x0 Xe=>((X4u FU Xe 0 (List.length Xe:Int)).bind fun v30=>(X2o (List.length v30)).bind fun u32=>(X3d  a0 v30 v30 0 ([]:List X0t)).bind fun o59=>match o59 with|.x0 X5e=>(some X5e))
def X6g (a0:Xu) (a1:(List (List Xk))) (a2:Int):Option (X2c×Int) :=
 (X72 a0 a1).bind fun v1=>bif (v1.2.2 != (0:Int)) then (some ((X2c.mk ([]:List X0t) ([]:List X7)),v1.2.2)) else ((Xda v1.2.1).bind fun v4=>(Xbc v1.1 a2).bind fun v6=>(Xa4 v6).bind fun v8=>some ((X2c.mk v8 v4.1),0))
inductive X5g where
 |x0
 |x1
def X2t (X00:(List X0t)) (X1s:(List X0t)):List X0t->Nat->Option X5g
 |[],k=>some (.x0)
 |x::xs,k=>(X1p X1s (k:Int)).bind fun e11=>bif (!(Xq7 x e11)) then (some (.x1)) else (X2t X00 X1s xs (k+1))
def X9u (a0:(List X0t)) (a1:(List X0t)):Option (Bool) :=
 bif ((List.length a0:Int) != (List.length a1:Int)) then (some false) else ((X2o (List.length a0)).bind fun u2=>(X2t  a0 a1 a0 0).bind fun o14=>match o14 with|.x0=>(some true)|.x1=>(some false))
inductive X4c where
 |x0
 |x1
def X21 (X00:(List X7)) (X1s:(List X7)):List X7->Nat->Option X4c
 |[],k=>some (.x0)
 |x::xs,k=>(X1p X1s (k:Int)).bind fun e11=>bif (!(X4b x e11)) then (some (.x1)) else (X21 X00 X1s xs (k+1))
def X6n (a0:(List X7)) (a1:(List X7)):Option (Bool) :=
 bif ((List.length a0:Int) != (List.length a1:Int)) then (some false) else ((X2o (List.length a0)).bind fun u2=>(X21  a0 a1 a0 0).bind fun o14=>match o14 with|.x0=>(some true)|.x1=>(some false))
def Xb7 (a0:X2c) (a1:X2c):Option (Bool) :=
 ((X9u a0.Rows a1.Rows).bind fun v7=>bif v7 then ((X6n a0.Late a1.Late).bind fun v10=>some (bif v7 then v10 else false)) else (some (bif v7 then false else false)):Option (Bool)).bind fun j6_4=>some j6_4
def X2w (a0:Xu) (a1:(List (List Xk))) (a2:Int):Option (Bool) :=
 (X9b a0 a1).bind fun v1=>bif v1 then (some true) else ((X50 a0 a1 a2).bind fun v4=>(X6g a0 a1 a2).bind fun v6=>(Xb7 v4.1 v6.1).bind fun v8=>some (bif v8 then (v4.2==v6.2) else false))
inductive Xnt where
 |x0 (Xe:Int)
def Xch (X0cn:(List Xk)):List Xk->Nat->Int->Option Xnt
 |[],k,Xf=>some (.x0 Xf)
 |x::xs,k,Xf=>(bif x.Mark then (some (if x.Time>Xf then x.Time else Xf)) else (some Xf):Option (Int)).bind fun X0be=>Xch X0cn xs (k+1) X0be
def Xm6 (a0:(List Xk)):Option (Int×Int) :=
 (X9k a0).bind fun v1=>bif (v1 != (0:Int)) then (some (0,v1)) else ((X2o (List.length a0)).bind fun u4=>(Xch  a0 a0 0 (-9223372036854775808)).bind fun o31=>match o31 with|.x0 Xe=>(some (Xe,0)))
inductive Xib where
 |x0 (Xgy:Int)
 |x1 (Xhr:Int)
def X7e (X0cm:(List (List Xk))):List (List Xk)->Nat->Int->Option Xib
 |[],k,Xnb=>some (.x0 Xnb)
 |x::xs,k,Xnb=>(Xm6 x).bind fun v18=>bif (v18.2 != (0:Int)) then (some (.x1 v18.2)) else (X7e X0cm xs (k+1) (if v18.1<Xnb then v18.1 else Xnb))
def Xe6 (a0:(List (List Xk))):Option (Int×Int) :=
 (bif (decide ((List.length a0:Int)<(1:Int))) then (some (bif (decide ((List.length a0:Int)<(1:Int))) then true else false)) else (some (bif (decide ((List.length a0:Int)<(1:Int))) then true else (decide ((List.length a0:Int)>(4:Int))))):Option (Bool)).bind fun X0d6=>bif X0d6 then (some (0,2)) else ((X5y a0).bind fun v6=>bif (v6 != (0:Int)) then (some (0,v6)) else ((X2o (List.length a0)).bind fun u9=>(X7e  a0 a0 0 9223372036854775807).bind fun o21=>match o21 with|.x0 Xgy=>(some (Xgy,0))|.x1 Xhr=>(some (0,Xhr))))
inductive Xlr where
 |x0 (Xai:Int)
def Xi2 (X00:(List (List Xk))):Nat->Int->Int->Option Xlr
 |0,_,_=>none
 |n+1,Xgz,Xzk=>bif (decide (Xzk<(List.length X00:Int))) then ((X1p X00 Xzk).bind fun e17=>(Xdx e17).bind fun v19=>Xi2 X00 n (if v19<Xgz then v19 else Xgz) (IntKind.i64.wrap (Xzk+1))) else (some (.x0 Xgz))
def Xx9 (a0:(List (List Xk))):Option (Int) :=
 (X1p a0 0).bind fun e1=>(Xdx e1).bind fun v3=>(Xi2  a0 FU v3 1).bind fun o21=>match o21 with|.x0 Xai=>(some Xai)
inductive Xgu where
 |x0 (Xe:(List X0t))
def X4m (Xgq:(List X7)) (X5z:Int) (X0cl:(List X0t)):List X0t->Nat->(List X0t)->Option Xgu
 |[],k,Xf=>some (.x0 Xf)
 |x::xs,k,Xf=>(bif (decide (x.Span.End<=X5z)) then ((X1l (List.length (Xf++[x])) 40).bind fun u47=>some (Xf++[x])) else (some Xf):Option ((List X0t))).bind fun X0bd=>X4m Xgq X5z X0cl xs (k+1) X0bd
def X8k (a0:Xu) (a1:(List (List Xk))):Option ((List X0t)×(List X7)×Int) :=
 (X4a a0 a1).bind fun v1=>bif (v1.2.2 != (0:Int)) then (some (([]:List X0t),([]:List X7),v1.2.2)) else ((Xe6 a1).bind fun v4=>bif (v4.2 != (0:Int)) then (some (([]:List X0t),([]:List X7),v4.2)) else ((X2o (List.length v1.1)).bind fun u7=>(X4m  v1.2.1 v4.1 v1.1 v1.1 0 ([]:List X0t)).bind fun o58=>match o58 with|.x0 Xe=>(some (Xe,v1.2.1,0))))
def Xi3 (a0:Xu) (a1:(List (List Xk))):Option ((List X0t)×(List X7)×Int) :=
 (X72 a0 a1).bind fun v1=>bif (v1.2.2 != (0:Int)) then (some (([]:List X0t),([]:List X7),v1.2.2)) else ((Xx9 a1).bind fun v4=>(Xbc v1.1 v4).bind fun v6=>some (v6,v1.2.1,0))
end Go.D
