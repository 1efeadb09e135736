/- Printed by decomp.py: the functions. -/
import Derived.Test.YtfdfgobnpnoomaaGreatDTypesZ
set_option linter.all false

namespace Go.D
def Xaq (a0:(List X03)):Option (Bool) :=
 some (decide ((List.length a0:Int)>(70:Int)))
def Xao (a0:Xw):Option (Bool) :=
 ((Xaq a0.Arg).bind fun v8=>bif v8 then (some (bif (bif v8 then true else false) then true else false)) else ((Xaq a0.Where).bind fun v11=>bif v11 then (some (bif (bif v8 then true else v11) then true else false)) else (some (bif (bif v8 then true else v11) then true else (decide ((List.length a0.Sources:Int)>(10:Int)))))):Option (Bool)).bind fun j7_2=>some j7_2
inductive X6q where
 |x0
 |x1
def X4h (X07:(List (List Xk))):Nat->Int->Option X6q
 |0,_=>none
 |n+1,X9s=>bif (bif (decide (X9s<(List.length X07:Int))) then (decide (X9s<(7:Int))) else false) then (((X1q X07 X9s).bind fun e27=>bif (decide ((List.length e27:Int)>(20:Int))) then (some (bif (decide ((List.length e27:Int)>(20:Int))) then ((List.length e27:Int) != (61:Int)) else false)) else (some (bif (decide ((List.length e27:Int)>(20:Int))) then false else false)):Option (Bool)).bind fun Xzd=>bif Xzd then (some (.x0)) else (X4h X07 n (IntKind.i64.wrap (X9s+1)))) else (some (.x1))
def Xai (a0:(List (List Xk))):Option (Bool) :=
 (X4h  a0 FU 0).bind fun o32=>match o32 with|.x0=>(some true)|.x1=>(some (decide ((List.length a0:Int)>(6:Int))))
def Xco (a0:Int):Option (Bool) :=
 some (bif (decide (a0 >= ((-1099511627776):Int))) then (decide (a0<=(1099511627776:Int))) else false)
inductive X7v where
 |x0
 |x1
def X57 (X4m:(List Xk)):List Xk->Nat->Option X7v
 |[],k=>some (.x0)
 |x::xs,k=>(bif (X3s x.Record (Xc.mk 0 0 0)) then ((Xco x.Time).bind fun v49=>bif v49 then (some (bif (X3s x.Record (Xc.mk 0 0 0)) then (bif v49 then true else false) else false)) else (some (bif (X3s x.Record (Xc.mk 0 0 0)) then (bif v49 then true else (x.Time==(9223372036854775807:Int))) else false))) else (some (bif (X3s x.Record (Xc.mk 0 0 0)) then false else false)):Option (Bool)).bind fun X035=>(bif (x.Time==(0:Int)) then ((Xco x.Record.Time).bind fun v58=>some (bif (x.Time==(0:Int)) then v58 else false)) else (some (bif (x.Time==(0:Int)) then false else false)):Option (Bool)).bind fun X06r=>bif (bif (bif x.Mark then (!X035) else false) then true else (bif (!x.Mark) then (!X06r) else false)) then (some (.x1)) else (X57 X4m xs (k+1))
def X8p (a0:(List Xk)):Option (Int) :=
 bif (decide ((List.length a0:Int)>(60:Int))) then (some 4) else ((X3f (List.length a0)).bind fun u2=>(X57  a0 a0 0).bind fun o62=>match o62 with|.x0=>(some 0)|.x1=>(some 8))
inductive X56 where
 |x0
 |x1 (X4n:Int)
def X2j (Xgi:(List (List Xk))):List (List Xk)->Nat->Option X56
 |[],k=>some (.x0)
 |x::xs,k=>(X8p x).bind fun v10=>bif (v10 != (0:Int)) then (some (.x1 v10)) else (X2j Xgi xs (k+1))
def X5f (a0:(List (List Xk))):Option (Int) :=
 (X3f (List.length a0)).bind fun u1=>(X2j  a0 a0 0).bind fun o13=>match o13 with|.x0=>(some 0)|.x1 X4n=>(some X4n)
inductive Xc0 where
 |x0 (Xg:Int)
def X60 (Xnb:(List Xk)):List Xk->Nat->Int->Option Xc0
 |[],k,Xf=>some (.x0 Xf)
 |x::xs,k,Xf=>(bif x.Mark then (some (if x.Time>Xf then x.Time else Xf)) else (some Xf):Option (Int)).bind fun Xzc=>X60 Xnb xs (k+1) Xzc
def Xej (a0:(List Xk)):Option (Int×Int) :=
 (X8p a0).bind fun v1=>bif (v1 != (0:Int)) then (some (0,v1)) else ((X3f (List.length a0)).bind fun u4=>(X60  a0 a0 0 (-9223372036854775808)).bind fun o31=>match o31 with|.x0 Xg=>(some (Xg,0)))
inductive X5n where
 |x0 (Xb8:Int)
 |x1 (Xc9:Int)
def X3a (Xna:(List (List Xk))):List (List Xk)->Nat->Int->Option X5n
 |[],k,Xif=>some (.x0 Xif)
 |x::xs,k,Xif=>(Xej x).bind fun v18=>bif (v18.2 != (0:Int)) then (some (.x1 v18.2)) else (X3a Xna xs (k+1) (if v18.1<Xif then v18.1 else Xif))
def X2u (a0:(List (List Xk))):Option (Int×Int) :=
 (bif (decide ((List.length a0:Int)<(1:Int))) then (some (bif (decide ((List.length a0:Int)<(1:Int))) then true else false)) else (some (bif (decide ((List.length a0:Int)<(1:Int))) then true else (decide ((List.length a0:Int)>(4:Int))))):Option (Bool)).bind fun X074=>bif X074 then (some (0,2)) else ((X5f a0).bind fun v6=>bif (v6 != (0:Int)) then (some (0,v6)) else ((X3f (List.length a0)).bind fun u9=>(X3a  a0 a0 0 9223372036854775807).bind fun o21=>match o21 with|.x0 Xb8=>(some (Xb8,0))|.x1 Xc9=>(some (0,Xc9))))
def X54 (a0:Int) (a1:Int):Option (Int) :=
 bif (bif (decide (a1<(1:Int))) then true else (decide (a1>(1073741824:Int)))) then (some 2) else (bif (bif (decide (a0<((-1099511627776):Int))) then true else (decide (a0>(1099511627776:Int)))) then (some 16) else (some 0))
def Xak (a0:Xk):Option (Bool) :=
 bif a0.Mark then ((bif (X3s a0.Record (Xc.mk 0 0 0)) then (bif (a0.Time==(9223372036854775807:Int)) then (some (bif (X3s a0.Record (Xc.mk 0 0 0)) then (bif (a0.Time==(9223372036854775807:Int)) then true else false) else false)) else ((X54 a0.Time 1).bind fun v9=>some (bif (X3s a0.Record (Xc.mk 0 0 0)) then (bif (a0.Time==(9223372036854775807:Int)) then true else (v9==(0:Int))) else false))) else (some (bif (X3s a0.Record (Xc.mk 0 0 0)) then false else false)):Option (Bool)).bind fun j6_2=>some j6_2) else ((bif (a0.Time==(0:Int)) then ((X54 a0.Record.Time 1).bind fun v17=>some (bif (a0.Time==(0:Int)) then (v17==(0:Int)) else false)) else (some (bif (a0.Time==(0:Int)) then false else false)):Option (Bool)).bind fun X078=>some X078)
inductive X6r where
 |x0
 |x1
def X4i (X07:(List Xk)):List Xk->Nat->Option X6r
 |[],k=>some (.x0)
 |x::xs,k=>(Xak x).bind fun v11=>bif (!v11) then (some (.x1)) else (X4i X07 xs (k+1))
def Xal (a0:(List Xk)):Option (Int) :=
 bif (decide ((List.length a0:Int)>(60:Int))) then (some 4) else ((X3f (List.length a0)).bind fun u2=>(X4i  a0 a0 0).bind fun o14=>match o14 with|.x0=>(some 0)|.x1=>(some 8))
inductive X6p where
 |x0
 |x1 (X4n:Int)
def X4g (X07:(List (List Xk))):List (List Xk)->Nat->Option X6p
 |[],k=>some (.x0)
 |x::xs,k=>(Xal x).bind fun v10=>bif (v10 != (0:Int)) then (some (.x1 v10)) else (X4g X07 xs (k+1))
def X8j (a0:(List (List Xk))):Option (Int) :=
 (X3f (List.length a0)).bind fun u1=>(X4g  a0 a0 0).bind fun o13=>match o13 with|.x0=>(some 0)|.x1 X4n=>(some X4n)
inductive Xd5 where
 |x0 (X77:Int)
def X70 (X07:(List Xk)):List Xk->Nat->Int->Option Xd5
 |[],k,X9s=>some (.x0 X9s)
 |x::xs,k,X9s=>(bif x.Mark then (some (bif x.Mark then (decide (x.Time>X9s)) else false)) else (some (bif x.Mark then false else false)):Option (Bool)).bind fun Xzk=>(bif Xzk then (some x.Time) else (some X9s):Option (Int)).bind fun X077=>X70 X07 xs (k+1) X077
def Xd6 (a0:(List Xk)):Option (Int) :=
 (X3f (List.length a0)).bind fun u1=>(X70  a0 a0 0 (-9223372036854775808)).bind fun o28=>match o28 with|.x0 X77=>(some X77)
inductive Xag where
 |x0 (X77:Int)
def X51 (X07:(List (List Xk))):Nat->Int->Int->Option Xag
 |0,_,_=>none
 |n+1,X9s,Xr3=>bif (decide (Xr3<(List.length X07:Int))) then ((X1q X07 Xr3).bind fun e17=>(Xd6 e17).bind fun v19=>X51 X07 n (if v19<X9s then v19 else X9s) (IntKind.i64.wrap (Xr3+1))) else (some (.x0 X9s))
def X9v (a0:(List (List Xk))):Option (Int) :=
 (X1q a0 0).bind fun e1=>(Xd6 e1).bind fun v3=>(X51  a0 FU v3 1).bind fun o21=>match o21 with|.x0 X77=>(some X77)
def X5x (a0:(List (List Xk))):Option (Int×Int) :=
 (bif ((List.length a0:Int)==(0:Int)) then (some (bif ((List.length a0:Int)==(0:Int)) then true else false)) else (some (bif ((List.length a0:Int)==(0:Int)) then true else (decide ((List.length a0:Int)>(4:Int))))):Option (Bool)).bind fun X075=>bif X075 then (some (0,2)) else ((X8j a0).bind fun v6=>bif (v6 != (0:Int)) then (some (0,v6)) else ((X9v a0).bind fun v9=>some (v9,0)))
def Xau (a0:Int):Option (Int×Int) :=
 bif (bif (decide (a0 >= (1:Int))) then (decide (a0<=(4:Int))) else false) then (some (0,0)) else (bif (bif (a0==(5:Int)) then true else (a0==(6:Int))) then (some (1,0)) else (bif (bif (decide (a0 >= (7:Int))) then (decide (a0<=(19:Int))) else false) then (some (2,0)) else (some (0,2))))
inductive X5y where
 |x0 (Xg:(List Xo)) (X0r:(List Xo))
 |x1 (X0d:(List Xo))
def X22 (X5u:(List X03)):List X03->Nat->(List Xo)->(List Xo)->Option X5y
 |[],k,Xf,Xi=>some (.x0 Xf Xi)
 |x::xs,k,Xf,Xi=>(Xau x.Kind).bind fun v318=>(bif (v318.2 != (0:Int)) then (some (bif (v318.2 != (0:Int)) then true else false)) else (some (bif (v318.2 != (0:Int)) then true else (decide (v318.1>(List.length Xi:Int))))):Option (Bool)).bind fun Xsi=>bif Xsi then (some (.x1 Xf)) else ((X6k Xi 0 (IntKind.i64.wrap ((List.length Xi:Int) - v318.1))).bind fun m331=>(X6k Xi (IntKind.i64.wrap ((List.length Xi:Int) - v318.1)) (List.length Xi:Int)).bind fun m333=>bif (List.isEmpty m333) then ((bif (x.Kind==(1:Int)) then (some (X03.mk x.Kind (if 0>x.N then 0 else x.N) 0 0 (if 400<(if 0>x.At then 0 else x.At) then 400 else (if 0>x.At then 0 else x.At)))) else (some (X03.mk x.Kind 0 0 0 (if 400<(if 0>x.At then 0 else x.At) then 400 else (if 0>x.At then 0 else x.At)))):Option (X03)).bind fun Xsh=>bif (!(X81 Xsh x)) then (some (.x1 Xf)) else ((X1t (List.length (m331++[(Xo.mk (k:Int) 1 1)])) 24).bind fun u341=>(X1t (List.length (Xf++[(Xo.mk (k:Int) 1 1)])) 24).bind fun u343=>X22 X5u xs (k+1) (Xf++[(Xo.mk (k:Int) 1 1)]) (m331++[(Xo.mk (k:Int) 1 1)]))) else (bif ((List.length m333:Int)==(1:Int)) then ((X1q m333 0).bind fun e346=>(bif (x.Kind==(1:Int)) then (some (X03.mk x.Kind (if 0>x.N then 0 else x.N) e346.at_ 0 (if 400<(if 0>x.At then 0 else x.At) then 400 else (if 0>x.At then 0 else x.At)))) else (some (X03.mk x.Kind 0 e346.at_ 0 (if 400<(if 0>x.At then 0 else x.At) then 400 else (if 0>x.At then 0 else x.At)))):Option (X03)).bind fun Xsg=>bif (!(X81 Xsg x)) then (some (.x1 Xf)) else ((X1t (List.length (m331++[(Xo.mk (k:Int) (IntKind.i64.wrap (1+e346.size)) (if (IntKind.i64.wrap (e346.depth+1))>1 then (IntKind.i64.wrap (e346.depth+1)) else 1))])) 24).bind fun u353=>(X1t (List.length (Xf++[(Xo.mk (k:Int) (IntKind.i64.wrap (1+e346.size)) (if (IntKind.i64.wrap (e346.depth+1))>1 then (IntKind.i64.wrap (e346.depth+1)) else 1))])) 24).bind fun u355=>X22 X5u xs (k+1) (Xf++[(Xo.mk (k:Int) (IntKind.i64.wrap (1+e346.size)) (if (IntKind.i64.wrap (e346.depth+1))>1 then (IntKind.i64.wrap (e346.depth+1)) else 1))]) (m331++[(Xo.mk (k:Int) (IntKind.i64.wrap (1+e346.size)) (if (IntKind.i64.wrap (e346.depth+1))>1 then (IntKind.i64.wrap (e346.depth+1)) else 1))]))) else (bif ((List.length m333:Int)==(2:Int)) then ((X1q m333 0).bind fun e358=>(X1q m333 1).bind fun e360=>(bif (x.Kind==(1:Int)) then (some (X03.mk x.Kind (if 0>x.N then 0 else x.N) e358.at_ e360.at_ (if 400<(if 0>x.At then 0 else x.At) then 400 else (if 0>x.At then 0 else x.At)))) else (some (X03.mk x.Kind 0 e358.at_ e360.at_ (if 400<(if 0>x.At then 0 else x.At) then 400 else (if 0>x.At then 0 else x.At)))):Option (X03)).bind fun Xsf=>bif (!(X81 Xsf x)) then (some (.x1 Xf)) else ((X1t (List.length (m331++[(Xo.mk (k:Int) (IntKind.i64.wrap ((IntKind.i64.wrap (1+e358.size))+e360.size)) (if (IntKind.i64.wrap (e360.depth+1))>(if (IntKind.i64.wrap (e358.depth+1))>1 then (IntKind.i64.wrap (e358.depth+1)) else 1) then (IntKind.i64.wrap (e360.depth+1)) else (if (IntKind.i64.wrap (e358.depth+1))>1 then (IntKind.i64.wrap (e358.depth+1)) else 1)))])) 24).bind fun u367=>(X1t (List.length (Xf++[(Xo.mk (k:Int) (IntKind.i64.wrap ((IntKind.i64.wrap (1+e358.size))+e360.size)) (if (IntKind.i64.wrap (e360.depth+1))>(if (IntKind.i64.wrap (e358.depth+1))>1 then (IntKind.i64.wrap (e358.depth+1)) else 1) then (IntKind.i64.wrap (e360.depth+1)) else (if (IntKind.i64.wrap (e358.depth+1))>1 then (IntKind.i64.wrap (e358.depth+1)) else 1)))])) 24).bind fun u369=>X22 X5u xs (k+1) (Xf++[(Xo.mk (k:Int) (IntKind.i64.wrap ((IntKind.i64.wrap (1+e358.size))+e360.size)) (if (IntKind.i64.wrap (e360.depth+1))>(if (IntKind.i64.wrap (e358.depth+1))>1 then (IntKind.i64.wrap (e358.depth+1)) else 1) then (IntKind.i64.wrap (e360.depth+1)) else (if (IntKind.i64.wrap (e358.depth+1))>1 then (IntKind.i64.wrap (e358.depth+1)) else 1)))]) (m331++[(Xo.mk (k:Int) (IntKind.i64.wrap ((IntKind.i64.wrap (1+e358.size))+e360.size)) (if (IntKind.i64.wrap (e360.depth+1))>(if (IntKind.i64.wrap (e358.depth+1))>1 then (IntKind.i64.wrap (e358.depth+1)) else 1) then (IntKind.i64.wrap (e360.depth+1)) else (if (IntKind.i64.wrap (e358.depth+1))>1 then (IntKind.i64.wrap (e358.depth+1)) else 1)))]))) else none)))
def Xfc (a0:(List X03)):Option ((List Xo)×Bool) :=
 (X3f (List.length a0)).bind fun u1=>(X22  a0 a0 0 ([]:List Xo) ([]:List Xo)).bind fun o475=>match o475 with|.x0 Xg X0r=>(some (Xg,((List.length X0r:Int)==(1:Int))))|.x1 X0d=>(some (X0d,false))
def Xat (a0:(List X03)):Option ((List Xo)×Int) :=
 bif (decide ((List.length a0:Int)>(60:Int))) then (some (([]:List Xo),4)) else ((Xfc a0).bind fun v2=>bif (!v2.2) then (some (([]:List Xo),8)) else ((X1q v2.1 (IntKind.i64.wrap ((List.length v2.1:Int) - 1))).bind fun e5=>bif (decide (e5.depth>(20:Int))) then (some (([]:List Xo),34)) else (some (v2.1,0))))
def X5z (a0:(List X03)):Option (Int) :=
 (Xat a0).bind fun v1=>some v1.2
def X6c (a0:Int):Option (Bool) :=
 some (bif (decide (a0<(0:Int))) then true else (decide (a0 >= (4:Int))))
inductive X21 where
 |x0
 |x1 (Xb7:Int)
def X0x (X07:(List Int)):List Int->Nat->Option X21
 |[],k=>some (.x0)
 |x::xs,k=>(X6c x).bind fun v10=>bif v10 then (some (.x1 (k:Int))) else (X0x X07 xs (k+1))
def X0w (a0:(List Int)):Option (Int) :=
 (X3f (List.length a0)).bind fun u1=>(X0x  a0 a0 0).bind fun o13=>match o13 with|.x0=>(some (-1))|.x1 Xb7=>(some Xb7)
def X06 (a0:(List Int)):Option (Bool) :=
 (X0w a0).bind fun v1=>some (decide (v1 >= (0:Int)))
def X3e (l:List Int):Option Int:=(X3f (List.length l)).bind fun _=>some ((X97 [] l).length:Int)
def X2c (a0:(List Int)) (a1:Bool):Option (Int) :=
 bif (decide ((List.length a0:Int)>(4:Int))) then (some 4) else ((bif ((List.length a0:Int)==(0:Int)) then (some (bif (bif ((List.length a0:Int)==(0:Int)) then true else false) then true else false)) else (bif a1 then (bif ((List.length a0:Int) != (2:Int)) then (some (bif (bif ((List.length a0:Int)==(0:Int)) then true else (bif a1 then ((List.length a0:Int) != (2:Int)) else false)) then true else false)) else ((X06 a0).bind fun v13=>some (bif (bif ((List.length a0:Int)==(0:Int)) then true else (bif a1 then ((List.length a0:Int) != (2:Int)) else false)) then true else v13))) else ((X06 a0).bind fun v15=>some (bif (bif ((List.length a0:Int)==(0:Int)) then true else (bif a1 then false else false)) then true else v15))):Option (Bool)).bind fun X06k=>bif X06k then (some 8) else ((X3e a0).bind fun v19=>bif (decide (v19<(List.length a0:Int))) then (some 43) else (some 0)))
def X17 (a0:X0h):Option (Int) :=
 bif (bif (decide (a0.Size<(1:Int))) then true else (decide (a0.Size>(1073741824:Int)))) then (some 8) else (bif (a0.Kind==(2:Int)) then (bif (bif (bif (decide (a0.Every >= (1:Int))) then (decide (a0.Every<=a0.Size)) else false) then (decide (a0.Size<=(IntKind.i64.wrap (16*a0.Every)))) else false) then (some 0) else (some 8)) else (bif (a0.Kind==(1:Int)) then (bif (a0.Every==(0:Int)) then (some 0) else (some 8)) else (bif (a0.Kind==(3:Int)) then (bif (a0.Every==(0:Int)) then (some 0) else (some 8)) else (some 8))))
def X85 (a0:Xw):Option (Int) :=
 bif (bif (bif (decide (a0.Agg<(1:Int))) then true else (decide (a0.Agg>(4:Int)))) then true else (bif (a0.Late != (1:Int)) then (a0.Late != (2:Int)) else false)) then (some 8) else (bif (a0.Agg != (1:Int)) then ((X5z a0.Arg).bind fun v3=>bif (v3 != (0:Int)) then (some v3) else (bif (decide ((List.length a0.Where:Int)>(0:Int))) then ((X5z a0.Where).bind fun v7=>bif (v7 != (0:Int)) then (some v7) else ((X2c a0.Sources a0.Join).bind fun v10=>bif (v10 != (0:Int)) then (some v10) else (bif (bif a0.Join then (a0.Window.Kind != (1:Int)) else false) then (some 8) else ((X17 a0.Window).bind fun v14=>some v14)))) else ((X2c a0.Sources a0.Join).bind fun v16=>bif (v16 != (0:Int)) then (some v16) else (bif (bif a0.Join then (a0.Window.Kind != (1:Int)) else false) then (some 8) else ((X17 a0.Window).bind fun v20=>some v20))))) else (bif (decide ((List.length a0.Arg:Int)>(0:Int))) then (some 8) else (bif (decide ((List.length a0.Where:Int)>(0:Int))) then ((X5z a0.Where).bind fun v24=>bif (v24 != (0:Int)) then (some v24) else ((X2c a0.Sources a0.Join).bind fun v27=>bif (v27 != (0:Int)) then (some v27) else (bif (bif a0.Join then (a0.Window.Kind != (1:Int)) else false) then (some 8) else ((X17 a0.Window).bind fun v31=>some v31)))) else ((X2c a0.Sources a0.Join).bind fun v33=>bif (v33 != (0:Int)) then (some v33) else (bif (bif a0.Join then (a0.Window.Kind != (1:Int)) else false) then (some 8) else ((X17 a0.Window).bind fun v37=>some v37))))))
inductive X25 where
 |x0
 |x1
def X0l (Xi:(List Bool)) (X2i:(V2 Bool)) (X0m:(List Int)):List Int->Nat->Option X25
 |[],k=>some (.x0)
 |x::xs,k=>(X1q Xi x).bind fun e3011=>bif (!(e3011==false)) then (some (.x1)) else (X0l Xi X2i X0m xs (k+1))
inductive X1z where
 |x0
 |x1
def X0n (Xi:(List Bool)) (X15:(List Int)):List Int->Nat->Option X1z
 |[],k=>some (.x0)
 |x::xs,k=>(X1q Xi x).bind fun e3127=>bif (!(e3127==true)) then (some (.x1)) else (X0n Xi X15 xs (k+1))
inductive X61 where
 |x0 (X0r:(List Bool))
 |x1 (X0d:(List Bool)) (Xc9:Int)
def X1n (X07:(List X03)):List X03->Nat->(List Bool)->Option X61
 |[],k,Xi=>some (.x0 Xi)
 |x::xs,k,Xi=>bif (decide (x.Kind<=(4:Int))) then ((X1t (List.length (Xi++[false])) 1).bind fun u2525=>X1n X07 xs (k+1) (Xi++[false])) else (bif (x.Kind==(5:Int)) then (((X1q Xi x.A).bind fun e2546=>bif (!(e2546==false)) then (some (bif (!(bif true then false else false)) then (!(bif false then false else false)) else false)) else (some (bif (!(bif true then true else false)) then false else false)):Option (Bool)).bind fun Xo3=>bif Xo3 then (some (.x1 ([]:List Bool) (k:Int))) else ((X1t (List.length (Xi++[false])) 1).bind fun u2551=>X1n X07 xs (k+1) (Xi++[false]))) else (bif (x.Kind==(6:Int)) then (((X1q Xi x.A).bind fun e2571=>bif (!(e2571==true)) then (some false) else (some true):Option (Bool)).bind fun Xo2=>bif (bif (!(bif false then false else false)) then (!(bif true then Xo2 else false)) else false) then (some (.x1 ([]:List Bool) (k:Int))) else ((X1t (List.length (Xi++[true])) 1).bind fun u2576=>X1n X07 xs (k+1) (Xi++[true]))) else ((bif (decide (x.Kind<=(11:Int))) then (some ((V2.mk true false),false)) else (bif (decide (x.Kind<=(15:Int))) then (some ((V2.mk true false),true)) else (bif (decide (x.Kind<=(17:Int))) then (some ((V2.mk true true),true)) else (some ((V2.mk false true),true)))):Option ((V2 Bool)×Bool)).bind fun w2581=>(bif w2581.1.e0 then (((X3f (List.length [x.A,x.B])).bind fun u2980=>(X0l  Xi w2581.1 [x.A,x.B] [x.A,x.B] 0).bind fun o3016=>match o3016 with|.x0=>(some true)|.x1=>(some false):Option (Bool)).bind fun Xdi=>bif (!(bif w2581.1.e0 then Xdi else false)) then (bif w2581.1.e1 then (((X3f (List.length [x.A,x.B])).bind fun u3096=>(X0n  Xi [x.A,x.B] [x.A,x.B] 0).bind fun o3132=>match o3132 with|.x0=>(some true)|.x1=>(some false):Option (Bool)).bind fun Xo0=>some (bif (!(bif w2581.1.e0 then Xdi else false)) then (!(bif w2581.1.e1 then Xo0 else false)) else false)) else (some (bif (!(bif w2581.1.e0 then Xdi else false)) then (!(bif w2581.1.e1 then false else false)) else false))) else (some (bif (!(bif w2581.1.e0 then Xdi else false)) then false else false))) else (bif (!(bif w2581.1.e0 then false else false)) then (bif w2581.1.e1 then (((X3f (List.length [x.A,x.B])).bind fun u3192=>(X0n  Xi [x.A,x.B] [x.A,x.B] 0).bind fun o3218=>match o3218 with|.x0=>(some true)|.x1=>(some false):Option (Bool)).bind fun Xnz=>some (bif (!(bif w2581.1.e0 then false else false)) then (!(bif w2581.1.e1 then Xnz else false)) else false)) else (some (bif (!(bif w2581.1.e0 then false else false)) then (!(bif w2581.1.e1 then false else false)) else false))) else (some (bif (!(bif w2581.1.e0 then false else false)) then false else false))):Option (Bool)).bind fun Xo1=>bif Xo1 then (some (.x1 ([]:List Bool) (k:Int))) else ((X1t (List.length (Xi++[w2581.2])) 1).bind fun u3223=>X1n X07 xs (k+1) (Xi++[w2581.2])))))
def Xfd (a0:(List X03)):Option ((List Bool)×Int) :=
 (X3f (List.length a0)).bind fun u1=>(X1n  a0 a0 0 ([]:List Bool)).bind fun o3784=>match o3784 with|.x0 X0r=>(some (X0r,(List.length a0:Int)))|.x1 X0d Xc9=>(some (X0d,Xc9))
def Xfe (a0:(List X03)):Option (Bool×Int×Int) :=
 (X5z a0).bind fun v1=>bif (v1 != (0:Int)) then (some (false,0,v1)) else ((Xfd a0).bind fun v4=>bif (decide (v4.2<(List.length a0:Int))) then (some (false,v4.2,42)) else ((X1q v4.1 (IntKind.i64.wrap (v4.2 - 1))).bind fun e7=>some (e7,(IntKind.i64.wrap (v4.2 - 1)),0)))
def Xa0 (a0:(List X03)) (a1:Bool):Option (Int×Int) :=
 (Xfe a0).bind fun v1=>(bif (bif (v1.2.2==(0:Int)) then (!(v1.1==a1)) else false) then (some 42) else (some v1.2.2):Option (Int)).bind fun j4_8=>some (v1.2.1,j4_8)
def Xay (a0:(List X03)):Option (Int×Int) :=
 (Xa0 a0 true).bind fun v1=>some (v1.1,v1.2)
def Xbi (a0:(List X03)):Option (Int×Int) :=
 (Xa0 a0 false).bind fun v1=>some (v1.1,v1.2)
def X98 (a0:Xw):Option (Int×Int) :=
 (X85 a0).bind fun v1=>bif (v1 != (0:Int)) then (some (0,v1)) else ((bif ((List.length a0.Arg:Int)==(0:Int)) then (bif ((List.length a0.Where:Int)==(0:Int)) then (some (0,0)) else ((Xay a0.Where).bind fun v25=>bif (v25.2 != (0:Int)) then ((X1q a0.Where v25.1).bind fun e28=>some (e28.At,v25.2)) else (some (0,0)))) else ((Xbi a0.Arg).bind fun v30=>bif (v30.2 != (0:Int)) then ((X1q a0.Arg v30.1).bind fun e33=>some (e33.At,v30.2)) else (bif ((List.length a0.Where:Int)==(0:Int)) then (some (0,0)) else ((Xay a0.Where).bind fun v36=>bif (v36.2 != (0:Int)) then ((X1q a0.Where v36.1).bind fun e39=>some (e39.At,v36.2)) else (some (0,0))))):Option (Int×Int)).bind fun w22=>some (w22.1,w22.2))
inductive Xax where
 |x0 (Xg:(List Xc)) (X0r:(List Xc))
def X46 (Xe4:(List Xk)):List Xk->Nat->(List Xc)->(List Xc)->Int->Option Xax
 |[],k,Xf,Xi,X2i=>some (.x0 Xf Xi)
 |x::xs,k,Xf,Xi,X2i=>(bif x.Mark then (some (if x.Time>X2i then x.Time else X2i)) else (some X2i):Option (Int)).bind fun Xo9=>(bif x.Mark then (some (Xf,Xi)) else (bif (decide (x.Record.Time<X2i)) then ((X1t (List.length (Xi++[x.Record])) 24).bind fun u200=>some (Xf,(Xi++[x.Record]))) else ((X1t (List.length (Xf++[x.Record])) 24).bind fun u202=>some ((Xf++[x.Record]),Xi))):Option ((List Xc)×(List Xc))).bind fun w197=>X46 Xe4 xs (k+1) w197.1 w197.2 Xo9
def Xcp (a0:(List Xk)):Option ((List Xc)×(List Xc)×Int) :=
 (X8p a0).bind fun v1=>bif (v1 != (0:Int)) then (some (([]:List Xc),([]:List Xc),v1)) else ((X3f (List.length a0)).bind fun u4=>(X46  a0 a0 0 ([]:List Xc) ([]:List Xc) (-9223372036854775808)).bind fun o271=>match o271 with|.x0 Xg X0r=>(some (Xg,X0r,0)))
def Xb0 (a0:(List X03)):Option (Int) :=
 (Xfe a0).bind fun v1=>some v1.2.2
def X3z (a0:Bool):Option (Int) :=
 bif a0 then (some 1) else (some 0)
def Xem (a0:Int) (a1:Int) (a2:Int):Option (Int×Int) :=
 bif (a0==(5:Int)) then (some ((IntKind.i64.wrap (0 - a1)),0)) else (bif (a0==(6:Int)) then ((X3z (a1==(0:Int))).bind fun v3=>some (v3,0)) else (bif (a0==(7:Int)) then (some ((IntKind.i64.wrap (a1*a2)),0)) else (bif (a0==(8:Int)) then (some ((IntKind.i64.wrap (a1+a2)),0)) else (bif (a0==(9:Int)) then (some ((IntKind.i64.wrap (a1 - a2)),0)) else (bif (a0==(10:Int)) then ((shOk (bits .and IntKind.i64 a2 63)).bind fun u9=>some ((IntKind.i64.wrap (a1*2 ^ (min (Int.toNat (bits .and IntKind.i64 a2 63)) IntKind.i64.bits))),0)) else (bif (a0==(11:Int)) then ((shOk (bits .and IntKind.i64 a2 63)).bind fun u12=>some ((Int.fdiv a1 (2 ^ (min (Int.toNat (bits .and IntKind.i64 a2 63)) IntKind.i64.bits))),0)) else (bif (a0==(12:Int)) then ((X3z (decide (a1<a2))).bind fun v15=>some (v15,0)) else (bif (a0==(13:Int)) then ((X3z (decide (a1<=a2))).bind fun v18=>some (v18,0)) else (bif (a0==(14:Int)) then ((X3z (decide (a1>a2))).bind fun v21=>some (v21,0)) else (bif (a0==(15:Int)) then ((X3z (decide (a1 >= a2))).bind fun v24=>some (v24,0)) else (bif (a0==(16:Int)) then ((X3z (a1==a2)).bind fun v27=>some (v27,0)) else (bif (a0==(17:Int)) then ((X3z (a1 != a2)).bind fun v30=>some (v30,0)) else (bif (a0==(18:Int)) then ((X3z (bif (a1 != (0:Int)) then (a2 != (0:Int)) else false)).bind fun v33=>some (v33,0)) else (bif (a0==(19:Int)) then ((X3z ((bits .or IntKind.i64 a1 a2) != (0:Int))).bind fun v36=>some (v36,0)) else (some (0,2))))))))))))))))
inductive X90 where
 |x0 (Xg:(List Int))
 |x1 (X0d:(List Int)) (Xc8:Int)
def X63 (Xf:(V5 Int)) (X8e:(List X03)):List X03->Nat->(List Int)->Option X90
 |[],k,Xi=>some (.x0 Xi)
 |x::xs,k,Xi=>bif (x.Kind==(1:Int)) then ((X1q Xi (k:Int)).bind fun e151=>X63 Xf X8e xs (k+1) (List.set Xi (Int.toNat (k:Int)) x.N)) else (bif (decide (x.Kind<=(4:Int))) then ((bif (x.Kind==(0:Int)) then ((X1q Xi (k:Int)).bind fun e168=>some (List.set Xi (Int.toNat (k:Int)) Xf.e0)) else (bif (x.Kind==(2:Int)) then ((X1q Xi (k:Int)).bind fun e171=>some (List.set Xi (Int.toNat (k:Int)) Xf.e2)) else (bif (x.Kind==(3:Int)) then ((X1q Xi (k:Int)).bind fun e174=>some (List.set Xi (Int.toNat (k:Int)) Xf.e3)) else (bif (x.Kind==(4:Int)) then ((X1q Xi (k:Int)).bind fun e177=>some (List.set Xi (Int.toNat (k:Int)) Xf.e4)) else none))):Option ((List Int))).bind fun Xkz=>X63 Xf X8e xs (k+1) Xkz) else ((X1q Xi x.A).bind fun e180=>(X1q Xi x.B).bind fun e182=>(Xem x.Kind e180 e182).bind fun v184=>bif (v184.2 != (0:Int)) then (some (.x1 ([]:List Int) v184.2)) else ((X1q Xi (k:Int)).bind fun e187=>X63 Xf X8e xs (k+1) (List.set Xi (Int.toNat (k:Int)) v184.1))))
inductive X6w where
 |x0 (Xg:(List Int))
 |x1 (X0d:(List Int)) (Xc8:Int)
def X1b (Xf:(V5 Int)) (X8e:(List X03)):List X03->Nat->(List Int)->Option X6w
 |[],k,Xi=>some (.x0 Xi)
 |x::xs,k,Xi=>bif (x.Kind==(1:Int)) then ((X1q Xi (k:Int)).bind fun e304=>X1b Xf X8e xs (k+1) (List.set Xi (Int.toNat (k:Int)) x.N)) else (bif (decide (x.Kind<=(4:Int))) then ((bif (x.Kind==(0:Int)) then ((X1q Xi (k:Int)).bind fun e321=>some (List.set Xi (Int.toNat (k:Int)) Xf.e0)) else (bif (x.Kind==(2:Int)) then ((X1q Xi (k:Int)).bind fun e324=>some (List.set Xi (Int.toNat (k:Int)) Xf.e2)) else (bif (x.Kind==(3:Int)) then ((X1q Xi (k:Int)).bind fun e327=>some (List.set Xi (Int.toNat (k:Int)) Xf.e3)) else (bif (x.Kind==(4:Int)) then ((X1q Xi (k:Int)).bind fun e330=>some (List.set Xi (Int.toNat (k:Int)) Xf.e4)) else none))):Option ((List Int))).bind fun Xny=>X1b Xf X8e xs (k+1) Xny) else ((X1q Xi x.A).bind fun e333=>(X1q Xi x.B).bind fun e335=>(Xem x.Kind e333 e335).bind fun v337=>bif (v337.2 != (0:Int)) then (some (.x1 ([]:List Int) v337.2)) else ((X1q Xi (k:Int)).bind fun e340=>X1b Xf X8e xs (k+1) (List.set Xi (Int.toNat (k:Int)) v337.1))))
def Xez (a0:(List X03)) (a1:Xc):Option ((List Int)×Int) :=
 (Xb0 a0).bind fun v1=>bif (v1 != (0:Int)) then (some (([]:List Int),v1)) else ((mkOk (List.length a0:Int) (List.length a0:Int) 8).bind fun u4=>bif ((List.length a0:Int)==(0:Int)) then ((X3f (List.length a0)).bind fun u7=>(X63  (V5.mk 0 0 a1.Key a1.Time a1.Value) a0 a0 0 (List.replicate (Int.toNat (List.length a0:Int)) 0)).bind fun o220=>match o220 with|.x0 Xg=>(some (Xg,0))|.x1 X0d Xc8=>(some (X0d,Xc8))) else ((X3f (List.length a0)).bind fun u222=>(X1b  (V5.mk 0 0 a1.Key a1.Time a1.Value) a0 a0 0 (List.replicate (Int.toNat (List.length a0:Int)) 0)).bind fun o342=>match o342 with|.x0 Xg=>(some (Xg,0))|.x1 X0d Xc8=>(some (X0d,Xc8))))
def X5o (a0:(List X03)) (a1:Xc):Option (Int×Int) :=
 (Xez a0 a1).bind fun v1=>bif (v1.2 != (0:Int)) then (some (0,v1.2)) else ((X1q v1.1 (IntKind.i64.wrap ((List.length v1.1:Int) - 1))).bind fun e4=>some (e4,0))
def X6m (a0:Xw) (a1:Xc):Option (Xc×Bool) :=
 bif (decide ((List.length a0.Where:Int)>(0:Int))) then ((X5o a0.Where a1).bind fun v2=>bif (bif (v2.2 != (0:Int)) then true else (v2.1==(0:Int))) then (some ((Xc.mk 0 0 0),false)) else ((bif a0.ByKey then (some (Xc.mk a1.Key a1.Time 0)) else (some (Xc.mk 0 a1.Time 0)):Option (Xc)).bind fun Xnx=>(bif (a0.Agg != (1:Int)) then ((X5o a0.Arg a1).bind fun v14=>some (Xc.mk Xnx.Key Xnx.Time v14.1)) else (some Xnx):Option (Xc)).bind fun Xq7=>some (Xq7,true))) else ((bif a0.ByKey then (some (Xc.mk a1.Key a1.Time 0)) else (some (Xc.mk 0 a1.Time 0)):Option (Xc)).bind fun Xq6=>(bif (a0.Agg != (1:Int)) then ((X5o a0.Arg a1).bind fun v26=>some (Xc.mk Xq6.Key Xq6.Time v26.1)) else (some Xq6):Option (Xc)).bind fun Xzg=>some (Xzg,true))
def X3l (a0:X0a):Option (Int) :=
 (bif (a0.Count==(0:Int)) then (some (Xwt a0 (X0a.mk 0 0 0 0))) else (bif (a0.Count==(1:Int)) then (some (bif (a0.Sum==a0.Min) then (a0.Sum==a0.Max) else false)) else (bif (bif (decide (a0.Count>(1:Int))) then (decide (a0.Count<=(1073741824:Int))) else false) then (some (decide (a0.Min<=a0.Max))) else (some false))):Option (Bool)).bind fun j4_3=>bif (!j4_3) then (some 8) else (some 0)
def Xa7 (a0:X6):Option (Bool) :=
 bif (bif (bif (decide (a0.Span.Start<((-1100585369600):Int))) then true else (decide (a0.Span.End<=a0.Span.Start))) then true else (decide (a0.Span.End>(1100585369600:Int)))) then (some false) else (((X3l a0.Values.e0).bind fun v9=>bif (v9==(0:Int)) then ((X3l a0.Values.e1).bind fun v12=>bif (v12==(0:Int)) then (some (bif (bif (v9==(0:Int)) then (v12==(0:Int)) else false) then (decide ((IntKind.i64.wrap (a0.Values.e0.Count+a0.Values.e1.Count))>(0:Int))) else false)) else (some (bif (bif (v9==(0:Int)) then (v12==(0:Int)) else false) then false else false))) else (some (bif (bif (v9==(0:Int)) then false else false) then false else false)):Option (Bool)).bind fun j8_2=>some j8_2)
def X64 (a0:Int):Option (Bool) :=
 some (a0 != a0)
def X2q (a0:Int) (a1:Int):Option (Int) :=
 (X64 a0).bind fun v1=>(X64 a1).bind fun v3=>bif v1 then (bif v3 then (some 0) else (some (-1))) else (bif v3 then (some 1) else (bif (decide (a0<a1)) then (some (-1)) else (bif (decide (a0>a1)) then (some 1) else (some 0))))
inductive X83 where
 |x0
 |x1 (X4n:Int)
def X6b (Xgi:(List Int)):List Int->Nat->Option X83
 |[],k=>some (.x0)
 |x::xs,k=>bif (x != (0:Int)) then (some (.x1 x)) else (X6b Xgi xs (k+1))
def Xfk (a0:(List Int)):Option (Int) :=
 (X3f (List.length a0)).bind fun u1=>(X6b  a0 a0 0).bind fun o7=>match o7 with|.x0=>(some 0)|.x1 X4n=>(some X4n)
def X6x (a0:X6) (a1:X6):Option (Int) :=
 (X2q a0.Span.End a1.Span.End).bind fun v1=>(X2q a0.Span.Start a1.Span.Start).bind fun v3=>(X2q a0.Key a1.Key).bind fun v5=>(Xfk [v1,v3,v5]).bind fun v7=>some v7
inductive X6o where
 |x0
 |x1
def X4b (X07:(List X6)):List X6->Nat->Option X6o
 |[],k=>some (.x0)
 |x::xs,k=>((Xa7 x).bind fun v52=>bif (!v52) then (some true) else (bif (decide ((k:Int)>(0:Int))) then ((X1q X07 (IntKind.i64.wrap ((k:Int) - 1))).bind fun e56=>(X6x e56 x).bind fun v58=>some (bif (!v52) then true else (bif (decide ((k:Int)>(0:Int))) then (decide (v58 >= (0:Int))) else false))) else (some (bif (!v52) then true else false))):Option (Bool)).bind fun Xz9=>bif Xz9 then (some (.x1)) else (X4b X07 xs (k+1))
def Xa8 (a0:(List X6)):Option (Int) :=
 bif (decide ((List.length a0:Int)>(4000:Int))) then (some 4) else ((X3f (List.length a0)).bind fun u2=>(X4b  a0 a0 0).bind fun o62=>match o62 with|.x0=>(some 0)|.x1=>(some 8))
def Xb2 (a0:Int):Option (X0a) :=
 some (X0a.mk 1 a0 a0 a0)
def X42 (a0:Int) (a1:Int):Option (Int) :=
 bif (bif (decide (a1<(1:Int))) then true else (decide (a1>(1073741824:Int)))) then (some 2) else (bif (bif (decide (a0<((-1099511627776):Int))) then true else (decide (a0>(1099511627776:Int)))) then (some 16) else (some 0))
def Xii:List Int:=[0,1,2,2,3,3,3,3,4,4,4,4,4,4,4,4,5,5,5,5,5,5,5,5,5,5,5,5,5,5,5,5,6,6,6,6,6,6,6,6,6,6,6,6,6,6,6,6,6,6,6,6,6,6,6,6,6,6,6,6,6,6,6,6,7,7,7,7,7,7,7,7,7,7,7,7,7,7,7,7,7,7,7,7,7,7,7,7,7,7,7,7,7,7,7,7,7,7,7,7,7,7,7,7,7,7,7,7,7,7,7,7,7,7,7,7,7,7,7,7,7,7,7,7,7,7,7,7,8,8,8,8,8,8,8,8,8,8,8,8,8,8,8,8,8,8,8,8,8,8,8,8,8,8,8,8,8,8,8,8,8,8,8,8,8,8,8,8,8,8,8,8,8,8,8,8,8,8,8,8,8,8,8,8,8,8,8,8,8,8,8,8,8,8,8,8,8,8,8,8,8,8,8,8,8,8,8,8,8,8,8,8,8,8,8,8,8,8,8,8,8,8,8,8,8,8,8,8,8,8,8,8,8,8,8,8,8,8,8,8,8,8,8,8,8,8,8,8,8,8,8,8,8,8,8,8]
def Xaw (a0:Int):Option (Int) :=
 (bif (decide (a0 >= (4294967296:Int))) then (some ((Int.fdiv a0 (2 ^ (min (Int.toNat 32) IntKind.u64.bits))),32)) else (some (a0,0)):Option (Int×Int)).bind fun w2=>(bif (decide (w2.1 >= (65536:Int))) then (some ((Int.fdiv w2.1 (2 ^ (min (Int.toNat 16) IntKind.u64.bits))),(IntKind.i64.wrap (w2.2+16)))) else (some (w2.1,w2.2)):Option (Int×Int)).bind fun w6=>(bif (decide (w6.1 >= (256:Int))) then (some ((Int.fdiv w6.1 (2 ^ (min (Int.toNat 8) IntKind.u64.bits))),(IntKind.i64.wrap (w6.2+8)))) else (some (w6.1,w6.2)):Option (Int×Int)).bind fun w10=>(X1q Xii (IntKind.u8.wrap w10.1)).bind fun b13=>some (IntKind.i64.wrap (w10.2+(IntKind.i64.wrap b13)))
def X9n (a0:Int):Option (Int) :=
 (Xaw a0).bind fun v1=>some v1
inductive X14 where
 |x0 (Xfp:Int)
def X00 (X07:(List X6)) (Xf:X6) (Xto:Int):Nat->Int->Int->Option X14
 |0,_,_=>none
 |n+1,Xhi,X4m=>bif (decide (Xhi<X4m)) then ((X1q X07 (IntKind.i64.wrap (Int.fdiv (IntKind.u64.wrap (IntKind.i64.wrap (Xhi+X4m))) (2 ^ (min (Int.toNat 1) IntKind.u64.bits))))).bind fun e15=>(X6x e15 Xf).bind fun v17=>bif (decide (v17<(0:Int))) then (X00 X07 Xf Xto n (IntKind.i64.wrap ((IntKind.i64.wrap (Int.fdiv (IntKind.u64.wrap (IntKind.i64.wrap (Xhi+X4m))) (2 ^ (min (Int.toNat 1) IntKind.u64.bits))))+1)) X4m) else (X00 X07 Xf Xto n Xhi (IntKind.i64.wrap (Int.fdiv (IntKind.u64.wrap (IntKind.i64.wrap (Xhi+X4m))) (2 ^ (min (Int.toNat 1) IntKind.u64.bits)))))) else (some (.x0 Xhi))
def Xp (a0:(List X6)) (a1:X6):Option (Int×Bool) :=
 (X00  a0 a1 (List.length a0:Int) FU 0 (List.length a0:Int)).bind fun o20=>match o20 with|.x0 Xfp=>((bif (decide (Xfp<(List.length a0:Int))) then ((X1q a0 Xfp).bind fun e29=>(X6x e29 a1).bind fun v31=>some (bif (decide (Xfp<(List.length a0:Int))) then (v31==(0:Int)) else false)) else (some false):Option (Bool)).bind fun X076=>some (Xfp,X076))
def X2d (a0:X0a) (a1:X0a):Option (X0a×Int) :=
 ((X3l a0).bind fun v7=>bif (v7 != (0:Int)) then (some (bif (v7 != (0:Int)) then true else false)) else ((X3l a1).bind fun v10=>some (bif (v7 != (0:Int)) then true else (v10 != (0:Int)))):Option (Bool)).bind fun X06q=>bif X06q then (some ((X0a.mk 0 0 0 0),8)) else (bif (decide ((IntKind.i64.wrap (a0.Count+a1.Count))>(1073741824:Int))) then (some ((X0a.mk 0 0 0 0),4)) else (bif (a0.Count==(0:Int)) then (some (a1,0)) else (bif (a1.Count==(0:Int)) then (some (a0,0)) else (some ((X0a.mk (IntKind.i64.wrap (a0.Count+a1.Count)) (IntKind.i64.wrap (a0.Sum+a1.Sum)) (if a1.Min<a0.Min then a1.Min else a0.Min) (if a1.Max>a0.Max then a1.Max else a0.Max)),0)))))
def Xbb (a0:Int) (a1:Int):Option (Int) :=
 bif (bif (decide (a1<(1:Int))) then true else (decide (a1>(1073741824:Int)))) then (some 2) else (bif (bif (decide (a0<((-1099511627776):Int))) then true else (decide (a0>(1099511627776:Int)))) then (some 16) else (some 0))
def X7i (a0:Int) (a1:Int):Option (Int×Int) :=
 (Xbb a0 a1).bind fun v1=>bif (v1 != (0:Int)) then (some (0,v1)) else ((Xqt a1).bind fun u4=>(bif (decide ((Int.tmod a0 a1)<(0:Int))) then (some (IntKind.i64.wrap ((IntKind.i64.wrap (Int.tdiv a0 a1)) - 1))) else (some (IntKind.i64.wrap (Int.tdiv a0 a1))):Option (Int)).bind fun j7_7=>some (j7_7,0))
def Xcb (a0:Int) (a1:Int):Option (Xr×Int) :=
 (X7i a0 a1).bind fun v1=>bif (v1.2 != (0:Int)) then (some ((Xr.mk 0 0),v1.2)) else (some ((Xr.mk (IntKind.i64.wrap (v1.1*a1)) (IntKind.i64.wrap ((IntKind.i64.wrap (v1.1+1))*a1))),0))
inductive Xbt where
 |x0 (Xg:(List Xr))
def X5v (X07:Int) (X27:Int) (Xbp:Int):Nat->(List Xr)->Int->Option Xbt
 |0,_,_=>none
 |n+1,Xf,Xk2=>bif (decide ((IntKind.i64.wrap (Xk2+X27))>X07)) then ((X1t (List.length (Xf++[(Xr.mk Xk2 (IntKind.i64.wrap (Xk2+X27)))])) 16).bind fun u19=>X5v X07 X27 Xbp n (Xf++[(Xr.mk Xk2 (IntKind.i64.wrap (Xk2+X27)))]) (IntKind.i64.wrap (Xk2 - Xbp))) else (some (.x0 Xf))
inductive X8i where
 |x0 (X0y:(List Xr)) (X1s:(List Xr))
def X3o (X15:(List Xr)):Nat->(List Xr)->Int->Option X8i
 |0,_,_=>none
 |n+1,X0m,X9s=>bif (decide (X9s >= (0:Int))) then ((X1q X15 X9s).bind fun e68=>(X1t (List.length (X0m++[e68])) 16).bind fun u72=>X3o X15 n (X0m++[e68]) (IntKind.i64.wrap (X9s - 1))) else (some (.x0 X0m X15))
def Xe8 (a0:Int) (a1:Int) (a2:Int):Option ((List Xr)×Int) :=
 bif (bif (bif (bif (decide ((if a2<a1 then a2 else a1)<(1:Int))) then true else (decide (a1>(1073741824:Int)))) then true else (decide (a2>a1))) then true else (decide (a1>(IntKind.i64.wrap (16*a2))))) then (some (([]:List Xr),2)) else ((Xcb a0 a2).bind fun v2=>bif (v2.2 != (0:Int)) then (some (([]:List Xr),v2.2)) else ((X5v  a0 a1 a2 FU ([]:List Xr) v2.1.Start).bind fun o24=>match o24 with|.x0 Xg=>((X3o  Xg FU ([]:List Xr) (IntKind.i64.wrap ((List.length Xg:Int) - 1))).bind fun o87=>match o87 with|.x0 X0y X1s=>(some (X0y,0)))))
def Xgo (a0:X0h) (a1:Int):Option ((List Xr)×Int) :=
 (X17 a0).bind fun v1=>bif (v1 != (0:Int)) then (some (([]:List Xr),v1)) else (bif (a0.Kind==(1:Int)) then ((Xcb a1 a0.Size).bind fun v5=>bif (v5.2 != (0:Int)) then (some (([]:List Xr),v5.2)) else (some ([v5.1],0))) else (bif (a0.Kind==(2:Int)) then ((Xe8 a1 a0.Size a0.Every).bind fun v9=>some (v9.1,v9.2)) else (some (([]:List Xr),2))))
inductive X0e where
 |x0
 |x1 (Xb7:Int)
def Xq (X0m:(List X6)) (X15:X6):List X6->Nat->Option X0e
 |[],k=>some (.x0)
 |x::xs,k=>bif (bif (bif (x.Key==X15.Key) then (decide (x.Span.Start<X15.Span.End)) else false) then (decide (X15.Span.Start<x.Span.End)) else false) then (some (.x1 (k:Int))) else (Xq X0m X15 xs (k+1))
inductive X4c where
 |x0 (X0y:(List X6)) (Xb8:Int)
def X1l:Nat->(List X6)->X6->Option X4c
 |0,_,_=>none
 |n+1,X0m,X15=>((X3f (List.length X0m)).bind fun u1330=>(Xq  X0m X15 X0m 0).bind fun o1342=>match o1342 with|.x0=>(some (-1))|.x1 Xb7=>(some Xb7):Option (Int)).bind fun Xff=>bif (decide (Xff<(0:Int))) then (((Xp X0m X15).bind fun v1393=>bif (!v1393.2) then (bif (v1393.1==(List.length X0m:Int)) then (((X6k X0m v1393.1 (List.length X0m:Int)).bind fun m1405=>bif (List.isEmpty m1405) then ((X1t (List.length (X0m++[X15])) 88).bind fun u1408=>some ()) else ((X1t (List.length (X0m++[X15])) 88).bind fun u1410=>some ()):Option (Unit)).bind fun _=>some ((X0m++[X15]),0)) else ((Xw3 X0m v1393.1 X15 88).bind fun m1413=>some (m1413,0))) else ((X1q X0m v1393.1).bind fun e1415=>((X2d e1415.Values.e0 X15.Values.e0).bind fun v1430=>bif (v1430.2 != (0:Int)) then (some (X0m,v1430.2)) else ((X2d (((X6.mk e1415.Key e1415.Span (V2.mk v1430.1 e1415.Values.e1)).Values).e1) X15.Values.e1).bind fun v1435=>bif (v1435.2 != (0:Int)) then (some ((List.set X0m (Int.toNat v1393.1) (X6.mk e1415.Key e1415.Span (V2.mk v1430.1 e1415.Values.e1))),v1435.2)) else (some ((List.set (List.set X0m (Int.toNat v1393.1) (X6.mk e1415.Key e1415.Span (V2.mk v1430.1 e1415.Values.e1))) (Int.toNat v1393.1) (X6.mk ((X6.mk e1415.Key e1415.Span (V2.mk v1430.1 e1415.Values.e1)).Key) ((X6.mk e1415.Key e1415.Span (V2.mk v1430.1 e1415.Values.e1)).Span) (V2.mk (((X6.mk e1415.Key e1415.Span (V2.mk v1430.1 e1415.Values.e1)).Values).e0) v1435.1))),0))):Option ((List X6)×Int)).bind fun w1427=>some (w1427.1,w1427.2)):Option ((List X6)×Int)).bind fun w1392=>some (.x0 w1392.1 w1392.2)) else ((X1q X0m Xff).bind fun e1440=>((X2d X15.Values.e0 e1440.Values.e0).bind fun v1455=>bif (v1455.2 != (0:Int)) then (some (X15,v1455.2)) else ((X2d X15.Values.e1 e1440.Values.e1).bind fun v1460=>bif (v1460.2 != (0:Int)) then (some ((X6.mk X15.Key X15.Span (V2.mk v1455.1 X15.Values.e1)),v1460.2)) else (some ((X6.mk X15.Key X15.Span (V2.mk v1455.1 v1460.1)),0))):Option (X6×Int)).bind fun w1452=>bif (w1452.2 != (0:Int)) then (some (.x0 ([]:List X6) w1452.2)) else ((delI X0m Xff).bind fun m1465=>X1l n m1465 (X6.mk w1452.1.Key (Xr.mk (if e1440.Span.Start<w1452.1.Span.Start then e1440.Span.Start else w1452.1.Span.Start) (if e1440.Span.End>w1452.1.Span.End then e1440.Span.End else w1452.1.Span.End)) w1452.1.Values)))
inductive X8w where
 |x0 (Xg:(List X6))
 |x1 (X0d:(List X6)) (Xk0:Int)
def X4v (Xhh:(List Xr)):List Xr->Nat->X6->(List X6)->Option X8w
 |[],k,Xf,Xi=>some (.x0 Xi)
 |x::xs,k,Xf,Xi=>((Xp Xi (X6.mk Xf.Key x Xf.Values)).bind fun v1891=>bif (!v1891.2) then (bif (v1891.1==(List.length Xi:Int)) then (((X6k Xi v1891.1 (List.length Xi:Int)).bind fun m1903=>bif (List.isEmpty m1903) then ((X1t (List.length (Xi++[(X6.mk Xf.Key x Xf.Values)])) 88).bind fun u1906=>some ()) else ((X1t (List.length (Xi++[(X6.mk Xf.Key x Xf.Values)])) 88).bind fun u1908=>some ()):Option (Unit)).bind fun _=>some ((X6.mk ((X6.mk Xf.Key x Xf.Values).Key) ((X6.mk Xf.Key x Xf.Values).Span) (V2.mk (((X6.mk Xf.Key x Xf.Values).Values).e0) (((X6.mk Xf.Key x Xf.Values).Values).e1))),(Xi++[(X6.mk Xf.Key x Xf.Values)]),0)) else ((Xw3 Xi v1891.1 (X6.mk Xf.Key x Xf.Values) 88).bind fun m1911=>some ((X6.mk Xf.Key x Xf.Values),m1911,0))) else ((X1q Xi v1891.1).bind fun e1913=>((X2d e1913.Values.e0 Xf.Values.e0).bind fun v1928=>bif (v1928.2 != (0:Int)) then (some (Xi,v1928.2)) else ((X2d (((X6.mk e1913.Key e1913.Span (V2.mk v1928.1 e1913.Values.e1)).Values).e1) Xf.Values.e1).bind fun v1933=>bif (v1933.2 != (0:Int)) then (some ((List.set Xi (Int.toNat v1891.1) (X6.mk e1913.Key e1913.Span (V2.mk v1928.1 e1913.Values.e1))),v1933.2)) else (some ((List.set (List.set Xi (Int.toNat v1891.1) (X6.mk e1913.Key e1913.Span (V2.mk v1928.1 e1913.Values.e1))) (Int.toNat v1891.1) (X6.mk ((X6.mk e1913.Key e1913.Span (V2.mk v1928.1 e1913.Values.e1)).Key) ((X6.mk e1913.Key e1913.Span (V2.mk v1928.1 e1913.Values.e1)).Span) (V2.mk (((X6.mk e1913.Key e1913.Span (V2.mk v1928.1 e1913.Values.e1)).Values).e0) v1933.1))),0))):Option ((List X6)×Int)).bind fun w1925=>some ((X6.mk ((X6.mk Xf.Key x Xf.Values).Key) ((X6.mk Xf.Key x Xf.Values).Span) (V2.mk (((X6.mk Xf.Key x Xf.Values).Values).e0) (((X6.mk Xf.Key x Xf.Values).Values).e1))),w1925.1,w1925.2)):Option (X6×(List X6)×Int)).bind fun w1890=>bif (w1890.2.2 != (0:Int)) then (some (.x1 ([]:List X6) w1890.2.2)) else (X4v Xhh xs (k+1) w1890.1 w1890.2.1)
def X93 (a0:(List X6)) (a1:X0h) (a2:Xc) (a3:Int):Option ((List X6)×Int) :=
 (Xa8 a0).bind fun v1=>bif (v1 != (0:Int)) then (some (([]:List X6),v1)) else ((X17 a1).bind fun v4=>bif (v4 != (0:Int)) then (some (([]:List X6),v4)) else (bif (bif (a3 != (0:Int)) then (a3 != (1:Int)) else false) then (some (([]:List X6),2)) else (bif (bif (decide (a2.Time<((-1099511627776):Int))) then true else (decide (a2.Time>(1099511627776:Int)))) then (some (([]:List X6),16)) else (((Xb2 a2.Value).bind fun v14=>bif (a3==(0:Int)) then (some (X6.mk a2.Key (Xr.mk 0 0) (V2.mk v14 (X0a.mk 0 0 0 0)))) else (bif (a3==(1:Int)) then (some (X6.mk a2.Key (Xr.mk 0 0) (V2.mk (X0a.mk 0 0 0 0) v14))) else none):Option (X6)).bind fun Xiv=>(bif (List.isEmpty a0) then (some a0) else ((X1t (List.length a0) 88).bind fun u28=>some a0):Option ((List X6))).bind fun Xiu=>bif (a1.Kind==(3:Int)) then (((X42 0 a1.Size).bind fun v51=>bif (v51 != (0:Int)) then (some (([]:List Xr),v51)) else ((X42 a2.Time a1.Size).bind fun v54=>bif (v54 != (0:Int)) then (some (([]:List Xr),v54)) else ((X9n 1).bind fun v67=>some ([(Xr.mk a2.Time (IntKind.i64.wrap (a2.Time+a1.Size)))],0))):Option ((List Xr)×Int)).bind fun w50=>bif (w50.2 != (0:Int)) then (some (([]:List X6),w50.2)) else ((X1q w50.1 0).bind fun e71=>((X1l  FU Xiu (X6.mk Xiv.Key e71 Xiv.Values)).bind fun o1548=>match o1548 with|.x0 X0y Xb8=>(some (X0y,Xb8)):Option ((List X6)×Int)).bind fun w811=>bif (w811.2 != (0:Int)) then (some (([]:List X6),w811.2)) else (bif (decide ((List.length w811.1:Int)>(4000:Int))) then (some (([]:List X6),4)) else (some (w811.1,0))))) else ((Xgo a1 a2.Time).bind fun v1558=>bif (v1558.2 != (0:Int)) then (some (([]:List X6),v1558.2)) else ((X3f (List.length v1558.1)).bind fun u1561=>(X4v  v1558.1 v1558.1 0 Xiv Xiu).bind fun o1984=>match o1984 with|.x0 Xg=>(bif (decide ((List.length Xg:Int)>(4000:Int))) then (some (([]:List X6),4)) else (some (Xg,0)))|.x1 X0d Xk0=>(some (X0d,Xk0))))))))
def X7f (a0:Int) (a1:X0a):Option (Int×Int) :=
 bif (bif (decide (a0<(1:Int))) then true else (decide (a0>(4:Int)))) then (some (0,2)) else ((X3l a1).bind fun v2=>bif (v2 != (0:Int)) then (some (0,v2)) else (bif (a1.Count==(0:Int)) then (some (0,6)) else ((bif (a0==(0:Int)) then (some 0) else (bif (a0==(1:Int)) then (some a1.Count) else (bif (a0==(2:Int)) then (some a1.Sum) else (bif (a0==(3:Int)) then (some a1.Min) else (bif (a0==(4:Int)) then (some a1.Max) else none)))):Option (Int)).bind fun X07a=>some (X07a,0))))
def Xav (a0:Xw) (a1:X6):Option (X1c×Bool) :=
 (X7f a0.Agg a1.Values.e0).bind fun v3=>bif (v3.2 != (0:Int)) then (some ((X1c.mk 0 (Xr.mk 0 0) (V2.mk 0 0)),false)) else (bif (bif ((1:Int)==(1:Int)) then (!a0.Join) else false) then (some ((X1c.mk a1.Key a1.Span (V2.mk v3.1 0)),true)) else ((X7f a0.Agg a1.Values.e1).bind fun v9=>bif (v9.2 != (0:Int)) then (some ((X1c.mk 0 (Xr.mk 0 0) (V2.mk 0 0)),false)) else (some ((X1c.mk a1.Key a1.Span (V2.mk v3.1 v9.1)),true))))
inductive X6u where
 |x0 (Xa2:(List X6)) (X1r:(List Xc))
 |x1 (X8d:(List X1c)) (X8c:(List Xc)) (Xe1:Int)
def X2v (X33:Xw) (X3b:(List Xc)) (Xoy:Int) (Xox:(List (List Xk))) (Xow:Int) (Xov:Int) (Xgh:(List Xc)):List Xc->Nat->(List X6)->Option X6u
 |[],k,Xk1=>some (.x0 Xk1 X3b)
 |x::xs,k,Xk1=>(X6m X33 x).bind fun v482=>bif (!v482.2) then (X2v X33 X3b Xoy Xox Xow Xov Xgh xs (k+1) Xk1) else ((bif X33.Join then (some Xoy) else (some 0):Option (Int)).bind fun Xse=>(X93 Xk1 X33.Window v482.1 Xse).bind fun v489=>bif (v489.2 != (0:Int)) then (some (.x1 ([]:List X1c) ([]:List Xc) v489.2)) else (X2v X33 X3b Xoy Xox Xow Xov Xgh xs (k+1) v489.1))
inductive X6v where
 |x0 (X7h:(List X6)) (X0r:(List Xc))
 |x1 (X0d:(List X1c)) (X5t:(List Xc)) (Xmi:Int)
def X2w (Xf:Xw) (Xb4:(List (List Xk))):List (List Xk)->Nat->(List X6)->(List Xc)->Option X6v
 |[],k,X4m,Xi=>some (.x0 X4m Xi)
 |x::xs,k,X4m,Xi=>(Xcp x).bind fun v435=>bif (v435.2.2 != (0:Int)) then (some (.x1 ([]:List X1c) ([]:List Xc) v435.2.2)) else (bif (List.isEmpty v435.2.1) then ((X3f (List.length v435.1)).bind fun u439=>(X2v  Xf (Xi++v435.2.1) (k:Int) Xb4 (List.length Xb4:Int) (k:Int) v435.1 v435.1 0 X4m).bind fun o502=>match o502 with|.x0 Xa2 X1r=>(X2w Xf Xb4 xs (k+1) Xa2 X1r)|.x1 X8d X8c Xe1=>(some (.x1 X8d X8c Xe1))) else ((X1t (List.length (Xi++v435.2.1)) 24).bind fun u504=>(X3f (List.length v435.1)).bind fun u506=>(X2v  Xf (Xi++v435.2.1) (k:Int) Xb4 (List.length Xb4:Int) (k:Int) v435.1 v435.1 0 X4m).bind fun o549=>match o549 with|.x0 Xa2 X1r=>(X2w Xf Xb4 xs (k+1) Xa2 X1r)|.x1 X8d X8c Xe1=>(some (.x1 X8d X8c Xe1))))
inductive X9e where
 |x0 (X4y:(List Xc)) (X5s:(List X1c))
def X3j (Xdy:Xw) (X8a:(List Xc)) (Xe2:(List X6)):List X6->Nat->(List X1c)->Option X9e
 |[],k,Xj2=>some (.x0 X8a Xj2)
 |x::xs,k,Xj2=>(Xav Xdy x).bind fun v732=>(bif v732.2 then ((X1t (List.length (Xj2++[v732.1])) 40).bind fun u739=>some (Xj2++[v732.1])) else (some Xj2):Option ((List X1c))).bind fun Xku=>X3j Xdy X8a Xe2 xs (k+1) Xku
def X3r (a0:Xw) (a1:(List (List Xk))):Option ((List X1c)×(List Xc)×Int) :=
 (X98 a0).bind fun v1=>bif (v1.2 != (0:Int)) then (some (([]:List X1c),([]:List Xc),v1.2)) else (bif ((List.length a1:Int) != (List.length a0.Sources:Int)) then (some (([]:List X1c),([]:List Xc),2)) else ((X5f a1).bind fun v5=>bif (v5 != (0:Int)) then (some (([]:List X1c),([]:List Xc),v5)) else ((X3f (List.length a1)).bind fun u8=>(X2w  a0 a1 a1 0 ([]:List X6) ([]:List Xc)).bind fun o647=>match o647 with|.x0 X7h X0r=>((X3f (List.length X7h)).bind fun u649=>(X3j  a0 X0r X7h X7h 0 ([]:List X1c)).bind fun o772=>match o772 with|.x0 X4y X5s=>((bif (a0.Late != (2:Int)) then (some ([]:List Xc)) else (some X4y):Option ((List Xc))).bind fun Xkt=>some (X5s,Xkt,0)))|.x1 X0d X5t Xmi=>(some (X0d,X5t,Xmi)))))
def X2b (a0:Int):Option (Int) :=
 bif (decide (a0<=(4:Int))) then (some 0) else (bif (decide (a0<=(6:Int))) then (some 1) else (some 2))
def X73 (a0:X03) (a1:Int) (a2:Int):Option (Bool) :=
 some (bif (bif (bif (bif (bif (bif (bif (decide (a0.Kind >= (1:Int))) then (decide (a0.Kind<=(19:Int))) else false) then (decide (a0.N >= (0:Int))) else false) then (bif (a0.N==(0:Int)) then true else (a0.Kind==(1:Int))) else false) then (decide (a0.At >= (0:Int))) else false) then (decide (a0.At<=(400:Int))) else false) then (a0.A==a1) else false) then (a0.B==a2) else false)
inductive X5b where
 |x0 (Xg:(List Int)) (X0r:(List Int))
 |x1 (X0d:(List Int)) (X5t:(List Int))
def X1k (X07:(List X03)):List X03->Nat->(List Int)->(List Int)->Option X5b
 |[],k,Xf,Xi=>some (.x0 Xf Xi)
 |x::xs,k,Xf,Xi=>(X2b x.Kind).bind fun v156=>bif (decide (v156>(0:Int))) then (bif (decide ((IntKind.i64.wrap ((k:Int) - 1))<(0:Int))) then (some (.x1 ([]:List Int) ([]:List Int))) else ((X1q Xf (IntKind.i64.wrap ((k:Int) - 1))).bind fun e160=>(X1q Xi (IntKind.i64.wrap ((k:Int) - 1))).bind fun e162=>bif (v156==(2:Int)) then (bif (decide ((IntKind.i64.wrap ((IntKind.i64.wrap ((k:Int) - 1)) - e160))<(0:Int))) then (some (.x1 ([]:List Int) ([]:List Int))) else ((X1q Xf (IntKind.i64.wrap ((IntKind.i64.wrap ((k:Int) - 1)) - e160))).bind fun e166=>(X1q Xi (IntKind.i64.wrap ((IntKind.i64.wrap ((k:Int) - 1)) - e160))).bind fun e168=>(X73 x (IntKind.i64.wrap ((IntKind.i64.wrap ((k:Int) - 1)) - e160)) (IntKind.i64.wrap ((k:Int) - 1))).bind fun v170=>bif (!v170) then (some (.x1 ([]:List Int) ([]:List Int))) else ((X1t (List.length (Xf++[(IntKind.i64.wrap ((IntKind.i64.wrap (1+e160))+e166))])) 8).bind fun u173=>(X1t (List.length (Xi++[(if (IntKind.i64.wrap (1+e168))>(IntKind.i64.wrap (1+e162)) then (IntKind.i64.wrap (1+e168)) else (IntKind.i64.wrap (1+e162)))])) 8).bind fun u175=>X1k X07 xs (k+1) (Xf++[(IntKind.i64.wrap ((IntKind.i64.wrap (1+e160))+e166))]) (Xi++[(if (IntKind.i64.wrap (1+e168))>(IntKind.i64.wrap (1+e162)) then (IntKind.i64.wrap (1+e168)) else (IntKind.i64.wrap (1+e162)))])))) else ((X73 x (IntKind.i64.wrap ((k:Int) - 1)) 0).bind fun v177=>bif (!v177) then (some (.x1 ([]:List Int) ([]:List Int))) else ((X1t (List.length (Xf++[(IntKind.i64.wrap (1+e160))])) 8).bind fun u180=>(X1t (List.length (Xi++[(IntKind.i64.wrap (1+e162))])) 8).bind fun u182=>X1k X07 xs (k+1) (Xf++[(IntKind.i64.wrap (1+e160))]) (Xi++[(IntKind.i64.wrap (1+e162))]))))) else ((X73 x 0 0).bind fun v184=>bif (!v184) then (some (.x1 ([]:List Int) ([]:List Int))) else ((X1t (List.length (Xf++[1])) 8).bind fun u187=>(X1t (List.length (Xi++[1])) 8).bind fun u189=>X1k X07 xs (k+1) (Xf++[1]) (Xi++[1])))
def Xda (a0:(List X03)):Option ((List Int)×(List Int)×Bool) :=
 (X3f (List.length a0)).bind fun u1=>(X1k  a0 a0 0 ([]:List Int) ([]:List Int)).bind fun o232=>match o232 with|.x0 Xg X0r=>((bif (decide ((List.length a0:Int)>(0:Int))) then ((X1q Xg (IntKind.i64.wrap ((List.length a0:Int) - 1))).bind fun e239=>some (bif (decide ((List.length a0:Int)>(0:Int))) then (e239==(List.length a0:Int)) else false)) else (some false):Option (Bool)).bind fun Xzi=>some (Xg,X0r,Xzi))|.x1 X0d X5t=>(some (X0d,X5t,false))
def X55 (a0:(List X03)):Option (Int) :=
 bif (decide ((List.length a0:Int)>(60:Int))) then (some 4) else ((Xda a0).bind fun v2=>bif (!v2.2.2) then (some 8) else ((X1q v2.2.1 (IntKind.i64.wrap ((List.length a0:Int) - 1))).bind fun e5=>bif (decide (e5>(20:Int))) then (some 34) else (some 0)))
inductive X5m where
 |x0
 |x1
def X39 (X07:(List Int)):List Int->Nat->Option X5m
 |[],k=>some (.x0)
 |x::xs,k=>(bif (decide (x<(0:Int))) then (some (bif (decide (x<(0:Int))) then true else false)) else (some (bif (decide (x<(0:Int))) then true else (decide (x>(3:Int))))):Option (Bool)).bind fun Xzh=>bif Xzh then (some (.x1)) else (X39 X07 xs (k+1))
inductive X5k where
 |x0
 |x1
def X38 (y2_0:(List Int)) (y2_6:Int):Nat->Int->Option X5k
 |0,_=>none
 |n+1,Xr2=>bif (decide (Xr2<y2_6)) then ((X1q y2_0 Xr2).bind fun e86=>(X1q y2_0 y2_6).bind fun e88=>bif (e86==e88) then (some (.x0)) else (X38 y2_0 y2_6 n (IntKind.i64.wrap (Xr2+1)))) else (some (.x1))
inductive X5l where
 |x0
 |x1
def X2g (Xx3:(List Int)):List Int->Nat->Option X5l
 |[],k=>some (.x0)
 |x::xs,k=>(X38  Xx3 (k:Int) FU 0).bind fun o91=>match o91 with|.x0=>(some (.x1))|.x1=>(X2g Xx3 xs (k+1))
def X7t (a0:(List Int)) (a1:Bool):Option (Int) :=
 bif (decide ((List.length a0:Int)>(4:Int))) then (some 4) else ((bif ((List.length a0:Int)==(0:Int)) then (some (bif ((List.length a0:Int)==(0:Int)) then true else false)) else (bif a1 then (some (bif ((List.length a0:Int)==(0:Int)) then true else (bif a1 then ((List.length a0:Int) != (2:Int)) else false))) else (some (bif ((List.length a0:Int)==(0:Int)) then true else (bif a1 then false else false)))):Option (Bool)).bind fun X06s=>bif X06s then (some 8) else ((X3f (List.length a0)).bind fun u9=>(X39  a0 a0 0).bind fun o27=>match o27 with|.x0=>((X2g  a0 a0 0).bind fun o93=>match o93 with|.x0=>(some 0)|.x1=>(some 43))|.x1=>(some 8)))
def X8k (a0:X0h):Option (Bool) :=
 bif (bif (decide (a0.Size<(1:Int))) then true else (decide (a0.Size>(1073741824:Int)))) then (some false) else (bif (a0.Kind==(2:Int)) then (some (bif (bif (decide (a0.Every >= (1:Int))) then (decide (a0.Every<=a0.Size)) else false) then (decide (a0.Size<=(IntKind.i64.wrap (16*a0.Every)))) else false)) else (some (bif (bif (a0.Kind==(1:Int)) then true else (a0.Kind==(3:Int))) then (a0.Every==(0:Int)) else false)))
def Xap (a0:Xw):Option (Int) :=
 bif (bif (bif (bif (decide (a0.Agg<(1:Int))) then true else (decide (a0.Agg>(4:Int)))) then true else (decide (a0.Late<(1:Int)))) then true else (decide (a0.Late>(2:Int)))) then (some 8) else ((bif (a0.Agg==(1:Int)) then (some (bif (a0.Agg==(1:Int)) then (decide ((List.length a0.Arg:Int)>(0:Int))) else false)) else (some (bif (a0.Agg==(1:Int)) then false else false)):Option (Bool)).bind fun X071=>bif X071 then (some 8) else ((bif (a0.Agg != (1:Int)) then ((X55 a0.Arg).bind fun v12=>some (bif (a0.Agg != (1:Int)) then (v12 != (0:Int)) else false)) else (some (bif (a0.Agg != (1:Int)) then false else false)):Option (Bool)).bind fun Xzr=>bif Xzr then ((X55 a0.Arg).bind fun v16=>some v16) else ((bif (decide ((List.length a0.Where:Int)>(0:Int))) then ((X55 a0.Where).bind fun v23=>some (bif (decide ((List.length a0.Where:Int)>(0:Int))) then (v23 != (0:Int)) else false)) else (some (bif (decide ((List.length a0.Where:Int)>(0:Int))) then false else false)):Option (Bool)).bind fun Xq5=>bif Xq5 then ((X55 a0.Where).bind fun v27=>some v27) else ((X7t a0.Sources a0.Join).bind fun v29=>bif (v29 != (0:Int)) then (some v29) else ((X8k a0.Window).bind fun v32=>bif (bif (!v32) then true else (bif a0.Join then (a0.Window.Kind != (1:Int)) else false)) then (some 8) else (some 0))))))
def X72 (a0:Int):Option (Bool) :=
 some (bif (a0==(6:Int)) then true else (decide (a0 >= (12:Int))))
def Xci (a0:(List X03)) (a1:Int):Option (Bool) :=
 (X1q a0 a1).bind fun e1=>(X1q a0 e1.A).bind fun e3=>(X72 e3.Kind).bind fun v5=>(X1q a0 e1.B).bind fun e7=>(X72 e7.Kind).bind fun v9=>bif (decide (e1.Kind<=(4:Int))) then (some true) else (bif (e1.Kind==(5:Int)) then (some (!v5)) else (bif (e1.Kind==(6:Int)) then (some v5) else (bif (bif (e1.Kind==(16:Int)) then true else (e1.Kind==(17:Int))) then (some (v5==v9)) else (bif (decide (e1.Kind >= (18:Int))) then (some (bif v5 then v9 else false)) else (some (bif (!v5) then (!v9) else false))))))
inductive X6s where
 |x0
 |x1 (X4n:Int)
def X4j (X07:(List X03)):List X03->Nat->Option X6s
 |[],k=>some (.x0)
 |x::xs,k=>(Xci X07 (k:Int)).bind fun v10=>bif (!v10) then (some (.x1 (k:Int))) else (X4j X07 xs (k+1))
def Xd9 (a0:(List X03)):Option (Int) :=
 (X3f (List.length a0)).bind fun u1=>(X4j  a0 a0 0).bind fun o13=>match o13 with|.x0=>(some (List.length a0:Int))|.x1 X4n=>(some X4n)
def Xfa (a0:(List X03)):Option (Bool×Int×Int) :=
 (X55 a0).bind fun v1=>bif (v1 != (0:Int)) then (some (false,0,v1)) else ((Xd9 a0).bind fun v4=>bif (decide (v4<(List.length a0:Int))) then (some (false,v4,42)) else ((X1q a0 (IntKind.i64.wrap ((List.length a0:Int) - 1))).bind fun e7=>(X72 e7.Kind).bind fun v9=>some (v9,(IntKind.i64.wrap ((List.length a0:Int) - 1)),0)))
def X8l (a0:(List X03)) (a1:Bool):Option (Int×Int) :=
 (Xfa a0).bind fun v1=>bif (bif (v1.2.2==(0:Int)) then (!(v1.1==a1)) else false) then (some (v1.2.1,42)) else (some (v1.2.1,v1.2.2))
def Xam (a0:Xw):Option (Int×Int) :=
 bif (decide ((List.length a0.Arg:Int)>(0:Int))) then ((X8l a0.Arg false).bind fun v2=>bif (v2.2 != (0:Int)) then ((X1q a0.Arg v2.1).bind fun e5=>some (e5.At,v2.2)) else (bif (decide ((List.length a0.Where:Int)>(0:Int))) then ((X8l a0.Where true).bind fun v8=>bif (v8.2 != (0:Int)) then ((X1q a0.Where v8.1).bind fun e11=>some (e11.At,v8.2)) else (some (0,0))) else (some (0,0)))) else (bif (decide ((List.length a0.Where:Int)>(0:Int))) then ((X8l a0.Where true).bind fun v14=>bif (v14.2 != (0:Int)) then ((X1q a0.Where v14.1).bind fun e17=>some (e17.At,v14.2)) else (some (0,0))) else (some (0,0)))
def Xan (a0:Xw):Option (Int×Int) :=
 (Xap a0).bind fun v1=>bif (v1 != (0:Int)) then (some (0,v1)) else ((Xam a0).bind fun v4=>some (v4.1,v4.2))
def Xaj (a0:Xw) (a1:(List (List Xk))):Option (Int) :=
 (Xan a0).bind fun v1=>bif (v1.2 != (0:Int)) then (some v1.2) else (bif ((List.length a1:Int) != (List.length a0.Sources:Int)) then (some 2) else ((X8j a1).bind fun v5=>some v5))
inductive X7p where
 |x0 (Xg:(List Xc))
def X2f (X07:(List Xk)) (X27:Bool):List Xk->Nat->(List Xc)->Option X7p
 |[],k,Xf=>some (.x0 Xf)
 |x::xs,k,Xf=>(bif (!x.Mark) then ((X6k X07 0 (k:Int)).bind fun m91=>(Xd6 m91).bind fun v93=>some (bif (!x.Mark) then ((decide (x.Record.Time<v93))==X27) else false)) else (some false):Option (Bool)).bind fun Xz6=>(bif Xz6 then ((X1t (List.length (Xf++[x.Record])) 24).bind fun u101=>some (Xf++[x.Record])) else (some Xf):Option ((List Xc))).bind fun Xq1=>X2f X07 X27 xs (k+1) Xq1
def X67 (a0:(List Xk)) (a1:Bool):Option ((List Xc)) :=
 (X3f (List.length a0)).bind fun u1=>(X2f  a0 a1 a0 0 ([]:List Xc)).bind fun o124=>match o124 with|.x0 Xg=>(some Xg)
def X74 (a0:Bool):Option (Int) :=
 bif a0 then (some 1) else (some 0)
def X8n (a0:Int):Option (Int) :=
 some (IntKind.i64.wrap (Int.tmod (IntKind.u64.wrap a0) 64))
inductive X9c where
 |x0 (X77:Int)
def X3h (X07:Int):Nat->Int->Int->Option X9c
 |0,_,_=>none
 |n+1,X9s,Xr3=>bif (decide (Xr3<X07)) then (X3h X07 n (IntKind.i64.wrap (X9s+X9s)) (IntKind.i64.wrap (Xr3+1))) else (some (.x0 X9s))
def X8m (a0:Int):Option (Int) :=
 (X3h  a0 FU 1 0).bind fun o5=>match o5 with|.x0 X77=>(some X77)
def Xcj (a0:Int):Option (Int) :=
 bif (decide ((Int.tmod a0 2)<(0:Int))) then (some (IntKind.i64.wrap ((IntKind.i64.wrap (Int.tdiv a0 2)) - 1))) else (some (IntKind.i64.wrap (Int.tdiv a0 2)))
def X9l (a0:Int) (a1:Int) (a2:Int):Option (Bool) :=
 bif (a0==(12:Int)) then (some (decide (a1<a2))) else (bif (a0==(13:Int)) then (some (bif (decide (a1<a2)) then true else (a1==a2))) else (bif (a0==(14:Int)) then (some (decide (a2<a1))) else (bif (a0==(15:Int)) then (some (bif (decide (a2<a1)) then true else (a1==a2))) else (bif (a0==(16:Int)) then (some (a1==a2)) else (some (a1 != a2))))))
inductive X9d where
 |x0 (Xmj:Int)
def X3i (Xbp:Int):Nat->Int->Int->Option X9d
 |0,_,_=>none
 |n+1,X27,Xra=>(X8n Xbp).bind fun v25=>bif (decide (Xra<v25)) then ((Xcj X27).bind fun v28=>X3i Xbp n v28 (IntKind.i64.wrap (Xra+1))) else (some (.x0 X27))
def X3q (a0:Int) (a1:Int) (a2:Int):Option (Int) :=
 bif (a0==(5:Int)) then (some (IntKind.i64.wrap (0 - a1))) else (bif (a0==(6:Int)) then ((X74 (a1==(0:Int))).bind fun v3=>some v3) else (bif (a0==(7:Int)) then (some (IntKind.i64.wrap (a1*a2))) else (bif (a0==(8:Int)) then (some (IntKind.i64.wrap (a1+a2))) else (bif (a0==(9:Int)) then (some (IntKind.i64.wrap (a1 - a2))) else (bif (a0==(10:Int)) then ((X8n a2).bind fun v9=>(X8m v9).bind fun v11=>some (IntKind.i64.wrap (a1*v11))) else (bif (a0==(11:Int)) then ((X3i  a2 FU a1 0).bind fun o30=>match o30 with|.x0 Xmj=>(some Xmj)) else (bif (a0==(18:Int)) then ((X74 (bif (a1 != (0:Int)) then (a2 != (0:Int)) else false)).bind fun v33=>some v33) else (bif (a0==(19:Int)) then ((X74 (bif (a1 != (0:Int)) then true else (a2 != (0:Int)))).bind fun v36=>some v36) else ((X9l a0 a1 a2).bind fun v38=>(X74 v38).bind fun v40=>some v40)))))))))
def X16:Nat->(List X03)->Int->Xc->Option (Int)
 |0,_,_,_=>none
 |n+1,a0,a1,a2=>(X1q a0 a1).bind fun e1=>bif (e1.Kind==(1:Int)) then (some e1.N) else (bif (e1.Kind==(2:Int)) then (some a2.Key) else (bif (e1.Kind==(3:Int)) then (some a2.Time) else (bif (e1.Kind==(4:Int)) then (some a2.Value) else ((X2b e1.Kind).bind fun v7=>(bif (v7==(2:Int)) then (((X16 n) a0 e1.B a2).bind fun v14=>some v14) else (some 0):Option (Int)).bind fun X079=>((X16 n) a0 e1.A a2).bind fun v17=>(X3q e1.Kind v17 X079).bind fun v19=>some v19))))
def Xf9 (a0:(List X03)) (a1:Xc):Option (Int×Int) :=
 (Xfa a0).bind fun v1=>bif (v1.2.2 != (0:Int)) then (some (0,v1.2.2)) else ((X16 FU a0 (IntKind.i64.wrap ((List.length a0:Int) - 1)) a1).bind fun v4=>some (v4,0))
def X4f (a0:(List X03)) (a1:Xc):Option (Int) :=
 (Xf9 a0 a1).bind fun v1=>some v1.1
inductive Xae where
 |x0 (X1r:(List Xy))
def X2s (Xtn:(List (List Xk))) (X33:Xw) (Xr9:Int) (Xe3:(List Xc)):List Xc->Nat->(List Xy)->Option Xae
 |[],k,X3b=>some (.x0 X3b)
 |x::xs,k,X3b=>(bif (decide ((List.length X33.Where:Int)>(0:Int))) then ((X4f X33.Where x).bind fun v690=>some (bif (decide ((List.length X33.Where:Int)>(0:Int))) then (v690==(0:Int)) else false)) else (some false):Option (Bool)).bind fun Xsd=>bif Xsd then (X2s Xtn X33 Xr9 Xe3 xs (k+1) X3b) else ((bif X33.ByKey then (some (Xy.mk (Xc.mk x.Key x.Time 0) 0)) else (some (Xy.mk (Xc.mk 0 x.Time 0) 0)):Option (Xy)).bind fun Xaz=>(bif (X33.Agg != (1:Int)) then ((X4f X33.Arg x).bind fun v703=>some (Xy.mk (Xc.mk Xaz.Record.Key Xaz.Record.Time v703) Xaz.Side)) else (some Xaz):Option (Xy)).bind fun Xg9=>(bif X33.Join then (some (Xy.mk Xg9.Record Xr9)) else (some Xg9):Option (Xy)).bind fun Xnw=>(X1t (List.length (X3b++[Xnw])) 32).bind fun u710=>X2s Xtn X33 Xr9 Xe3 xs (k+1) (X3b++[Xnw]))
inductive Xaf where
 |x0 (Xg:(List Xy))
def X44 (X27:(List (List Xk))) (Xf:Xw):List (List Xk)->Nat->(List Xy)->Option Xaf
 |[],k,Xi=>some (.x0 Xi)
 |x::xs,k,Xi=>(X67 x false).bind fun v572=>(X3f (List.length v572)).bind fun u574=>(X2s  X27 Xf (k:Int) v572 v572 0 Xi).bind fun o739=>match o739 with|.x0 X1r=>(X44 X27 Xf xs (k+1) X1r)
def Xcf (a0:Xw) (a1:(List (List Xk))):Option ((List Xy)) :=
 (X3f (List.length a1)).bind fun u1=>(X44  a1 a0 a1 0 ([]:List Xy)).bind fun o856=>match o856 with|.x0 Xg=>(some Xg)
def X7q (a0:Xr) (a1:Xr):Option (Bool) :=
 some (bif (decide (a0.Start<a1.End)) then (decide (a1.Start<a0.End)) else false)
def Xf8 (a0:Int) (a1:Int):Option (Int) :=
 (Xqt a1).bind fun u1=>some (IntKind.i64.wrap ((IntKind.i64.wrap (Int.tdiv (IntKind.i64.wrap (a0+(IntKind.i64.wrap ((IntKind.i64.wrap ((IntKind.i64.wrap (Int.tdiv 1099511627776 a1))+1))*a1)))) a1)) - (IntKind.i64.wrap ((IntKind.i64.wrap (Int.tdiv 1099511627776 a1))+1))))
def Xgr (a0:Int) (a1:Int):Option (Xr×Int) :=
 (X54 a0 a1).bind fun v1=>bif (v1 != (0:Int)) then (some ((Xr.mk 0 0),v1)) else ((Xf8 a0 a1).bind fun v4=>some ((Xr.mk (IntKind.i64.wrap (v4*a1)) (IntKind.i64.wrap ((IntKind.i64.wrap (v4*a1))+a1))),0))
inductive X7r where
 |x0 (Xg:(List Xr))
def X37 (X07:Int) (X27:Int) (Xbp:Int) (Xra:Int):Nat->(List Xr)->Int->Option X7r
 |0,_,_=>none
 |n+1,Xf,Xhi=>bif (decide (Xhi<=(IntKind.i64.wrap (Xra+1)))) then ((bif (bif (decide ((IntKind.i64.wrap (Xhi*Xbp))<=X07)) then (decide (X07<(IntKind.i64.wrap ((IntKind.i64.wrap (Xhi*Xbp))+X27)))) else false) then ((X1t (List.length (Xf++[(Xr.mk (IntKind.i64.wrap (Xhi*Xbp)) (IntKind.i64.wrap ((IntKind.i64.wrap (Xhi*Xbp))+X27)))])) 16).bind fun u46=>some (Xf++[(Xr.mk (IntKind.i64.wrap (Xhi*Xbp)) (IntKind.i64.wrap ((IntKind.i64.wrap (Xhi*Xbp))+X27)))])) else (some Xf):Option ((List Xr))).bind fun Xq3=>X37 X07 X27 Xbp Xra n Xq3 (IntKind.i64.wrap (Xhi+1))) else (some (.x0 Xf))
def X7s (a0:Int) (a1:Int) (a2:Int):Option ((List Xr)) :=
 (Xf8 a0 a2).bind fun v1=>(X37  a0 a1 a2 v1 FU ([]:List Xr) (IntKind.i64.wrap (v1 - 16))).bind fun o58=>match o58 with|.x0 Xg=>(some Xg)
def X71 (a0:X0h) (a1:Int):Option ((List Xr)) :=
 bif (a0.Kind==(1:Int)) then ((Xgr a1 a0.Size).bind fun v2=>some [v2.1]) else ((X7s a1 a0.Size a0.Every).bind fun v4=>some v4)
inductive X35 where
 |x0 (Xbo:Xr) (X0y:(List Xr)) (X1s:(List Xr))
def X0i (Xf:X0h) (X2i:(List Xr)):List Xr->Nat->Xr->(List Xr)->(List Xr)->Option X35
 |[],k,X0m,X15,Xhg=>some (.x0 X0m X15 Xhg)
 |x::xs,k,X0m,X15,Xhg=>(X7q x X0m).bind fun v11415=>(bif v11415 then (some ((Xr.mk (if x.Start<X0m.Start then x.Start else X0m.Start) (if x.End>X0m.End then x.End else X0m.End)),X15,Xhg)) else (bif (decide (x.Start<X0m.Start)) then ((X1t (List.length (X15++[x])) 16).bind fun u11426=>some (X0m,(X15++[x]),Xhg)) else ((X1t (List.length (Xhg++[x])) 16).bind fun u11428=>some (X0m,X15,(Xhg++[x])))):Option (Xr×(List Xr)×(List Xr))).bind fun w11423=>X0i Xf X2i xs (k+1) w11423.1 w11423.2.1 w11423.2.2
inductive X7m where
 |x0 (Xg:(List Xr))
def X36 (X27:(List Xy)) (Xbp:Int) (Xf:X0h):List Xy->Nat->(List Xr)->Option X7m
 |[],k,Xi=>some (.x0 Xi)
 |x::xs,k,Xi=>(bif (x.Record.Key != Xbp) then (some Xi) else (bif (Xf.Kind==(3:Int)) then (((X3f (List.length Xi)).bind fun u11069=>(X0i  Xf Xi Xi 0 (Xr.mk x.Record.Time (IntKind.i64.wrap (x.Record.Time+Xf.Size))) ([]:List Xr) ([]:List Xr)).bind fun o11479=>match o11479 with|.x0 Xbo X0y X1s=>((X1t (List.length (X0y++[Xbo])) 16).bind fun u11481=>bif (List.isEmpty X1s) then (some ((X0y++[Xbo])++X1s)) else ((X1t (List.length ((X0y++[Xbo])++X1s)) 16).bind fun u11484=>some ((X0y++[Xbo])++X1s))):Option ((List Xr))).bind fun Xek=>some Xek) else ((X71 Xf x.Record.Time).bind fun v11502=>bif (List.isEmpty v11502) then (some (Xi++v11502)) else ((X1t (List.length (Xi++v11502)) 16).bind fun u11505=>some (Xi++v11502)))):Option ((List Xr))).bind fun Xel=>X36 X27 Xbp Xf xs (k+1) Xel
def X66 (a0:X0h) (a1:(List Xy)) (a2:Int):Option ((List Xr)) :=
 (X3f (List.length a1)).bind fun u1=>(X36  a1 a2 a0 a1 0 ([]:List Xr)).bind fun o13348=>match o13348 with|.x0 Xg=>(some Xg)
inductive X8x where
 |x0
 |x1
def X4x (X07:(List X1c)) (X27:Int) (Xf:Xr):List X1c->Nat->Option X8x
 |[],k=>some (.x0)
 |x::xs,k=>(bif (x.Key==X27) then (some (bif (x.Key==X27) then (Xct x.Span Xf) else false)) else (some false):Option (Bool)).bind fun Xzm=>bif Xzm then (some (.x1)) else (X4x X07 X27 Xf xs (k+1))
def Xec (a0:(List X1c)) (a1:Int) (a2:Xr):Option (Bool) :=
 (X3f (List.length a0)).bind fun u1=>(X4x  a0 a1 a2 a0 0).bind fun o19=>match o19 with|.x0=>(some false)|.x1=>(some true)
def X7c (a0:X0a) (a1:Int):Option (X0a) :=
 (bif (a0.Count==(0:Int)) then (some (X0a.mk a0.Count a0.Sum a1 a1)) else (some a0):Option (X0a)).bind fun Xsj=>(bif (decide (a1<Xsj.Min)) then (some (X0a.mk Xsj.Count Xsj.Sum a1 Xsj.Max)) else (some Xsj):Option (X0a)).bind fun Xsc=>(bif (decide (a1>Xsc.Max)) then (some (X0a.mk Xsc.Count Xsc.Sum Xsc.Min a1)) else (some Xsc):Option (X0a)).bind fun Xn2=>(X3q 8 Xn2.Sum a1).bind fun v13=>some (X0a.mk (IntKind.i64.wrap (Xn2.Count+1)) v13 Xn2.Min Xn2.Max)
def X9x (a0:Int) (a1:X0a):Option (Int) :=
 bif (a0==(1:Int)) then (some a1.Count) else (bif (a0==(2:Int)) then (some a1.Sum) else (bif (a0==(3:Int)) then (some a1.Min) else (some a1.Max)))
inductive Xbv where
 |x0 (X0y:(V2 X0a))
def X5w (X27:(List Xy)) (Xbp:Int) (Xf:Xw) (Xi:Xr) (X2i:X1c):List Xy->Nat->(V2 X0a)->Option Xbv
 |[],k,X0m=>some (.x0 X0m)
 |x::xs,k,X0m=>(bif (bif (bif (x.Record.Key==Xbp) then (decide (Xi.Start<=x.Record.Time)) else false) then (decide (x.Record.Time<Xi.End)) else false) then ((bif (x.Side==(0:Int)) then ((X7c X0m.e0 x.Record.Value).bind fun v93=>some (V2.mk v93 X0m.e1)) else (bif (x.Side==(1:Int)) then ((X7c X0m.e1 x.Record.Value).bind fun v96=>some (V2.mk X0m.e0 v96)) else none):Option ((V2 X0a))).bind fun Xz5=>some Xz5) else (some X0m):Option ((V2 X0a))).bind fun Xz7=>X5w X27 Xbp Xf Xi X2i xs (k+1) Xz7
def Xeb (a0:Xw) (a1:(List Xy)) (a2:Int) (a3:Xr):Option (X1c×Bool) :=
 (X3f (List.length a1)).bind fun u1=>(X5w  a1 a2 a0 a3 (X1c.mk 0 (Xr.mk 0 0) (V2.mk 0 0)) a1 0 (V2.mk (X0a.mk 0 0 0 0) (X0a.mk 0 0 0 0))).bind fun o100=>match o100 with|.x0 X0y=>((bif (X0y.e0.Count==(0:Int)) then (some (bif (X0y.e0.Count==(0:Int)) then true else false)) else (bif a0.Join then (some (bif (X0y.e0.Count==(0:Int)) then true else (bif a0.Join then (X0y.e1.Count==(0:Int)) else false))) else (some (bif (X0y.e0.Count==(0:Int)) then true else (bif a0.Join then false else false)))):Option (Bool)).bind fun Xsw=>bif Xsw then (some ((X1c.mk 0 (Xr.mk 0 0) (V2.mk 0 0)),false)) else ((X9x a0.Agg X0y.e0).bind fun v109=>(bif a0.Join then ((X9x a0.Agg X0y.e1).bind fun v116=>some (X1c.mk ((X1c.mk a2 a3 (V2.mk 0 0)).Key) ((X1c.mk a2 a3 (V2.mk 0 0)).Span) (V2.mk v109 v116))) else (some (X1c.mk ((X1c.mk a2 a3 (V2.mk 0 0)).Key) ((X1c.mk a2 a3 (V2.mk 0 0)).Span) (V2.mk v109 (((X1c.mk a2 a3 (V2.mk 0 0)).Values).e1)))):Option (X1c)).bind fun Xsv=>some (Xsv,true)))
def Xf7 (a0:X6) (a1:X6):Option (Bool) :=
 bif (a0.Span.End != a1.Span.End) then (some (decide (a0.Span.End<a1.Span.End))) else (bif (a0.Span.Start != a1.Span.Start) then (some (decide (a0.Span.Start<a1.Span.Start))) else (some (decide (a0.Key<a1.Key))))
def Xcg (a0:X1c) (a1:X1c):Option (Bool) :=
 (Xf7 (X6.mk a0.Key a0.Span (V2.mk (X0a.mk 0 0 0 0) (X0a.mk 0 0 0 0))) (X6.mk a1.Key a1.Span (V2.mk (X0a.mk 0 0 0 0) (X0a.mk 0 0 0 0)))).bind fun v1=>some v1
inductive Xab where
 |x0 (X4y:(List X1c))
def X50 (Xdy:Xw) (y2_5:(List Xy)) (Xr2:Int) (y2_8:Int) (y2_9:(List Xr)) (Xr8:Int):Nat->(List X1c)->Int->Option Xab
 |0,_,_=>none
 |n+1,X8a,Xdz=>(bif (decide (Xdz>(0:Int))) then ((X1q X8a Xdz).bind fun e2543=>(X1q X8a (IntKind.i64.wrap (Xdz - 1))).bind fun e2545=>(Xcg e2543 e2545).bind fun v2547=>some (bif (decide (Xdz>(0:Int))) then v2547 else false)) else (some false):Option (Bool)).bind fun Xky=>bif Xky then ((X1q X8a (IntKind.i64.wrap (Xdz - 1))).bind fun e2551=>(X1q X8a Xdz).bind fun e2553=>(X1q (List.set X8a (Int.toNat Xdz) e2551) (IntKind.i64.wrap (Xdz - 1))).bind fun e2555=>X50 Xdy y2_5 Xr2 y2_8 y2_9 Xr8 n (List.set (List.set X8a (Int.toNat Xdz) e2551) (Int.toNat (IntKind.i64.wrap (Xdz - 1))) e2553) (IntKind.i64.wrap (Xdz - 1))) else (some (.x0 X8a))
inductive Xac where
 |x0 (X1r:(List X1c))
def X2r (X33:Xw) (Xtm:(List Xy)) (Xe3:Int) (Xuu:Int) (Xn9:(List Xr)):List Xr->Nat->(List X1c)->Option Xac
 |[],k,X3b=>some (.x0 X3b)
 |x::xs,k,X3b=>(X1q Xtm Xe3).bind fun e2447=>(bif (decide (e2447.Record.Time<x.Start)) then (some (bif (bif (decide (e2447.Record.Time<x.Start)) then true else false) then true else false)) else (bif (decide (e2447.Record.Time >= x.End)) then (some (bif (bif (decide (e2447.Record.Time<x.Start)) then true else (decide (e2447.Record.Time >= x.End))) then true else false)) else ((Xec X3b Xuu x).bind fun v2456=>some (bif (bif (decide (e2447.Record.Time<x.Start)) then true else (decide (e2447.Record.Time >= x.End))) then true else v2456))):Option (Bool)).bind fun Xo4=>bif Xo4 then (X2r X33 Xtm Xe3 Xuu Xn9 xs (k+1) X3b) else ((Xeb X33 Xtm Xuu x).bind fun v2460=>bif (!v2460.2) then (X2r X33 Xtm Xe3 Xuu Xn9 xs (k+1) X3b) else ((X1t (List.length (X3b++[v2460.1])) 40).bind fun u2463=>(X50  X33 Xtm Xe3 Xuu Xn9 (k:Int) FU (X3b++[v2460.1]) (IntKind.i64.wrap ((List.length (X3b++[v2460.1]):Int) - 1))).bind fun o2568=>match o2568 with|.x0 X4y=>(X2r X33 Xtm Xe3 Xuu Xn9 xs (k+1) X4y)))
inductive Xad where
 |x0 (Xg:(List X1c))
def X43 (Xf:Xw) (Xif:(List Xy)):List Xy->Nat->(List X1c)->Option Xad
 |[],k,Xi=>some (.x0 Xi)
 |x::xs,k,Xi=>(X66 Xf.Window Xif x.Record.Key).bind fun v2018=>(X3f (List.length v2018)).bind fun u2020=>(X2r  Xf Xif (k:Int) x.Record.Key v2018 v2018 0 Xi).bind fun o2659=>match o2659 with|.x0 X1r=>(X43 Xf Xif xs (k+1) X1r)
def Xce (a0:Xw) (a1:(List (List Xk))):Option ((List X1c)) :=
 (Xcf a0 a1).bind fun v1=>(X3f (List.length v1)).bind fun u3=>(X43  a0 v1 v1 0 ([]:List X1c)).bind fun o3024=>match o3024 with|.x0 Xg=>(some Xg)
inductive Xah where
 |x0 (Xg:(List Xc))
def X2t (X27:(List (List Xk))) (Xf:Xw):Nat->(List Xc)->Int->Option Xah
 |0,_,_=>none
 |n+1,Xi,Xgi=>bif (bif (decide (Xgi<(List.length X27:Int))) then (Xf.Late==(2:Int)) else false) then ((X1q X27 Xgi).bind fun e35=>(X67 e35 true).bind fun v37=>bif (List.isEmpty v37) then (X2t X27 Xf n (Xi++v37) (IntKind.i64.wrap (Xgi+1))) else ((X1t (List.length (Xi++v37)) 24).bind fun u40=>X2t X27 Xf n (Xi++v37) (IntKind.i64.wrap (Xgi+1)))) else (some (.x0 Xi))
def Xch (a0:Xw) (a1:(List (List Xk))):Option ((List Xc)) :=
 (X2t  a1 a0 FU ([]:List Xc) 0).bind fun o50=>match o50 with|.x0 Xg=>(some Xg)
def X6l (a0:Xw) (a1:(List (List Xk))):Option ((List X1c)×(List Xc)×Int) :=
 (Xaj a0 a1).bind fun v1=>bif (v1 != (0:Int)) then (some (([]:List X1c),([]:List Xc),v1)) else ((Xce a0 a1).bind fun v4=>(Xch a0 a1).bind fun v6=>some (v4,v6,0))
inductive X6i where
 |x0 (Xg:(List X1c))
def X1y (Xto:(List Xc)) (X4m:Int) (Xhj:(List X1c)):List X1c->Nat->(List X1c)->Option X6i
 |[],k,Xf=>some (.x0 Xf)
 |x::xs,k,Xf=>(bif (decide (x.Span.End<=X4m)) then ((X1t (List.length (Xf++[x])) 40).bind fun u47=>some (Xf++[x])) else (some Xf):Option ((List X1c))).bind fun Xq2=>X1y Xto X4m Xhj xs (k+1) Xq2
def X2z (a0:Xw) (a1:(List (List Xk))):Option ((List X1c)×(List Xc)×Int) :=
 (X3r a0 a1).bind fun v1=>bif (v1.2.2 != (0:Int)) then (some (([]:List X1c),([]:List Xc),v1.2.2)) else ((X2u a1).bind fun v4=>bif (v4.2 != (0:Int)) then (some (([]:List X1c),([]:List Xc),v4.2)) else ((X3f (List.length v1.1)).bind fun u7=>(X1y  v1.2.1 v4.1 v1.1 v1.1 0 ([]:List X1c)).bind fun o58=>match o58 with|.x0 Xg=>(some (Xg,v1.2.1,0))))
inductive X9b where
 |x0 (Xg:(List X1c))
def X3g (X07:(List X1c)) (X27:Int):List X1c->Nat->(List X1c)->Option X9b
 |[],k,Xf=>some (.x0 Xf)
 |x::xs,k,Xf=>(bif (decide (x.Span.End<=X27)) then ((X1t (List.length (Xf++[x])) 40).bind fun u41=>some (Xf++[x])) else (some Xf):Option ((List X1c))).bind fun Xq4=>X3g X07 X27 xs (k+1) Xq4
def Xd4 (a0:(List X1c)) (a1:Int):Option ((List X1c)) :=
 (X3f (List.length a0)).bind fun u1=>(X3g  a0 a1 a0 0 ([]:List X1c)).bind fun o52=>match o52 with|.x0 Xg=>(some Xg)
def X52 (a0:Xw) (a1:(List (List Xk))):Option ((List X1c)×(List Xc)×Int) :=
 (X6l a0 a1).bind fun v1=>bif (v1.2.2 != (0:Int)) then (some (([]:List X1c),([]:List Xc),v1.2.2)) else ((X9v a1).bind fun v4=>(Xd4 v1.1 v4).bind fun v6=>some (v6,v1.2.1,0))
inductive X7n where
 |x0
 |x1
def X4z (X07:(List X1c)) (X27:(List X1c)):List X1c->Nat->Option X7n
 |[],k=>some (.x0)
 |x::xs,k=>(X1q X27 (k:Int)).bind fun e11=>bif (!(Xol x e11)) then (some (.x1)) else (X4z X07 X27 xs (k+1))
def X9u (a0:(List X1c)) (a1:(List X1c)):Option (Bool) :=
 bif ((List.length a0:Int) != (List.length a1:Int)) then (some false) else ((X3f (List.length a0)).bind fun u2=>(X4z  a0 a1 a0 0).bind fun o14=>match o14 with|.x0=>(some true)|.x1=>(some false))
inductive X7o where
 |x0
 |x1
def X53 (X07:(List Xc)) (X27:(List Xc)):List Xc->Nat->Option X7o
 |[],k=>some (.x0)
 |x::xs,k=>(X1q X27 (k:Int)).bind fun e11=>bif (!(X3s x e11)) then (some (.x1)) else (X53 X07 X27 xs (k+1))
def X9w (a0:(List Xc)) (a1:(List Xc)):Option (Bool) :=
 bif ((List.length a0:Int) != (List.length a1:Int)) then (some false) else ((X3f (List.length a0)).bind fun u2=>(X53  a0 a1 a0 0).bind fun o14=>match o14 with|.x0=>(some true)|.x1=>(some false))
def X45 (a0:Xw) (a1:(List (List Xk))):Option (Bool) :=
 ((Xao a0).bind fun v7=>bif v7 then (some (bif v7 then true else false)) else ((Xai a1).bind fun v10=>some (bif v7 then true else v10)):Option (Bool)).bind fun X06p=>bif X06p then (some true) else ((X2u a1).bind fun v14=>(X5x a1).bind fun v16=>(X3r a0 a1).bind fun v18=>(X6l a0 a1).bind fun v20=>(X2z a0 a1).bind fun v22=>(X52 a0 a1).bind fun v24=>(bif (v14.1==v16.1) then (bif (v14.2==v16.2) then ((X9u v18.1 v20.1).bind fun v44=>bif v44 then ((X9w v18.2.1 v20.2.1).bind fun v47=>bif v47 then (bif (v18.2.2==v20.2.2) then ((X9u v22.1 v24.1).bind fun v51=>bif v51 then ((X9w v22.2.1 v24.2.1).bind fun v54=>bif v54 then (some (bif (bif (bif (bif (bif (bif (bif (v14.1==v16.1) then (v14.2==v16.2) else false) then v44 else false) then v47 else false) then (v18.2.2==v20.2.2) else false) then v51 else false) then v54 else false) then (v22.2.2==v24.2.2) else false)) else (some (bif (bif (bif (bif (bif (bif (bif (v14.1==v16.1) then (v14.2==v16.2) else false) then v44 else false) then v47 else false) then (v18.2.2==v20.2.2) else false) then v51 else false) then v54 else false) then false else false))) else (some (bif (bif (bif (bif (bif (bif (bif (v14.1==v16.1) then (v14.2==v16.2) else false) then v44 else false) then v47 else false) then (v18.2.2==v20.2.2) else false) then v51 else false) then false else false) then false else false))) else (some (bif (bif (bif (bif (bif (bif (bif (v14.1==v16.1) then (v14.2==v16.2) else false) then v44 else false) then v47 else false) then (v18.2.2==v20.2.2) else false) then false else false) then false else false) then false else false))) else (some (bif (bif (bif (bif (bif (bif (bif (v14.1==v16.1) then (v14.2==v16.2) else false) then v44 else false) then v47 else false) then false else false) then false else false) then false else false) then false else false))) else (some (bif (bif (bif (bif (bif (bif (bif (v14.1==v16.1) then (v14.2==v16.2) else false) then v44 else false) then false else false) then false else false) then false else false) then false else false) then false else false))) else (some (bif (bif (bif (bif (bif (bif (bif (v14.1==v16.1) then (v14.2==v16.2) else false) then false else false) then false else false) then false else false) then false else false) then false else false) then false else false))) else (some (bif (bif (bif (bif (bif (bif (bif (v14.1==v16.1) then false else false) then false else false) then false else false) then false else false) then false else false) then false else false) then false else false)):Option (Bool)).bind fun X06y=>some X06y)
end Go.D
