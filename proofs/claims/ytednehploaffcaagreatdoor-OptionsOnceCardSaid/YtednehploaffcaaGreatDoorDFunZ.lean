/- Printed by decomp.py: the functions. -/
import Derived.Test.YtednehploaffcaaGreatDoorDTypesZ
set_option linter.all false

namespace Go.D
noncomputable section
def Xfk:Option Bool:=some true
def Xa3 (a0:(List X1)):Option (Bool) :=
 some (decide ((List.length a0:Int)>70))
def Xa0 (a0:X6):Option (Bool) :=
 ((Xa3 a0.Arg).bind λv8=>bif v8 then (some (bif (bif v8 then true else false) then true else false)) else ((Xa3 a0.Where).bind λv11=>bif v11 then (some (bif (bif v8 then true else v11) then true else false)) else (some (bif (bif v8 then true else v11) then true else (decide ((List.length a0.Sources:Int)>10))))):Option (Bool)).bind λj7_2=>some j7_2
inductive Xig where
 |x0
 |x1
def X3q (X3n:(List (List Xv))):List (List Xv)->Nat->Option Xig
 |[],k=>some (.x0)
 |x::xs,k=>bif (decide ((List.length x:Int)>70)) then some (.x1) else (X3q X3n xs (k+1))
def X9v (a0:X6) (a1:(List (List Xv))):Option (Bool) :=
 (Xa0 a0).bind λv1=>bif (bif v1 then true else (decide ((List.length a1:Int)>6))) then some true else ((X4s (List.length a1)).bind λu4=>(X3q  a1 a1 0).bind λo10=>match o10 with|.x0=>(some false)|.x1=>(some true))
def X1w (a0:Int):Option (Int) :=
 bif (decide (a0<=4)) then some 0 else (bif (decide (a0<=6)) then some 1 else (some 2))
def X67 (a0:X1) (a1:Int) (a2:Int):Option (Bool) :=
 some (bif (bif (bif (bif (bif (bif (bif (decide (a0.Kind >= 1)) then (decide (a0.Kind<=19)) else false) then (decide (a0.N >= 0)) else false) then (bif (a0.N==0) then true else (a0.Kind==1)) else false) then (decide (a0.At >= 0)) else false) then (decide (a0.At<=400)) else false) then (a0.A==a1) else false) then (a0.B==a2) else false)
inductive X4r where
 |x0 (X0n:(List Int)) (X0j:(List Int))
 |x1 (X0e:(List Int)) (X6l:(List Int))
def X1p (X0f:(List X1)):List X1->Nat->(List Int)->(List Int)->Option X4r
 |[],k,Xs,Xc=>some (.x0 Xs Xc)
 |x::xs,k,Xs,Xc=>(X1w x.Kind).bind λv156=>bif (decide (v156>0)) then (bif (decide ((IntKind.i64.wrap ((k:Int) - 1))<0)) then (some (.x1 ([]:List Int) ([]:List Int))) else ((getI Xs (IntKind.i64.wrap ((k:Int) - 1))).bind λe160=>(getI Xc (IntKind.i64.wrap ((k:Int) - 1))).bind λe162=>bif (v156==2) then (bif (decide ((IntKind.i64.wrap ((IntKind.i64.wrap ((k:Int) - 1)) - e160))<0)) then (some (.x1 ([]:List Int) ([]:List Int))) else ((getI Xs (IntKind.i64.wrap ((IntKind.i64.wrap ((k:Int) - 1)) - e160))).bind λe166=>(getI Xc (IntKind.i64.wrap ((IntKind.i64.wrap ((k:Int) - 1)) - e160))).bind λe168=>(X67 x (IntKind.i64.wrap ((IntKind.i64.wrap ((k:Int) - 1)) - e160)) (IntKind.i64.wrap ((k:Int) - 1))).bind λv170=>bif (!v170) then (some (.x1 ([]:List Int) ([]:List Int))) else ((X1o (List.length (Xs++[(IntKind.i64.wrap ((IntKind.i64.wrap (1+e160))+e166))])) 8).bind λu173=>(X1o (List.length (Xc++[(if (IntKind.i64.wrap (1+e168))>(IntKind.i64.wrap (1+e162)) then (IntKind.i64.wrap (1+e168)) else (IntKind.i64.wrap (1+e162)))])) 8).bind λu175=>X1p X0f xs (k+1) (Xs++[(IntKind.i64.wrap ((IntKind.i64.wrap (1+e160))+e166))]) (Xc++[(if (IntKind.i64.wrap (1+e168))>(IntKind.i64.wrap (1+e162)) then (IntKind.i64.wrap (1+e168)) else (IntKind.i64.wrap (1+e162)))])))) else ((X67 x (IntKind.i64.wrap ((k:Int) - 1)) 0).bind λv177=>bif (!v177) then (some (.x1 ([]:List Int) ([]:List Int))) else ((X1o (List.length (Xs++[(IntKind.i64.wrap (1+e160))])) 8).bind λu180=>(X1o (List.length (Xc++[(IntKind.i64.wrap (1+e162))])) 8).bind λu182=>X1p X0f xs (k+1) (Xs++[(IntKind.i64.wrap (1+e160))]) (Xc++[(IntKind.i64.wrap (1+e162))]))))) else ((X67 x 0 0).bind λv184=>bif (!v184) then (some (.x1 ([]:List Int) ([]:List Int))) else ((X1o (List.length (Xs++[1])) 8).bind λu187=>(X1o (List.length (Xc++[1])) 8).bind λu189=>X1p X0f xs (k+1) (Xs++[1]) (Xc++[1])))
def Xc6 (a0:(List X1)):Option ((List Int)×(List Int)×Bool) :=
 (X4s (List.length a0)).bind λu1=>(X1p  a0 a0 0 ([]:List Int) ([]:List Int)).bind λo232=>match o232 with|.x0 X0n X0j=>((bif (decide ((List.length a0:Int)>0)) then ((getI X0n (IntKind.i64.wrap ((List.length a0:Int) - 1))).bind λe239=>some (bif (decide ((List.length a0:Int)>0)) then (e239==(List.length a0:Int)) else false)) else (some false):Option (Bool)).bind λXxn=>some (X0n,X0j,Xxn))|.x1 X0e X6l=>(some (X0e,X6l,false))
def X4h (a0:(List X1)):Option (Int) :=
 bif (decide ((List.length a0:Int)>60)) then some 4 else ((Xc6 a0).bind λv2=>bif (!v2.2.2) then some 8 else ((getI v2.2.1 (IntKind.i64.wrap ((List.length a0:Int) - 1))).bind λe5=>bif (decide (e5>20)) then some 34 else (some 0)))
inductive Xg4 where
 |x0
 |x1
def X2x (X0f:(List Int)):List Int->Nat->Option Xg4
 |[],k=>some (.x0)
 |x::xs,k=>(bif (decide (x<0)) then (some (bif (decide (x<0)) then true else false)) else (some (bif (decide (x<0)) then true else (decide (x>3)))):Option (Bool)).bind λXxq=>bif Xxq then some (.x1) else (X2x X0f xs (k+1))
inductive Xg2 where
 |x0
 |x1
def X2w (y2_0:(List Int)) (y2_6:Int):Nat->Int->Option Xg2
 |0,_=>none
 |n+1,Xpf=>bif (decide (Xpf<y2_6)) then ((getI y2_0 Xpf).bind λe80=>(getI y2_0 y2_6).bind λe82=>bif (e80==e82) then some (.x0) else (X2w y2_0 y2_6 n (IntKind.i64.wrap (Xpf+1)))) else (some (.x1))
inductive Xg3 where
 |x0
 |x1
def X2f (Xzk:(List Int)):List Int->Nat->Option Xg3
 |[],k=>some (.x0)
 |x::xs,k=>(X2w  Xzk (k:Int) FU 0).bind λo85=>match o85 with|.x0=>(some (.x1))|.x1=>(X2f Xzk xs (k+1))
def X6t (a0:(List Int)) (a1:Bool):Option (Int) :=
 bif (decide ((List.length a0:Int)>4)) then some 4 else (bif (bif ((List.length a0:Int)==0) then true else (bif a1 then ((List.length a0:Int) != 2) else false)) then some 8 else ((X4s (List.length a0)).bind λu3=>(X2x  a0 a0 0).bind λo21=>match o21 with|.x0=>((X2f  a0 a0 0).bind λo87=>match o87 with|.x0=>(some 0)|.x1=>(some 43))|.x1=>(some 8)))
def X7n (a0:Xi):Option (Bool) :=
 bif (bif (decide (a0.Size<1)) then true else (decide (a0.Size>1073741824))) then some false else (bif (a0.Kind==2) then (some (bif (bif (decide (a0.Every >= 1)) then (decide (a0.Every<=a0.Size)) else false) then (decide (a0.Size<=(IntKind.i64.wrap (16*a0.Every)))) else false)) else (some (bif (bif (a0.Kind==1) then true else (a0.Kind==3)) then (a0.Every==0) else false)))
def Xa1 (a0:X6):Option (Int) :=
 bif (bif (bif (bif (decide (a0.Agg<1)) then true else (decide (a0.Agg>4))) then true else (decide (a0.Late<1))) then true else (decide (a0.Late>2))) then some 8 else (bif (bif (a0.Agg==1) then (decide ((List.length a0.Arg:Int)>0)) else false) then some 8 else ((bif (a0.Agg != 1) then ((X4h a0.Arg).bind λv8=>some (bif (a0.Agg != 1) then (v8 != 0) else false)) else (some (bif (a0.Agg != 1) then false else false)):Option (Bool)).bind λX06w=>bif X06w then ((X4h a0.Arg).bind λv12=>some v12) else ((bif (decide ((List.length a0.Where:Int)>0)) then ((X4h a0.Where).bind λv19=>some (bif (decide ((List.length a0.Where:Int)>0)) then (v19 != 0) else false)) else (some (bif (decide ((List.length a0.Where:Int)>0)) then false else false)):Option (Bool)).bind λXxp=>bif Xxp then ((X4h a0.Where).bind λv23=>some v23) else ((X6t a0.Sources a0.Join).bind λv25=>bif (v25 != 0) then some v25 else ((X7n a0.Window).bind λv28=>bif (bif (!v28) then true else (bif a0.Join then (a0.Window.Kind != 1) else false)) then some 8 else (some 0))))))
def X7p (a0:Int):Option (Bool) :=
 some (bif (a0==6) then true else (decide (a0 >= 12)))
def Xbe (a0:(List X1)) (a1:Int):Option (Bool) :=
 (getI a0 a1).bind λe1=>(getI a0 e1.A).bind λe3=>(X7p e3.Kind).bind λv5=>(getI a0 e1.B).bind λe7=>(X7p e7.Kind).bind λv9=>bif (decide (e1.Kind<=4)) then some true else (bif (e1.Kind==5) then (some (!v5)) else (bif (e1.Kind==6) then some v5 else (bif (bif (e1.Kind==16) then true else (e1.Kind==17)) then (some (v5==v9)) else (bif (decide (e1.Kind >= 18)) then (some (bif v5 then v9 else false)) else (some (bif (!v5) then (!v9) else false))))))
inductive Xis where
 |x0
 |x1 (Xpi:Int)
def X3t (X0f:(List X1)):List X1->Nat->Option Xis
 |[],k=>some (.x0)
 |x::xs,k=>(Xbe X0f (k:Int)).bind λv10=>bif (!v10) then (some (.x1 (k:Int))) else (X3t X0f xs (k+1))
def Xc5 (a0:(List X1)):Option (Int) :=
 (X4s (List.length a0)).bind λu1=>(X3t  a0 a0 0).bind λo13=>match o13 with|.x0=>(some (List.length a0:Int))|.x1 Xpi=>(some Xpi)
def Xg6 (a0:(List X1)):Option (Bool×Int×Int) :=
 (X4h a0).bind λv1=>bif (v1 != 0) then (some (false,0,v1)) else ((Xc5 a0).bind λv4=>bif (decide (v4<(List.length a0:Int))) then (some (false,v4,42)) else ((getI a0 (IntKind.i64.wrap ((List.length a0:Int) - 1))).bind λe7=>(X7p e7.Kind).bind λv9=>some (v9,(IntKind.i64.wrap ((List.length a0:Int) - 1)),0)))
def X7o (a0:(List X1)) (a1:Bool):Option (Int×Int) :=
 (Xg6 a0).bind λv1=>bif (bif (v1.2.2==0) then (!(v1.1==a1)) else false) then (some (v1.2.1,42)) else (some (v1.2.1,v1.2.2))
def X9y (a0:X6):Option (Int×Int) :=
 bif (decide ((List.length a0.Arg:Int)>0)) then ((X7o a0.Arg false).bind λv2=>bif (v2.2 != 0) then ((getI a0.Arg v2.1).bind λe5=>some (e5.At,v2.2)) else (bif (decide ((List.length a0.Where:Int)>0)) then ((X7o a0.Where true).bind λv8=>bif (v8.2 != 0) then ((getI a0.Where v8.1).bind λe11=>some (e11.At,v8.2)) else (some (0,0))) else (some (0,0)))) else (bif (decide ((List.length a0.Where:Int)>0)) then ((X7o a0.Where true).bind λv14=>bif (v14.2 != 0) then ((getI a0.Where v14.1).bind λe17=>some (e17.At,v14.2)) else (some (0,0))) else (some (0,0)))
def X9z (a0:X6):Option (Int×Int) :=
 (Xa1 a0).bind λv1=>bif (v1 != 0) then (some (0,v1)) else ((X9y a0).bind λv4=>some (v4.1,v4.2))
def X7m (a0:Int) (a1:Int):Option (Int) :=
 bif (bif (decide (a1<1)) then true else (decide (a1>1073741824))) then some 2 else (bif (bif (decide (a0<((-1099511627776):Int))) then true else (decide (a0>1099511627776))) then some 16 else (some 0))
def X9w (a0:Xv):Option (Bool) :=
 bif a0.Mark then ((bif (X23 a0.Record (X04.mk 0 0 0)) then (bif (a0.Time==9223372036854775807) then (some (bif (X23 a0.Record (X04.mk 0 0 0)) then (bif (a0.Time==9223372036854775807) then true else false) else false)) else ((X7m a0.Time 1).bind λv9=>some (bif (X23 a0.Record (X04.mk 0 0 0)) then (bif (a0.Time==9223372036854775807) then true else (v9==0)) else false))) else (some (bif (X23 a0.Record (X04.mk 0 0 0)) then false else false)):Option (Bool)).bind λj6_2=>some j6_2) else ((bif (a0.Time==0) then ((X7m a0.Record.Time 1).bind λv17=>some (bif (a0.Time==0) then (v17==0) else false)) else (some (bif (a0.Time==0) then false else false)):Option (Bool)).bind λX07a=>some X07a)
inductive Xiq where
 |x0
 |x1
def X3s (X0f:(List Xv)):List Xv->Nat->Option Xiq
 |[],k=>some (.x0)
 |x::xs,k=>(X9w x).bind λv11=>bif (!v11) then some (.x1) else (X3s X0f xs (k+1))
def X9x (a0:(List Xv)):Option (Int) :=
 bif (decide ((List.length a0:Int)>60)) then some 4 else ((X4s (List.length a0)).bind λu2=>(X3s  a0 a0 0).bind λo14=>match o14 with|.x0=>(some 0)|.x1=>(some 8))
inductive Xih where
 |x0
 |x1 (Xph:Int)
def X3r (X3n:(List (List Xv))) (Xsi:Int) (Xrb:Int):List (List Xv)->Nat->Option Xih
 |[],k=>some (.x0)
 |x::xs,k=>(X9x x).bind λv14=>bif (v14 != 0) then (some (.x1 v14)) else (X3r X3n Xsi Xrb xs (k+1))
def Xc3 (a0:X6) (a1:(List (List Xv))) (a2:Int) (a3:Int):Option (Int) :=
 (X9z a0).bind λv1=>bif (v1.2 != 0) then (some v1.2) else (bif ((List.length a1:Int) != (List.length a0.Sources:Int)) then some 2 else ((X4s (List.length a1)).bind λu5=>(X3r  a1 a2 a3 a1 0).bind λo17=>match o17 with|.x0=>(bif (bif (bif (bif (decide (a2<1)) then true else (decide (a2>3))) then true else (decide (a3<1))) then true else (decide (a3>8))) then some 2 else (some 0))|.x1 Xph=>(some Xph)))
def Xdd (a0:X6) (a1:(List (List Xv))) (a2:X2u):Option (Bool) :=
 ((X9v a0 a1).bind λv7=>bif (!v7) then ((Xc3 a0 a1 a2.Parts a2.Room).bind λv10=>some (bif (!v7) then (v10==0) else false)) else (some (bif (!v7) then false else false)):Option (Bool)).bind λj6_6=>some j6_6
def X2y (a0:Int):Option (Int×Int) :=
 bif (bif (decide (a0 >= 1)) then (decide (a0<=4)) else false) then (some (0,0)) else (bif (bif (a0==5) then true else (a0==6)) then (some (1,0)) else (bif (bif (decide (a0 >= 7)) then (decide (a0<=19)) else false) then (some (2,0)) else (some (0,2))))
inductive X56 where
 |x0 (X0n:(List Xf)) (X0j:(List Xf))
 |x1 (X0e:(List Xf))
def X22 (X8l:(List X1)):List X1->Nat->(List Xf)->(List Xf)->Option X56
 |[],k,Xs,Xc=>some (.x0 Xs Xc)
 |x::xs,k,Xs,Xc=>(X2y x.Kind).bind λv286=>bif (bif (v286.2 != 0) then true else (decide (v286.1>(List.length Xc:Int)))) then (some (.x1 Xs)) else ((Xan Xc 0 (IntKind.i64.wrap ((List.length Xc:Int) - v286.1))).bind λm295=>(Xan Xc (IntKind.i64.wrap ((List.length Xc:Int) - v286.1)) (List.length Xc:Int)).bind λm297=>bif (List.isEmpty m297) then ((bif (x.Kind==1) then (some (X1.mk x.Kind (if 0>x.N then 0 else x.N) 0 0 (if 400<(if 0>x.At then 0 else x.At) then 400 else (if 0>x.At then 0 else x.At)))) else (some (X1.mk x.Kind 0 0 0 (if 400<(if 0>x.At then 0 else x.At) then 400 else (if 0>x.At then 0 else x.At)))):Option (X1)).bind λXry=>bif (!(X2a Xry x)) then (some (.x1 Xs)) else ((X1o (List.length (m295++[(Xf.mk (k:Int) 1 1)])) 24).bind λu305=>(X1o (List.length (Xs++[(Xf.mk (k:Int) 1 1)])) 24).bind λu307=>X22 X8l xs (k+1) (Xs++[(Xf.mk (k:Int) 1 1)]) (m295++[(Xf.mk (k:Int) 1 1)]))) else (bif ((List.length m297:Int)==1) then ((getI m297 0).bind λe310=>(bif (x.Kind==1) then (some (X1.mk x.Kind (if 0>x.N then 0 else x.N) e310.at_ 0 (if 400<(if 0>x.At then 0 else x.At) then 400 else (if 0>x.At then 0 else x.At)))) else (some (X1.mk x.Kind 0 e310.at_ 0 (if 400<(if 0>x.At then 0 else x.At) then 400 else (if 0>x.At then 0 else x.At)))):Option (X1)).bind λXrx=>bif (!(X2a Xrx x)) then (some (.x1 Xs)) else ((X1o (List.length (m295++[(Xf.mk (k:Int) (IntKind.i64.wrap (1+e310.size)) (if (IntKind.i64.wrap (e310.depth+1))>1 then (IntKind.i64.wrap (e310.depth+1)) else 1))])) 24).bind λu317=>(X1o (List.length (Xs++[(Xf.mk (k:Int) (IntKind.i64.wrap (1+e310.size)) (if (IntKind.i64.wrap (e310.depth+1))>1 then (IntKind.i64.wrap (e310.depth+1)) else 1))])) 24).bind λu319=>X22 X8l xs (k+1) (Xs++[(Xf.mk (k:Int) (IntKind.i64.wrap (1+e310.size)) (if (IntKind.i64.wrap (e310.depth+1))>1 then (IntKind.i64.wrap (e310.depth+1)) else 1))]) (m295++[(Xf.mk (k:Int) (IntKind.i64.wrap (1+e310.size)) (if (IntKind.i64.wrap (e310.depth+1))>1 then (IntKind.i64.wrap (e310.depth+1)) else 1))]))) else (bif ((List.length m297:Int)==2) then ((getI m297 0).bind λe322=>(getI m297 1).bind λe324=>(bif (x.Kind==1) then (some (X1.mk x.Kind (if 0>x.N then 0 else x.N) e322.at_ e324.at_ (if 400<(if 0>x.At then 0 else x.At) then 400 else (if 0>x.At then 0 else x.At)))) else (some (X1.mk x.Kind 0 e322.at_ e324.at_ (if 400<(if 0>x.At then 0 else x.At) then 400 else (if 0>x.At then 0 else x.At)))):Option (X1)).bind λXrw=>bif (!(X2a Xrw x)) then (some (.x1 Xs)) else ((X1o (List.length (m295++[(Xf.mk (k:Int) (IntKind.i64.wrap ((IntKind.i64.wrap (1+e322.size))+e324.size)) (if (IntKind.i64.wrap (e324.depth+1))>(if (IntKind.i64.wrap (e322.depth+1))>1 then (IntKind.i64.wrap (e322.depth+1)) else 1) then (IntKind.i64.wrap (e324.depth+1)) else (if (IntKind.i64.wrap (e322.depth+1))>1 then (IntKind.i64.wrap (e322.depth+1)) else 1)))])) 24).bind λu331=>(X1o (List.length (Xs++[(Xf.mk (k:Int) (IntKind.i64.wrap ((IntKind.i64.wrap (1+e322.size))+e324.size)) (if (IntKind.i64.wrap (e324.depth+1))>(if (IntKind.i64.wrap (e322.depth+1))>1 then (IntKind.i64.wrap (e322.depth+1)) else 1) then (IntKind.i64.wrap (e324.depth+1)) else (if (IntKind.i64.wrap (e322.depth+1))>1 then (IntKind.i64.wrap (e322.depth+1)) else 1)))])) 24).bind λu333=>X22 X8l xs (k+1) (Xs++[(Xf.mk (k:Int) (IntKind.i64.wrap ((IntKind.i64.wrap (1+e322.size))+e324.size)) (if (IntKind.i64.wrap (e324.depth+1))>(if (IntKind.i64.wrap (e322.depth+1))>1 then (IntKind.i64.wrap (e322.depth+1)) else 1) then (IntKind.i64.wrap (e324.depth+1)) else (if (IntKind.i64.wrap (e322.depth+1))>1 then (IntKind.i64.wrap (e322.depth+1)) else 1)))]) (m295++[(Xf.mk (k:Int) (IntKind.i64.wrap ((IntKind.i64.wrap (1+e322.size))+e324.size)) (if (IntKind.i64.wrap (e324.depth+1))>(if (IntKind.i64.wrap (e322.depth+1))>1 then (IntKind.i64.wrap (e322.depth+1)) else 1) then (IntKind.i64.wrap (e324.depth+1)) else (if (IntKind.i64.wrap (e322.depth+1))>1 then (IntKind.i64.wrap (e322.depth+1)) else 1)))]))) else none)))
def Xe0 (a0:(List X1)):Option ((List Xf)×Bool) :=
 (X4s (List.length a0)).bind λu1=>(X22  a0 a0 0 ([]:List Xf) ([]:List Xf)).bind λo427=>match o427 with|.x0 X0n X0j=>(some (X0n,((List.length X0j:Int)==1)))|.x1 X0e=>(some (X0e,false))
def X7s (a0:(List X1)):Option ((List Xf)×Int) :=
 bif (decide ((List.length a0:Int)>60)) then (some (([]:List Xf),4)) else ((Xe0 a0).bind λv2=>bif (!v2.2) then (some (([]:List Xf),8)) else ((getI v2.1 (IntKind.i64.wrap ((List.length v2.1:Int) - 1))).bind λe5=>bif (decide (e5.depth>20)) then (some (([]:List Xf),34)) else (some (v2.1,0))))
def X28 (a0:(List X1)):Option (Int) :=
 (X7s a0).bind λv1=>some v1.2
def X5o (a0:Int):Option (Bool) :=
 some (bif (decide (a0<0)) then true else (decide (a0 >= 4)))
inductive X8n where
 |x0
 |x1 (X83:Int)
def X0s (X0f:(List Int)):List Int->Nat->Option X8n
 |[],k=>some (.x0)
 |x::xs,k=>(X5o x).bind λv10=>bif v10 then (some (.x1 (k:Int))) else (X0s X0f xs (k+1))
def X0r (a0:(List Int)):Option (Int) :=
 (X4s (List.length a0)).bind λu1=>(X0s  a0 a0 0).bind λo13=>match o13 with|.x0=>(some (-1))|.x1 X83=>(some X83)
def Xy (a0:(List Int)):Option (Bool) :=
 (X0r a0).bind λv1=>some (decide (v1 >= 0))
def X1d (l:List Int):Option Int:=(X4s (List.length l)).bind λ_=>some ((X5x [] l).length:Int)
def X2c (a0:(List Int)) (a1:Bool):Option (Int) :=
 bif (decide ((List.length a0:Int)>4)) then some 4 else ((bif ((List.length a0:Int)==0) then (some (bif (bif ((List.length a0:Int)==0) then true else false) then true else false)) else (bif a1 then (bif ((List.length a0:Int) != 2) then (some (bif (bif ((List.length a0:Int)==0) then true else (bif a1 then ((List.length a0:Int) != 2) else false)) then true else false)) else ((Xy a0).bind λv13=>some (bif (bif ((List.length a0:Int)==0) then true else (bif a1 then ((List.length a0:Int) != 2) else false)) then true else v13))) else ((Xy a0).bind λv15=>some (bif (bif ((List.length a0:Int)==0) then true else (bif a1 then false else false)) then true else v15))):Option (Bool)).bind λX06v=>bif X06v then some 8 else ((X1d a0).bind λv19=>bif (decide (v19<(List.length a0:Int))) then some 43 else (some 0)))
def X1q (a0:Xi):Option (Int) :=
 bif (bif (decide (a0.Size<1)) then true else (decide (a0.Size>1073741824))) then some 8 else (bif (a0.Kind==2) then (bif (bif (bif (decide (a0.Every >= 1)) then (decide (a0.Every<=a0.Size)) else false) then (decide (a0.Size<=(IntKind.i64.wrap (16*a0.Every)))) else false) then some 0 else (some 8)) else (bif (a0.Kind==1) then (bif (a0.Every==0) then some 0 else (some 8)) else (bif (a0.Kind==3) then (bif (a0.Every==0) then some 0 else (some 8)) else (some 8))))
def X75 (a0:X6):Option (Int) :=
 bif (bif (bif (decide (a0.Agg<1)) then true else (decide (a0.Agg>4))) then true else (bif (a0.Late != 1) then (a0.Late != 2) else false)) then some 8 else (bif (a0.Agg != 1) then ((X28 a0.Arg).bind λv3=>bif (v3 != 0) then some v3 else (bif (decide ((List.length a0.Where:Int)>0)) then ((X28 a0.Where).bind λv7=>bif (v7 != 0) then some v7 else ((X2c a0.Sources a0.Join).bind λv10=>bif (v10 != 0) then some v10 else (bif (bif a0.Join then (a0.Window.Kind != 1) else false) then some 8 else ((X1q a0.Window).bind λv14=>some v14)))) else ((X2c a0.Sources a0.Join).bind λv16=>bif (v16 != 0) then some v16 else (bif (bif a0.Join then (a0.Window.Kind != 1) else false) then some 8 else ((X1q a0.Window).bind λv20=>some v20))))) else (bif (decide ((List.length a0.Arg:Int)>0)) then some 8 else (bif (decide ((List.length a0.Where:Int)>0)) then ((X28 a0.Where).bind λv24=>bif (v24 != 0) then some v24 else ((X2c a0.Sources a0.Join).bind λv27=>bif (v27 != 0) then some v27 else (bif (bif a0.Join then (a0.Window.Kind != 1) else false) then some 8 else ((X1q a0.Window).bind λv31=>some v31)))) else ((X2c a0.Sources a0.Join).bind λv33=>bif (v33 != 0) then some v33 else (bif (bif a0.Join then (a0.Window.Kind != 1) else false) then some 8 else ((X1q a0.Window).bind λv37=>some v37))))))
inductive X94 where
 |x0
 |x1
def X08 (Xc:(List Bool)) (X40:(V2 Bool)) (X6i:(List Int)):List Int->Nat->Option X94
 |[],k=>some (.x0)
 |x::xs,k=>(getI Xc x).bind λe3011=>bif (!(e3011==false)) then some (.x1) else (X08 Xc X40 X6i xs (k+1))
inductive X8f where
 |x0
 |x1
def X09 (Xc:(List Bool)) (X6h:(List Int)):List Int->Nat->Option X8f
 |[],k=>some (.x0)
 |x::xs,k=>(getI Xc x).bind λe3127=>bif (!(e3127==true)) then some (.x1) else (X09 Xc X6h xs (k+1))
inductive X57 where
 |x0 (X0j:(List Bool))
 |x1 (X0e:(List Bool)) (Xml:Int)
def X1s (X0f:(List X1)):List X1->Nat->(List Bool)->Option X57
 |[],k,Xc=>some (.x0 Xc)
 |x::xs,k,Xc=>bif (decide (x.Kind<=4)) then ((X1o (List.length (Xc++[false])) 1).bind λu2525=>X1s X0f xs (k+1) (Xc++[false])) else (bif (x.Kind==5) then (((getI Xc x.A).bind λe2546=>bif (!(e2546==false)) then (some (bif (!(bif true then false else false)) then (!(bif false then false else false)) else false)) else (some (bif (!(bif true then true else false)) then false else false)):Option (Bool)).bind λXof=>bif Xof then (some (.x1 ([]:List Bool) (k:Int))) else ((X1o (List.length (Xc++[false])) 1).bind λu2551=>X1s X0f xs (k+1) (Xc++[false]))) else (bif (x.Kind==6) then (((getI Xc x.A).bind λe2571=>bif (!(e2571==true)) then some false else (some true):Option (Bool)).bind λXoe=>bif (bif (!(bif false then false else false)) then (!(bif true then Xoe else false)) else false) then (some (.x1 ([]:List Bool) (k:Int))) else ((X1o (List.length (Xc++[true])) 1).bind λu2576=>X1s X0f xs (k+1) (Xc++[true]))) else ((bif (decide (x.Kind<=11)) then (some ((V2.mk true false),false)) else (bif (decide (x.Kind<=15)) then (some ((V2.mk true false),true)) else (bif (decide (x.Kind<=17)) then (some ((V2.mk true true),true)) else (some ((V2.mk false true),true)))):Option ((V2 Bool)×Bool)).bind λw2581=>(bif w2581.1.e0 then (((X4s (List.length [x.A,x.B])).bind λu2980=>(X08  Xc w2581.1 [x.A,x.B] [x.A,x.B] 0).bind λo3016=>match o3016 with|.x0=>(some true)|.x1=>(some false):Option (Bool)).bind λXcf=>bif (!(bif w2581.1.e0 then Xcf else false)) then (bif w2581.1.e1 then (((X4s (List.length [x.A,x.B])).bind λu3096=>(X09  Xc [x.A,x.B] [x.A,x.B] 0).bind λo3132=>match o3132 with|.x0=>(some true)|.x1=>(some false):Option (Bool)).bind λXob=>some (bif (!(bif w2581.1.e0 then Xcf else false)) then (!(bif w2581.1.e1 then Xob else false)) else false)) else (some (bif (!(bif w2581.1.e0 then Xcf else false)) then (!(bif w2581.1.e1 then false else false)) else false))) else (some (bif (!(bif w2581.1.e0 then Xcf else false)) then false else false))) else (bif (!(bif w2581.1.e0 then false else false)) then (bif w2581.1.e1 then (((X4s (List.length [x.A,x.B])).bind λu3192=>(X09  Xc [x.A,x.B] [x.A,x.B] 0).bind λo3218=>match o3218 with|.x0=>(some true)|.x1=>(some false):Option (Bool)).bind λXoa=>some (bif (!(bif w2581.1.e0 then false else false)) then (!(bif w2581.1.e1 then Xoa else false)) else false)) else (some (bif (!(bif w2581.1.e0 then false else false)) then (!(bif w2581.1.e1 then false else false)) else false))) else (some (bif (!(bif w2581.1.e0 then false else false)) then false else false))):Option (Bool)).bind λXoc=>bif Xoc then (some (.x1 ([]:List Bool) (k:Int))) else ((X1o (List.length (Xc++[w2581.2])) 1).bind λu3223=>X1s X0f xs (k+1) (Xc++[w2581.2])))))
def X9l (a0:(List X1)):Option ((List Bool)×Int) :=
 (X4s (List.length a0)).bind λu1=>(X1s  a0 a0 0 ([]:List Bool)).bind λo3784=>match o3784 with|.x0 X0j=>(some (X0j,(List.length a0:Int)))|.x1 X0e Xml=>(some (X0e,Xml))
def Xao (a0:(List X1)):Option (Bool×Int×Int) :=
 (X28 a0).bind λv1=>bif (v1 != 0) then (some (false,0,v1)) else ((X9l a0).bind λv4=>bif (decide (v4.2<(List.length a0:Int))) then (some (false,v4.2,42)) else ((getI v4.1 (IntKind.i64.wrap (v4.2 - 1))).bind λe7=>some (e7,(IntKind.i64.wrap (v4.2 - 1)),0)))
def X9k (a0:(List X1)) (a1:Bool):Option (Int×Int) :=
 (Xao a0).bind λv1=>(bif (bif (v1.2.2==0) then (!(v1.1==a1)) else false) then some 42 else (some v1.2.2):Option (Int)).bind λj4_8=>some (v1.2.1,j4_8)
def Xa7 (a0:(List X1)):Option (Int×Int) :=
 (X9k a0 true).bind λv1=>some (v1.1,v1.2)
def Xap (a0:(List X1)):Option (Int×Int) :=
 (X9k a0 false).bind λv1=>some (v1.1,v1.2)
def X1n (a0:X6):Option (Int×Int) :=
 (X75 a0).bind λv1=>bif (v1 != 0) then (some (0,v1)) else ((bif ((List.length a0.Arg:Int)==0) then (bif ((List.length a0.Where:Int)==0) then (some (0,0)) else ((Xa7 a0.Where).bind λv25=>bif (v25.2 != 0) then ((getI a0.Where v25.1).bind λe28=>some (e28.At,v25.2)) else (some (0,0)))) else ((Xap a0.Arg).bind λv30=>bif (v30.2 != 0) then ((getI a0.Arg v30.1).bind λe33=>some (e33.At,v30.2)) else (bif ((List.length a0.Where:Int)==0) then (some (0,0)) else ((Xa7 a0.Where).bind λv36=>bif (v36.2 != 0) then ((getI a0.Where v36.1).bind λe39=>some (e39.At,v36.2)) else (some (0,0))))):Option (Int×Int)).bind λw22=>some (w22.1,w22.2))
def X0i (a0:(List X1)):Option ((List X1)) :=
 bif (List.isEmpty a0) then some a0 else ((X1o (List.length a0) 40).bind λu4=>some a0)
def X1u (a0:(List Int)):Option ((List Int)) :=
 bif (List.isEmpty a0) then some a0 else ((X1o (List.length a0) 8).bind λu4=>some a0)
def X8b (a0:X6):Option (X6) :=
 (X0i a0.Arg).bind λv1=>(X1u a0.Sources).bind λv3=>(X0i a0.Where).bind λv5=>some (X6.mk a0.Agg v1 v3 a0.Join v5 a0.Window a0.ByKey a0.Late)
def Xde (a0:(List X1)):Option ((List Bool)×Int) :=
 (Xao a0).bind λv1=>bif (v1.2.2 != 0) then (some (([]:List Bool),v1.2.2)) else ((X9l a0).bind λv4=>some (v4.1,0))
def Xbg (a0:(List X1)) (a1:Int):Option (Int×Int) :=
 (X7s a0).bind λv1=>bif (v1.2 != 0) then (some (0,v1.2)) else (bif (bif (decide (a1<0)) then true else (decide (a1 >= (List.length v1.1:Int)))) then (some (0,2)) else ((getI v1.1 a1).bind λe5=>some (e5.size,0)))
inductive X8q where
 |x0 (X0n:(List X1))
def X34 (X3n:Int) (X35:Int):Nat->(List X1)->Int->Option X8q
 |0,_,_=>none
 |n+1,Xs,X9q=>bif (decide (X9q<X35)) then ((getI Xs X9q).bind λe86=>(X2y e86.Kind).bind λv88=>(bif (decide (v88.1>0)) then (some (List.set Xs (Int.toNat X9q) (X1.mk e86.Kind e86.N (IntKind.i64.wrap (e86.A+X3n)) e86.B e86.At))) else (some Xs):Option ((List X1))).bind λXkz=>(bif (decide (v88.1>1)) then ((getI Xkz X9q).bind λe99=>some (List.set Xkz (Int.toNat X9q) (X1.mk e99.Kind e99.N e99.A (IntKind.i64.wrap (e99.B+X3n)) e99.At))) else (some Xkz):Option ((List X1))).bind λXq7=>X34 X3n X35 n Xq7 (IntKind.i64.wrap (X9q+1))) else (some (.x0 Xs))
def X68 (a0:(List X1)) (a1:Int):Option ((List X1)) :=
 (bif (List.isEmpty a0) then some a0 else ((X1o (List.length a0) 40).bind λu10=>some a0):Option ((List X1))).bind λXq8=>(X34  a1 (List.length Xq8:Int) FU Xq8 0).bind λo113=>match o113 with|.x0 X0n=>(some X0n)
def Xbh (a0:(List X1)) (a1:Int):Option ((List X1)×Int) :=
 (Xbg a0 a1).bind λv1=>bif (v1.2 != 0) then (some (([]:List X1),v1.2)) else ((Xan a0 (IntKind.i64.wrap ((IntKind.i64.wrap (a1+1)) - v1.1)) (IntKind.i64.wrap (a1+1))).bind λm4=>(X68 m4 (IntKind.i64.wrap (0 - (IntKind.i64.wrap ((IntKind.i64.wrap (a1+1)) - v1.1))))).bind λv6=>some (v6,0))
def X2j (a0:X1):Option (Bool) :=
 (bif (X2a (X1.mk a0.Kind a0.N a0.A a0.B 0) (X1.mk 2 0 0 0 0)) then (some (bif (bif (X2a (X1.mk a0.Kind a0.N a0.A a0.B 0) (X1.mk 2 0 0 0 0)) then true else false) then true else false)) else (bif (X2a (X1.mk a0.Kind a0.N a0.A a0.B 0) (X1.mk 3 0 0 0 0)) then (some (bif (bif (X2a (X1.mk a0.Kind a0.N a0.A a0.B 0) (X1.mk 2 0 0 0 0)) then true else (X2a (X1.mk a0.Kind a0.N a0.A a0.B 0) (X1.mk 3 0 0 0 0))) then true else false)) else (some (bif (bif (X2a (X1.mk a0.Kind a0.N a0.A a0.B 0) (X1.mk 2 0 0 0 0)) then true else (X2a (X1.mk a0.Kind a0.N a0.A a0.B 0) (X1.mk 3 0 0 0 0))) then true else (X2a (X1.mk a0.Kind a0.N a0.A a0.B 0) (X1.mk 4 0 0 0 0))))):Option (Bool)).bind λj3_2=>some j3_2
inductive X7k where
 |x0
 |x1 (X83:Int)
def X06 (X0f:(List X1)):List X1->Nat->Option X7k
 |[],k=>some (.x0)
 |x::xs,k=>(X2j x).bind λv10=>bif v10 then (some (.x1 (k:Int))) else (X06 X0f xs (k+1))
def X0k (a0:(List X1)):Option (Int) :=
 (X4s (List.length a0)).bind λu1=>(X06  a0 a0 0).bind λo13=>match o13 with|.x0=>(some (-1))|.x1 X83=>(some X83)
def X0c (a0:(List X1)):Option (Bool) :=
 (X0k a0).bind λv1=>some (decide (v1 >= 0))
def X5a (a0:(List X1)):Option (Bool×Int) :=
 (X28 a0).bind λv1=>bif (v1 != 0) then (some (false,v1)) else ((X0c a0).bind λv4=>some ((!v4),0))
def Xac (a0:(List X1)):Option (Int) :=
 (Xao a0).bind λv1=>some v1.2.2
def X3g (a0:Bool):Option (Int) :=
 bif a0 then some 1 else (some 0)
def Xcg (a0:Int) (a1:Int) (a2:Int):Option (Int×Int) :=
 bif (a0==5) then (some ((IntKind.i64.wrap (0 - a1)),0)) else (bif (a0==6) then ((X3g (a1==0)).bind λv3=>some (v3,0)) else (bif (a0==7) then (some ((IntKind.i64.wrap (a1*a2)),0)) else (bif (a0==8) then (some ((IntKind.i64.wrap (a1+a2)),0)) else (bif (a0==9) then (some ((IntKind.i64.wrap (a1 - a2)),0)) else (bif (a0==10) then ((shOk (bits .and IntKind.i64 a2 63)).bind λu9=>some ((IntKind.i64.wrap (a1*2 ^ (min (Int.toNat (bits .and IntKind.i64 a2 63)) IntKind.i64.bits))),0)) else (bif (a0==11) then ((shOk (bits .and IntKind.i64 a2 63)).bind λu12=>some ((Int.fdiv a1 (2 ^ (min (Int.toNat (bits .and IntKind.i64 a2 63)) IntKind.i64.bits))),0)) else (bif (a0==12) then ((X3g (decide (a1<a2))).bind λv15=>some (v15,0)) else (bif (a0==13) then ((X3g (decide (a1<=a2))).bind λv18=>some (v18,0)) else (bif (a0==14) then ((X3g (decide (a1>a2))).bind λv21=>some (v21,0)) else (bif (a0==15) then ((X3g (decide (a1 >= a2))).bind λv24=>some (v24,0)) else (bif (a0==16) then ((X3g (a1==a2)).bind λv27=>some (v27,0)) else (bif (a0==17) then ((X3g (a1 != a2)).bind λv30=>some (v30,0)) else (bif (a0==18) then ((X3g (bif (a1 != 0) then (a2 != 0) else false)).bind λv33=>some (v33,0)) else (bif (a0==19) then ((X3g ((bits .or IntKind.i64 a1 a2) != 0)).bind λv36=>some (v36,0)) else (some (0,2))))))))))))))))
inductive X81 where
 |x0 (X0n:(List Int))
 |x1 (X0e:(List Int)) (Xmk:Int)
def X24 (Xs:(V5 Int)) (Xk1:(List X1)):List X1->Nat->(List Int)->Option X81
 |[],k,Xc=>some (.x0 Xc)
 |x::xs,k,Xc=>bif (x.Kind==1) then ((getI Xc (k:Int)).bind λe88=>X24 Xs Xk1 xs (k+1) (List.set Xc (Int.toNat (k:Int)) x.N)) else (bif (decide (x.Kind<=4)) then ((bif (x.Kind==0) then ((getI Xc (k:Int)).bind λe105=>some (List.set Xc (Int.toNat (k:Int)) Xs.e0)) else (bif (x.Kind==2) then ((getI Xc (k:Int)).bind λe108=>some (List.set Xc (Int.toNat (k:Int)) Xs.e2)) else (bif (x.Kind==3) then ((getI Xc (k:Int)).bind λe111=>some (List.set Xc (Int.toNat (k:Int)) Xs.e3)) else (bif (x.Kind==4) then ((getI Xc (k:Int)).bind λe114=>some (List.set Xc (Int.toNat (k:Int)) Xs.e4)) else none))):Option ((List Int))).bind λXoh=>X24 Xs Xk1 xs (k+1) Xoh) else ((getI Xc x.A).bind λe117=>(getI Xc x.B).bind λe119=>(Xcg x.Kind e117 e119).bind λv121=>bif (v121.2 != 0) then (some (.x1 ([]:List Int) v121.2)) else ((getI Xc (k:Int)).bind λe124=>X24 Xs Xk1 xs (k+1) (List.set Xc (Int.toNat (k:Int)) v121.1))))
def Xdq (a0:(List X1)) (a1:X04):Option ((List Int)×Int) :=
 (Xac a0).bind λv1=>bif (v1 != 0) then (some (([]:List Int),v1)) else ((mkOk (List.length a0:Int) (List.length a0:Int) 8).bind λu4=>(X4s (List.length a0)).bind λu6=>(X24  (V5.mk 0 0 a1.Key a1.Time a1.Value) a0 a0 0 (List.replicate (Int.toNat (List.length a0:Int)) 0)).bind λo126=>match o126 with|.x0 X0n=>(some (X0n,0))|.x1 X0e Xmk=>(some (X0e,Xmk)))
def X9a (a0:(List X1)) (a1:X04):Option (Int×Int) :=
 (Xdq a0 a1).bind λv1=>bif (v1.2 != 0) then (some (0,v1.2)) else ((getI v1.1 (IntKind.i64.wrap ((List.length v1.1:Int) - 1))).bind λe4=>some (e4,0))
def X7u (a0:(List X1)):Option (Int×Bool×Int) :=
 (Xao a0).bind λv1=>bif (v1.2.2 != 0) then (some (0,false,v1.2.2)) else ((X5a a0).bind λv4=>bif (bif (v4.2 != 0) then true else (!v4.1)) then (some (0,false,v4.2)) else ((X9a a0 (X04.mk 0 0 0)).bind λv7=>some (v7.1,(v7.2==0),v7.2)))
def X58 (a0:Int) (a1:Int):Option ((List X1)) :=
 some [(X1.mk 1 a0 0 0 a1)]
inductive X6x where
 |x0 (X0n:X1) (X0j:(List X1))
 |x1 (X0e:(List X1)) (Xcs:Int)
def X27 (Xef:(List (List X1))):List (List X1)->Nat->X1->(List X1)->Option X6x
 |[],k,Xs,Xc=>some (.x0 Xs Xc)
 |x::xs,k,Xs,Xc=>(X28 x).bind λv71=>bif (v71 != 0) then (some (.x1 ([]:List X1) v71)) else ((X68 x (List.length Xc:Int)).bind λv74=>bif (List.isEmpty v74) then ((bif ((k:Int)==0) then (some (X1.mk Xs.Kind Xs.N (IntKind.i64.wrap ((List.length (Xc++v74):Int) - 1)) Xs.B Xs.At)) else (some (X1.mk Xs.Kind Xs.N Xs.A (IntKind.i64.wrap ((List.length (Xc++v74):Int) - 1)) Xs.At)):Option (X1)).bind λXxl=>X27 Xef xs (k+1) Xxl (Xc++v74)) else ((X1o (List.length (Xc++v74)) 40).bind λu81=>(bif ((k:Int)==0) then (some (X1.mk Xs.Kind Xs.N (IntKind.i64.wrap ((List.length (Xc++v74):Int) - 1)) Xs.B Xs.At)) else (some (X1.mk Xs.Kind Xs.N Xs.A (IntKind.i64.wrap ((List.length (Xc++v74):Int) - 1)) Xs.At)):Option (X1)).bind λXxk=>X27 Xef xs (k+1) Xxk (Xc++v74)))
def X36 (a0:Int) (a1:Int) (a2:Int) (a3:(List (List X1))):Option ((List X1)×Int) :=
 (X2y a0).bind λv1=>bif (bif (bif (bif (bif (bif (v1.2 != 0) then true else (v1.1 != (List.length a3:Int))) then true else (decide (a1<0))) then true else (bif (decide (a1>0)) then (a0 != 1) else false)) then true else (decide (a2<0))) then true else (decide (a2>400))) then (some (([]:List X1),2)) else ((X4s (List.length a3)).bind λu4=>(X27  a3 a3 0 (X1.mk a0 a1 0 0 a2) ([]:List X1)).bind λo103=>match o103 with|.x0 X0n X0j=>((X1o (List.length (X0j++[X0n])) 40).bind λu105=>(X28 (X0j++[X0n])).bind λv107=>bif (v107 != 0) then (some (([]:List X1),v107)) else (some ((X0j++[X0n]),0)))|.x1 X0e Xcs=>(some (X0e,Xcs)))
def Xbm (a0:Int) (a1:Bool) (a2:Int):Option (Xj) :=
 bif a1 then ((bif (a0 != 0) then some 16 else (some 17):Option (Int)).bind λXq9=>(X58 0 a2).bind λv22=>(X36 Xq9 0 a2 [v22,v22]).bind λv24=>some (Xj.mk v24.1 (bif (v24.2==0) then (decide ((List.length v24.1:Int)>0)) else false))) else (bif (decide (a0 >= 0)) then (some (Xj.mk [(X1.mk 1 a0 0 0 a2)] (bif ((0:Int)==0) then (decide ((1:Int)>0)) else false))) else (bif (decide ((IntKind.i64.wrap (0 - a0))>0)) then ((X58 (IntKind.i64.wrap (0 - a0)) a2).bind λv41=>(X36 5 0 a2 [v41]).bind λv43=>some (Xj.mk v43.1 (bif (v43.2==0) then (decide ((List.length v43.1:Int)>0)) else false))) else (some (Xj.mk ([]:List X1) (bif ((0:Int)==0) then (decide ((0:Int)>0)) else false)))))
inductive X60 where
 |x0 (X0j:(List (List X1)))
 |x1 (X0e:(List X1)) (Xmj:Int)
def X50 (rec:(List X1)->(List Xj)->Int->Option ((List X1)×Int)) (X0f:(List X1)) (X3n:(List Xj)) (Xs:X1) (Xd6:Int) (Xra:(List Int)):List Int->Nat->(List (List X1))->Option X60
 |[],k,Xc=>some (.x0 Xc)
 |x::xs,k,Xc=>(rec X0f X3n x).bind λv44=>bif (v44.2 != 0) then (some (.x1 ([]:List X1) v44.2)) else ((X1o (List.length (Xc++[v44.1])) 24).bind λu47=>X50 rec X0f X3n Xs Xd6 Xra xs (k+1) (Xc++[v44.1]))
def X29:Nat->(List X1)->(List Xj)->Int->Option ((List X1)×Int)
 |0,_,_,_=>none
 |n+1,a0,a1,a2=>(getI a1 a2).bind λe1=>bif e1.there then ((bif (List.isEmpty e1.value) then (some e1.value) else ((X1o (List.length e1.value) 40).bind λu13=>some e1.value):Option ((List X1))).bind λXxj=>some (Xxj,0)) else ((getI a0 a2).bind λe16=>(X2y e16.Kind).bind λv18=>bif (v18.1==0) then ((X4s (List.length ([]:List Int))).bind λu21=>(X50 (X29 n)  a0 a1 e16 v18.2 [] [] 0 ([]:List (List X1))).bind λo54=>match o54 with|.x0 X0j=>(bif (v18.2 != 0) then (some (([]:List X1),v18.2)) else ((X36 e16.Kind e16.N e16.At X0j).bind λv57=>some (v57.1,v57.2)))|.x1 X0e Xmj=>(some (X0e,Xmj))) else (bif (v18.1==1) then (((X29 n) a0 a1 e16.A).bind λv63=>bif (v63.2 != 0) then (some (([]:List X1),v63.2)) else (bif (v18.2 != 0) then (some (([]:List X1),v18.2)) else ((X36 e16.Kind e16.N e16.At [v63.1]).bind λv67=>some (v67.1,v67.2)))) else (bif (v18.1==2) then (((X29 n) a0 a1 e16.A).bind λv70=>bif (v70.2 != 0) then (some (([]:List X1),v70.2)) else (((X29 n) a0 a1 e16.B).bind λv73=>bif (v73.2 != 0) then (some (([]:List X1),v73.2)) else (bif (v18.2 != 0) then (some (([]:List X1),v18.2)) else ((X36 e16.Kind e16.N e16.At [v70.1,v73.1]).bind λv77=>some (v77.1,v77.2))))) else none)))
inductive X72 where
 |x0 (Xez:(List X1)) (Xbu:(List Xj))
def X01 (Xs:(List X1)) (Xic:(List X1)) (X40:Int) (X6i:(List Bool)) (X63:(List X1)):Nat->(List Xj)->(List Int)->Option X72
 |0,_,_=>none
 |n+1,Xlq,X5r=>bif (decide ((List.length X5r:Int)>0)) then ((getI X5r (IntKind.i64.wrap ((List.length X5r:Int) - 1))).bind λe208=>(Xan X5r 0 (IntKind.i64.wrap ((List.length X5r:Int) - 1))).bind λm210=>((Xbh Xs e208).bind λv227=>bif (v227.2 != 0) then none else ((X7u v227.1).bind λv230=>bif (bif (v230.2.2==0) then v230.2.1 else false) then ((getI X6i e208).bind λe233=>(getI Xs e208).bind λe235=>(Xbm v230.1 e233 e235.At).bind λv237=>(getI Xlq e208).bind λe239=>some (List.set Xlq (Int.toNat e208) v237)) else (some Xlq)):Option ((List Xj))).bind λXdg=>(getI Xdg e208).bind λe244=>bif (!(!e244.there)) then (X01 Xs Xic X40 X6i X63 n Xdg m210) else ((getI X63 e208).bind λe247=>(X2y e247.Kind).bind λv249=>bif (v249.1==1) then ((X1o (List.length (m210++[e247.A])) 8).bind λu252=>X01 Xs Xic X40 X6i X63 n Xdg (m210++[e247.A])) else (bif (v249.1==2) then ((X1o (List.length (m210++[e247.A,e247.B])) 8).bind λu255=>X01 Xs Xic X40 X6i X63 n Xdg (m210++[e247.A,e247.B])) else (X01 Xs Xic X40 X6i X63 n Xdg m210)))) else (some (.x0 Xic Xlq))
def X48 (a0:(List X1)):Option ((List X1)×Int) :=
 (Xde a0).bind λv1=>bif (v1.2 != 0) then (some (([]:List X1),v1.2)) else ((mkOk (List.length a0:Int) (List.length a0:Int) 32).bind λu4=>(X01  a0 ([]:List X1) 0 v1.1 a0 FU (List.replicate (Int.toNat (List.length a0:Int)) (Xj.mk ([]:List X1) false)) [(IntKind.i64.wrap ((List.length a0:Int) - 1))]).bind λo307=>match o307 with|.x0 Xez Xbu=>((X29 FU a0 Xbu (IntKind.i64.wrap ((List.length a0:Int) - 1))).bind λv309=>some (v309.1,v309.2)))
def X7v (a0:X6):Option (X6×Int) :=
 (X1n a0).bind λv1=>bif (v1.2 != 0) then (some ((X6.mk 0 ([]:List X1) ([]:List Int) false ([]:List X1) (Xi.mk 0 0 0) false 0),v1.2)) else ((bif (List.isEmpty a0.Sources) then (some a0.Sources) else ((X1o (List.length a0.Sources) 8).bind λu13=>some a0.Sources):Option ((List Int))).bind λXq5=>bif ((List.length a0.Arg:Int)==0) then (bif ((List.length a0.Where:Int)==0) then (some ((X6.mk a0.Agg a0.Arg Xq5 a0.Join a0.Where a0.Window a0.ByKey a0.Late),0)) else ((X48 a0.Where).bind λv18=>bif (v18.2 != 0) then (some ((X6.mk 0 ([]:List X1) ([]:List Int) false ([]:List X1) (Xi.mk 0 0 0) false 0),v18.2)) else (some ((X6.mk a0.Agg a0.Arg Xq5 a0.Join v18.1 a0.Window a0.ByKey a0.Late),0)))) else ((X48 a0.Arg).bind λv21=>bif (v21.2 != 0) then (some ((X6.mk 0 ([]:List X1) ([]:List Int) false ([]:List X1) (Xi.mk 0 0 0) false 0),v21.2)) else (bif ((List.length a0.Where:Int)==0) then (some ((X6.mk a0.Agg v21.1 Xq5 a0.Join a0.Where a0.Window a0.ByKey a0.Late),0)) else ((X48 a0.Where).bind λv25=>bif (v25.2 != 0) then (some ((X6.mk 0 ([]:List X1) ([]:List Int) false ([]:List X1) (Xi.mk 0 0 0) false 0),v25.2)) else (some ((X6.mk a0.Agg v21.1 Xq5 a0.Join v25.1 a0.Window a0.ByKey a0.Late),0))))))
def X8d (a0:X6) (a1:Int):Option (X6×Int) :=
 (X8b a0).bind λv1=>bif (a1==1) then ((X7v v1).bind λv4=>some (v4.1,v4.2)) else (bif (a1==2) then (bif ((List.length a0.Where:Int)==0) then (some (v1,0)) else ((X7u a0.Where).bind λv8=>bif (v8.2.2 != 0) then (some ((X6.mk 0 ([]:List X1) ([]:List Int) false ([]:List X1) (Xi.mk 0 0 0) false 0),v8.2.2)) else ((bif (bif v8.2.1 then (v8.1 != 0) else false) then (some (X6.mk v1.Agg v1.Arg v1.Sources v1.Join ([]:List X1) v1.Window v1.ByKey v1.Late)) else (some v1):Option (X6)).bind λXxs=>some (Xxs,0)))) else ((bif (a1==3) then (bif (bif (a0.Window.Kind==2) then (a0.Window.Size==a0.Window.Every) else false) then (some (X6.mk v1.Agg v1.Arg v1.Sources v1.Join v1.Where (Xi.mk 1 a0.Window.Size 0) v1.ByKey v1.Late)) else (some v1)) else (some v1):Option (X6)).bind λXxo=>some (Xxo,0)))
inductive X9t where
 |x0
 |x1
def X0p (X0f:(List X1)) (X3n:(List X1)):List X1->Nat->Option X9t
 |[],k=>some (.x0)
 |x::xs,k=>(getI X3n (k:Int)).bind λe11=>bif (!(X2a x e11)) then some (.x1) else (X0p X0f X3n xs (k+1))
def X21 (a0:(List X1)) (a1:(List X1)):Option (Bool) :=
 bif ((List.length a0:Int) != (List.length a1:Int)) then some false else ((X4s (List.length a0)).bind λu2=>(X0p  a0 a1 a0 0).bind λo14=>match o14 with|.x0=>(some true)|.x1=>(some false))
def X8c (a0:X6) (a1:X6):Option (Bool) :=
 ((X21 a0.Arg a1.Arg).bind λv8=>bif v8 then ((X21 a0.Where a1.Where).bind λv11=>bif v11 then (some (bif (bif v8 then v11 else false) then (X69 a0.Window a1.Window) else false)) else (some (bif (bif v8 then v11 else false) then false else false))) else (some (bif (bif v8 then false else false) then false else false)):Option (Bool)).bind λj7_4=>some j7_4
def X2l (a0:X6) (a1:Int):Option (X6×Bool×Int) :=
 (X1n a0).bind λv1=>bif (v1.2 != 0) then (some ((X6.mk 0 ([]:List X1) ([]:List Int) false ([]:List X1) (Xi.mk 0 0 0) false 0),false,v1.2)) else (bif (bif (decide (a1<1)) then true else (decide (a1>3))) then (some ((X6.mk 0 ([]:List X1) ([]:List Int) false ([]:List X1) (Xi.mk 0 0 0) false 0),false,2)) else ((X8d a0 a1).bind λv5=>bif (v5.2 != 0) then (some ((X6.mk 0 ([]:List X1) ([]:List Int) false ([]:List X1) (Xi.mk 0 0 0) false 0),false,v5.2)) else ((X8c a0 v5.1).bind λv8=>some (v5.1,(!v8),0))))
inductive Xif where
 |x0 (Xhv:Int)
 |x1 (X6l:X6)
def X4w (Xs:X6):Nat->X6->Int->Option Xif
 |0,_,_=>none
 |n+1,Xc,X64=>bif (decide (X64<20)) then ((X2l Xc 1).bind λv25=>bif (v25.2.2 != 0) then (some (.x0 v25.2.2)) else ((X2l v25.1 2).bind λv28=>bif (v28.2.2 != 0) then (some (.x0 v28.2.2)) else ((X2l v28.1 3).bind λv31=>bif (v31.2.2 != 0) then (some (.x0 v31.2.2)) else (bif (!(bif (bif (bif false then true else v25.2.1) then true else v28.2.1) then true else v31.2.1)) then (some (.x1 v31.1)) else (X4w Xs n v31.1 (IntKind.i64.wrap (X64+1))))))) else (some (.x1 Xc))
def X66 (a0:X6):Option (X6×Int) :=
 (X4w  (X6.mk 0 ([]:List X1) ([]:List Int) false ([]:List X1) (Xi.mk 0 0 0) false 0) FU a0 0).bind λo35=>match o35 with|.x0 Xhv=>(some ((X6.mk ((X6.mk 0 ([]:List X1) ([]:List Int) false ([]:List X1) (Xi.mk 0 0 0) false 0).Agg) ((X6.mk 0 ([]:List X1) ([]:List Int) false ([]:List X1) (Xi.mk 0 0 0) false 0).Arg) ((X6.mk 0 ([]:List X1) ([]:List Int) false ([]:List X1) (Xi.mk 0 0 0) false 0).Sources) ((X6.mk 0 ([]:List X1) ([]:List Int) false ([]:List X1) (Xi.mk 0 0 0) false 0).Join) ((X6.mk 0 ([]:List X1) ([]:List Int) false ([]:List X1) (Xi.mk 0 0 0) false 0).Where) ((X6.mk 0 ([]:List X1) ([]:List Int) false ([]:List X1) (Xi.mk 0 0 0) false 0).Window) ((X6.mk 0 ([]:List X1) ([]:List Int) false ([]:List X1) (Xi.mk 0 0 0) false 0).ByKey) ((X6.mk 0 ([]:List X1) ([]:List Int) false ([]:List X1) (Xi.mk 0 0 0) false 0).Late)),Xhv))|.x1 X6l=>(some (X6l,0))
def X6w (a0:X2u):Option (Int) :=
 bif (bif (bif (bif (decide (a0.Parts<1)) then true else (decide (a0.Parts>3))) then true else (decide (a0.Room<1))) then true else (decide (a0.Room>8))) then some 2 else (some 0)
def Xbi (a0:Int):Option (Bool) :=
 some (bif (decide (a0 >= ((-1099511627776):Int))) then (decide (a0<=1099511627776)) else false)
inductive Xkx where
 |x0
 |x1
def X4i (Xd6:(List Xv)):List Xv->Nat->Option Xkx
 |[],k=>some (.x0)
 |x::xs,k=>(bif (X23 x.Record (X04.mk 0 0 0)) then ((Xbi x.Time).bind λv49=>bif v49 then (some (bif (X23 x.Record (X04.mk 0 0 0)) then (bif v49 then true else false) else false)) else (some (bif (X23 x.Record (X04.mk 0 0 0)) then (bif v49 then true else (x.Time==9223372036854775807)) else false))) else (some (bif (X23 x.Record (X04.mk 0 0 0)) then false else false)):Option (Bool)).bind λX022=>(bif (x.Time==0) then ((Xbi x.Record.Time).bind λv58=>some (bif (x.Time==0) then v58 else false)) else (some (bif (x.Time==0) then false else false)):Option (Bool)).bind λX06y=>bif (bif (bif x.Mark then (!X022) else false) then true else (bif (!x.Mark) then (!X06y) else false)) then some (.x1) else (X4i Xd6 xs (k+1))
def Xbj (a0:(List Xv)):Option (Int) :=
 bif (decide ((List.length a0:Int)>60)) then some 4 else ((X4s (List.length a0)).bind λu2=>(X4i  a0 a0 0).bind λo62=>match o62 with|.x0=>(some 0)|.x1=>(some 8))
def X9g (a0:X6):Option ((List Int)) :=
 (bif (decide ((List.length a0.Where:Int)>0)) then (some [1,2,3]) else (some [1,2]):Option ((List Int))).bind λXrz=>(X1o (List.length (Xrz++[4])) 1).bind λu5=>(bif a0.ByKey then ((X1o (List.length ((Xrz++[4])++[5])) 1).bind λu12=>some ((Xrz++[4])++[5])) else (some (Xrz++[4])):Option ((List Int))).bind λXi2=>(X1o (List.length (Xi2++[6])) 1).bind λu15=>(bif a0.Join then ((X1o (List.length ((Xi2++[6])++[8])) 1).bind λu24=>some ((Xi2++[6])++[8])) else ((X1o (List.length ((Xi2++[6])++[7])) 1).bind λu26=>some ((Xi2++[6])++[7])):Option ((List Int))).bind λXl2=>(X1o (List.length (Xl2++[9])) 1).bind λu29=>(bif (a0.Late==2) then ((X1o (List.length ((Xl2++[9])++[10])) 1).bind λu36=>some ((Xl2++[9])++[10])) else (some (Xl2++[9])):Option ((List Int))).bind λXt9=>some Xt9
def Xkl (a0:X6):Option (X5y×Int) :=
 (X1n a0).bind λv1=>bif (v1.2 != 0) then (some ((X5y.mk ([]:List Int) (X6.mk 0 ([]:List X1) ([]:List Int) false ([]:List X1) (Xi.mk 0 0 0) false 0)),v1.2)) else ((X0i a0.Arg).bind λv4=>(X1u a0.Sources).bind λv6=>(X0i a0.Where).bind λv8=>(X9g (X6.mk a0.Agg v4 v6 a0.Join v8 a0.Window a0.ByKey a0.Late)).bind λv10=>some ((X5y.mk v10 (X6.mk a0.Agg v4 v6 a0.Join v8 a0.Window a0.ByKey a0.Late)),0))
inductive X8o where
 |x0
 |x1
def X0t (X0f:(List Int)) (X3n:(List Int)):List Int->Nat->Option X8o
 |[],k=>some (.x0)
 |x::xs,k=>(getI X3n (k:Int)).bind λe11=>bif (x != e11) then some (.x1) else (X0t X0f X3n xs (k+1))
def X2p (a0:(List Int)) (a1:(List Int)):Option (Bool) :=
 bif ((List.length a0:Int) != (List.length a1:Int)) then some false else ((X4s (List.length a0)).bind λu2=>(X0t  a0 a1 a0 0).bind λo14=>match o14 with|.x0=>(some true)|.x1=>(some false))
def X9h (a0:X5y):Option (Int) :=
 (X1n a0.Query).bind λv1=>bif (v1.2 != 0) then (some v1.2) else ((X9g a0.Query).bind λv4=>(X2p a0.Steps v4).bind λv6=>bif (!v6) then some 8 else (some 0))
inductive X47 where
 |x0 (z0i0_0_o4:(List GOp))
def X3e (Xs:X5y) (Xc:Int) (X40:Xu) (X64:Int):Nat->(List GOp)->Int->Option X47
 |0,_,_=>none
 |n+1,X6h,X35=>bif (decide (X35<X64)) then ((X1o (List.length (X6h++[(GOp.mk 1 X35)])) 16).bind λu41=>X3e Xs Xc X40 X64 n (X6h++[(GOp.mk 1 X35)]) (IntKind.i64.wrap (X35+1))) else (some (.x0 X6h))
inductive Xaj where
 |x0 (z0i1_0_o5:(List GOp))
def X2t (Xs:X5y) (Xc:Int) (X40:Xu) (Xpo:Int) (X64:Int):Nat->(List GOp)->Int->Option Xaj
 |0,_,_=>none
 |n+1,X9p,X35=>bif (decide (X35<X64)) then ((X1o (List.length (X9p++[(GOp.mk 2 X35)])) 16).bind λu69=>X2t Xs Xc X40 Xpo X64 n (X9p++[(GOp.mk 2 X35)]) (IntKind.i64.wrap (X35+1))) else (some (.x0 X9p))
inductive Xai where
 |x0 (z0i2_0_o6:(List GOp))
def X2s (Xs:X5y) (Xc:Int) (X40:Xu) (Xpo:Int) (X64:Int):Nat->(List GOp)->Int->Option Xai
 |0,_,_=>none
 |n+1,X63,X35=>bif (decide (X35<X64)) then ((X1o (List.length (X63++[(GOp.mk 3 X35)])) 16).bind λu120=>X2s Xs Xc X40 Xpo X64 n (X63++[(GOp.mk 3 X35)]) (IntKind.i64.wrap (X35+1))) else (some (.x0 X63))
inductive Xah where
 |x0 (z0i3_0_o6:(List GOp))
def X2r (Xs:X5y) (Xc:Xu) (X9p:Int) (X0f:Int) (Xpo:Int) (X64:Int):Nat->(List GOp)->Int->Option Xah
 |0,_,_=>none
 |n+1,X63,X35=>bif (decide (X35<X64)) then ((X1o (List.length (X63++[(GOp.mk X0f X35)])) 16).bind λu149=>X2r Xs Xc X9p X0f Xpo X64 n (X63++[(GOp.mk X0f X35)]) (IntKind.i64.wrap (X35+1))) else (some (.x0 X63))
inductive Xcl where
 |x0 (Xbv:(List X7))
def Xcm (X3n:Int) (Xs:X5y) (Xc:Xu) (y0_9:Int) (X6i:(List GOp)) (X9p:Int) (X9q:Int) (Xvr:Int) (Xvq:Int) (Xvp:Int) (Xvo:Int):Nat->(List X7)->Int->Option Xcl
 |0,_,_=>none
 |n+1,X6h,Xk0=>bif (decide (Xk0<Xvo)) then ((X1o (List.length (X6h++[(X7.mk Xk0 0 (IntKind.i64.wrap (X9q+Xk0)) 0 X9p)])) 40).bind λu181=>Xcm X3n Xs Xc y0_9 X6i X9p X9q Xvr Xvq Xvp Xvo n (X6h++[(X7.mk Xk0 0 (IntKind.i64.wrap (X9q+Xk0)) 0 X9p)]) (IntKind.i64.wrap (Xk0+1))) else (some (.x0 X6h))
inductive Xoq where
 |x0 (Xgv:(List X7))
def Xck (y1_1:Int) (X4p:X5y) (X7d:Xu) (y1_9:Int) (X8k:(List GOp)) (X8j:Int) (Xib:Int) (Xnj:Int) (Xni:Int) (Xnh:Int) (Xr9:Int):Nat->(List X7)->Int->Option Xoq
 |0,_,_=>none
 |n+1,Xjz,Xag=>bif (decide (Xag<Xr9)) then ((bif X4p.Query.ByKey then ((X1o (List.length (Xjz++[(X7.mk (IntKind.i64.wrap (Xib+Xag)) 0 (IntKind.i64.wrap (Xnj+Xag)) 0 X8j)])) 40).bind λu272=>some (Xjz++[(X7.mk (IntKind.i64.wrap (Xib+Xag)) 0 (IntKind.i64.wrap (Xnj+Xag)) 0 X8j)])) else ((X1o (List.length (Xjz++[(X7.mk (IntKind.i64.wrap (Xib+Xag)) 0 Xni Xag X8j)])) 40).bind λu276=>some (Xjz++[(X7.mk (IntKind.i64.wrap (Xib+Xag)) 0 Xni Xag X8j)])):Option ((List X7))).bind λXhi=>(bif (X4p.Query.Late==2) then ((X1o (List.length (Xhi++[(X7.mk (IntKind.i64.wrap (Xib+Xag)) 1 (IntKind.i64.wrap (Xnh+1)) Xag X8j)])) 40).bind λu288=>some (Xhi++[(X7.mk (IntKind.i64.wrap (Xib+Xag)) 1 (IntKind.i64.wrap (Xnh+1)) Xag X8j)])) else (some Xhi):Option ((List X7))).bind λXod=>Xck y1_1 X4p X7d y1_9 X8k X8j Xib Xnj Xni Xnh Xr9 n Xod (IntKind.i64.wrap (Xag+1))) else (some (.x0 Xjz))
inductive Xoo where
 |x0 (Xgt:(List X7))
def Xci (y3_1:Int) (Xd0:X5y) (Xgw:Xu) (Xne:(List GOp)) (Xpk:Int) (Xpm:Int) (Xpl:Int) (Xu3:Int) (Xnf:Int) (Xmo:Int) (Xmn:Int) (Xmm:Int):Nat->(List X7)->Int->Option Xoo
 |0,_,_=>none
 |n+1,Xlp,Xct=>bif (decide (Xct<Xmm)) then ((bif Xd0.Query.ByKey then ((X1o (List.length (Xlp++[(X7.mk (IntKind.i64.wrap (Xpm+Xnf)) Xct (IntKind.i64.wrap (Xpl+Xct)) Xnf Xpk)])) 40).bind λu418=>some (Xlp++[(X7.mk (IntKind.i64.wrap (Xpm+Xnf)) Xct (IntKind.i64.wrap (Xpl+Xct)) Xnf Xpk)])) else (some Xlp):Option ((List X7))).bind λXo9=>Xci y3_1 Xd0 Xgw Xne Xpk Xpm Xpl Xu3 Xnf Xmo Xmn Xmm n Xo9 (IntKind.i64.wrap (Xct+1))) else (some (.x0 Xlp))
inductive Xop where
 |x0 (Xgu:(List X7))
def Xcj (y2_1:Int) (X8x:X5y) (Xfs:Xu) (Xaw:(List GOp)) (Xr5:Int) (Xu4:Int) (Xr8:Int) (Xr7:Int) (Xjy:Int):Nat->(List X7)->Int->Option Xop
 |0,_,_=>none
 |n+1,Xpn,Xd5=>bif (decide (Xd5<Xjy)) then ((Xci  y2_1 X8x Xfs Xaw Xr5 Xu4 Xr8 Xr7 Xd5 Xjy Xd5 y2_1 FU Xpn 0).bind λo421=>match o421 with|.x0 Xgt=>(Xcj y2_1 X8x Xfs Xaw Xr5 Xu4 Xr8 Xr7 Xjy n Xgt (IntKind.i64.wrap (Xd5+1)))) else (some (.x0 Xpn))
inductive Xon where
 |x0 (Xd3:(List X7))
def Xch (Xf0:X5y) (Xjn:Xu) (Xr4:(List GOp)) (Xu0:Int) (Xu2:Int) (Xu1:Int) (Xpj:Int):Nat->(List X7)->Int->Option Xon
 |0,_,_=>none
 |n+1,Xnd,Xd4=>bif (decide (Xd4<Xpj)) then ((X1o (List.length (Xnd++[(X7.mk (IntKind.i64.wrap (Xu2+Xd4)) 0 Xu1 Xd4 Xu0)])) 40).bind λu439=>Xch Xf0 Xjn Xr4 Xu0 Xu2 Xu1 Xpj n (Xnd++[(X7.mk (IntKind.i64.wrap (Xu2+Xd4)) 0 Xu1 Xd4 Xu0)]) (IntKind.i64.wrap (Xd4+1))) else (some (.x0 Xnd))
def Xeb (a0:X5y) (a1:Int) (a2:Int):Option (Xu×Int) :=
 (X9h a0).bind λv1=>bif (v1 != 0) then (some ((Xu.mk ([]:List GOp) ([]:List X7)),v1)) else (bif (bif (bif (bif (decide (a1<1)) then true else (decide (a1>3))) then true else (decide (a2<1))) then true else (decide (a2>8))) then (some ((Xu.mk ([]:List GOp) ([]:List X7)),2)) else ((X3e  a0 a2 (Xu.mk ([]:List GOp) ([]:List X7)) (List.length a0.Query.Sources:Int) FU ([]:List GOp) 0).bind λo46=>match o46 with|.x0 z0i0_0_o4=>(bif (List.isEmpty z0i0_0_o4) then none else ((X2t  a0 a2 (Xu.mk ([]:List GOp) ([]:List X7)) (List.length z0i0_0_o4:Int) (List.length a0.Query.Sources:Int) FU z0i0_0_o4 0).bind λo71=>match o71 with|.x0 z0i1_0_o5=>((bif a0.Query.ByKey then ((X2s  a0 a2 (Xu.mk ([]:List GOp) ([]:List X7)) (List.length z0i1_0_o5:Int) (List.length a0.Query.Sources:Int) FU z0i1_0_o5 0).bind λo122=>match o122 with|.x0 z0i2_0_o6=>(some (a1,z0i2_0_o6,(List.length z0i1_0_o5:Int)))) else (some (1,z0i1_0_o5,(List.length z0i0_0_o4:Int))):Option (Int×(List GOp)×Int)).bind λw98=>(bif a0.Query.Join then some 5 else (some 4):Option (Int)).bind λXog=>(X2r  a0 (Xu.mk ([]:List GOp) ([]:List X7)) a2 Xog (List.length w98.2.1:Int) w98.1 FU w98.2.1 0).bind λo151=>match o151 with|.x0 z0i3_0_o6=>((X1o (List.length (z0i3_0_o6++[(GOp.mk 6 0)])) 16).bind λu155=>(Xcm  w98.1 a0 (Xu.mk ([]:List GOp) ([]:List X7)) (List.length a0.Query.Sources:Int) (z0i3_0_o6++[(GOp.mk 6 0)]) a2 (List.length z0i0_0_o4:Int) w98.2.2 (List.length w98.2.1:Int) (List.length z0i3_0_o6:Int) (List.length a0.Query.Sources:Int) FU ([]:List X7) 0).bind λo188=>match o188 with|.x0 Xbv=>(bif (List.isEmpty Xbv) then none else ((Xck  w98.1 a0 (Xu.mk ([]:List GOp) ([]:List X7)) (List.length a0.Query.Sources:Int) (z0i3_0_o6++[(GOp.mk 6 0)]) a2 (List.length z0i0_0_o4:Int) w98.2.2 (List.length w98.2.1:Int) (List.length z0i3_0_o6:Int) (List.length a0.Query.Sources:Int) FU Xbv 0).bind λo291=>match o291 with|.x0 Xgv=>((Xcj  w98.1 a0 (Xu.mk ([]:List GOp) ([]:List X7)) (z0i3_0_o6++[(GOp.mk 6 0)]) a2 w98.2.2 (List.length w98.2.1:Int) (List.length z0i3_0_o6:Int) (List.length a0.Query.Sources:Int) FU Xgv 0).bind λo423=>match o423 with|.x0 Xgu=>((Xch  a0 (Xu.mk ([]:List GOp) ([]:List X7)) (z0i3_0_o6++[(GOp.mk 6 0)]) a2 (List.length w98.2.1:Int) (List.length z0i3_0_o6:Int) w98.1 FU Xgu 0).bind λo441=>match o441 with|.x0 Xd3=>((bif (a0.Query.Late==2) then ((X1o (List.length ((z0i3_0_o6++[(GOp.mk 6 0)])++[(GOp.mk 7 0)])) 16).bind λu452=>some ((z0i3_0_o6++[(GOp.mk 6 0)])++[(GOp.mk 7 0)])) else (some (z0i3_0_o6++[(GOp.mk 6 0)])):Option ((List GOp))).bind λXo8=>some ((Xu.mk Xo8 Xd3),0))))))))))))
def X4z (a0:Int):Option (Bool) :=
 some (bif (decide (a0 >= ((-1099511627776):Int))) then (decide (a0<=1099511627776)) else false)
def X7z (a0:Int):Option (Bool) :=
 (X4z a0).bind λv1=>some (bif v1 then true else (a0==9223372036854775807))
def Xe8 (a0:Xv):Option (X20×Int) :=
 bif a0.Mark then (((X7z a0.Time).bind λv6=>bif (!v6) then (some (bif (!v6) then true else false)) else (some (bif (!v6) then true else (!(X23 a0.Record (X04.mk 0 0 0))))):Option (Bool)).bind λX06x=>bif X06x then (some ((X20.mk 0 (X04.mk 0 0 0) 0 (Xey.mk 0 (Xpe.mk 0 0) (V2.mk 0 0))),8)) else (some ((X20.mk 2 (X04.mk 0 0 0) a0.Time (Xey.mk 0 (Xpe.mk 0 0) (V2.mk 0 0))),0))) else ((bif (a0.Time != 0) then (some (bif (a0.Time != 0) then true else false)) else ((X4z a0.Record.Time).bind λv16=>some (bif (a0.Time != 0) then true else (!v16))):Option (Bool)).bind λXxr=>bif Xxr then (some ((X20.mk 0 (X04.mk 0 0 0) 0 (Xey.mk 0 (Xpe.mk 0 0) (V2.mk 0 0))),8)) else (some ((X20.mk 1 a0.Record 0 (Xey.mk 0 (Xpe.mk 0 0) (V2.mk 0 0))),0)))
def X93 (a0:Xv):Option (Int) :=
 (Xe8 a0).bind λv1=>some v1.2
def X88 (a0:Xv):Option (Bool) :=
 (X93 a0).bind λv1=>some (v1 != 0)
inductive X6o where
 |x0
 |x1 (X83:Int)
def X0a (X0f:(List Xv)):List Xv->Nat->Option X6o
 |[],k=>some (.x0)
 |x::xs,k=>(X88 x).bind λv10=>bif v10 then (some (.x1 (k:Int))) else (X0a X0f xs (k+1))
def X0v (a0:(List Xv)):Option (Int) :=
 (X4s (List.length a0)).bind λu1=>(X0a  a0 a0 0).bind λo13=>match o13 with|.x0=>(some (-1))|.x1 X83=>(some X83)
def X0l (a0:(List Xv)):Option (Bool) :=
 (X0v a0).bind λv1=>some (decide (v1 >= 0))
def Xba (a0:Int) (a1:(List Xv)):Option (X02×Int) :=
 bif (bif (decide (a0<0)) then true else (decide (a0 >= 4))) then (some ((X02.mk (GOp.mk 0 0) 0 ([]:List X5p) ([]:List Int) ([]:List X4v) ([]:List Xv) ([]:List Xey) ([]:List X04)),2)) else (bif (decide ((List.length a1:Int)>60)) then (some ((X02.mk (GOp.mk 0 0) 0 ([]:List X5p) ([]:List Int) ([]:List X4v) ([]:List Xv) ([]:List Xey) ([]:List X04)),4)) else ((X0l a1).bind λv3=>bif v3 then (some ((X02.mk (GOp.mk 0 0) 0 ([]:List X5p) ([]:List Int) ([]:List X4v) ([]:List Xv) ([]:List Xey) ([]:List X04)),8)) else ((bif (List.isEmpty a1) then some a1 else ((X1o (List.length a1) 40).bind λu15=>some a1):Option ((List Xv))).bind λXqa=>some ((X02.mk (GOp.mk 1 a0) 0 ([]:List X5p) ([]:List Int) ([]:List X4v) Xqa ([]:List Xey) ([]:List X04)),0))))
def X79 (a0:Int) (a1:(List (List Xv))):Option (X02×Int) :=
 (getI a1 a0).bind λe1=>(Xba a0 e1).bind λv3=>some (v3.1,v3.2)
def Xbo (a0:Int):Option (X02×Int) :=
 bif (bif (decide (a0<0)) then true else (decide (a0 >= 4))) then (some ((X02.mk (GOp.mk 0 0) 0 ([]:List X5p) ([]:List Int) ([]:List X4v) ([]:List Xv) ([]:List Xey) ([]:List X04)),2)) else (some ((X02.mk (GOp.mk 2 a0) 0 ([]:List X5p) [(-9223372036854775808)] ([]:List X4v) ([]:List Xv) ([]:List Xey) ([]:List X04)),0))
def Xgb (a0:Int):Option (X02×Int) :=
 bif (bif (decide (a0<0)) then true else (decide (a0 >= 4))) then (some ((X02.mk (GOp.mk 0 0) 0 ([]:List X5p) ([]:List Int) ([]:List X4v) ([]:List Xv) ([]:List Xey) ([]:List X04)),2)) else (some ((X02.mk (GOp.mk 3 a0) 0 ([]:List X5p) ([]:List Int) ([]:List X4v) ([]:List Xv) ([]:List Xey) ([]:List X04)),0))
def Xdc (a0:Int):Option ((List Int)×Int) :=
 bif (bif (decide (a0<1)) then true else (decide (a0>4))) then (some (([]:List Int),2)) else (bif (a0==1) then (some ([(-9223372036854775808)],0)) else (bif (a0==2) then (some ([(-9223372036854775808),(-9223372036854775808)],0)) else (bif (a0==3) then (some ([(-9223372036854775808),(-9223372036854775808),(-9223372036854775808)],0)) else (bif (a0==4) then (some ([(-9223372036854775808),(-9223372036854775808),(-9223372036854775808),(-9223372036854775808)],0)) else none))))
def Xpc (a0:Int) (a1:Int):Option (X02×Int) :=
 (Xdc a1).bind λv1=>bif (bif (bif (v1.2 != 0) then true else (decide (a0<0))) then true else (decide (a0 >= 3))) then (some ((X02.mk (GOp.mk 0 0) 0 ([]:List X5p) ([]:List Int) ([]:List X4v) ([]:List Xv) ([]:List Xey) ([]:List X04)),2)) else (some ((X02.mk (GOp.mk 4 a0) 0 ([]:List X5p) v1.1 ([]:List X4v) ([]:List Xv) ([]:List Xey) ([]:List X04)),0))
def X78 (a0:Int) (a1:X6):Option (X02×Int) :=
 (Xpc a0 (List.length a1.Sources:Int)).bind λv1=>some (v1.1,v1.2)
def Xgi (a0:Int):Option (X02×Int) :=
 bif (bif (decide (a0<0)) then true else (decide (a0 >= 3))) then (some ((X02.mk (GOp.mk 0 0) 0 ([]:List X5p) ([]:List Int) ([]:List X4v) ([]:List Xv) ([]:List Xey) ([]:List X04)),2)) else ((Xdc 2).bind λv2=>some ((X02.mk (GOp.mk 5 a0) 0 ([]:List X5p) v2.1 ([]:List X4v) ([]:List Xv) ([]:List Xey) ([]:List X04)),0))
def Xja (a0:Bool):Option (X02) :=
 (bif a0 then some 7 else (some 6):Option (Int)).bind λj2_3=>some (X02.mk (GOp.mk j2_3 0) 0 ([]:List X5p) ([]:List Int) ([]:List X4v) ([]:List Xv) ([]:List Xey) ([]:List X04))
def X9d (a0:Int):Option (X02×Int) :=
 (Xja false).bind λv1=>some (v1,0)
def X9c (a0:Int):Option (X02×Int) :=
 (Xja true).bind λv1=>some (v1,0)
def Xae (a0:Int):Option (X05×Int) :=
 bif (bif (decide (a0<1)) then true else (decide (a0>8))) then (some ((X05.mk 0 ([]:List X20)),2)) else (some ((X05.mk a0 ([]:List X20)),0))
inductive Xj4 where
 |x0
 |x1 (Xcs:Int)
def X3x (Xsi:Int) (Xrb:Int) (Xs:X6) (Xc:(List (List Xv))) (X40:Xl):List (List Xv)->Nat->Option Xj4
 |[],k=>some (.x0)
 |x::xs,k=>(Xbj x).bind λv14=>bif (v14 != 0) then (some (.x1 v14)) else (X3x Xsi Xrb Xs Xc X40 xs (k+1))
inductive X62 where
 |x0 (X9o:(List X02))
 |x1 (Xmi:Int)
def X3w (X4p:Xl) (X7d:Xu) (Xfb:Int) (Xfa:(List X1)) (Xf9:(List Int)) (Xf8:Bool) (Xf7:(List X1)) (Xf6:Int) (Xf5:Int) (Xf4:Int) (Xf3:Bool) (Xf2:Int) (X4e:(List GOp)) (Xbw:(List X7)) (X8j:(List (List Xv))) (Xf1:X6):List GOp->Nat->(List X02)->Option X62
 |[],k,X8k=>some (.x0 X8k)
 |x::xs,k,X8k=>(bif ((IntKind.u8.wrap (x.Kind - 1))==0) then ((X79 x.N X8j).bind λv245=>some (v245.1,v245.2)) else (bif ((IntKind.u8.wrap (x.Kind - 1))==1) then ((Xbo x.N).bind λv248=>some (v248.1,v248.2)) else (bif ((IntKind.u8.wrap (x.Kind - 1))==2) then ((Xgb x.N).bind λv251=>some (v251.1,v251.2)) else (bif ((IntKind.u8.wrap (x.Kind - 1))==3) then ((X78 x.N Xf1).bind λv254=>some (v254.1,v254.2)) else (bif ((IntKind.u8.wrap (x.Kind - 1))==4) then ((Xgi x.N).bind λv257=>some (v257.1,v257.2)) else (bif ((IntKind.u8.wrap (x.Kind - 1))==5) then ((X9d x.N).bind λv260=>some (v260.1,v260.2)) else (bif ((IntKind.u8.wrap (x.Kind - 1))==6) then ((X9c x.N).bind λv263=>some (v263.1,v263.2)) else none)))))):Option (X02×Int)).bind λw243=>bif (w243.2 != 0) then (some (.x1 w243.2)) else ((X1o (List.length (X8k++[w243.1])) 168).bind λu267=>X3w X4p X7d Xfb Xfa Xf9 Xf8 Xf7 Xf6 Xf5 Xf4 Xf3 Xf2 X4e Xbw X8j Xf1 xs (k+1) (X8k++[w243.1]))
inductive X61 where
 |x0 (Xbt:(List X05))
 |x1 (Xmh:Int)
def X3v (X8x:Xl) (Xjx:Int) (Xjw:(List X1)) (Xjv:(List Int)) (Xju:Bool) (Xjt:(List X1)) (Xjs:Int) (Xjr:Int) (Xjq:Int) (Xjp:Bool) (Xjo:Int) (Xfr:(List GOp)) (X8w:(List X7)) (Xr6:(List X02)):List X7->Nat->(List X05)->Option X61
 |[],k,Xaw=>some (.x0 Xaw)
 |x::xs,k,Xaw=>(Xae x.Room).bind λv342=>bif (v342.2 != 0) then (some (.x1 v342.2)) else ((X1o (List.length (Xaw++[v342.1])) 32).bind λu345=>X3v X8x Xjx Xjw Xjv Xju Xjt Xjs Xjr Xjq Xjp Xjo Xfr X8w Xr6 xs (k+1) (Xaw++[v342.1]))
def X6a (a0:X6) (a1:(List (List Xv))) (a2:Int) (a3:Int):Option (Xl×Int) :=
 (X1n a0).bind λv1=>bif (v1.2 != 0) then (some ((Xl.mk (X6.mk 0 ([]:List X1) ([]:List Int) false ([]:List X1) (Xi.mk 0 0 0) false 0) (Xu.mk ([]:List GOp) ([]:List X7)) ([]:List X02) ([]:List X05)),v1.2)) else (bif ((List.length a1:Int) != (List.length a0.Sources:Int)) then (some ((Xl.mk (X6.mk 0 ([]:List X1) ([]:List Int) false ([]:List X1) (Xi.mk 0 0 0) false 0) (Xu.mk ([]:List GOp) ([]:List X7)) ([]:List X02) ([]:List X05)),2)) else ((X4s (List.length a1)).bind λu5=>(X3x  a2 a3 a0 a1 (Xl.mk (X6.mk 0 ([]:List X1) ([]:List Int) false ([]:List X1) (Xi.mk 0 0 0) false 0) (Xu.mk ([]:List GOp) ([]:List X7)) ([]:List X02) ([]:List X05)) a1 0).bind λo17=>match o17 with|.x0=>((Xkl a0).bind λv19=>bif (v19.2 != 0) then (some ((Xl.mk (X6.mk 0 ([]:List X1) ([]:List Int) false ([]:List X1) (Xi.mk 0 0 0) false 0) (Xu.mk ([]:List GOp) ([]:List X7)) ([]:List X02) ([]:List X05)),v19.2)) else ((Xeb v19.1 a2 a3).bind λv22=>bif (v22.2 != 0) then (some ((Xl.mk (X6.mk 0 ([]:List X1) ([]:List Int) false ([]:List X1) (Xi.mk 0 0 0) false 0) (Xu.mk ([]:List GOp) ([]:List X7)) ([]:List X02) ([]:List X05)),v22.2)) else ((X0i a0.Arg).bind λv25=>(X0i a0.Where).bind λv27=>(X1u a0.Sources).bind λv29=>(X4s (List.length v22.1.Ops)).bind λu31=>(X3w  (Xl.mk (X6.mk 0 ([]:List X1) ([]:List Int) false ([]:List X1) (Xi.mk 0 0 0) false 0) (Xu.mk ([]:List GOp) ([]:List X7)) ([]:List X02) ([]:List X05)) v22.1 a0.Agg v25 v29 a0.Join v27 a0.Window.Kind a0.Window.Size a0.Window.Every a0.ByKey a0.Late v22.1.Ops v22.1.Channels a1 (X6.mk a0.Agg v25 v29 a0.Join v27 a0.Window a0.ByKey a0.Late) v22.1.Ops 0 ([]:List X02)).bind λo316=>match o316 with|.x0 X9o=>(bif (List.isEmpty X9o) then none else ((X4s (List.length v22.1.Channels)).bind λu319=>(X3v  (Xl.mk (X6.mk 0 ([]:List X1) ([]:List Int) false ([]:List X1) (Xi.mk 0 0 0) false 0) (Xu.mk ([]:List GOp) ([]:List X7)) ([]:List X02) ([]:List X05)) a0.Agg v25 v29 a0.Join v27 a0.Window.Kind a0.Window.Size a0.Window.Every a0.ByKey a0.Late v22.1.Ops v22.1.Channels X9o v22.1.Channels 0 ([]:List X05)).bind λo352=>match o352 with|.x0 Xbt=>(bif (List.isEmpty Xbt) then none else (some ((Xl.mk (X6.mk a0.Agg v25 v29 a0.Join v27 a0.Window a0.ByKey a0.Late) v22.1 X9o Xbt),0)))|.x1 Xmh=>(some ((Xl.mk (X6.mk (((Xl.mk (X6.mk 0 ([]:List X1) ([]:List Int) false ([]:List X1) (Xi.mk 0 0 0) false 0) (Xu.mk ([]:List GOp) ([]:List X7)) ([]:List X02) ([]:List X05)).Query).Agg) (((Xl.mk (X6.mk 0 ([]:List X1) ([]:List Int) false ([]:List X1) (Xi.mk 0 0 0) false 0) (Xu.mk ([]:List GOp) ([]:List X7)) ([]:List X02) ([]:List X05)).Query).Arg) (((Xl.mk (X6.mk 0 ([]:List X1) ([]:List Int) false ([]:List X1) (Xi.mk 0 0 0) false 0) (Xu.mk ([]:List GOp) ([]:List X7)) ([]:List X02) ([]:List X05)).Query).Sources) (((Xl.mk (X6.mk 0 ([]:List X1) ([]:List Int) false ([]:List X1) (Xi.mk 0 0 0) false 0) (Xu.mk ([]:List GOp) ([]:List X7)) ([]:List X02) ([]:List X05)).Query).Join) (((Xl.mk (X6.mk 0 ([]:List X1) ([]:List Int) false ([]:List X1) (Xi.mk 0 0 0) false 0) (Xu.mk ([]:List GOp) ([]:List X7)) ([]:List X02) ([]:List X05)).Query).Where) (((Xl.mk (X6.mk 0 ([]:List X1) ([]:List Int) false ([]:List X1) (Xi.mk 0 0 0) false 0) (Xu.mk ([]:List GOp) ([]:List X7)) ([]:List X02) ([]:List X05)).Query).Window) (((Xl.mk (X6.mk 0 ([]:List X1) ([]:List Int) false ([]:List X1) (Xi.mk 0 0 0) false 0) (Xu.mk ([]:List GOp) ([]:List X7)) ([]:List X02) ([]:List X05)).Query).ByKey) (((Xl.mk (X6.mk 0 ([]:List X1) ([]:List Int) false ([]:List X1) (Xi.mk 0 0 0) false 0) (Xu.mk ([]:List GOp) ([]:List X7)) ([]:List X02) ([]:List X05)).Query).Late)) ((Xl.mk (X6.mk 0 ([]:List X1) ([]:List Int) false ([]:List X1) (Xi.mk 0 0 0) false 0) (Xu.mk ([]:List GOp) ([]:List X7)) ([]:List X02) ([]:List X05)).Graph) ((Xl.mk (X6.mk 0 ([]:List X1) ([]:List Int) false ([]:List X1) (Xi.mk 0 0 0) false 0) (Xu.mk ([]:List GOp) ([]:List X7)) ([]:List X02) ([]:List X05)).Tasks) ((Xl.mk (X6.mk 0 ([]:List X1) ([]:List Int) false ([]:List X1) (Xi.mk 0 0 0) false 0) (Xu.mk ([]:List GOp) ([]:List X7)) ([]:List X02) ([]:List X05)).Queues)),Xmh))))|.x1 Xmi=>(some ((Xl.mk (X6.mk (((Xl.mk (X6.mk 0 ([]:List X1) ([]:List Int) false ([]:List X1) (Xi.mk 0 0 0) false 0) (Xu.mk ([]:List GOp) ([]:List X7)) ([]:List X02) ([]:List X05)).Query).Agg) (((Xl.mk (X6.mk 0 ([]:List X1) ([]:List Int) false ([]:List X1) (Xi.mk 0 0 0) false 0) (Xu.mk ([]:List GOp) ([]:List X7)) ([]:List X02) ([]:List X05)).Query).Arg) (((Xl.mk (X6.mk 0 ([]:List X1) ([]:List Int) false ([]:List X1) (Xi.mk 0 0 0) false 0) (Xu.mk ([]:List GOp) ([]:List X7)) ([]:List X02) ([]:List X05)).Query).Sources) (((Xl.mk (X6.mk 0 ([]:List X1) ([]:List Int) false ([]:List X1) (Xi.mk 0 0 0) false 0) (Xu.mk ([]:List GOp) ([]:List X7)) ([]:List X02) ([]:List X05)).Query).Join) (((Xl.mk (X6.mk 0 ([]:List X1) ([]:List Int) false ([]:List X1) (Xi.mk 0 0 0) false 0) (Xu.mk ([]:List GOp) ([]:List X7)) ([]:List X02) ([]:List X05)).Query).Where) (((Xl.mk (X6.mk 0 ([]:List X1) ([]:List Int) false ([]:List X1) (Xi.mk 0 0 0) false 0) (Xu.mk ([]:List GOp) ([]:List X7)) ([]:List X02) ([]:List X05)).Query).Window) (((Xl.mk (X6.mk 0 ([]:List X1) ([]:List Int) false ([]:List X1) (Xi.mk 0 0 0) false 0) (Xu.mk ([]:List GOp) ([]:List X7)) ([]:List X02) ([]:List X05)).Query).ByKey) (((Xl.mk (X6.mk 0 ([]:List X1) ([]:List Int) false ([]:List X1) (Xi.mk 0 0 0) false 0) (Xu.mk ([]:List GOp) ([]:List X7)) ([]:List X02) ([]:List X05)).Query).Late)) ((Xl.mk (X6.mk 0 ([]:List X1) ([]:List Int) false ([]:List X1) (Xi.mk 0 0 0) false 0) (Xu.mk ([]:List GOp) ([]:List X7)) ([]:List X02) ([]:List X05)).Graph) ((Xl.mk (X6.mk 0 ([]:List X1) ([]:List Int) false ([]:List X1) (Xi.mk 0 0 0) false 0) (Xu.mk ([]:List GOp) ([]:List X7)) ([]:List X02) ([]:List X05)).Tasks) ((Xl.mk (X6.mk 0 ([]:List X1) ([]:List Int) false ([]:List X1) (Xi.mk 0 0 0) false 0) (Xu.mk ([]:List GOp) ([]:List X7)) ([]:List X02) ([]:List X05)).Queues)),Xmi)))))|.x1 Xcs=>(some ((Xl.mk (X6.mk (((Xl.mk (X6.mk 0 ([]:List X1) ([]:List Int) false ([]:List X1) (Xi.mk 0 0 0) false 0) (Xu.mk ([]:List GOp) ([]:List X7)) ([]:List X02) ([]:List X05)).Query).Agg) (((Xl.mk (X6.mk 0 ([]:List X1) ([]:List Int) false ([]:List X1) (Xi.mk 0 0 0) false 0) (Xu.mk ([]:List GOp) ([]:List X7)) ([]:List X02) ([]:List X05)).Query).Arg) (((Xl.mk (X6.mk 0 ([]:List X1) ([]:List Int) false ([]:List X1) (Xi.mk 0 0 0) false 0) (Xu.mk ([]:List GOp) ([]:List X7)) ([]:List X02) ([]:List X05)).Query).Sources) (((Xl.mk (X6.mk 0 ([]:List X1) ([]:List Int) false ([]:List X1) (Xi.mk 0 0 0) false 0) (Xu.mk ([]:List GOp) ([]:List X7)) ([]:List X02) ([]:List X05)).Query).Join) (((Xl.mk (X6.mk 0 ([]:List X1) ([]:List Int) false ([]:List X1) (Xi.mk 0 0 0) false 0) (Xu.mk ([]:List GOp) ([]:List X7)) ([]:List X02) ([]:List X05)).Query).Where) (((Xl.mk (X6.mk 0 ([]:List X1) ([]:List Int) false ([]:List X1) (Xi.mk 0 0 0) false 0) (Xu.mk ([]:List GOp) ([]:List X7)) ([]:List X02) ([]:List X05)).Query).Window) (((Xl.mk (X6.mk 0 ([]:List X1) ([]:List Int) false ([]:List X1) (Xi.mk 0 0 0) false 0) (Xu.mk ([]:List GOp) ([]:List X7)) ([]:List X02) ([]:List X05)).Query).ByKey) (((Xl.mk (X6.mk 0 ([]:List X1) ([]:List Int) false ([]:List X1) (Xi.mk 0 0 0) false 0) (Xu.mk ([]:List GOp) ([]:List X7)) ([]:List X02) ([]:List X05)).Query).Late)) ((Xl.mk (X6.mk 0 ([]:List X1) ([]:List Int) false ([]:List X1) (Xi.mk 0 0 0) false 0) (Xu.mk ([]:List GOp) ([]:List X7)) ([]:List X02) ([]:List X05)).Graph) ((Xl.mk (X6.mk 0 ([]:List X1) ([]:List Int) false ([]:List X1) (Xi.mk 0 0 0) false 0) (Xu.mk ([]:List GOp) ([]:List X7)) ([]:List X02) ([]:List X05)).Tasks) ((Xl.mk (X6.mk 0 ([]:List X1) ([]:List Int) false ([]:List X1) (Xi.mk 0 0 0) false 0) (Xu.mk ([]:List GOp) ([]:List X7)) ([]:List X02) ([]:List X05)).Queues)),Xcs))))
def X11 (a0:X6) (a1:(List (List Xv))) (a2:X2u):Option (Xl×Int) :=
 (X1n a0).bind λv1=>bif (v1.2 != 0) then (some ((Xl.mk (X6.mk 0 ([]:List X1) ([]:List Int) false ([]:List X1) (Xi.mk 0 0 0) false 0) (Xu.mk ([]:List GOp) ([]:List X7)) ([]:List X02) ([]:List X05)),v1.2)) else ((X6w a2).bind λv4=>bif (v4 != 0) then (some ((Xl.mk (X6.mk 0 ([]:List X1) ([]:List Int) false ([]:List X1) (Xi.mk 0 0 0) false 0) (Xu.mk ([]:List GOp) ([]:List X7)) ([]:List X02) ([]:List X05)),v4)) else (bif a2.Rewrite then ((X66 a0).bind λv8=>bif (v8.2 != 0) then (some ((Xl.mk (X6.mk 0 ([]:List X1) ([]:List Int) false ([]:List X1) (Xi.mk 0 0 0) false 0) (Xu.mk ([]:List GOp) ([]:List X7)) ([]:List X02) ([]:List X05)),v8.2)) else ((X6a v8.1 a1 a2.Parts a2.Room).bind λv11=>some (v11.1,v11.2))) else ((X6a a0 a1 a2.Parts a2.Room).bind λv13=>some (v13.1,v13.2))))
inductive Xit where
 |x0
 |x1
def X3u (X0f:(List X1)) (X3n:(List X1)):List X1->Nat->Option Xit
 |[],k=>some (.x0)
 |x::xs,k=>(getI X3n (k:Int)).bind λe11=>bif (!(X2a (X1.mk x.Kind x.N x.A x.B 0) (X1.mk e11.Kind e11.N e11.A e11.B 0))) then some (.x1) else (X3u X0f X3n xs (k+1))
def X7q (a0:(List X1)) (a1:(List X1)):Option (Bool) :=
 bif ((List.length a0:Int) != (List.length a1:Int)) then some false else ((X4s (List.length a0)).bind λu2=>(X3u  a0 a1 a0 0).bind λo14=>match o14 with|.x0=>(some true)|.x1=>(some false))
inductive Xd1 where
 |x0
 |x1
def X1v (X0f:(List Int)) (X3n:(List Int)):List Int->Nat->Option Xd1
 |[],k=>some (.x0)
 |x::xs,k=>(getI X3n (k:Int)).bind λe11=>bif (x != e11) then some (.x1) else (X1v X0f X3n xs (k+1))
def X44 (a0:(List Int)) (a1:(List Int)):Option (Bool) :=
 bif ((List.length a0:Int) != (List.length a1:Int)) then some false else ((X4s (List.length a0)).bind λu2=>(X1v  a0 a1 a0 0).bind λo14=>match o14 with|.x0=>(some true)|.x1=>(some false))
def Xa2 (a0:X6) (a1:X6):Option (Bool) :=
 (bif (a0.Agg==a1.Agg) then ((X7q a0.Arg a1.Arg).bind λv16=>bif v16 then ((X44 a0.Sources a1.Sources).bind λv19=>bif v19 then (bif (a0.Join==a1.Join) then ((X7q a0.Where a1.Where).bind λv23=>bif v23 then (bif (X69 a0.Window a1.Window) then (bif (a0.ByKey==a1.ByKey) then (some (bif (bif (bif (bif (bif (bif (bif (a0.Agg==a1.Agg) then v16 else false) then v19 else false) then (a0.Join==a1.Join) else false) then v23 else false) then (X69 a0.Window a1.Window) else false) then (a0.ByKey==a1.ByKey) else false) then (a0.Late==a1.Late) else false)) else (some (bif (bif (bif (bif (bif (bif (bif (a0.Agg==a1.Agg) then v16 else false) then v19 else false) then (a0.Join==a1.Join) else false) then v23 else false) then (X69 a0.Window a1.Window) else false) then (a0.ByKey==a1.ByKey) else false) then false else false))) else (some (bif (bif (bif (bif (bif (bif (bif (a0.Agg==a1.Agg) then v16 else false) then v19 else false) then (a0.Join==a1.Join) else false) then v23 else false) then (X69 a0.Window a1.Window) else false) then false else false) then false else false))) else (some (bif (bif (bif (bif (bif (bif (bif (a0.Agg==a1.Agg) then v16 else false) then v19 else false) then (a0.Join==a1.Join) else false) then v23 else false) then false else false) then false else false) then false else false))) else (some (bif (bif (bif (bif (bif (bif (bif (a0.Agg==a1.Agg) then v16 else false) then v19 else false) then (a0.Join==a1.Join) else false) then false else false) then false else false) then false else false) then false else false))) else (some (bif (bif (bif (bif (bif (bif (bif (a0.Agg==a1.Agg) then v16 else false) then v19 else false) then false else false) then false else false) then false else false) then false else false) then false else false))) else (some (bif (bif (bif (bif (bif (bif (bif (a0.Agg==a1.Agg) then v16 else false) then false else false) then false else false) then false else false) then false else false) then false else false) then false else false))) else (some (bif (bif (bif (bif (bif (bif (bif (a0.Agg==a1.Agg) then false else false) then false else false) then false else false) then false else false) then false else false) then false else false) then false else false)):Option (Bool)).bind λX07b=>some X07b
inductive Xkk where
 |x0
 |x1
def X5h (Xs:Xu) (Xc:Xu):Nat->Int->Option Xkk
 |0,_=>none
 |n+1,Xft=>bif (decide (Xft<(List.length Xs.Ops:Int))) then ((getI Xs.Ops Xft).bind λe16=>(getI Xc.Ops Xft).bind λe18=>bif (!(X74 e16 e18)) then some (.x0) else (X5h Xs Xc n (IntKind.i64.wrap (Xft+1)))) else (some (.x1))
inductive Xkj where
 |x0
 |x1
def X5g (X4p:Xu) (X7d:Xu):Nat->Int->Option Xkj
 |0,_=>none
 |n+1,Xng=>bif (decide (Xng<(List.length X4p.Channels:Int))) then ((getI X4p.Channels Xng).bind λe37=>(getI X7d.Channels Xng).bind λe39=>bif (!(Xds e37 e39)) then some (.x0) else (X5g X4p X7d n (IntKind.i64.wrap (Xng+1)))) else (some (.x1))
def Xbd (a0:Xu) (a1:Xu):Option (Bool) :=
 bif (bif ((List.length a0.Ops:Int) != (List.length a1.Ops:Int)) then true else ((List.length a0.Channels:Int) != (List.length a1.Channels:Int))) then some false else ((X5h  a0 a1 FU 0).bind λo21=>match o21 with|.x0=>(some false)|.x1=>((X5g  a0 a1 FU 0).bind λo42=>match o42 with|.x0=>(some false)|.x1=>(some true)))
inductive Xfc where
 |x0
 |x1
def X43 (X0f:(List X20)) (X3n:(List X20)):List X20->Nat->Option Xfc
 |[],k=>some (.x0)
 |x::xs,k=>(getI X3n (k:Int)).bind λe11=>bif (!(Xi7 x e11)) then some (.x1) else (X43 X0f X3n xs (k+1))
def Xay (a0:(List X20)) (a1:(List X20)):Option (Bool) :=
 bif ((List.length a0:Int) != (List.length a1:Int)) then some false else ((X4s (List.length a0)).bind λu2=>(X43  a0 a1 a0 0).bind λo14=>match o14 with|.x0=>(some true)|.x1=>(some false))
def Xbc (a0:X05) (a1:X05):Option (Bool) :=
 (bif (a0.Room==a1.Room) then ((Xay a0.List a1.List).bind λv6=>some (bif (a0.Room==a1.Room) then v6 else false)) else (some (bif (a0.Room==a1.Room) then false else false)):Option (Bool)).bind λj4_4=>some j4_4
inductive Xg1 where
 |x0
 |x1
def X2v (X0f:(List X05)) (X3n:(List X05)):List X05->Nat->Option Xg1
 |[],k=>some (.x0)
 |x::xs,k=>(getI X3n (k:Int)).bind λe15=>(Xbc x e15).bind λv17=>bif (!v17) then some (.x1) else (X2v X0f X3n xs (k+1))
def X91 (a0:(List X05)) (a1:(List X05)):Option (Bool) :=
 bif ((List.length a0:Int) != (List.length a1:Int)) then some false else ((X4s (List.length a0)).bind λu2=>(X2v  a0 a1 a0 0).bind λo20=>match o20 with|.x0=>(some true)|.x1=>(some false))
inductive Xeg where
 |x0
 |x1
def X3k (X0f:(List X5p)) (X3n:(List X5p)):List X5p->Nat->Option Xeg
 |[],k=>some (.x0)
 |x::xs,k=>(getI X3n (k:Int)).bind λe11=>bif (!(Xye x e11)) then some (.x1) else (X3k X0f X3n xs (k+1))
def X6s (a0:(List X5p)) (a1:(List X5p)):Option (Bool) :=
 bif ((List.length a0:Int) != (List.length a1:Int)) then some false else ((X4s (List.length a0)).bind λu2=>(X3k  a0 a1 a0 0).bind λo14=>match o14 with|.x0=>(some true)|.x1=>(some false))
inductive Xki where
 |x0
 |x1
def X5f (Xs:X02) (Xc:X02):Nat->Int->Option Xki
 |0,_=>none
 |n+1,Xft=>bif (decide (Xft<(List.length Xs.Marks:Int))) then ((getI Xs.Marks Xft).bind λe36=>(getI Xc.Marks Xft).bind λe38=>bif (e36 != e38) then some (.x0) else (X5f Xs Xc n (IntKind.i64.wrap (Xft+1)))) else (some (.x1))
inductive Xkh where
 |x0
 |x1
def X6r (X4p:X02) (X7d:X02):Nat->Int->Option Xkh
 |0,_=>none
 |n+1,Xng=>bif (decide (Xng<(List.length X4p.Store:Int))) then ((getI X4p.Store Xng).bind λe57=>(getI X7d.Store Xng).bind λe59=>bif (!(Xv0 e57 e59)) then some (.x0) else (X6r X4p X7d n (IntKind.i64.wrap (Xng+1)))) else (some (.x1))
inductive Xkg where
 |x0
 |x1
def X5e (X8x:X02) (Xfs:X02):Nat->Int->Option Xkg
 |0,_=>none
 |n+1,Xpf=>bif (decide (Xpf<(List.length X8x.Events:Int))) then ((getI X8x.Events Xpf).bind λe78=>(getI Xfs.Events Xpf).bind λe80=>bif (!(Xhn e78 e80)) then some (.x0) else (X5e X8x Xfs n (IntKind.i64.wrap (Xpf+1)))) else (some (.x1))
inductive Xkf where
 |x0
 |x1
def X6q (Xd0:X02) (Xgw:X02):Nat->Int->Option Xkf
 |0,_=>none
 |n+1,y3_8=>bif (decide (y3_8<(List.length Xd0.Rows:Int))) then ((getI Xd0.Rows y3_8).bind λe99=>(getI Xgw.Rows y3_8).bind λe101=>bif (!(Xtl e99 e101)) then some (.x0) else (X6q Xd0 Xgw n (IntKind.i64.wrap (y3_8+1)))) else (some (.x1))
inductive Xke where
 |x0
 |x1
def X6p (Xf0:X02) (Xjn:X02):Nat->Int->Option Xke
 |0,_=>none
 |n+1,y4_9=>bif (decide (y4_9<(List.length Xf0.Late:Int))) then ((getI Xf0.Late y4_9).bind λe120=>(getI Xjn.Late y4_9).bind λe122=>bif (!(X23 e120 e122)) then some (.x0) else (X6p Xf0 Xjn n (IntKind.i64.wrap (y4_9+1)))) else (some (.x1))
def Xbb (a0:X02) (a1:X02):Option (Bool) :=
 (bif (!(X74 a0.Op a1.Op)) then (some (bif (bif (bif (bif (bif (bif (bif (!(X74 a0.Op a1.Op)) then true else false) then true else false) then true else false) then true else false) then true else false) then true else false) then true else false)) else (bif (a0.Turn != a1.Turn) then (some (bif (bif (bif (bif (bif (bif (bif (!(X74 a0.Op a1.Op)) then true else (a0.Turn != a1.Turn)) then true else false) then true else false) then true else false) then true else false) then true else false) then true else false)) else ((X6s a0.Pending a1.Pending).bind λv13=>bif (!v13) then (some (bif (bif (bif (bif (bif (bif (bif (!(X74 a0.Op a1.Op)) then true else (a0.Turn != a1.Turn)) then true else (!v13)) then true else false) then true else false) then true else false) then true else false) then true else false)) else (bif ((List.length a0.Marks:Int) != (List.length a1.Marks:Int)) then (some (bif (bif (bif (bif (bif (bif (bif (!(X74 a0.Op a1.Op)) then true else (a0.Turn != a1.Turn)) then true else (!v13)) then true else ((List.length a0.Marks:Int) != (List.length a1.Marks:Int))) then true else false) then true else false) then true else false) then true else false)) else (bif ((List.length a0.Store:Int) != (List.length a1.Store:Int)) then (some (bif (bif (bif (bif (bif (bif (bif (!(X74 a0.Op a1.Op)) then true else (a0.Turn != a1.Turn)) then true else (!v13)) then true else ((List.length a0.Marks:Int) != (List.length a1.Marks:Int))) then true else ((List.length a0.Store:Int) != (List.length a1.Store:Int))) then true else false) then true else false) then true else false)) else (bif ((List.length a0.Events:Int) != (List.length a1.Events:Int)) then (some (bif (bif (bif (bif (bif (bif (bif (!(X74 a0.Op a1.Op)) then true else (a0.Turn != a1.Turn)) then true else (!v13)) then true else ((List.length a0.Marks:Int) != (List.length a1.Marks:Int))) then true else ((List.length a0.Store:Int) != (List.length a1.Store:Int))) then true else ((List.length a0.Events:Int) != (List.length a1.Events:Int))) then true else false) then true else false)) else (bif ((List.length a0.Rows:Int) != (List.length a1.Rows:Int)) then (some (bif (bif (bif (bif (bif (bif (bif (!(X74 a0.Op a1.Op)) then true else (a0.Turn != a1.Turn)) then true else (!v13)) then true else ((List.length a0.Marks:Int) != (List.length a1.Marks:Int))) then true else ((List.length a0.Store:Int) != (List.length a1.Store:Int))) then true else ((List.length a0.Events:Int) != (List.length a1.Events:Int))) then true else ((List.length a0.Rows:Int) != (List.length a1.Rows:Int))) then true else false)) else (some (bif (bif (bif (bif (bif (bif (bif (!(X74 a0.Op a1.Op)) then true else (a0.Turn != a1.Turn)) then true else (!v13)) then true else ((List.length a0.Marks:Int) != (List.length a1.Marks:Int))) then true else ((List.length a0.Store:Int) != (List.length a1.Store:Int))) then true else ((List.length a0.Events:Int) != (List.length a1.Events:Int))) then true else ((List.length a0.Rows:Int) != (List.length a1.Rows:Int))) then true else ((List.length a0.Late:Int) != (List.length a1.Late:Int)))))))))):Option (Bool)).bind λXxt=>bif Xxt then some false else ((X5f  a0 a1 FU 0).bind λo41=>match o41 with|.x0=>(some false)|.x1=>((X6r  a0 a1 FU 0).bind λo62=>match o62 with|.x0=>(some false)|.x1=>((X5e  a0 a1 FU 0).bind λo83=>match o83 with|.x0=>(some false)|.x1=>((X6q  a0 a1 FU 0).bind λo104=>match o104 with|.x0=>(some false)|.x1=>((X6p  a0 a1 FU 0).bind λo125=>match o125 with|.x0=>(some false)|.x1=>(some true))))))
inductive Xkd where
 |x0
 |x1
def X5d (Xs:Xl) (Xc:Xl):Nat->Int->Option Xkd
 |0,_=>none
 |n+1,Xft=>bif (decide (Xft<(List.length Xs.Tasks:Int))) then ((getI Xs.Tasks Xft).bind λe28=>(getI Xc.Tasks Xft).bind λe30=>(Xbb e28 e30).bind λv32=>bif (!v32) then some (.x0) else (X5d Xs Xc n (IntKind.i64.wrap (Xft+1)))) else (some (.x1))
def Xdz (a0:Xl) (a1:Xl):Option (Bool) :=
 (bif ((List.length a0.Tasks:Int) != (List.length a1.Tasks:Int)) then (some (bif ((List.length a0.Tasks:Int) != (List.length a1.Tasks:Int)) then true else false)) else ((X91 a0.Queues a1.Queues).bind λv6=>some (bif ((List.length a0.Tasks:Int) != (List.length a1.Tasks:Int)) then true else (!v6))):Option (Bool)).bind λX06z=>bif X06z then some false else ((X5d  a0 a1 FU 0).bind λo35=>match o35 with|.x0=>(some false)|.x1=>(some true))
def X6e (a0:Xl) (a1:Xl):Option (Bool) :=
 ((Xa2 a0.Query a1.Query).bind λv10=>bif v10 then ((Xbd a0.Graph a1.Graph).bind λv13=>bif v13 then ((Xdz a0 a1).bind λv16=>some (bif (bif v10 then v13 else false) then v16 else false)) else (some (bif (bif v10 then v13 else false) then false else false))) else (some (bif (bif v10 then false else false) then false else false)):Option (Bool)).bind λj9_4=>some j9_4
def X5i (a0:X6) (a1:(List (List Xv))) (a2:X2u):Option (Bool) :=
 (Xfk).bind λv1=>(Xdd a0 a1 a2).bind λv3=>bif (bif (!v3) then true else (!v1)) then some v1 else ((X66 a0).bind λv6=>(X11 a0 a1 (X2u.mk a2.Parts a2.Room true)).bind λv8=>(X11 v6.1 a1 (X2u.mk a2.Parts a2.Room true)).bind λv10=>(X11 v6.1 a1 (X2u.mk a2.Parts a2.Room false)).bind λv12=>(X6a a0 a1 a2.Parts a2.Room).bind λv14=>(X11 a0 a1 (X2u.mk a2.Parts a2.Room false)).bind λv16=>(bif v1 then (bif (v6.2==0) then (bif (v8.2==0) then (bif (v10.2==0) then (bif (v12.2==0) then (bif (v14.2==0) then (bif (v16.2==0) then ((X6e v8.1 v10.1).bind λv41=>bif v41 then ((X6e v8.1 v12.1).bind λv44=>bif v44 then ((X6e v14.1 v16.1).bind λv47=>some (bif (bif (bif (bif (bif (bif (bif (bif (bif v1 then (v6.2==0) else false) then (v8.2==0) else false) then (v10.2==0) else false) then (v12.2==0) else false) then (v14.2==0) else false) then (v16.2==0) else false) then v41 else false) then v44 else false) then v47 else false)) else (some (bif (bif (bif (bif (bif (bif (bif (bif (bif v1 then (v6.2==0) else false) then (v8.2==0) else false) then (v10.2==0) else false) then (v12.2==0) else false) then (v14.2==0) else false) then (v16.2==0) else false) then v41 else false) then v44 else false) then false else false))) else (some (bif (bif (bif (bif (bif (bif (bif (bif (bif v1 then (v6.2==0) else false) then (v8.2==0) else false) then (v10.2==0) else false) then (v12.2==0) else false) then (v14.2==0) else false) then (v16.2==0) else false) then v41 else false) then false else false) then false else false))) else (some (bif (bif (bif (bif (bif (bif (bif (bif (bif v1 then (v6.2==0) else false) then (v8.2==0) else false) then (v10.2==0) else false) then (v12.2==0) else false) then (v14.2==0) else false) then (v16.2==0) else false) then false else false) then false else false) then false else false))) else (some (bif (bif (bif (bif (bif (bif (bif (bif (bif v1 then (v6.2==0) else false) then (v8.2==0) else false) then (v10.2==0) else false) then (v12.2==0) else false) then (v14.2==0) else false) then false else false) then false else false) then false else false) then false else false))) else (some (bif (bif (bif (bif (bif (bif (bif (bif (bif v1 then (v6.2==0) else false) then (v8.2==0) else false) then (v10.2==0) else false) then (v12.2==0) else false) then false else false) then false else false) then false else false) then false else false) then false else false))) else (some (bif (bif (bif (bif (bif (bif (bif (bif (bif v1 then (v6.2==0) else false) then (v8.2==0) else false) then (v10.2==0) else false) then false else false) then false else false) then false else false) then false else false) then false else false) then false else false))) else (some (bif (bif (bif (bif (bif (bif (bif (bif (bif v1 then (v6.2==0) else false) then (v8.2==0) else false) then false else false) then false else false) then false else false) then false else false) then false else false) then false else false) then false else false))) else (some (bif (bif (bif (bif (bif (bif (bif (bif (bif v1 then (v6.2==0) else false) then false else false) then false else false) then false else false) then false else false) then false else false) then false else false) then false else false) then false else false))) else (some (bif (bif (bif (bif (bif (bif (bif (bif (bif v1 then false else false) then false else false) then false else false) then false else false) then false else false) then false else false) then false else false) then false else false) then false else false)):Option (Bool)).bind λX075=>some X075)
end
end Go.D
