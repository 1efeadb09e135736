/- Printed by decomp.py: the functions. -/
import Derived.Test.YtnkfdamiiejfdaaGreatDoorDTypesZ
import Derived.Test.YtnkfdamiiejfdaaGreatDoorAvSort
set_option linter.all false

namespace Go.D
noncomputable section
def Xet:Option Bool:=some true
def X99 (a0:(List Xy)):Option (Bool) :=
 some (decide ((List.length a0:Int)>70))
def X97 (a0:X00):Option (Bool) :=
 ((X99 a0.Arg).bind λv8=>bif v8 then (some (bif (bif v8 then true else false) then true else false)) else ((X99 a0.Where).bind λv11=>bif v11 then (some (bif (bif v8 then true else v11) then true else false)) else (some (bif (bif v8 then true else v11) then true else (decide ((List.length a0.Sources:Int)>10))))):Option (Bool)).bind λj7_2=>some j7_2
inductive Xc0 where
 |x0
 |x1
def X3o (X9p:(List (List Xq))):List (List Xq)->Nat->Option Xc0
 |[],k=>some (.x0)
 |x::xs,k=>bif (decide ((List.length x:Int)>70)) then some (.x1) else (X3o X9p xs (k+1))
def X8y (a0:X00) (a1:(List (List Xq))):Option (Bool) :=
 (X97 a0).bind λv1=>bif (bif v1 then true else (decide ((List.length a1:Int)>6))) then some true else ((X3b (List.length a1)).bind λu4=>(X3o  a1 a1 0).bind λo10=>match o10 with|.x0=>(some false)|.x1=>(some true))
def Xbi (a0:Int):Option (Int) :=
 bif (decide (a0<=4)) then some 0 else (bif (decide (a0<=6)) then some 1 else (some 2))
def X5t (a0:Xy) (a1:Int) (a2:Int):Option (Bool) :=
 some (bif (bif (bif (bif (bif (bif (bif (decide (a0.Kind >= 1)) then (decide (a0.Kind<=19)) else false) then (decide (a0.N >= 0)) else false) then (bif (a0.N==0) then true else (a0.Kind==1)) else false) then (decide (a0.At >= 0)) else false) then (decide (a0.At<=400)) else false) then (a0.A==a1) else false) then (a0.B==a2) else false)
inductive X4g where
 |x0 (Xj:(List Int)) (X0d:(List Int))
 |x1 (X09:(List Int)) (X4v:(List Int))
def X19 (X0e:(List Xy)):List Xy->Nat->(List Int)->(List Int)->Option X4g
 |[],k,Xf,Xi=>some (.x0 Xf Xi)
 |x::xs,k,Xf,Xi=>(Xbi x.Kind).bind λv156=>bif (decide (v156>0)) then (bif (decide ((IntKind.i64.wrap ((k:Int) - 1))<0)) then (some (.x1 ([]:List Int) ([]:List Int))) else ((X18 Xf (IntKind.i64.wrap ((k:Int) - 1))).bind λe160=>(X18 Xi (IntKind.i64.wrap ((k:Int) - 1))).bind λe162=>bif (v156==2) then (bif (decide ((IntKind.i64.wrap ((IntKind.i64.wrap ((k:Int) - 1)) - e160))<0)) then (some (.x1 ([]:List Int) ([]:List Int))) else ((X18 Xf (IntKind.i64.wrap ((IntKind.i64.wrap ((k:Int) - 1)) - e160))).bind λe166=>(X18 Xi (IntKind.i64.wrap ((IntKind.i64.wrap ((k:Int) - 1)) - e160))).bind λe168=>(X5t x (IntKind.i64.wrap ((IntKind.i64.wrap ((k:Int) - 1)) - e160)) (IntKind.i64.wrap ((k:Int) - 1))).bind λv170=>bif (!v170) then (some (.x1 ([]:List Int) ([]:List Int))) else ((X0x (List.length (Xf++[(IntKind.i64.wrap ((IntKind.i64.wrap (1+e160))+e166))])) 8).bind λu173=>(X0x (List.length (Xi++[(if (IntKind.i64.wrap (1+e168))>(IntKind.i64.wrap (1+e162)) then (IntKind.i64.wrap (1+e168)) else (IntKind.i64.wrap (1+e162)))])) 8).bind λu175=>X19 X0e xs (k+1) (Xf++[(IntKind.i64.wrap ((IntKind.i64.wrap (1+e160))+e166))]) (Xi++[(if (IntKind.i64.wrap (1+e168))>(IntKind.i64.wrap (1+e162)) then (IntKind.i64.wrap (1+e168)) else (IntKind.i64.wrap (1+e162)))])))) else ((X5t x (IntKind.i64.wrap ((k:Int) - 1)) 0).bind λv177=>bif (!v177) then (some (.x1 ([]:List Int) ([]:List Int))) else ((X0x (List.length (Xf++[(IntKind.i64.wrap (1+e160))])) 8).bind λu180=>(X0x (List.length (Xi++[(IntKind.i64.wrap (1+e162))])) 8).bind λu182=>X19 X0e xs (k+1) (Xf++[(IntKind.i64.wrap (1+e160))]) (Xi++[(IntKind.i64.wrap (1+e162))]))))) else ((X5t x 0 0).bind λv184=>bif (!v184) then (some (.x1 ([]:List Int) ([]:List Int))) else ((X0x (List.length (Xf++[1])) 8).bind λu187=>(X0x (List.length (Xi++[1])) 8).bind λu189=>X19 X0e xs (k+1) (Xf++[1]) (Xi++[1])))
def Xbh (a0:(List Xy)):Option ((List Int)×(List Int)×Bool) :=
 (X3b (List.length a0)).bind λu1=>(X19  a0 a0 0 ([]:List Int) ([]:List Int)).bind λo232=>match o232 with|.x0 Xj X0d=>((bif (decide ((List.length a0:Int)>0)) then ((X18 Xj (IntKind.i64.wrap ((List.length a0:Int) - 1))).bind λe239=>some (bif (decide ((List.length a0:Int)>0)) then (e239==(List.length a0:Int)) else false)) else (some false):Option (Bool)).bind λXzi=>some (Xj,X0d,Xzi))|.x1 X09 X4v=>(some (X09,X4v,false))
def X48 (a0:(List Xy)):Option (Int) :=
 bif (decide ((List.length a0:Int)>60)) then some 4 else ((Xbh a0).bind λv2=>bif (!v2.2.2) then some 8 else ((X18 v2.2.1 (IntKind.i64.wrap ((List.length a0:Int) - 1))).bind λe5=>bif (decide (e5>20)) then some 34 else (some 0)))
inductive X9x where
 |x0
 |x1
def X2p (X0e:(List Int)):List Int->Nat->Option X9x
 |[],k=>some (.x0)
 |x::xs,k=>(bif (decide (x<0)) then (some (bif (decide (x<0)) then true else false)) else (some (bif (decide (x<0)) then true else (decide (x>3)))):Option (Bool)).bind λXzn=>bif Xzn then some (.x1) else (X2p X0e xs (k+1))
inductive X9v where
 |x0
 |x1
def X2o (y2_0:(List Int)) (y2_6:Int):Nat->Int->Option X9v
 |0,_=>none
 |n+1,y2_7=>bif (decide (y2_7<y2_6)) then ((X18 y2_0 y2_7).bind λe80=>(X18 y2_0 y2_6).bind λe82=>bif (e80==e82) then some (.x0) else (X2o y2_0 y2_6 n (IntKind.i64.wrap (y2_7+1)))) else (some (.x1))
inductive X9w where
 |x0
 |x1
def X20 (Xko:(List Int)):List Int->Nat->Option X9w
 |[],k=>some (.x0)
 |x::xs,k=>(X2o  Xko (k:Int) FU 0).bind λo85=>match o85 with|.x0=>(some (.x1))|.x1=>(X20 Xko xs (k+1))
def X6j (a0:(List Int)) (a1:Bool):Option (Int) :=
 bif (decide ((List.length a0:Int)>4)) then some 4 else (bif (bif ((List.length a0:Int)==0) then true else (bif a1 then ((List.length a0:Int) != 2) else false)) then some 8 else ((X3b (List.length a0)).bind λu3=>(X2p  a0 a0 0).bind λo21=>match o21 with|.x0=>((X20  a0 a0 0).bind λo87=>match o87 with|.x0=>(some 0)|.x1=>(some 43))|.x1=>(some 8)))
def X7d (a0:X0r):Option (Bool) :=
 bif (bif (decide (a0.Size<1)) then true else (decide (a0.Size>1073741824))) then some false else (bif (a0.Kind==2) then (some (bif (bif (decide (a0.Every >= 1)) then (decide (a0.Every<=a0.Size)) else false) then (decide (a0.Size<=(IntKind.i64.wrap (16*a0.Every)))) else false)) else (some (bif (bif (a0.Kind==1) then true else (a0.Kind==3)) then (a0.Every==0) else false)))
def X98 (a0:X00):Option (Int) :=
 bif (bif (bif (bif (decide (a0.Agg<1)) then true else (decide (a0.Agg>4))) then true else (decide (a0.Late<1))) then true else (decide (a0.Late>2))) then some 8 else (bif (bif (a0.Agg==1) then (decide ((List.length a0.Arg:Int)>0)) else false) then some 8 else ((bif (a0.Agg != 1) then ((X48 a0.Arg).bind λv8=>some (bif (a0.Agg != 1) then (v8 != 0) else false)) else (some (bif (a0.Agg != 1) then false else false)):Option (Bool)).bind λX08m=>bif X08m then ((X48 a0.Arg).bind λv12=>some v12) else ((bif (decide ((List.length a0.Where:Int)>0)) then ((X48 a0.Where).bind λv19=>some (bif (decide ((List.length a0.Where:Int)>0)) then (v19 != 0) else false)) else (some (bif (decide ((List.length a0.Where:Int)>0)) then false else false)):Option (Bool)).bind λXzm=>bif Xzm then ((X48 a0.Where).bind λv23=>some v23) else ((X6j a0.Sources a0.Join).bind λv25=>bif (v25 != 0) then some v25 else ((X7d a0.Window).bind λv28=>bif (bif (!v28) then true else (bif a0.Join then (a0.Window.Kind != 1) else false)) then some 8 else (some 0))))))
def X5s (a0:Int):Option (Bool) :=
 some (bif (a0==6) then true else (decide (a0 >= 12)))
def Xaw (a0:(List Xy)) (a1:Int):Option (Bool) :=
 (X18 a0 a1).bind λe1=>(X18 a0 e1.A).bind λe3=>(X5s e3.Kind).bind λv5=>(X18 a0 e1.B).bind λe7=>(X5s e7.Kind).bind λv9=>bif (decide (e1.Kind<=4)) then some true else (bif (e1.Kind==5) then (some (!v5)) else (bif (e1.Kind==6) then some v5 else (bif (bif (e1.Kind==16) then true else (e1.Kind==17)) then (some (v5==v9)) else (bif (decide (e1.Kind >= 18)) then (some (bif v5 then v9 else false)) else (some (bif (!v5) then (!v9) else false))))))
inductive Xc5 where
 |x0
 |x1 (X7r:Int)
def X3t (X0e:(List Xy)):List Xy->Nat->Option Xc5
 |[],k=>some (.x0)
 |x::xs,k=>(Xaw X0e (k:Int)).bind λv10=>bif (!v10) then (some (.x1 (k:Int))) else (X3t X0e xs (k+1))
def Xbg (a0:(List Xy)):Option (Int) :=
 (X3b (List.length a0)).bind λu1=>(X3t  a0 a0 0).bind λo13=>match o13 with|.x0=>(some (List.length a0:Int))|.x1 X7r=>(some X7r)
def Xfc (a0:(List Xy)):Option (Bool×Int×Int) :=
 (X48 a0).bind λv1=>bif (v1 != 0) then (some (false,0,v1)) else ((Xbg a0).bind λv4=>bif (decide (v4<(List.length a0:Int))) then (some (false,v4,42)) else ((X18 a0 (IntKind.i64.wrap ((List.length a0:Int) - 1))).bind λe7=>(X5s e7.Kind).bind λv9=>some (v9,(IntKind.i64.wrap ((List.length a0:Int) - 1)),0)))
def X7e (a0:(List Xy)) (a1:Bool):Option (Int×Int) :=
 (Xfc a0).bind λv1=>bif (bif (v1.2.2==0) then (!(v1.1==a1)) else false) then (some (v1.2.1,42)) else (some (v1.2.1,v1.2.2))
def X95 (a0:X00):Option (Int×Int) :=
 bif (decide ((List.length a0.Arg:Int)>0)) then ((X7e a0.Arg false).bind λv2=>bif (v2.2 != 0) then ((X18 a0.Arg v2.1).bind λe5=>some (e5.At,v2.2)) else (bif (decide ((List.length a0.Where:Int)>0)) then ((X7e a0.Where true).bind λv8=>bif (v8.2 != 0) then ((X18 a0.Where v8.1).bind λe11=>some (e11.At,v8.2)) else (some (0,0))) else (some (0,0)))) else (bif (decide ((List.length a0.Where:Int)>0)) then ((X7e a0.Where true).bind λv14=>bif (v14.2 != 0) then ((X18 a0.Where v14.1).bind λe17=>some (e17.At,v14.2)) else (some (0,0))) else (some (0,0)))
def X96 (a0:X00):Option (Int×Int) :=
 (X98 a0).bind λv1=>bif (v1 != 0) then (some (0,v1)) else ((X95 a0).bind λv4=>some (v4.1,v4.2))
def X7c (a0:Int) (a1:Int):Option (Int) :=
 bif (bif (decide (a1<1)) then true else (decide (a1>1073741824))) then some 2 else (bif (bif (decide (a0<((-1099511627776):Int))) then true else (decide (a0>1099511627776))) then some 16 else (some 0))
def X93 (a0:Xq):Option (Bool) :=
 bif a0.Mark then ((bif (X38 a0.Record (X6.mk 0 0 0)) then (bif (a0.Time==9223372036854775807) then (some (bif (X38 a0.Record (X6.mk 0 0 0)) then (bif (a0.Time==9223372036854775807) then true else false) else false)) else ((X7c a0.Time 1).bind λv9=>some (bif (X38 a0.Record (X6.mk 0 0 0)) then (bif (a0.Time==9223372036854775807) then true else (v9==0)) else false))) else (some (bif (X38 a0.Record (X6.mk 0 0 0)) then false else false)):Option (Bool)).bind λj6_2=>some j6_2) else ((bif (a0.Time==0) then ((X7c a0.Record.Time 1).bind λv17=>some (bif (a0.Time==0) then (v17==0) else false)) else (some (bif (a0.Time==0) then false else false)):Option (Bool)).bind λX08y=>some X08y)
inductive Xc4 where
 |x0
 |x1
def X3s (X0e:(List Xq)):List Xq->Nat->Option Xc4
 |[],k=>some (.x0)
 |x::xs,k=>(X93 x).bind λv11=>bif (!v11) then some (.x1) else (X3s X0e xs (k+1))
def X94 (a0:(List Xq)):Option (Int) :=
 bif (decide ((List.length a0:Int)>60)) then some 4 else ((X3b (List.length a0)).bind λu2=>(X3s  a0 a0 0).bind λo14=>match o14 with|.x0=>(some 0)|.x1=>(some 8))
inductive Xc1 where
 |x0
 |x1 (Xo2:Int)
def X3p (X9p:(List (List Xq))) (Xdt:Int) (Xh4:Int):List (List Xq)->Nat->Option Xc1
 |[],k=>some (.x0)
 |x::xs,k=>(X94 x).bind λv14=>bif (v14 != 0) then (some (.x1 v14)) else (X3p X9p Xdt Xh4 xs (k+1))
def Xbe (a0:X00) (a1:(List (List Xq))) (a2:Int) (a3:Int):Option (Int) :=
 (X96 a0).bind λv1=>bif (v1.2 != 0) then (some v1.2) else (bif ((List.length a1:Int) != (List.length a0.Sources:Int)) then some 2 else ((X3b (List.length a1)).bind λu5=>(X3p  a1 a2 a3 a1 0).bind λo17=>match o17 with|.x0=>(bif (bif (bif (bif (decide (a2<1)) then true else (decide (a2>3))) then true else (decide (a3<1))) then true else (decide (a3>8))) then some 2 else (some 0))|.x1 Xo2=>(some Xo2)))
def Xcn (a0:X00) (a1:(List (List Xq))) (a2:Int) (a3:Int):Option (Bool) :=
 ((X8y a0 a1).bind λv7=>bif (!v7) then ((Xbe a0 a1 a2 a3).bind λv10=>some (bif (!v7) then (v10==0) else false)) else (some (bif (!v7) then false else false)):Option (Bool)).bind λj6_8=>some j6_8
def X9c (a0:Int):Option (Int×Int) :=
 bif (bif (decide (a0 >= 1)) then (decide (a0<=4)) else false) then (some (0,0)) else (bif (bif (a0==5) then true else (a0==6)) then (some (1,0)) else (bif (bif (decide (a0 >= 7)) then (decide (a0<=19)) else false) then (some (2,0)) else (some (0,2))))
inductive X4z where
 |x0 (Xj:(List Xd)) (X0d:(List Xd))
 |x1 (X09:(List Xd))
def X1m (X5h:(List Xy)):List Xy->Nat->(List Xd)->(List Xd)->Option X4z
 |[],k,Xf,Xi=>some (.x0 Xf Xi)
 |x::xs,k,Xf,Xi=>(X9c x.Kind).bind λv286=>bif (bif (v286.2 != 0) then true else (decide (v286.1>(List.length Xi:Int)))) then (some (.x1 Xf)) else ((X6x Xi 0 (IntKind.i64.wrap ((List.length Xi:Int) - v286.1))).bind λm295=>(X6x Xi (IntKind.i64.wrap ((List.length Xi:Int) - v286.1)) (List.length Xi:Int)).bind λm297=>bif (List.isEmpty m297) then ((bif (x.Kind==1) then (some (Xy.mk x.Kind (if 0>x.N then 0 else x.N) 0 0 (if 400<(if 0>x.At then 0 else x.At) then 400 else (if 0>x.At then 0 else x.At)))) else (some (Xy.mk x.Kind 0 0 0 (if 400<(if 0>x.At then 0 else x.At) then 400 else (if 0>x.At then 0 else x.At)))):Option (Xy)).bind λXro=>bif (!(X6n Xro x)) then (some (.x1 Xf)) else ((X0x (List.length (m295++[(Xd.mk (k:Int) 1 1)])) 24).bind λu305=>(X0x (List.length (Xf++[(Xd.mk (k:Int) 1 1)])) 24).bind λu307=>X1m X5h xs (k+1) (Xf++[(Xd.mk (k:Int) 1 1)]) (m295++[(Xd.mk (k:Int) 1 1)]))) else (bif ((List.length m297:Int)==1) then ((X18 m297 0).bind λe310=>(bif (x.Kind==1) then (some (Xy.mk x.Kind (if 0>x.N then 0 else x.N) e310.at_ 0 (if 400<(if 0>x.At then 0 else x.At) then 400 else (if 0>x.At then 0 else x.At)))) else (some (Xy.mk x.Kind 0 e310.at_ 0 (if 400<(if 0>x.At then 0 else x.At) then 400 else (if 0>x.At then 0 else x.At)))):Option (Xy)).bind λXrn=>bif (!(X6n Xrn x)) then (some (.x1 Xf)) else ((X0x (List.length (m295++[(Xd.mk (k:Int) (IntKind.i64.wrap (1+e310.size)) (if (IntKind.i64.wrap (e310.depth+1))>1 then (IntKind.i64.wrap (e310.depth+1)) else 1))])) 24).bind λu317=>(X0x (List.length (Xf++[(Xd.mk (k:Int) (IntKind.i64.wrap (1+e310.size)) (if (IntKind.i64.wrap (e310.depth+1))>1 then (IntKind.i64.wrap (e310.depth+1)) else 1))])) 24).bind λu319=>X1m X5h xs (k+1) (Xf++[(Xd.mk (k:Int) (IntKind.i64.wrap (1+e310.size)) (if (IntKind.i64.wrap (e310.depth+1))>1 then (IntKind.i64.wrap (e310.depth+1)) else 1))]) (m295++[(Xd.mk (k:Int) (IntKind.i64.wrap (1+e310.size)) (if (IntKind.i64.wrap (e310.depth+1))>1 then (IntKind.i64.wrap (e310.depth+1)) else 1))]))) else (bif ((List.length m297:Int)==2) then ((X18 m297 0).bind λe322=>(X18 m297 1).bind λe324=>(bif (x.Kind==1) then (some (Xy.mk x.Kind (if 0>x.N then 0 else x.N) e322.at_ e324.at_ (if 400<(if 0>x.At then 0 else x.At) then 400 else (if 0>x.At then 0 else x.At)))) else (some (Xy.mk x.Kind 0 e322.at_ e324.at_ (if 400<(if 0>x.At then 0 else x.At) then 400 else (if 0>x.At then 0 else x.At)))):Option (Xy)).bind λXrm=>bif (!(X6n Xrm x)) then (some (.x1 Xf)) else ((X0x (List.length (m295++[(Xd.mk (k:Int) (IntKind.i64.wrap ((IntKind.i64.wrap (1+e322.size))+e324.size)) (if (IntKind.i64.wrap (e324.depth+1))>(if (IntKind.i64.wrap (e322.depth+1))>1 then (IntKind.i64.wrap (e322.depth+1)) else 1) then (IntKind.i64.wrap (e324.depth+1)) else (if (IntKind.i64.wrap (e322.depth+1))>1 then (IntKind.i64.wrap (e322.depth+1)) else 1)))])) 24).bind λu331=>(X0x (List.length (Xf++[(Xd.mk (k:Int) (IntKind.i64.wrap ((IntKind.i64.wrap (1+e322.size))+e324.size)) (if (IntKind.i64.wrap (e324.depth+1))>(if (IntKind.i64.wrap (e322.depth+1))>1 then (IntKind.i64.wrap (e322.depth+1)) else 1) then (IntKind.i64.wrap (e324.depth+1)) else (if (IntKind.i64.wrap (e322.depth+1))>1 then (IntKind.i64.wrap (e322.depth+1)) else 1)))])) 24).bind λu333=>X1m X5h xs (k+1) (Xf++[(Xd.mk (k:Int) (IntKind.i64.wrap ((IntKind.i64.wrap (1+e322.size))+e324.size)) (if (IntKind.i64.wrap (e324.depth+1))>(if (IntKind.i64.wrap (e322.depth+1))>1 then (IntKind.i64.wrap (e322.depth+1)) else 1) then (IntKind.i64.wrap (e324.depth+1)) else (if (IntKind.i64.wrap (e322.depth+1))>1 then (IntKind.i64.wrap (e322.depth+1)) else 1)))]) (m295++[(Xd.mk (k:Int) (IntKind.i64.wrap ((IntKind.i64.wrap (1+e322.size))+e324.size)) (if (IntKind.i64.wrap (e324.depth+1))>(if (IntKind.i64.wrap (e322.depth+1))>1 then (IntKind.i64.wrap (e322.depth+1)) else 1) then (IntKind.i64.wrap (e324.depth+1)) else (if (IntKind.i64.wrap (e322.depth+1))>1 then (IntKind.i64.wrap (e322.depth+1)) else 1)))]))) else none)))
def Xda (a0:(List Xy)):Option ((List Xd)×Bool) :=
 (X3b (List.length a0)).bind λu1=>(X1m  a0 a0 0 ([]:List Xd) ([]:List Xd)).bind λo427=>match o427 with|.x0 Xj X0d=>(some (Xj,((List.length X0d:Int)==1)))|.x1 X09=>(some (X09,false))
def X9b (a0:(List Xy)):Option ((List Xd)×Int) :=
 bif (decide ((List.length a0:Int)>60)) then (some (([]:List Xd),4)) else ((Xda a0).bind λv2=>bif (!v2.2) then (some (([]:List Xd),8)) else ((X18 v2.1 (IntKind.i64.wrap ((List.length v2.1:Int) - 1))).bind λe5=>bif (decide (e5.depth>20)) then (some (([]:List Xd),34)) else (some (v2.1,0))))
def X50 (a0:(List Xy)):Option (Int) :=
 (X9b a0).bind λv1=>some v1.2
def X5e (a0:Int):Option (Bool) :=
 some (bif (decide (a0<0)) then true else (decide (a0 >= 4)))
inductive X4f where
 |x0
 |x1 (X6w:Int)
def X0i (X0e:(List Int)):List Int->Nat->Option X4f
 |[],k=>some (.x0)
 |x::xs,k=>(X5e x).bind λv10=>bif v10 then (some (.x1 (k:Int))) else (X0i X0e xs (k+1))
def X0h (a0:(List Int)):Option (Int) :=
 (X3b (List.length a0)).bind λu1=>(X0i  a0 a0 0).bind λo13=>match o13 with|.x0=>(some (-1))|.x1 X6w=>(some X6w)
def Xs (a0:(List Int)):Option (Bool) :=
 (X0h a0).bind λv1=>some (decide (v1 >= 0))
def X0t (l:List Int):Option Int:=(X3b (List.length l)).bind λ_=>some ((X5l [] l).length:Int)
def X1x (a0:(List Int)) (a1:Bool):Option (Int) :=
 bif (decide ((List.length a0:Int)>4)) then some 4 else ((bif ((List.length a0:Int)==0) then (some (bif (bif ((List.length a0:Int)==0) then true else false) then true else false)) else (bif a1 then (bif ((List.length a0:Int) != 2) then (some (bif (bif ((List.length a0:Int)==0) then true else (bif a1 then ((List.length a0:Int) != 2) else false)) then true else false)) else ((Xs a0).bind λv13=>some (bif (bif ((List.length a0:Int)==0) then true else (bif a1 then ((List.length a0:Int) != 2) else false)) then true else v13))) else ((Xs a0).bind λv15=>some (bif (bif ((List.length a0:Int)==0) then true else (bif a1 then false else false)) then true else v15))):Option (Bool)).bind λX08k=>bif X08k then some 8 else ((X0t a0).bind λv19=>bif (decide (v19<(List.length a0:Int))) then some 43 else (some 0)))
def X0u (a0:X0r):Option (Int) :=
 bif (bif (decide (a0.Size<1)) then true else (decide (a0.Size>1073741824))) then some 8 else (bif (a0.Kind==2) then (bif (bif (bif (decide (a0.Every >= 1)) then (decide (a0.Every<=a0.Size)) else false) then (decide (a0.Size<=(IntKind.i64.wrap (16*a0.Every)))) else false) then some 0 else (some 8)) else (bif (a0.Kind==1) then (bif (a0.Every==0) then some 0 else (some 8)) else (bif (a0.Kind==3) then (bif (a0.Every==0) then some 0 else (some 8)) else (some 8))))
def X6p (a0:X00):Option (Int) :=
 bif (bif (bif (decide (a0.Agg<1)) then true else (decide (a0.Agg>4))) then true else (bif (a0.Late != 1) then (a0.Late != 2) else false)) then some 8 else (bif (a0.Agg != 1) then ((X50 a0.Arg).bind λv3=>bif (v3 != 0) then some v3 else (bif (decide ((List.length a0.Where:Int)>0)) then ((X50 a0.Where).bind λv7=>bif (v7 != 0) then some v7 else ((X1x a0.Sources a0.Join).bind λv10=>bif (v10 != 0) then some v10 else (bif (bif a0.Join then (a0.Window.Kind != 1) else false) then some 8 else ((X0u a0.Window).bind λv14=>some v14)))) else ((X1x a0.Sources a0.Join).bind λv16=>bif (v16 != 0) then some v16 else (bif (bif a0.Join then (a0.Window.Kind != 1) else false) then some 8 else ((X0u a0.Window).bind λv20=>some v20))))) else (bif (decide ((List.length a0.Arg:Int)>0)) then some 8 else (bif (decide ((List.length a0.Where:Int)>0)) then ((X50 a0.Where).bind λv24=>bif (v24 != 0) then some v24 else ((X1x a0.Sources a0.Join).bind λv27=>bif (v27 != 0) then some v27 else (bif (bif a0.Join then (a0.Window.Kind != 1) else false) then some 8 else ((X0u a0.Window).bind λv31=>some v31)))) else ((X1x a0.Sources a0.Join).bind λv33=>bif (v33 != 0) then some v33 else (bif (bif a0.Join then (a0.Window.Kind != 1) else false) then some 8 else ((X0u a0.Window).bind λv37=>some v37))))))
inductive X4q where
 |x0
 |x1
def X06 (Xi:(List Bool)) (X3w:(V2 Bool)) (X0j:(List Int)):List Int->Nat->Option X4q
 |[],k=>some (.x0)
 |x::xs,k=>(X18 Xi x).bind λe3011=>bif (!(e3011==false)) then some (.x1) else (X06 Xi X3w X0j xs (k+1))
inductive X46 where
 |x0
 |x1
def X07 (Xi:(List Bool)) (X1k:(List Int)):List Int->Nat->Option X46
 |[],k=>some (.x0)
 |x::xs,k=>(X18 Xi x).bind λe3127=>bif (!(e3127==true)) then some (.x1) else (X07 Xi X1k xs (k+1))
inductive X51 where
 |x0 (X0d:(List Bool))
 |x1 (X09:(List Bool)) (Xlj:Int)
def X1c (X0e:(List Xy)):List Xy->Nat->(List Bool)->Option X51
 |[],k,Xi=>some (.x0 Xi)
 |x::xs,k,Xi=>bif (decide (x.Kind<=4)) then ((X0x (List.length (Xi++[false])) 1).bind λu2525=>X1c X0e xs (k+1) (Xi++[false])) else (bif (x.Kind==5) then (((X18 Xi x.A).bind λe2546=>bif (!(e2546==false)) then (some (bif (!(bif true then false else false)) then (!(bif false then false else false)) else false)) else (some (bif (!(bif true then true else false)) then false else false)):Option (Bool)).bind λXn4=>bif Xn4 then (some (.x1 ([]:List Bool) (k:Int))) else ((X0x (List.length (Xi++[false])) 1).bind λu2551=>X1c X0e xs (k+1) (Xi++[false]))) else (bif (x.Kind==6) then (((X18 Xi x.A).bind λe2571=>bif (!(e2571==true)) then some false else (some true):Option (Bool)).bind λXn3=>bif (bif (!(bif false then false else false)) then (!(bif true then Xn3 else false)) else false) then (some (.x1 ([]:List Bool) (k:Int))) else ((X0x (List.length (Xi++[true])) 1).bind λu2576=>X1c X0e xs (k+1) (Xi++[true]))) else ((bif (decide (x.Kind<=11)) then (some ((V2.mk true false),false)) else (bif (decide (x.Kind<=15)) then (some ((V2.mk true false),true)) else (bif (decide (x.Kind<=17)) then (some ((V2.mk true true),true)) else (some ((V2.mk false true),true)))):Option ((V2 Bool)×Bool)).bind λw2581=>(bif w2581.1.e0 then (((X3b (List.length [x.A,x.B])).bind λu2980=>(X06  Xi w2581.1 [x.A,x.B] [x.A,x.B] 0).bind λo3016=>match o3016 with|.x0=>(some true)|.x1=>(some false):Option (Bool)).bind λXbm=>bif (!(bif w2581.1.e0 then Xbm else false)) then (bif w2581.1.e1 then (((X3b (List.length [x.A,x.B])).bind λu3096=>(X07  Xi [x.A,x.B] [x.A,x.B] 0).bind λo3132=>match o3132 with|.x0=>(some true)|.x1=>(some false):Option (Bool)).bind λXn1=>some (bif (!(bif w2581.1.e0 then Xbm else false)) then (!(bif w2581.1.e1 then Xn1 else false)) else false)) else (some (bif (!(bif w2581.1.e0 then Xbm else false)) then (!(bif w2581.1.e1 then false else false)) else false))) else (some (bif (!(bif w2581.1.e0 then Xbm else false)) then false else false))) else (bif (!(bif w2581.1.e0 then false else false)) then (bif w2581.1.e1 then (((X3b (List.length [x.A,x.B])).bind λu3192=>(X07  Xi [x.A,x.B] [x.A,x.B] 0).bind λo3218=>match o3218 with|.x0=>(some true)|.x1=>(some false):Option (Bool)).bind λXn0=>some (bif (!(bif w2581.1.e0 then false else false)) then (!(bif w2581.1.e1 then Xn0 else false)) else false)) else (some (bif (!(bif w2581.1.e0 then false else false)) then (!(bif w2581.1.e1 then false else false)) else false))) else (some (bif (!(bif w2581.1.e0 then false else false)) then false else false))):Option (Bool)).bind λXn2=>bif Xn2 then (some (.x1 ([]:List Bool) (k:Int))) else ((X0x (List.length (Xi++[w2581.2])) 1).bind λu3223=>X1c X0e xs (k+1) (Xi++[w2581.2])))))
def Xdf (a0:(List Xy)):Option ((List Bool)×Int) :=
 (X3b (List.length a0)).bind λu1=>(X1c  a0 a0 0 ([]:List Bool)).bind λo3784=>match o3784 with|.x0 X0d=>(some (X0d,(List.length a0:Int)))|.x1 X09 Xlj=>(some (X09,Xlj))
def Xdg (a0:(List Xy)):Option (Bool×Int×Int) :=
 (X50 a0).bind λv1=>bif (v1 != 0) then (some (false,0,v1)) else ((Xdf a0).bind λv4=>bif (decide (v4.2<(List.length a0:Int))) then (some (false,v4.2,42)) else ((X18 v4.1 (IntKind.i64.wrap (v4.2 - 1))).bind λe7=>some (e7,(IntKind.i64.wrap (v4.2 - 1)),0)))
def X8o (a0:(List Xy)) (a1:Bool):Option (Int×Int) :=
 (Xdg a0).bind λv1=>(bif (bif (v1.2.2==0) then (!(v1.1==a1)) else false) then some 42 else (some v1.2.2):Option (Int)).bind λj4_8=>some (v1.2.1,j4_8)
def X9i (a0:(List Xy)):Option (Int×Int) :=
 (X8o a0 true).bind λv1=>some (v1.1,v1.2)
def Xa0 (a0:(List Xy)):Option (Int×Int) :=
 (X8o a0 false).bind λv1=>some (v1.1,v1.2)
def X7y (a0:X00):Option (Int×Int) :=
 (X6p a0).bind λv1=>bif (v1 != 0) then (some (0,v1)) else ((bif ((List.length a0.Arg:Int)==0) then (bif ((List.length a0.Where:Int)==0) then (some (0,0)) else ((X9i a0.Where).bind λv25=>bif (v25.2 != 0) then ((X18 a0.Where v25.1).bind λe28=>some (e28.At,v25.2)) else (some (0,0)))) else ((Xa0 a0.Arg).bind λv30=>bif (v30.2 != 0) then ((X18 a0.Arg v30.1).bind λe33=>some (e33.At,v30.2)) else (bif ((List.length a0.Where:Int)==0) then (some (0,0)) else ((X9i a0.Where).bind λv36=>bif (v36.2 != 0) then ((X18 a0.Where v36.1).bind λe39=>some (e39.At,v36.2)) else (some (0,0))))):Option (Int×Int)).bind λw22=>some (w22.1,w22.2))
def Xb1 (a0:Int):Option (Bool) :=
 some (bif (decide (a0 >= ((-1099511627776):Int))) then (decide (a0<=1099511627776)) else false)
inductive Xcq where
 |x0
 |x1
def X4a (X5i:(List Xq)):List Xq->Nat->Option Xcq
 |[],k=>some (.x0)
 |x::xs,k=>(bif (X38 x.Record (X6.mk 0 0 0)) then ((Xb1 x.Time).bind λv49=>bif v49 then (some (bif (X38 x.Record (X6.mk 0 0 0)) then (bif v49 then true else false) else false)) else (some (bif (X38 x.Record (X6.mk 0 0 0)) then (bif v49 then true else (x.Time==9223372036854775807)) else false))) else (some (bif (X38 x.Record (X6.mk 0 0 0)) then false else false)):Option (Bool)).bind λX03v=>(bif (x.Time==0) then ((Xb1 x.Record.Time).bind λv58=>some (bif (x.Time==0) then v58 else false)) else (some (bif (x.Time==0) then false else false)):Option (Bool)).bind λX08o=>bif (bif (bif x.Mark then (!X03v) else false) then true else (bif (!x.Mark) then (!X08o) else false)) then some (.x1) else (X4a X5i xs (k+1))
def X8n (a0:(List Xq)):Option (Int) :=
 bif (decide ((List.length a0:Int)>60)) then some 4 else ((X3b (List.length a0)).bind λu2=>(X4a  a0 a0 0).bind λo62=>match o62 with|.x0=>(some 0)|.x1=>(some 8))
inductive X9e where
 |x0
 |x1 (X7r:Int)
def X28 (Xq8:(List (List Xq))):List (List Xq)->Nat->Option X9e
 |[],k=>some (.x0)
 |x::xs,k=>(X8n x).bind λv10=>bif (v10 != 0) then (some (.x1 v10)) else (X28 Xq8 xs (k+1))
def X5j (a0:(List (List Xq))):Option (Int) :=
 (X3b (List.length a0)).bind λu1=>(X28  a0 a0 0).bind λo13=>match o13 with|.x0=>(some 0)|.x1 X7r=>(some X7r)
inductive X9h where
 |x0 (Xj:(List X6)) (X0d:(List X6))
def X3k (Xei:(List Xq)):List Xq->Nat->(List X6)->(List X6)->Int->Option X9h
 |[],k,Xf,Xi,X3w=>some (.x0 Xf Xi)
 |x::xs,k,Xf,Xi,X3w=>(bif x.Mark then (some (if x.Time>X3w then x.Time else X3w)) else (some X3w):Option (Int)).bind λXn9=>(bif x.Mark then (some (Xf,Xi)) else (bif (decide (x.Record.Time<X3w)) then ((X0x (List.length (Xi++[x.Record])) 24).bind λu200=>some (Xf,(Xi++[x.Record]))) else ((X0x (List.length (Xf++[x.Record])) 24).bind λu202=>some ((Xf++[x.Record]),Xi))):Option ((List X6)×(List X6))).bind λw197=>X3k Xei xs (k+1) w197.1 w197.2 Xn9
def Xb2 (a0:(List Xq)):Option ((List X6)×(List X6)×Int) :=
 (X8n a0).bind λv1=>bif (v1 != 0) then (some (([]:List X6),([]:List X6),v1)) else ((X3b (List.length a0)).bind λu4=>(X3k  a0 a0 0 ([]:List X6) ([]:List X6) (-9223372036854775808)).bind λo271=>match o271 with|.x0 Xj X0d=>(some (Xj,X0d,0)))
def Xbt (a0:(List Xy)):Option (Int) :=
 (Xdg a0).bind λv1=>some v1.2.2
def X3d (a0:Bool):Option (Int) :=
 bif a0 then some 1 else (some 0)
def Xk0 (a0:Int) (a1:Int) (a2:Int):Option (Int×Int) :=
 bif (a0==5) then (some ((IntKind.i64.wrap (0 - a1)),0)) else (bif (a0==6) then ((X3d (a1==0)).bind λv3=>some (v3,0)) else (bif (a0==7) then (some ((IntKind.i64.wrap (a1*a2)),0)) else (bif (a0==8) then (some ((IntKind.i64.wrap (a1+a2)),0)) else (bif (a0==9) then (some ((IntKind.i64.wrap (a1 - a2)),0)) else (bif (a0==10) then ((shOk (bits .and IntKind.i64 a2 63)).bind λu9=>some ((IntKind.i64.wrap (a1*2 ^ (min (Int.toNat (bits .and IntKind.i64 a2 63)) IntKind.i64.bits))),0)) else (bif (a0==11) then ((shOk (bits .and IntKind.i64 a2 63)).bind λu12=>some ((Int.fdiv a1 (2 ^ (min (Int.toNat (bits .and IntKind.i64 a2 63)) IntKind.i64.bits))),0)) else (bif (a0==12) then ((X3d (decide (a1<a2))).bind λv15=>some (v15,0)) else (bif (a0==13) then ((X3d (decide (a1<=a2))).bind λv18=>some (v18,0)) else (bif (a0==14) then ((X3d (decide (a1>a2))).bind λv21=>some (v21,0)) else (bif (a0==15) then ((X3d (decide (a1 >= a2))).bind λv24=>some (v24,0)) else (bif (a0==16) then ((X3d (a1==a2)).bind λv27=>some (v27,0)) else (bif (a0==17) then ((X3d (a1 != a2)).bind λv30=>some (v30,0)) else (bif (a0==18) then ((X3d (bif (a1 != 0) then (a2 != 0) else false)).bind λv33=>some (v33,0)) else (bif (a0==19) then ((X3d ((bits .or IntKind.i64 a1 a2) != 0)).bind λv36=>some (v36,0)) else (some (0,2))))))))))))))))
inductive X7q where
 |x0 (Xj:(List Int))
 |x1 (X09:(List Int)) (Xli:Int)
def X2y (Xf:(V5 Int)) (Xit:(List Xy)):List Xy->Nat->(List Int)->Option X7q
 |[],k,Xi=>some (.x0 Xi)
 |x::xs,k,Xi=>bif (x.Kind==1) then ((X18 Xi (k:Int)).bind λe88=>X2y Xf Xit xs (k+1) (List.set Xi (Int.toNat (k:Int)) x.N)) else (bif (decide (x.Kind<=4)) then ((bif (x.Kind==0) then ((X18 Xi (k:Int)).bind λe105=>some (List.set Xi (Int.toNat (k:Int)) Xf.e0)) else (bif (x.Kind==2) then ((X18 Xi (k:Int)).bind λe108=>some (List.set Xi (Int.toNat (k:Int)) Xf.e2)) else (bif (x.Kind==3) then ((X18 Xi (k:Int)).bind λe111=>some (List.set Xi (Int.toNat (k:Int)) Xf.e3)) else (bif (x.Kind==4) then ((X18 Xi (k:Int)).bind λe114=>some (List.set Xi (Int.toNat (k:Int)) Xf.e4)) else none))):Option ((List Int))).bind λXnd=>X2y Xf Xit xs (k+1) Xnd) else ((X18 Xi x.A).bind λe117=>(X18 Xi x.B).bind λe119=>(Xk0 x.Kind e117 e119).bind λv121=>bif (v121.2 != 0) then (some (.x1 ([]:List Int) v121.2)) else ((X18 Xi (k:Int)).bind λe124=>X2y Xf Xit xs (k+1) (List.set Xi (Int.toNat (k:Int)) v121.1))))
def Xfz (a0:(List Xy)) (a1:X6):Option ((List Int)×Int) :=
 (Xbt a0).bind λv1=>bif (v1 != 0) then (some (([]:List Int),v1)) else ((mkOk (List.length a0:Int) (List.length a0:Int) 8).bind λu4=>(X3b (List.length a0)).bind λu6=>(X2y  (V5.mk 0 0 a1.Key a1.Time a1.Value) a0 a0 0 (List.replicate (Int.toNat (List.length a0:Int)) 0)).bind λo126=>match o126 with|.x0 Xj=>(some (Xj,0))|.x1 X09 Xli=>(some (X09,Xli)))
def X5p (a0:(List Xy)) (a1:X6):Option (Int×Int) :=
 (Xfz a0 a1).bind λv1=>bif (v1.2 != 0) then (some (0,v1.2)) else ((X18 v1.1 (IntKind.i64.wrap ((List.length v1.1:Int) - 1))).bind λe4=>some (e4,0))
def X5k (a0:X00) (a1:X6):Option (X6×Bool) :=
 bif (decide ((List.length a0.Where:Int)>0)) then ((X5p a0.Where a1).bind λv2=>bif (bif (v2.2 != 0) then true else (v2.1==0)) then (some ((X6.mk 0 0 0),false)) else ((bif a0.ByKey then (some (X6.mk a1.Key a1.Time 0)) else (some (X6.mk 0 a1.Time 0)):Option (X6)).bind λXmz=>(bif (a0.Agg != 1) then ((X5p a0.Arg a1).bind λv14=>some (X6.mk Xmz.Key Xmz.Time v14.1)) else (some Xmz):Option (X6)).bind λXp8=>some (Xp8,true))) else ((bif a0.ByKey then (some (X6.mk a1.Key a1.Time 0)) else (some (X6.mk 0 a1.Time 0)):Option (X6)).bind λXp7=>(bif (a0.Agg != 1) then ((X5p a0.Arg a1).bind λv26=>some (X6.mk Xp7.Key Xp7.Time v26.1)) else (some Xp7):Option (X6)).bind λXzh=>some (Xzh,true))
def X2z (a0:X0y):Option (Int) :=
 (bif (a0.Count==0) then (some (Xwl a0 (X0y.mk 0 0 0 0))) else (bif (a0.Count==1) then (some (bif (a0.Sum==a0.Min) then (a0.Sum==a0.Max) else false)) else (bif (bif (decide (a0.Count>1)) then (decide (a0.Count<=1073741824)) else false) then (some (decide (a0.Min<=a0.Max))) else (some false))):Option (Bool)).bind λj4_3=>bif (!j4_3) then some 8 else (some 0)
def X8t (a0:X4):Option (Bool) :=
 bif (bif (bif (decide (a0.Span.Start<((-1100585369600):Int))) then true else (decide (a0.Span.End<=a0.Span.Start))) then true else (decide (a0.Span.End>1100585369600))) then some false else (((X2z a0.Values.e0).bind λv9=>bif (v9==0) then ((X2z a0.Values.e1).bind λv12=>bif (v12==0) then (some (bif (bif (v9==0) then (v12==0) else false) then (decide ((IntKind.i64.wrap (a0.Values.e0.Count+a0.Values.e1.Count))>0)) else false)) else (some (bif (bif (v9==0) then (v12==0) else false) then false else false))) else (some (bif (bif (v9==0) then false else false) then false else false)):Option (Bool)).bind λj8_2=>some j8_2)
def X2i (a0:Int):Option (Bool) :=
 some (a0 != a0)
def X02 (a0:Int) (a1:Int):Option (Int) :=
 (X2i a0).bind λv1=>(X2i a1).bind λv3=>bif v1 then (bif v3 then some 0 else (some (-1))) else (bif v3 then some 1 else (bif (decide (a0<a1)) then (some (-1)) else (bif (decide (a0>a1)) then some 1 else (some 0))))
inductive Xd3 where
 |x0
 |x1 (X7r:Int)
def X2s (Xq8:(List Int)):List Int->Nat->Option Xd3
 |[],k=>some (.x0)
 |x::xs,k=>bif (x != 0) then (some (.x1 x)) else (X2s Xq8 xs (k+1))
def X67 (a0:(List Int)):Option (Int) :=
 (X3b (List.length a0)).bind λu1=>(X2s  a0 a0 0).bind λo7=>match o7 with|.x0=>(some 0)|.x1 X7r=>(some X7r)
def X5r (a0:X4) (a1:X4):Option (Int) :=
 (X02 a0.Span.End a1.Span.End).bind λv1=>(X02 a0.Span.Start a1.Span.Start).bind λv3=>(X02 a0.Key a1.Key).bind λv5=>(X67 [v1,v3,v5]).bind λv7=>some v7
inductive Xby where
 |x0
 |x1
def X3l (X0e:(List X4)):List X4->Nat->Option Xby
 |[],k=>some (.x0)
 |x::xs,k=>((X8t x).bind λv52=>bif (!v52) then some true else (bif (decide ((k:Int)>0)) then ((X18 X0e (IntKind.i64.wrap ((k:Int) - 1))).bind λe56=>(X5r e56 x).bind λv58=>some (bif (!v52) then true else (bif (decide ((k:Int)>0)) then (decide (v58 >= 0)) else false))) else (some (bif (!v52) then true else false))):Option (Bool)).bind λXze=>bif Xze then some (.x1) else (X3l X0e xs (k+1))
def X8u (a0:(List X4)):Option (Int) :=
 bif (decide ((List.length a0:Int)>4000)) then some 4 else ((X3b (List.length a0)).bind λu2=>(X3l  a0 a0 0).bind λo62=>match o62 with|.x0=>(some 0)|.x1=>(some 8))
def X9m (a0:Int):Option (X0y) :=
 some (X0y.mk 1 a0 a0 a0)
def X3g (a0:Int) (a1:Int):Option (Int) :=
 bif (bif (decide (a1<1)) then true else (decide (a1>1073741824))) then some 2 else (bif (bif (decide (a0<((-1099511627776):Int))) then true else (decide (a0>1099511627776))) then some 16 else (some 0))
def Xh6:List Int:=[0,1,2,2,3,3,3,3,4,4,4,4,4,4,4,4,5,5,5,5,5,5,5,5,5,5,5,5,5,5,5,5,6,6,6,6,6,6,6,6,6,6,6,6,6,6,6,6,6,6,6,6,6,6,6,6,6,6,6,6,6,6,6,6,7,7,7,7,7,7,7,7,7,7,7,7,7,7,7,7,7,7,7,7,7,7,7,7,7,7,7,7,7,7,7,7,7,7,7,7,7,7,7,7,7,7,7,7,7,7,7,7,7,7,7,7,7,7,7,7,7,7,7,7,7,7,7,7,8,8,8,8,8,8,8,8,8,8,8,8,8,8,8,8,8,8,8,8,8,8,8,8,8,8,8,8,8,8,8,8,8,8,8,8,8,8,8,8,8,8,8,8,8,8,8,8,8,8,8,8,8,8,8,8,8,8,8,8,8,8,8,8,8,8,8,8,8,8,8,8,8,8,8,8,8,8,8,8,8,8,8,8,8,8,8,8,8,8,8,8,8,8,8,8,8,8,8,8,8,8,8,8,8,8,8,8,8,8,8,8,8,8,8,8,8,8,8,8,8,8,8,8,8,8,8,8]
def X9f (a0:Int):Option (Int) :=
 (bif (decide (a0 >= 4294967296)) then (some ((Int.fdiv a0 (2 ^ (min (Int.toNat 32) IntKind.u64.bits))),32)) else (some (a0,0)):Option (Int×Int)).bind λw2=>(bif (decide (w2.1 >= 65536)) then (some ((Int.fdiv w2.1 (2 ^ (min (Int.toNat 16) IntKind.u64.bits))),(IntKind.i64.wrap (w2.2+16)))) else (some (w2.1,w2.2)):Option (Int×Int)).bind λw6=>(bif (decide (w6.1 >= 256)) then (some ((Int.fdiv w6.1 (2 ^ (min (Int.toNat 8) IntKind.u64.bits))),(IntKind.i64.wrap (w6.2+8)))) else (some (w6.1,w6.2)):Option (Int×Int)).bind λw10=>(X18 Xh6 (IntKind.u8.wrap w10.1)).bind λb13=>some (IntKind.i64.wrap (w10.2+(IntKind.i64.wrap b13)))
def X8c (a0:Int):Option (Int) :=
 (X9f a0).bind λv1=>some v1
inductive X1o where
 |x0 (Xf0:Int)
def Xo (X0e:(List X4)) (Xf:X4) (Xg5:Int):Nat->Int->Int->Option X1o
 |0,_,_=>none
 |n+1,X7z,X5i=>bif (decide (X7z<X5i)) then ((X18 X0e (IntKind.i64.wrap (Int.fdiv (IntKind.u64.wrap (IntKind.i64.wrap (X7z+X5i))) (2 ^ (min (Int.toNat 1) IntKind.u64.bits))))).bind λe15=>(X5r e15 Xf).bind λv17=>bif (decide (v17<0)) then (Xo X0e Xf Xg5 n (IntKind.i64.wrap ((IntKind.i64.wrap (Int.fdiv (IntKind.u64.wrap (IntKind.i64.wrap (X7z+X5i))) (2 ^ (min (Int.toNat 1) IntKind.u64.bits))))+1)) X5i) else (Xo X0e Xf Xg5 n X7z (IntKind.i64.wrap (Int.fdiv (IntKind.u64.wrap (IntKind.i64.wrap (X7z+X5i))) (2 ^ (min (Int.toNat 1) IntKind.u64.bits)))))) else (some (.x0 X7z))
def Xg (a0:(List X4)) (a1:X4):Option (Int×Bool) :=
 (Xo  a0 a1 (List.length a0:Int) FU 0 (List.length a0:Int)).bind λo20=>match o20 with|.x0 Xf0=>((bif (decide (Xf0<(List.length a0:Int))) then ((X18 a0 Xf0).bind λe29=>(X5r e29 a1).bind λv31=>some (bif (decide (Xf0<(List.length a0:Int))) then (v31==0) else false)) else (some false):Option (Bool)).bind λX08v=>some (Xf0,X08v))
def X1y (a0:X0y) (a1:X0y):Option (X0y×Int) :=
 ((X2z a0).bind λv7=>bif (v7 != 0) then (some (bif (v7 != 0) then true else false)) else ((X2z a1).bind λv10=>some (bif (v7 != 0) then true else (v10 != 0))):Option (Bool)).bind λX08n=>bif X08n then (some ((X0y.mk 0 0 0 0),8)) else (bif (decide ((IntKind.i64.wrap (a0.Count+a1.Count))>1073741824)) then (some ((X0y.mk 0 0 0 0),4)) else (bif (a0.Count==0) then (some (a1,0)) else (bif (a1.Count==0) then (some (a0,0)) else (some ((X0y.mk (IntKind.i64.wrap (a0.Count+a1.Count)) (IntKind.i64.wrap (a0.Sum+a1.Sum)) (if a1.Min<a0.Min then a1.Min else a0.Min) (if a1.Max>a0.Max then a1.Max else a0.Max)),0)))))
def X9r (a0:Int) (a1:Int):Option (Int) :=
 bif (bif (decide (a1<1)) then true else (decide (a1>1073741824))) then some 2 else (bif (bif (decide (a0<((-1099511627776):Int))) then true else (decide (a0>1099511627776))) then some 16 else (some 0))
def X6f (a0:Int) (a1:Int):Option (Int×Int) :=
 (X9r a0 a1).bind λv1=>bif (v1 != 0) then (some (0,v1)) else ((X00n a1).bind λu4=>(bif (decide ((Int.tmod a0 a1)<0)) then (some (IntKind.i64.wrap ((IntKind.i64.wrap (Int.tdiv a0 a1)) - 1))) else (some (IntKind.i64.wrap (Int.tdiv a0 a1))):Option (Int)).bind λj7_7=>some (j7_7,0))
def Xar (a0:Int) (a1:Int):Option (X0p×Int) :=
 (X6f a0 a1).bind λv1=>bif (v1.2 != 0) then (some ((X0p.mk 0 0),v1.2)) else (some ((X0p.mk (IntKind.i64.wrap (v1.1*a1)) (IntKind.i64.wrap ((IntKind.i64.wrap (v1.1+1))*a1))),0))
inductive Xad where
 |x0 (Xj:(List X0p))
def X4y (X0e:Int) (X9p:Int) (Xdt:Int):Nat->(List X0p)->Int->Option Xad
 |0,_,_=>none
 |n+1,Xf,X7s=>bif (decide ((IntKind.i64.wrap (X7s+X9p))>X0e)) then ((X0x (List.length (Xf++[(X0p.mk X7s (IntKind.i64.wrap (X7s+X9p)))])) 16).bind λu19=>X4y X0e X9p Xdt n (Xf++[(X0p.mk X7s (IntKind.i64.wrap (X7s+X9p)))]) (IntKind.i64.wrap (X7s - Xdt))) else (some (.x0 Xf))
inductive X78 where
 |x0 (X25:(List X0p)) (Xcb:(List X0p))
def X36 (X1k:(List X0p)):Nat->(List X0p)->Int->Option X78
 |0,_,_=>none
 |n+1,X0j,Xh4=>bif (decide (Xh4 >= 0)) then ((X18 X1k Xh4).bind λe68=>(X0x (List.length (X0j++[e68])) 16).bind λu72=>X36 X1k n (X0j++[e68]) (IntKind.i64.wrap (Xh4 - 1))) else (some (.x0 X0j X1k))
def Xcf (a0:Int) (a1:Int) (a2:Int):Option ((List X0p)×Int) :=
 bif (bif (bif (bif (decide ((if a2<a1 then a2 else a1)<1)) then true else (decide (a1>1073741824))) then true else (decide (a2>a1))) then true else (decide (a1>(IntKind.i64.wrap (16*a2))))) then (some (([]:List X0p),2)) else ((Xar a0 a2).bind λv2=>bif (v2.2 != 0) then (some (([]:List X0p),v2.2)) else ((X4y  a0 a1 a2 FU ([]:List X0p) v2.1.Start).bind λo24=>match o24 with|.x0 Xj=>((X36  Xj FU ([]:List X0p) (IntKind.i64.wrap ((List.length Xj:Int) - 1))).bind λo87=>match o87 with|.x0 X25 Xcb=>(some (X25,0)))))
def Xf5 (a0:X0r) (a1:Int):Option ((List X0p)×Int) :=
 (X0u a0).bind λv1=>bif (v1 != 0) then (some (([]:List X0p),v1)) else (bif (a0.Kind==1) then ((Xar a1 a0.Size).bind λv5=>bif (v5.2 != 0) then (some (([]:List X0p),v5.2)) else (some ([v5.1],0))) else (bif (a0.Kind==2) then ((Xcf a1 a0.Size a0.Every).bind λv9=>some (v9.1,v9.2)) else (some (([]:List X0p),2))))
inductive X11 where
 |x0
 |x1 (X6w:Int)
def Xh (X0j:(List X4)) (X1k:X4):List X4->Nat->Option X11
 |[],k=>some (.x0)
 |x::xs,k=>bif (bif (bif (x.Key==X1k.Key) then (decide (x.Span.Start<X1k.Span.End)) else false) then (decide (X1k.Span.Start<x.Span.End)) else false) then (some (.x1 (k:Int))) else (Xh X0j X1k xs (k+1))
inductive X3m where
 |x0 (X25:(List X4)) (Xip:Int)
def X1a:Nat->(List X4)->X4->Option X3m
 |0,_,_=>none
 |n+1,X0j,X1k=>((X3b (List.length X0j)).bind λu1330=>(Xh  X0j X1k X0j 0).bind λo1342=>match o1342 with|.x0=>(some (-1))|.x1 X6w=>(some X6w):Option (Int)).bind λXdh=>bif (decide (Xdh<0)) then (((Xg X0j X1k).bind λv1393=>bif (!v1393.2) then (bif (v1393.1==(List.length X0j:Int)) then (((X6x X0j v1393.1 (List.length X0j:Int)).bind λm1405=>bif (List.isEmpty m1405) then ((X0x (List.length (X0j++[X1k])) 88).bind λu1408=>some ()) else ((X0x (List.length (X0j++[X1k])) 88).bind λu1410=>some ()):Option (Unit)).bind λ_=>some ((X0j++[X1k]),0)) else ((Xvt X0j v1393.1 X1k 88).bind λm1413=>some (m1413,0))) else ((X18 X0j v1393.1).bind λe1415=>((X1y e1415.Values.e0 X1k.Values.e0).bind λv1430=>bif (v1430.2 != 0) then (some (X0j,v1430.2)) else ((X1y (((X4.mk e1415.Key e1415.Span (V2.mk v1430.1 e1415.Values.e1)).Values).e1) X1k.Values.e1).bind λv1435=>bif (v1435.2 != 0) then (some ((List.set X0j (Int.toNat v1393.1) (X4.mk e1415.Key e1415.Span (V2.mk v1430.1 e1415.Values.e1))),v1435.2)) else (some ((List.set (List.set X0j (Int.toNat v1393.1) (X4.mk e1415.Key e1415.Span (V2.mk v1430.1 e1415.Values.e1))) (Int.toNat v1393.1) (X4.mk ((X4.mk e1415.Key e1415.Span (V2.mk v1430.1 e1415.Values.e1)).Key) ((X4.mk e1415.Key e1415.Span (V2.mk v1430.1 e1415.Values.e1)).Span) (V2.mk (((X4.mk e1415.Key e1415.Span (V2.mk v1430.1 e1415.Values.e1)).Values).e0) v1435.1))),0))):Option ((List X4)×Int)).bind λw1427=>some (w1427.1,w1427.2)):Option ((List X4)×Int)).bind λw1392=>some (.x0 w1392.1 w1392.2)) else ((X18 X0j Xdh).bind λe1440=>((X1y X1k.Values.e0 e1440.Values.e0).bind λv1455=>bif (v1455.2 != 0) then (some (X1k,v1455.2)) else ((X1y X1k.Values.e1 e1440.Values.e1).bind λv1460=>bif (v1460.2 != 0) then (some ((X4.mk X1k.Key X1k.Span (V2.mk v1455.1 X1k.Values.e1)),v1460.2)) else (some ((X4.mk X1k.Key X1k.Span (V2.mk v1455.1 v1460.1)),0))):Option (X4×Int)).bind λw1452=>bif (w1452.2 != 0) then (some (.x0 ([]:List X4) w1452.2)) else ((delI X0j Xdh).bind λm1465=>X1a n m1465 (X4.mk w1452.1.Key (X0p.mk (if e1440.Span.Start<w1452.1.Span.Start then e1440.Span.Start else w1452.1.Span.Start) (if e1440.Span.End>w1452.1.Span.End then e1440.Span.End else w1452.1.Span.End)) w1452.1.Values)))
inductive X7l where
 |x0 (Xj:(List X4))
 |x1 (X09:(List X4)) (Xio:Int)
def X45 (Xis:(List X0p)):List X0p->Nat->X4->(List X4)->Option X7l
 |[],k,Xf,Xi=>some (.x0 Xi)
 |x::xs,k,Xf,Xi=>((Xg Xi (X4.mk Xf.Key x Xf.Values)).bind λv1891=>bif (!v1891.2) then (bif (v1891.1==(List.length Xi:Int)) then (((X6x Xi v1891.1 (List.length Xi:Int)).bind λm1903=>bif (List.isEmpty m1903) then ((X0x (List.length (Xi++[(X4.mk Xf.Key x Xf.Values)])) 88).bind λu1906=>some ()) else ((X0x (List.length (Xi++[(X4.mk Xf.Key x Xf.Values)])) 88).bind λu1908=>some ()):Option (Unit)).bind λ_=>some ((X4.mk ((X4.mk Xf.Key x Xf.Values).Key) ((X4.mk Xf.Key x Xf.Values).Span) (V2.mk (((X4.mk Xf.Key x Xf.Values).Values).e0) (((X4.mk Xf.Key x Xf.Values).Values).e1))),(Xi++[(X4.mk Xf.Key x Xf.Values)]),0)) else ((Xvt Xi v1891.1 (X4.mk Xf.Key x Xf.Values) 88).bind λm1911=>some ((X4.mk Xf.Key x Xf.Values),m1911,0))) else ((X18 Xi v1891.1).bind λe1913=>((X1y e1913.Values.e0 Xf.Values.e0).bind λv1928=>bif (v1928.2 != 0) then (some (Xi,v1928.2)) else ((X1y (((X4.mk e1913.Key e1913.Span (V2.mk v1928.1 e1913.Values.e1)).Values).e1) Xf.Values.e1).bind λv1933=>bif (v1933.2 != 0) then (some ((List.set Xi (Int.toNat v1891.1) (X4.mk e1913.Key e1913.Span (V2.mk v1928.1 e1913.Values.e1))),v1933.2)) else (some ((List.set (List.set Xi (Int.toNat v1891.1) (X4.mk e1913.Key e1913.Span (V2.mk v1928.1 e1913.Values.e1))) (Int.toNat v1891.1) (X4.mk ((X4.mk e1913.Key e1913.Span (V2.mk v1928.1 e1913.Values.e1)).Key) ((X4.mk e1913.Key e1913.Span (V2.mk v1928.1 e1913.Values.e1)).Span) (V2.mk (((X4.mk e1913.Key e1913.Span (V2.mk v1928.1 e1913.Values.e1)).Values).e0) v1933.1))),0))):Option ((List X4)×Int)).bind λw1925=>some ((X4.mk ((X4.mk Xf.Key x Xf.Values).Key) ((X4.mk Xf.Key x Xf.Values).Span) (V2.mk (((X4.mk Xf.Key x Xf.Values).Values).e0) (((X4.mk Xf.Key x Xf.Values).Values).e1))),w1925.1,w1925.2)):Option (X4×(List X4)×Int)).bind λw1890=>bif (w1890.2.2 != 0) then (some (.x1 ([]:List X4) w1890.2.2)) else (X45 Xis xs (k+1) w1890.1 w1890.2.1)
def X7u (a0:(List X4)) (a1:X0r) (a2:X6) (a3:Int):Option ((List X4)×Int) :=
 (X8u a0).bind λv1=>bif (v1 != 0) then (some (([]:List X4),v1)) else ((X0u a1).bind λv4=>bif (v4 != 0) then (some (([]:List X4),v4)) else (bif (bif (a3 != 0) then (a3 != 1) else false) then (some (([]:List X4),2)) else (bif (bif (decide (a2.Time<((-1099511627776):Int))) then true else (decide (a2.Time>1099511627776))) then (some (([]:List X4),16)) else (((X9m a2.Value).bind λv14=>bif (a3==0) then (some (X4.mk a2.Key (X0p.mk 0 0) (V2.mk v14 (X0y.mk 0 0 0 0)))) else (bif (a3==1) then (some (X4.mk a2.Key (X0p.mk 0 0) (V2.mk (X0y.mk 0 0 0 0) v14))) else none):Option (X4)).bind λXhg=>(bif (List.isEmpty a0) then some a0 else ((X0x (List.length a0) 88).bind λu28=>some a0):Option ((List X4))).bind λXhf=>bif (a1.Kind==3) then (((X3g 0 a1.Size).bind λv51=>bif (v51 != 0) then (some (([]:List X0p),v51)) else ((X3g a2.Time a1.Size).bind λv54=>bif (v54 != 0) then (some (([]:List X0p),v54)) else ((X8c 1).bind λv67=>some ([(X0p.mk a2.Time (IntKind.i64.wrap (a2.Time+a1.Size)))],0))):Option ((List X0p)×Int)).bind λw50=>bif (w50.2 != 0) then (some (([]:List X4),w50.2)) else ((X18 w50.1 0).bind λe71=>((X1a  FU Xhf (X4.mk Xhg.Key e71 Xhg.Values)).bind λo1548=>match o1548 with|.x0 X25 Xip=>(some (X25,Xip)):Option ((List X4)×Int)).bind λw811=>bif (w811.2 != 0) then (some (([]:List X4),w811.2)) else (bif (decide ((List.length w811.1:Int)>4000)) then (some (([]:List X4),4)) else (some (w811.1,0))))) else ((Xf5 a1 a2.Time).bind λv1558=>bif (v1558.2 != 0) then (some (([]:List X4),v1558.2)) else ((X3b (List.length v1558.1)).bind λu1561=>(X45  v1558.1 v1558.1 0 Xhg Xhf).bind λo1984=>match o1984 with|.x0 Xj=>(bif (decide ((List.length Xj:Int)>4000)) then (some (([]:List X4),4)) else (some (Xj,0)))|.x1 X09 Xio=>(some (X09,Xio))))))))
def X68 (a0:Int) (a1:X0y):Option (Int×Int) :=
 bif (bif (decide (a0<1)) then true else (decide (a0>4))) then (some (0,2)) else ((X2z a1).bind λv2=>bif (v2 != 0) then (some (0,v2)) else (bif (a1.Count==0) then (some (0,6)) else ((bif (a0==0) then some 0 else (bif (a0==1) then (some a1.Count) else (bif (a0==2) then (some a1.Sum) else (bif (a0==3) then (some a1.Min) else (bif (a0==4) then (some a1.Max) else none)))):Option (Int)).bind λX08z=>some (X08z,0))))
def X9d (a0:X00) (a1:X4):Option (X1z×Bool) :=
 (X68 a0.Agg a1.Values.e0).bind λv3=>bif (v3.2 != 0) then (some ((X1z.mk 0 (X0p.mk 0 0) (V2.mk 0 0)),false)) else (bif (bif ((1:Int)==1) then (!a0.Join) else false) then (some ((X1z.mk a1.Key a1.Span (V2.mk v3.1 0)),true)) else ((X68 a0.Agg a1.Values.e1).bind λv9=>bif (v9.2 != 0) then (some ((X1z.mk 0 (X0p.mk 0 0) (V2.mk 0 0)),false)) else (some ((X1z.mk a1.Key a1.Span (V2.mk v3.1 v9.1)),true))))
inductive X5n where
 |x0 (X8p:(List X4)) (X73:(List X6))
 |x1 (X72:(List X1z)) (X71:(List X6)) (Xca:Int)
def X2b (X4w:X00) (Xkq:(List X6)) (Xo6:Int) (Xo5:(List (List Xq))) (Xo4:Int) (Xo3:Int) (Xhp:(List X6)):List X6->Nat->(List X4)->Option X5n
 |[],k,Xir=>some (.x0 Xir Xkq)
 |x::xs,k,Xir=>(X5k X4w x).bind λv482=>bif (!v482.2) then (X2b X4w Xkq Xo6 Xo5 Xo4 Xo3 Xhp xs (k+1) Xir) else ((bif X4w.Join then some Xo6 else (some 0):Option (Int)).bind λXrl=>(X7u Xir X4w.Window v482.1 Xrl).bind λv489=>bif (v489.2 != 0) then (some (.x1 ([]:List X1z) ([]:List X6) v489.2)) else (X2b X4w Xkq Xo6 Xo5 Xo4 Xo3 Xhp xs (k+1) v489.1))
inductive X5o where
 |x0 (X6d:(List X4)) (X0d:(List X6))
 |x1 (X09:(List X1z)) (X4v:(List X6)) (Xlh:Int)
def X2c (Xf:X00) (Xao:(List (List Xq))):List (List Xq)->Nat->(List X4)->(List X6)->Option X5o
 |[],k,X5i,Xi=>some (.x0 X5i Xi)
 |x::xs,k,X5i,Xi=>(Xb2 x).bind λv435=>bif (v435.2.2 != 0) then (some (.x1 ([]:List X1z) ([]:List X6) v435.2.2)) else (bif (List.isEmpty v435.2.1) then ((X3b (List.length v435.1)).bind λu439=>(X2b  Xf (Xi++v435.2.1) (k:Int) Xao (List.length Xao:Int) (k:Int) v435.1 v435.1 0 X5i).bind λo502=>match o502 with|.x0 X8p X73=>(X2c Xf Xao xs (k+1) X8p X73)|.x1 X72 X71 Xca=>(some (.x1 X72 X71 Xca))) else ((X0x (List.length (Xi++v435.2.1)) 24).bind λu504=>(X3b (List.length v435.1)).bind λu506=>(X2b  Xf (Xi++v435.2.1) (k:Int) Xao (List.length Xao:Int) (k:Int) v435.1 v435.1 0 X5i).bind λo549=>match o549 with|.x0 X8p X73=>(X2c Xf Xao xs (k+1) X8p X73)|.x1 X72 X71 Xca=>(some (.x1 X72 X71 Xca))))
inductive X84 where
 |x0 (Xb8:(List X6)) (X4u:(List X1z))
def X2w (Xkp:X00) (Xiq:(List X6)) (Xef:(List X4)):List X4->Nat->(List X1z)->Option X84
 |[],k,Xho=>some (.x0 Xiq Xho)
 |x::xs,k,Xho=>(X9d Xkp x).bind λv732=>(bif v732.2 then ((X0x (List.length (Xho++[v732.1])) 40).bind λu739=>some (Xho++[v732.1])) else (some Xho):Option ((List X1z))).bind λXjv=>X2w Xkp Xiq Xef xs (k+1) Xjv
def X5v (a0:X00) (a1:(List (List Xq))):Option ((List X1z)×(List X6)×Int) :=
 (X7y a0).bind λv1=>bif (v1.2 != 0) then (some (([]:List X1z),([]:List X6),v1.2)) else (bif ((List.length a1:Int) != (List.length a0.Sources:Int)) then (some (([]:List X1z),([]:List X6),2)) else ((X5j a1).bind λv5=>bif (v5 != 0) then (some (([]:List X1z),([]:List X6),v5)) else ((X3b (List.length a1)).bind λu8=>(X2c  a0 a1 a1 0 ([]:List X4) ([]:List X6)).bind λo647=>match o647 with|.x0 X6d X0d=>((X3b (List.length X6d)).bind λu649=>(X2w  a0 X0d X6d X6d 0 ([]:List X1z)).bind λo772=>match o772 with|.x0 Xb8 X4u=>((bif (a0.Late != 2) then (some ([]:List X6)) else (some Xb8):Option ((List X6))).bind λXju=>some (X4u,Xju,0)))|.x1 X09 X4v Xlh=>(some (X09,X4v,Xlh)))))
def X5m (a0:X6q) (a1:X6q):Option (Int) :=
 (X02 a0.Span.End a1.Span.End).bind λv1=>(X02 a0.Span.Start a1.Span.Start).bind λv3=>(X02 a0.Key a1.Key).bind λv5=>(X02 a0.Values.e0 a1.Values.e0).bind λv7=>(X02 a0.Values.e1 a1.Values.e1).bind λv9=>(X67 [v1,v3,v5,v7,v9]).bind λv11=>some v11
def Xp (a0:X1z) (a1:X1z):Option (Int) :=
 (X5m (X6q.mk a0.Key a0.Span a0.Values) (X6q.mk a1.Key a1.Span a1.Values)).bind λv1=>some v1
def Xch (a0:(List X1z)):Option ((List X1z)×Int) :=
 (bif (decide ((List.length a0:Int)>4000)) then (some (([]:List X1z),4)) else ((bif (List.isEmpty a0) then some a0 else ((X0x (List.length a0) 40).bind λu29=>some a0):Option ((List X1z))).bind λXjx=>(Xmj Xp Xjx).bind λm32=>some (m32,0)):Option ((List X1z)×Int)).bind λw18=>some (w18.1,w18.2)
def X26 (a0:X6) (a1:X6):Option (Int) :=
 (X02 a0.Time a1.Time).bind λv1=>(X02 a0.Key a1.Key).bind λv3=>(X02 a0.Value a1.Value).bind λv5=>(X67 [v1,v3,v5]).bind λv7=>some v7
def X1h (a0:(List X6)):Option ((List X6)×Int) :=
 bif (decide ((List.length a0:Int)>4000)) then (some (([]:List X6),4)) else ((bif (List.isEmpty a0) then some a0 else ((X0x (List.length a0) 24).bind λu11=>some a0):Option ((List X6))).bind λXrd=>(Xmj X26 Xrd).bind λm14=>some (m14,0))
def Xci (a0:(List X6)):Option ((List X6)×Int) :=
 (X1h a0).bind λv1=>some (v1.1,v1.2)
inductive X5u where
 |x0 (Xcc:(List X1z)) (X25:(List X6))
def X1q (Xdt:Int) (Xf:Xr) (X7z:(List X6)) (X0j:(List X6)) (Xeg:(List X1z)):List X1z->Nat->(List X1z)->Option X5u
 |[],k,X3w=>some (.x0 X3w X0j)
 |x::xs,k,X3w=>(bif (decide (x.Span.End<=Xdt)) then ((X0x (List.length (X3w++[x])) 40).bind λu76=>some (X3w++[x])) else (some X3w):Option ((List X1z))).bind λXp6=>X1q Xdt Xf X7z X0j Xeg xs (k+1) Xp6
def X2v (a0:X00) (a1:(List (List Xq))) (a2:Int):Option (Xr×Int) :=
 (X5v a0 a1).bind λv1=>bif (v1.2.2 != 0) then (some ((Xr.mk ([]:List X1z) ([]:List X6)),v1.2.2)) else ((X3b (List.length v1.1)).bind λu4=>(X1q  a2 (Xr.mk ([]:List X1z) ([]:List X6)) v1.2.1 ([]:List X6) v1.1 v1.1 0 ([]:List X1z)).bind λo103=>match o103 with|.x0 Xcc X25=>((Xch Xcc).bind λv105=>bif (v105.2 != 0) then (some ((Xr.mk ([]:List X1z) ([]:List X6)),v105.2)) else ((Xci v1.2.1).bind λv108=>bif (v108.2 != 0) then (some ((Xr.mk ([]:List X1z) ([]:List X6)),v108.2)) else (some ((Xr.mk v105.1 v108.1),0)))))
def X9t (a0:X6):Option ((List Int)) :=
 some [a0.Time,a0.Key,a0.Value]
inductive Xc2 where
 |x0
 |x1 (X6w:Bool)
def X3r (X0e:(List Int)) (X9p:(List Int)):List Int->Nat->Option Xc2
 |[],k=>some (.x0)
 |x::xs,k=>(X18 X9p (k:Int)).bind λe10=>bif (x != e10) then (some (.x1 (decide (x<e10)))) else (X3r X0e X9p xs (k+1))
def X8z (a0:(List Int)) (a1:(List Int)):Option (Bool) :=
 (X3b (List.length a0)).bind λu1=>(X3r  a0 a1 a0 0).bind λo13=>match o13 with|.x0=>(some false)|.x1 X6w=>(some X6w)
inductive X83 where
 |x0 (Xj:(List Int))
def X2a (X0e:(List (List Int))) (Xg5:(List Int)) (X7z:(List Int)):Nat->(List Int)->Int->Int->Option X83
 |0,_,_,_=>none
 |n+1,Xf,X7s,Xej=>bif (bif (decide (X7s<(List.length Xg5:Int))) then true else (decide (Xej<(List.length X7z:Int)))) then ((bif (Xej==(List.length X7z:Int)) then some true else (bif (decide (X7s<(List.length Xg5:Int))) then ((X18 X7z Xej).bind λe168=>(X18 X0e e168).bind λe170=>(X18 Xg5 X7s).bind λe172=>(X18 X0e e172).bind λe174=>(X8z e170 e174).bind λv176=>some (bif (Xej==(List.length X7z:Int)) then true else (bif (decide (X7s<(List.length Xg5:Int))) then (!v176) else false))) else (some (bif (Xej==(List.length X7z:Int)) then true else false))):Option (Bool)).bind λXrz=>bif Xrz then ((X18 Xg5 X7s).bind λe180=>(X0x (List.length (Xf++[e180])) 8).bind λu182=>X2a X0e Xg5 X7z n (Xf++[e180]) (IntKind.i64.wrap (X7s+1)) Xej) else ((X18 X7z Xej).bind λe184=>(X0x (List.length (Xf++[e184])) 8).bind λu186=>X2a X0e Xg5 X7z n (Xf++[e184]) X7s (IntKind.i64.wrap (Xej+1)))) else (some (.x0 Xf))
def X3q:Nat->(List (List Int))->Int->Int->Option ((List Int))
 |0,_,_,_=>none
 |n+1,a0,a1,a2=>bif (decide ((IntKind.i64.wrap (a2 - a1))<2)) then (bif (decide (a2>a1)) then (some [a1]) else (some ([]:List Int))) else (((X3q n) a0 a1 (IntKind.i64.wrap (Int.tdiv (IntKind.i64.wrap (a1+a2)) 2))).bind λv3=>((X3q n) a0 (IntKind.i64.wrap (Int.tdiv (IntKind.i64.wrap (a1+a2)) 2)) a2).bind λv5=>(X2a  a0 v3 v5 FU ([]:List Int) 0 0).bind λo224=>match o224 with|.x0 Xj=>(some Xj))
inductive X92 where
 |x0 (Xj:(List (List Int)))
def X3i (X0e:(List X6)):List X6->Nat->(List (List Int))->Option X92
 |[],k,Xf=>some (.x0 Xf)
 |x::xs,k,Xf=>(X9t x).bind λv21=>(X0x (List.length (Xf++[v21])) 24).bind λu23=>X3i X0e xs (k+1) (Xf++[v21])
inductive X91 where
 |x0 (X47:(List X6))
def X3h (Xko:(List X6)) (y1_6:(List Int)):List Int->Nat->(List X6)->Option X91
 |[],k,X4w=>some (.x0 X4w)
 |x::xs,k,X4w=>(X18 Xko x).bind λe52=>(X0x (List.length (X4w++[e52])) 24).bind λu54=>X3h Xko y1_6 xs (k+1) (X4w++[e52])
def Xav (a0:(List X6)):Option ((List X6)×Int) :=
 bif (decide ((List.length a0:Int)>4000)) then (some (([]:List X6),4)) else ((X3b (List.length a0)).bind λu2=>(X3i  a0 a0 0 ([]:List (List Int))).bind λo29=>match o29 with|.x0 Xj=>((X3q FU Xj 0 (List.length Xj:Int)).bind λv31=>(X3b (List.length v31)).bind λu33=>(X3h  a0 v31 v31 0 ([]:List X6)).bind λo60=>match o60 with|.x0 X47=>(some (X47,0))))
def Xf9 (a0:X1z):Option ((List Int)) :=
 some [a0.Span.End,a0.Span.Start,a0.Key,a0.Values.e0,a0.Values.e1]
inductive X7b where
 |x0 (Xj:(List (List Int)))
def X2g (X0e:(List X1z)):List X1z->Nat->(List (List Int))->Option X7b
 |[],k,Xf=>some (.x0 Xf)
 |x::xs,k,Xf=>(Xf9 x).bind λv20=>(X0x (List.length (Xf++[v20])) 24).bind λu22=>X2g X0e xs (k+1) (Xf++[v20])
inductive X7a where
 |x0 (X47:(List X1z))
def X2f (Xko:(List X1z)) (y1_5:(List Int)):List Int->Nat->(List X1z)->Option X7a
 |[],k,X4w=>some (.x0 X4w)
 |x::xs,k,X4w=>(X18 Xko x).bind λe51=>(X0x (List.length (X4w++[e51])) 40).bind λu53=>X2f Xko y1_5 xs (k+1) (X4w++[e51])
def X7w (a0:(List X1z)):Option ((List X1z)) :=
 (X3b (List.length a0)).bind λu1=>(X2g  a0 a0 0 ([]:List (List Int))).bind λo28=>match o28 with|.x0 Xj=>((X3q FU Xj 0 (List.length Xj:Int)).bind λv30=>(X3b (List.length v30)).bind λu32=>(X2f  a0 v30 v30 0 ([]:List X1z)).bind λo59=>match o59 with|.x0 X47=>(some X47))
def X0m (a0:Xr):Option (Xr) :=
 (Xav a0.Late).bind λv1=>(X7w a0.Rows).bind λv3=>some (Xr.mk v3 v1.1)
def Xau (a0:Xr) (a1:Xr):Option (Xr) :=
 bif (List.isEmpty a0.Rows) then (bif (List.isEmpty a1.Rows) then (bif (List.isEmpty a0.Late) then (bif (List.isEmpty a1.Late) then ((X0m (Xr.mk (a0.Rows++a1.Rows) (a0.Late++a1.Late))).bind λv5=>some v5) else ((X0x (List.length (a0.Late++a1.Late)) 24).bind λu7=>(X0m (Xr.mk (a0.Rows++a1.Rows) (a0.Late++a1.Late))).bind λv9=>some v9)) else ((X0x (List.length a0.Late) 24).bind λu11=>bif (List.isEmpty a1.Late) then ((X0m (Xr.mk (a0.Rows++a1.Rows) (a0.Late++a1.Late))).bind λv14=>some v14) else ((X0x (List.length (a0.Late++a1.Late)) 24).bind λu16=>(X0m (Xr.mk (a0.Rows++a1.Rows) (a0.Late++a1.Late))).bind λv18=>some v18))) else ((X0x (List.length (a0.Rows++a1.Rows)) 40).bind λu20=>bif (List.isEmpty a0.Late) then (bif (List.isEmpty a1.Late) then ((X0m (Xr.mk (a0.Rows++a1.Rows) (a0.Late++a1.Late))).bind λv24=>some v24) else ((X0x (List.length (a0.Late++a1.Late)) 24).bind λu26=>(X0m (Xr.mk (a0.Rows++a1.Rows) (a0.Late++a1.Late))).bind λv28=>some v28)) else ((X0x (List.length a0.Late) 24).bind λu30=>bif (List.isEmpty a1.Late) then ((X0m (Xr.mk (a0.Rows++a1.Rows) (a0.Late++a1.Late))).bind λv33=>some v33) else ((X0x (List.length (a0.Late++a1.Late)) 24).bind λu35=>(X0m (Xr.mk (a0.Rows++a1.Rows) (a0.Late++a1.Late))).bind λv37=>some v37)))) else ((X0x (List.length a0.Rows) 40).bind λu39=>bif (List.isEmpty a1.Rows) then (bif (List.isEmpty a0.Late) then (bif (List.isEmpty a1.Late) then ((X0m (Xr.mk (a0.Rows++a1.Rows) (a0.Late++a1.Late))).bind λv44=>some v44) else ((X0x (List.length (a0.Late++a1.Late)) 24).bind λu46=>(X0m (Xr.mk (a0.Rows++a1.Rows) (a0.Late++a1.Late))).bind λv48=>some v48)) else ((X0x (List.length a0.Late) 24).bind λu50=>bif (List.isEmpty a1.Late) then ((X0m (Xr.mk (a0.Rows++a1.Rows) (a0.Late++a1.Late))).bind λv53=>some v53) else ((X0x (List.length (a0.Late++a1.Late)) 24).bind λu55=>(X0m (Xr.mk (a0.Rows++a1.Rows) (a0.Late++a1.Late))).bind λv57=>some v57))) else ((X0x (List.length (a0.Rows++a1.Rows)) 40).bind λu59=>bif (List.isEmpty a0.Late) then (bif (List.isEmpty a1.Late) then ((X0m (Xr.mk (a0.Rows++a1.Rows) (a0.Late++a1.Late))).bind λv63=>some v63) else ((X0x (List.length (a0.Late++a1.Late)) 24).bind λu65=>(X0m (Xr.mk (a0.Rows++a1.Rows) (a0.Late++a1.Late))).bind λv67=>some v67)) else ((X0x (List.length a0.Late) 24).bind λu69=>bif (List.isEmpty a1.Late) then ((X0m (Xr.mk (a0.Rows++a1.Rows) (a0.Late++a1.Late))).bind λv72=>some v72) else ((X0x (List.length (a0.Late++a1.Late)) 24).bind λu74=>(X0m (Xr.mk (a0.Rows++a1.Rows) (a0.Late++a1.Late))).bind λv76=>some v76))))
inductive X90 where
 |x0
 |x1
def X27 (X0e:(List X1z)) (X9p:(List X1z)):List X1z->Nat->Option X90
 |[],k=>some (.x0)
 |x::xs,k=>(X18 X9p (k:Int)).bind λe11=>bif (!(Xik x e11)) then some (.x1) else (X27 X0e X9p xs (k+1))
def X7n (a0:(List X1z)) (a1:(List X1z)):Option (Bool) :=
 bif ((List.length a0:Int) != (List.length a1:Int)) then some false else ((X3b (List.length a0)).bind λu2=>(X27  a0 a1 a0 0).bind λo14=>match o14 with|.x0=>(some true)|.x1=>(some false))
inductive X6y where
 |x0
 |x1
def X1f (X0e:(List X6)) (X9p:(List X6)):List X6->Nat->Option X6y
 |[],k=>some (.x0)
 |x::xs,k=>(X18 X9p (k:Int)).bind λe11=>bif (!(X38 x e11)) then some (.x1) else (X1f X0e X9p xs (k+1))
def X57 (a0:(List X6)) (a1:(List X6)):Option (Bool) :=
 bif ((List.length a0:Int) != (List.length a1:Int)) then some false else ((X3b (List.length a0)).bind λu2=>(X1f  a0 a1 a0 0).bind λo14=>match o14 with|.x0=>(some true)|.x1=>(some false))
def X8x (a0:Xr) (a1:Xr):Option (Bool) :=
 ((X7n a0.Rows a1.Rows).bind λv7=>bif v7 then ((X57 a0.Late a1.Late).bind λv10=>some (bif v7 then v10 else false)) else (some (bif v7 then false else false)):Option (Bool)).bind λj6_4=>some j6_4
inductive X6k where
 |x0
 |x1
def X17 (Xdt:Int) (Xh4:Int) (X7z:Bool) (Xf:Xr) (Xi:Xr) (Xug:(List X1z)) (X5h:(List X6)) (X3w:Xr) (X0j:Xr):Nat->Int->Option X6k
 |0,_=>none
 |n+1,Xeh=>bif (decide (Xeh<(List.length Xi.Rows:Int))) then (((X18 Xi.Rows Xeh).bind λe58=>bif (!((decide (e58.Span.End<=(if Xh4<Xdt then Xh4 else Xdt)))==(decide (Xeh<(List.length Xf.Rows:Int))))) then some true else (bif (decide (Xeh<(List.length Xf.Rows:Int))) then ((X18 Xf.Rows Xeh).bind λe62=>some (bif (!((decide (e58.Span.End<=(if Xh4<Xdt then Xh4 else Xdt)))==(decide (Xeh<(List.length Xf.Rows:Int))))) then true else (bif (decide (Xeh<(List.length Xf.Rows:Int))) then (!(Xik e62 e58)) else false))) else (some (bif (!((decide (e58.Span.End<=(if Xh4<Xdt then Xh4 else Xdt)))==(decide (Xeh<(List.length Xf.Rows:Int))))) then true else false))):Option (Bool)).bind λXrk=>bif Xrk then some (.x0) else (X17 Xdt Xh4 X7z Xf Xi Xug X5h X3w X0j n (IntKind.i64.wrap (Xeh+1)))) else (some (.x1))
def X3j (a0:X00) (a1:(List (List Xq))) (a2:Int) (a3:Int):Option (Bool) :=
 (Xet).bind λv1=>(Xcn a0 a1 1 1).bind λv3=>bif (bif (!v3) then true else (!v1)) then some v1 else ((X2v a0 a1 (if a3<a2 then a3 else a2)).bind λv6=>(X2v a0 a1 (if a3>a2 then a3 else a2)).bind λv8=>(X5v a0 a1).bind λv10=>(X2v a0 a1 9223372036854775807).bind λv12=>(X2v a0 a1 (-9223372036854775808)).bind λv14=>bif (bif (bif (bif (bif (bif (bif (v6.2 != 0) then true else (v8.2 != 0)) then true else (v10.2.2 != 0)) then true else (v12.2 != 0)) then true else (v14.2 != 0)) then true else (decide ((List.length v6.1.Rows:Int)>(List.length v8.1.Rows:Int)))) then true else (decide ((List.length v14.1.Rows:Int)>0))) then some false else ((X17  a2 a3 v1 v6.1 v8.1 v10.1 v10.2.1 v12.1 v14.1 FU 0).bind λo66=>match o66 with|.x0=>(some false)|.x1=>((bif v1 then ((Xau (Xr.mk v10.1 v10.2.1) (Xr.mk ([]:List X1z) ([]:List X6))).bind λv77=>(X8x v12.1 v77).bind λv79=>bif v79 then (bif ((List.length v14.1.Late:Int)==(List.length v10.2.1:Int)) then (some (bif (bif (bif v1 then v79 else false) then ((List.length v14.1.Late:Int)==(List.length v10.2.1:Int)) else false) then ((List.length v6.1.Late:Int)==(List.length v10.2.1:Int)) else false)) else (some false)) else (some false)) else (some false):Option (Bool)).bind λX08l=>some X08l)))
end
end Go.D
