/- Printed by decomp.py: the functions. -/
import Derived.Test.YtomaojndejpfgaaGreatDoorDTypesZ
set_option linter.all false

namespace Go.D
noncomputable section
def Xf1:Option Bool:=some true
def X9s (a0:(List X4)):Option (Bool) :=
 some (decide ((List.length a0:Int)>70))
def X9q (a0:Xb):Option (Bool) :=
 ((X9s a0.Arg).bind λv8=>bif v8 then (some (bif (bif v8 then true else false) then true else false)) else ((X9s a0.Where).bind λv11=>bif v11 then (some (bif (bif v8 then true else v11) then true else false)) else (some (bif (bif v8 then true else v11) then true else (decide ((List.length a0.Sources:Int)>10))))):Option (Bool)).bind λj7_2=>some j7_2
def X1e (a0:Int):Option (Int) :=
 bif (decide (a0<=4)) then some 0 else (bif (decide (a0<=6)) then some 1 else (some 2))
def X62 (a0:X4) (a1:Int) (a2:Int):Option (Bool) :=
 some (bif (bif (bif (bif (bif (bif (bif (decide (a0.Kind >= 1)) then (decide (a0.Kind<=19)) else false) then (decide (a0.N >= 0)) else false) then (bif (a0.N==0) then true else (a0.Kind==1)) else false) then (decide (a0.At >= 0)) else false) then (decide (a0.At<=400)) else false) then (a0.A==a1) else false) then (a0.B==a2) else false)
inductive X4f where
 |x0 (Xo:(List Int)) (X00:(List Int))
 |x1 (Xy:(List Int)) (X32:(List Int))
def X17 (X0g:(List X4)):List X4->Nat->(List Int)->(List Int)->Option X4f
 |[],k,Xd,Xe=>some (.x0 Xd Xe)
 |x::xs,k,Xd,Xe=>(X1e x.Kind).bind λv156=>bif (decide (v156>0)) then (bif (decide ((IntKind.i64.wrap ((k:Int) - 1))<0)) then (some (.x1 ([]:List Int) ([]:List Int))) else ((getI Xd (IntKind.i64.wrap ((k:Int) - 1))).bind λe160=>(getI Xe (IntKind.i64.wrap ((k:Int) - 1))).bind λe162=>bif (v156==2) then (bif (decide ((IntKind.i64.wrap ((IntKind.i64.wrap ((k:Int) - 1)) - e160))<0)) then (some (.x1 ([]:List Int) ([]:List Int))) else ((getI Xd (IntKind.i64.wrap ((IntKind.i64.wrap ((k:Int) - 1)) - e160))).bind λe166=>(getI Xe (IntKind.i64.wrap ((IntKind.i64.wrap ((k:Int) - 1)) - e160))).bind λe168=>(X62 x (IntKind.i64.wrap ((IntKind.i64.wrap ((k:Int) - 1)) - e160)) (IntKind.i64.wrap ((k:Int) - 1))).bind λv170=>bif (!v170) then (some (.x1 ([]:List Int) ([]:List Int))) else ((X1c (List.length (Xd++[(IntKind.i64.wrap ((IntKind.i64.wrap (1+e160))+e166))])) 8).bind λu173=>(X1c (List.length (Xe++[(if (IntKind.i64.wrap (1+e168))>(IntKind.i64.wrap (1+e162)) then (IntKind.i64.wrap (1+e168)) else (IntKind.i64.wrap (1+e162)))])) 8).bind λu175=>X17 X0g xs (k+1) (Xd++[(IntKind.i64.wrap ((IntKind.i64.wrap (1+e160))+e166))]) (Xe++[(if (IntKind.i64.wrap (1+e168))>(IntKind.i64.wrap (1+e162)) then (IntKind.i64.wrap (1+e168)) else (IntKind.i64.wrap (1+e162)))])))) else ((X62 x (IntKind.i64.wrap ((k:Int) - 1)) 0).bind λv177=>bif (!v177) then (some (.x1 ([]:List Int) ([]:List Int))) else ((X1c (List.length (Xd++[(IntKind.i64.wrap (1+e160))])) 8).bind λu180=>(X1c (List.length (Xe++[(IntKind.i64.wrap (1+e162))])) 8).bind λu182=>X17 X0g xs (k+1) (Xd++[(IntKind.i64.wrap (1+e160))]) (Xe++[(IntKind.i64.wrap (1+e162))]))))) else ((X62 x 0 0).bind λv184=>bif (!v184) then (some (.x1 ([]:List Int) ([]:List Int))) else ((X1c (List.length (Xd++[1])) 8).bind λu187=>(X1c (List.length (Xe++[1])) 8).bind λu189=>X17 X0g xs (k+1) (Xd++[1]) (Xe++[1])))
def Xbz (a0:(List X4)):Option ((List Int)×(List Int)×Bool) :=
 (X3t (List.length a0)).bind λu1=>(X17  a0 a0 0 ([]:List Int) ([]:List Int)).bind λo232=>match o232 with|.x0 Xo X00=>((bif (decide ((List.length a0:Int)>0)) then ((getI Xo (IntKind.i64.wrap ((List.length a0:Int) - 1))).bind λe239=>some (bif (decide ((List.length a0:Int)>0)) then (e239==(List.length a0:Int)) else false)) else (some false):Option (Bool)).bind λX00l=>some (Xo,X00,X00l))|.x1 Xy X32=>(some (Xy,X32,false))
def X47 (a0:(List X4)):Option (Int) :=
 bif (decide ((List.length a0:Int)>60)) then some 4 else ((Xbz a0).bind λv2=>bif (!v2.2.2) then some 8 else ((getI v2.2.1 (IntKind.i64.wrap ((List.length a0:Int) - 1))).bind λe5=>bif (decide (e5>20)) then some 34 else (some 0)))
inductive Xfn where
 |x0
 |x1
def X2m (X0g:(List Int)):List Int->Nat->Option Xfn
 |[],k=>some (.x0)
 |x::xs,k=>(bif (decide (x<0)) then (some (bif (decide (x<0)) then true else false)) else (some (bif (decide (x<0)) then true else (decide (x>3)))):Option (Bool)).bind λX00q=>bif X00q then some (.x1) else (X2m X0g xs (k+1))
inductive Xfl where
 |x0
 |x1
def X2l (y2_0:(List Int)) (y2_6:Int):Nat->Int->Option Xfl
 |0,_=>none
 |n+1,y2_7=>bif (decide (y2_7<y2_6)) then ((getI y2_0 y2_7).bind λe80=>(getI y2_0 y2_6).bind λe82=>bif (e80==e82) then some (.x0) else (X2l y2_0 y2_6 n (IntKind.i64.wrap (y2_7+1)))) else (some (.x1))
inductive Xfm where
 |x0
 |x1
def X21 (y1_0:(List Int)):List Int->Nat->Option Xfm
 |[],k=>some (.x0)
 |x::xs,k=>(X2l  y1_0 (k:Int) FU 0).bind λo85=>match o85 with|.x0=>(some (.x1))|.x1=>(X21 y1_0 xs (k+1))
def X6k (a0:(List Int)) (a1:Bool):Option (Int) :=
 bif (decide ((List.length a0:Int)>4)) then some 4 else (bif (bif ((List.length a0:Int)==0) then true else (bif a1 then ((List.length a0:Int) != 2) else false)) then some 8 else ((X3t (List.length a0)).bind λu3=>(X2m  a0 a0 0).bind λo21=>match o21 with|.x0=>((X21  a0 a0 0).bind λo87=>match o87 with|.x0=>(some 0)|.x1=>(some 43))|.x1=>(some 8)))
def X7i (a0:Xn):Option (Bool) :=
 bif (bif (decide (a0.Size<1)) then true else (decide (a0.Size>1073741824))) then some false else (bif (a0.Kind==2) then (some (bif (bif (decide (a0.Every >= 1)) then (decide (a0.Every<=a0.Size)) else false) then (decide (a0.Size<=(IntKind.i64.wrap (16*a0.Every)))) else false)) else (some (bif (bif (a0.Kind==1) then true else (a0.Kind==3)) then (a0.Every==0) else false)))
def X9r (a0:Xb):Option (Int) :=
 bif (bif (bif (bif (decide (a0.Agg<1)) then true else (decide (a0.Agg>4))) then true else (decide (a0.Late<1))) then true else (decide (a0.Late>2))) then some 8 else (bif (bif (a0.Agg==1) then (decide ((List.length a0.Arg:Int)>0)) else false) then some 8 else ((bif (a0.Agg != 1) then ((X47 a0.Arg).bind λv8=>some (bif (a0.Agg != 1) then (v8 != 0) else false)) else (some (bif (a0.Agg != 1) then false else false)):Option (Bool)).bind λX0af=>bif X0af then ((X47 a0.Arg).bind λv12=>some v12) else ((bif (decide ((List.length a0.Where:Int)>0)) then ((X47 a0.Where).bind λv19=>some (bif (decide ((List.length a0.Where:Int)>0)) then (v19 != 0) else false)) else (some (bif (decide ((List.length a0.Where:Int)>0)) then false else false)):Option (Bool)).bind λX00p=>bif X00p then ((X47 a0.Where).bind λv23=>some v23) else ((X6k a0.Sources a0.Join).bind λv25=>bif (v25 != 0) then some v25 else ((X7i a0.Window).bind λv28=>bif (bif (!v28) then true else (bif a0.Join then (a0.Window.Kind != 1) else false)) then some 8 else (some 0))))))
def X7k (a0:Int):Option (Bool) :=
 some (bif (a0==6) then true else (decide (a0 >= 12)))
def Xb7 (a0:(List X4)) (a1:Int):Option (Bool) :=
 (getI a0 a1).bind λe1=>(getI a0 e1.A).bind λe3=>(X7k e3.Kind).bind λv5=>(getI a0 e1.B).bind λe7=>(X7k e7.Kind).bind λv9=>bif (decide (e1.Kind<=4)) then some true else (bif (e1.Kind==5) then (some (!v5)) else (bif (e1.Kind==6) then some v5 else (bif (bif (e1.Kind==16) then true else (e1.Kind==17)) then (some (v5==v9)) else (bif (decide (e1.Kind >= 18)) then (some (bif v5 then v9 else false)) else (some (bif (!v5) then (!v9) else false))))))
inductive Xii where
 |x0
 |x1 (X4z:Int)
def X3p (X0g:(List X4)):List X4->Nat->Option Xii
 |[],k=>some (.x0)
 |x::xs,k=>(Xb7 X0g (k:Int)).bind λv10=>bif (!v10) then (some (.x1 (k:Int))) else (X3p X0g xs (k+1))
def Xby (a0:(List X4)):Option (Int) :=
 (X3t (List.length a0)).bind λu1=>(X3p  a0 a0 0).bind λo13=>match o13 with|.x0=>(some (List.length a0:Int))|.x1 X4z=>(some X4z)
def Xfp (a0:(List X4)):Option (Bool×Int×Int) :=
 (X47 a0).bind λv1=>bif (v1 != 0) then (some (false,0,v1)) else ((Xby a0).bind λv4=>bif (decide (v4<(List.length a0:Int))) then (some (false,v4,42)) else ((getI a0 (IntKind.i64.wrap ((List.length a0:Int) - 1))).bind λe7=>(X7k e7.Kind).bind λv9=>some (v9,(IntKind.i64.wrap ((List.length a0:Int) - 1)),0)))
def X7j (a0:(List X4)) (a1:Bool):Option (Int×Int) :=
 (Xfp a0).bind λv1=>bif (bif (v1.2.2==0) then (!(v1.1==a1)) else false) then (some (v1.2.1,42)) else (some (v1.2.1,v1.2.2))
def X9p (a0:Xb):Option (Int×Int) :=
 bif (decide ((List.length a0.Arg:Int)>0)) then ((X7j a0.Arg false).bind λv2=>bif (v2.2 != 0) then ((getI a0.Arg v2.1).bind λe5=>some (e5.At,v2.2)) else (bif (decide ((List.length a0.Where:Int)>0)) then ((X7j a0.Where true).bind λv8=>bif (v8.2 != 0) then ((getI a0.Where v8.1).bind λe11=>some (e11.At,v8.2)) else (some (0,0))) else (some (0,0)))) else (bif (decide ((List.length a0.Where:Int)>0)) then ((X7j a0.Where true).bind λv14=>bif (v14.2 != 0) then ((getI a0.Where v14.1).bind λe17=>some (e17.At,v14.2)) else (some (0,0))) else (some (0,0)))
def X7h (a0:Xb):Option (Int×Int) :=
 (X9r a0).bind λv1=>bif (v1 != 0) then (some (0,v1)) else ((X9p a0).bind λv4=>some (v4.1,v4.2))
def X37 (a0:Xb):Option (Bool) :=
 (X9q a0).bind λv1=>bif v1 then some false else ((X7h a0).bind λv4=>some (v4.2==0))
inductive Xie where
 |x0
 |x1
def X3n (X0g:(List (List Xs))):Nat->Int->Option Xie
 |0,_=>none
 |n+1,Xjq=>bif (bif (decide (Xjq<(List.length X0g:Int))) then (decide (Xjq<7)) else false) then (((getI X0g Xjq).bind λe27=>bif (decide ((List.length e27:Int)>20)) then (some (bif (decide ((List.length e27:Int)>20)) then ((List.length e27:Int) != 61) else false)) else (some (bif (decide ((List.length e27:Int)>20)) then false else false)):Option (Bool)).bind λX00i=>bif X00i then some (.x0) else (X3n X0g n (IntKind.i64.wrap (Xjq+1)))) else (some (.x1))
def X9l (a0:(List (List Xs))):Option (Bool) :=
 (X3n  a0 FU 0).bind λo32=>match o32 with|.x0=>(some true)|.x1=>(some (decide ((List.length a0:Int)>6)))
def X7g (a0:Int) (a1:Int):Option (Int) :=
 bif (bif (decide (a1<1)) then true else (decide (a1>1073741824))) then some 2 else (bif (bif (decide (a0<((-1099511627776):Int))) then true else (decide (a0>1099511627776))) then some 16 else (some 0))
def X9n (a0:Xs):Option (Bool) :=
 bif a0.Mark then ((bif (X38 a0.Record (X9.mk 0 0 0)) then (bif (a0.Time==9223372036854775807) then (some (bif (X38 a0.Record (X9.mk 0 0 0)) then (bif (a0.Time==9223372036854775807) then true else false) else false)) else ((X7g a0.Time 1).bind λv9=>some (bif (X38 a0.Record (X9.mk 0 0 0)) then (bif (a0.Time==9223372036854775807) then true else (v9==0)) else false))) else (some (bif (X38 a0.Record (X9.mk 0 0 0)) then false else false)):Option (Bool)).bind λj6_2=>some j6_2) else ((bif (a0.Time==0) then ((X7g a0.Record.Time 1).bind λv17=>some (bif (a0.Time==0) then (v17==0) else false)) else (some (bif (a0.Time==0) then false else false)):Option (Bool)).bind λX0ap=>some X0ap)
inductive Xig where
 |x0
 |x1
def X3o (X0g:(List Xs)):List Xs->Nat->Option Xig
 |[],k=>some (.x0)
 |x::xs,k=>(X9n x).bind λv11=>bif (!v11) then some (.x1) else (X3o X0g xs (k+1))
def X9o (a0:(List Xs)):Option (Int) :=
 bif (decide ((List.length a0:Int)>60)) then some 4 else ((X3t (List.length a0)).bind λu2=>(X3o  a0 a0 0).bind λo14=>match o14 with|.x0=>(some 0)|.x1=>(some 8))
inductive Xic where
 |x0
 |x1 (X4z:Int)
def X3m (X0g:(List (List Xs))):List (List Xs)->Nat->Option Xic
 |[],k=>some (.x0)
 |x::xs,k=>(X9o x).bind λv10=>bif (v10 != 0) then (some (.x1 v10)) else (X3m X0g xs (k+1))
def X9k (a0:(List (List Xs))):Option (Int) :=
 (X3t (List.length a0)).bind λu1=>(X3m  a0 a0 0).bind λo13=>match o13 with|.x0=>(some 0)|.x1 X4z=>(some X4z)
def X9m (a0:Xb) (a1:(List (List Xs))):Option (Int) :=
 (X7h a0).bind λv1=>bif (v1.2 != 0) then (some v1.2) else (bif ((List.length a1:Int) != (List.length a0.Sources:Int)) then some 2 else ((X9k a1).bind λv5=>some v5))
def X2n (a0:Int):Option (Int×Int) :=
 bif (bif (decide (a0 >= 1)) then (decide (a0<=4)) else false) then (some (0,0)) else (bif (bif (a0==5) then true else (a0==6)) then (some (1,0)) else (bif (bif (decide (a0 >= 7)) then (decide (a0<=19)) else false) then (some (2,0)) else (some (0,2))))
inductive X53 where
 |x0 (Xo:(List Xh)) (X00:(List Xh))
 |x1 (Xy:(List Xh))
def X1m (X8c:(List X4)):List X4->Nat->(List Xh)->(List Xh)->Option X53
 |[],k,Xd,Xe=>some (.x0 Xd Xe)
 |x::xs,k,Xd,Xe=>(X2n x.Kind).bind λv286=>bif (bif (v286.2 != 0) then true else (decide (v286.1>(List.length Xe:Int)))) then (some (.x1 Xd)) else ((X5n Xe 0 (IntKind.i64.wrap ((List.length Xe:Int) - v286.1))).bind λm295=>(X5n Xe (IntKind.i64.wrap ((List.length Xe:Int) - v286.1)) (List.length Xe:Int)).bind λm297=>bif (List.isEmpty m297) then ((bif (x.Kind==1) then (some (X4.mk x.Kind (if 0>x.N then 0 else x.N) 0 0 (if 400<(if 0>x.At then 0 else x.At) then 400 else (if 0>x.At then 0 else x.At)))) else (some (X4.mk x.Kind 0 0 0 (if 400<(if 0>x.At then 0 else x.At) then 400 else (if 0>x.At then 0 else x.At)))):Option (X4)).bind λXt2=>bif (!(X25 Xt2 x)) then (some (.x1 Xd)) else ((X1c (List.length (m295++[(Xh.mk (k:Int) 1 1)])) 24).bind λu305=>(X1c (List.length (Xd++[(Xh.mk (k:Int) 1 1)])) 24).bind λu307=>X1m X8c xs (k+1) (Xd++[(Xh.mk (k:Int) 1 1)]) (m295++[(Xh.mk (k:Int) 1 1)]))) else (bif ((List.length m297:Int)==1) then ((getI m297 0).bind λe310=>(bif (x.Kind==1) then (some (X4.mk x.Kind (if 0>x.N then 0 else x.N) e310.at_ 0 (if 400<(if 0>x.At then 0 else x.At) then 400 else (if 0>x.At then 0 else x.At)))) else (some (X4.mk x.Kind 0 e310.at_ 0 (if 400<(if 0>x.At then 0 else x.At) then 400 else (if 0>x.At then 0 else x.At)))):Option (X4)).bind λXt1=>bif (!(X25 Xt1 x)) then (some (.x1 Xd)) else ((X1c (List.length (m295++[(Xh.mk (k:Int) (IntKind.i64.wrap (1+e310.size)) (if (IntKind.i64.wrap (e310.depth+1))>1 then (IntKind.i64.wrap (e310.depth+1)) else 1))])) 24).bind λu317=>(X1c (List.length (Xd++[(Xh.mk (k:Int) (IntKind.i64.wrap (1+e310.size)) (if (IntKind.i64.wrap (e310.depth+1))>1 then (IntKind.i64.wrap (e310.depth+1)) else 1))])) 24).bind λu319=>X1m X8c xs (k+1) (Xd++[(Xh.mk (k:Int) (IntKind.i64.wrap (1+e310.size)) (if (IntKind.i64.wrap (e310.depth+1))>1 then (IntKind.i64.wrap (e310.depth+1)) else 1))]) (m295++[(Xh.mk (k:Int) (IntKind.i64.wrap (1+e310.size)) (if (IntKind.i64.wrap (e310.depth+1))>1 then (IntKind.i64.wrap (e310.depth+1)) else 1))]))) else (bif ((List.length m297:Int)==2) then ((getI m297 0).bind λe322=>(getI m297 1).bind λe324=>(bif (x.Kind==1) then (some (X4.mk x.Kind (if 0>x.N then 0 else x.N) e322.at_ e324.at_ (if 400<(if 0>x.At then 0 else x.At) then 400 else (if 0>x.At then 0 else x.At)))) else (some (X4.mk x.Kind 0 e322.at_ e324.at_ (if 400<(if 0>x.At then 0 else x.At) then 400 else (if 0>x.At then 0 else x.At)))):Option (X4)).bind λXt0=>bif (!(X25 Xt0 x)) then (some (.x1 Xd)) else ((X1c (List.length (m295++[(Xh.mk (k:Int) (IntKind.i64.wrap ((IntKind.i64.wrap (1+e322.size))+e324.size)) (if (IntKind.i64.wrap (e324.depth+1))>(if (IntKind.i64.wrap (e322.depth+1))>1 then (IntKind.i64.wrap (e322.depth+1)) else 1) then (IntKind.i64.wrap (e324.depth+1)) else (if (IntKind.i64.wrap (e322.depth+1))>1 then (IntKind.i64.wrap (e322.depth+1)) else 1)))])) 24).bind λu331=>(X1c (List.length (Xd++[(Xh.mk (k:Int) (IntKind.i64.wrap ((IntKind.i64.wrap (1+e322.size))+e324.size)) (if (IntKind.i64.wrap (e324.depth+1))>(if (IntKind.i64.wrap (e322.depth+1))>1 then (IntKind.i64.wrap (e322.depth+1)) else 1) then (IntKind.i64.wrap (e324.depth+1)) else (if (IntKind.i64.wrap (e322.depth+1))>1 then (IntKind.i64.wrap (e322.depth+1)) else 1)))])) 24).bind λu333=>X1m X8c xs (k+1) (Xd++[(Xh.mk (k:Int) (IntKind.i64.wrap ((IntKind.i64.wrap (1+e322.size))+e324.size)) (if (IntKind.i64.wrap (e324.depth+1))>(if (IntKind.i64.wrap (e322.depth+1))>1 then (IntKind.i64.wrap (e322.depth+1)) else 1) then (IntKind.i64.wrap (e324.depth+1)) else (if (IntKind.i64.wrap (e322.depth+1))>1 then (IntKind.i64.wrap (e322.depth+1)) else 1)))]) (m295++[(Xh.mk (k:Int) (IntKind.i64.wrap ((IntKind.i64.wrap (1+e322.size))+e324.size)) (if (IntKind.i64.wrap (e324.depth+1))>(if (IntKind.i64.wrap (e322.depth+1))>1 then (IntKind.i64.wrap (e322.depth+1)) else 1) then (IntKind.i64.wrap (e324.depth+1)) else (if (IntKind.i64.wrap (e322.depth+1))>1 then (IntKind.i64.wrap (e322.depth+1)) else 1)))]))) else none)))
def Xdt (a0:(List X4)):Option ((List Xh)×Bool) :=
 (X3t (List.length a0)).bind λu1=>(X1m  a0 a0 0 ([]:List Xh) ([]:List Xh)).bind λo427=>match o427 with|.x0 Xo X00=>(some (Xo,((List.length X00:Int)==1)))|.x1 Xy=>(some (Xy,false))
def X7m (a0:(List X4)):Option ((List Xh)×Int) :=
 bif (decide ((List.length a0:Int)>60)) then (some (([]:List Xh),4)) else ((Xdt a0).bind λv2=>bif (!v2.2) then (some (([]:List Xh),8)) else ((getI v2.1 (IntKind.i64.wrap ((List.length v2.1:Int) - 1))).bind λe5=>bif (decide (e5.depth>20)) then (some (([]:List Xh),34)) else (some (v2.1,0))))
def X1v (a0:(List X4)):Option (Int) :=
 (X7m a0).bind λv1=>some v1.2
def X5k (a0:Int):Option (Bool) :=
 some (bif (decide (a0<0)) then true else (decide (a0 >= 4)))
inductive X8e where
 |x0
 |x1 (X72:Int)
def X0m (X0g:(List Int)):List Int->Nat->Option X8e
 |[],k=>some (.x0)
 |x::xs,k=>(X5k x).bind λv10=>bif v10 then (some (.x1 (k:Int))) else (X0m X0g xs (k+1))
def X0l (a0:(List Int)):Option (Int) :=
 (X3t (List.length a0)).bind λu1=>(X0m  a0 a0 0).bind λo13=>match o13 with|.x0=>(some (-1))|.x1 X72=>(some X72)
def Xw (a0:(List Int)):Option (Bool) :=
 (X0l a0).bind λv1=>some (decide (v1 >= 0))
def X0x (l:List Int):Option Int:=(X3t (List.length l)).bind λ_=>some ((X5u [] l).length:Int)
def X1z (a0:(List Int)) (a1:Bool):Option (Int) :=
 bif (decide ((List.length a0:Int)>4)) then some 4 else ((bif ((List.length a0:Int)==0) then (some (bif (bif ((List.length a0:Int)==0) then true else false) then true else false)) else (bif a1 then (bif ((List.length a0:Int) != 2) then (some (bif (bif ((List.length a0:Int)==0) then true else (bif a1 then ((List.length a0:Int) != 2) else false)) then true else false)) else ((Xw a0).bind λv13=>some (bif (bif ((List.length a0:Int)==0) then true else (bif a1 then ((List.length a0:Int) != 2) else false)) then true else v13))) else ((Xw a0).bind λv15=>some (bif (bif ((List.length a0:Int)==0) then true else (bif a1 then false else false)) then true else v15))):Option (Bool)).bind λX0ad=>bif X0ad then some 8 else ((X0x a0).bind λv19=>bif (decide (v19<(List.length a0:Int))) then some 43 else (some 0)))
def X0y (a0:Xn):Option (Int) :=
 bif (bif (decide (a0.Size<1)) then true else (decide (a0.Size>1073741824))) then some 8 else (bif (a0.Kind==2) then (bif (bif (bif (decide (a0.Every >= 1)) then (decide (a0.Every<=a0.Size)) else false) then (decide (a0.Size<=(IntKind.i64.wrap (16*a0.Every)))) else false) then some 0 else (some 8)) else (bif (a0.Kind==1) then (bif (a0.Every==0) then some 0 else (some 8)) else (bif (a0.Kind==3) then (bif (a0.Every==0) then some 0 else (some 8)) else (some 8))))
def X6u (a0:Xb):Option (Int) :=
 bif (bif (bif (decide (a0.Agg<1)) then true else (decide (a0.Agg>4))) then true else (bif (a0.Late != 1) then (a0.Late != 2) else false)) then some 8 else (bif (a0.Agg != 1) then ((X1v a0.Arg).bind λv3=>bif (v3 != 0) then some v3 else (bif (decide ((List.length a0.Where:Int)>0)) then ((X1v a0.Where).bind λv7=>bif (v7 != 0) then some v7 else ((X1z a0.Sources a0.Join).bind λv10=>bif (v10 != 0) then some v10 else (bif (bif a0.Join then (a0.Window.Kind != 1) else false) then some 8 else ((X0y a0.Window).bind λv14=>some v14)))) else ((X1z a0.Sources a0.Join).bind λv16=>bif (v16 != 0) then some v16 else (bif (bif a0.Join then (a0.Window.Kind != 1) else false) then some 8 else ((X0y a0.Window).bind λv20=>some v20))))) else (bif (decide ((List.length a0.Arg:Int)>0)) then some 8 else (bif (decide ((List.length a0.Where:Int)>0)) then ((X1v a0.Where).bind λv24=>bif (v24 != 0) then some v24 else ((X1z a0.Sources a0.Join).bind λv27=>bif (v27 != 0) then some v27 else (bif (bif a0.Join then (a0.Window.Kind != 1) else false) then some 8 else ((X0y a0.Window).bind λv31=>some v31)))) else ((X1z a0.Sources a0.Join).bind λv33=>bif (v33 != 0) then some v33 else (bif (bif a0.Join then (a0.Window.Kind != 1) else false) then some 8 else ((X0y a0.Window).bind λv37=>some v37))))))
inductive X8t where
 |x0
 |x1
def X0b (Xe:(List Bool)) (X5q:(V2 Bool)) (X0t:(List Int)):List Int->Nat->Option X8t
 |[],k=>some (.x0)
 |x::xs,k=>(getI Xe x).bind λe3011=>bif (!(e3011==false)) then some (.x1) else (X0b Xe X5q X0t xs (k+1))
inductive X89 where
 |x0
 |x1
def X0c (Xe:(List Bool)) (X1k:(List Int)):List Int->Nat->Option X89
 |[],k=>some (.x0)
 |x::xs,k=>(getI Xe x).bind λe3127=>bif (!(e3127==true)) then some (.x1) else (X0c Xe X1k xs (k+1))
inductive X55 where
 |x0 (X00:(List Bool))
 |x1 (Xy:(List Bool)) (Xch:Int)
def X1b (X0g:(List X4)):List X4->Nat->(List Bool)->Option X55
 |[],k,Xe=>some (.x0 Xe)
 |x::xs,k,Xe=>bif (decide (x.Kind<=4)) then ((X1c (List.length (Xe++[false])) 1).bind λu2525=>X1b X0g xs (k+1) (Xe++[false])) else (bif (x.Kind==5) then (((getI Xe x.A).bind λe2546=>bif (!(e2546==false)) then (some (bif (!(bif true then false else false)) then (!(bif false then false else false)) else false)) else (some (bif (!(bif true then true else false)) then false else false)):Option (Bool)).bind λXoh=>bif Xoh then (some (.x1 ([]:List Bool) (k:Int))) else ((X1c (List.length (Xe++[false])) 1).bind λu2551=>X1b X0g xs (k+1) (Xe++[false]))) else (bif (x.Kind==6) then (((getI Xe x.A).bind λe2571=>bif (!(e2571==true)) then some false else (some true):Option (Bool)).bind λXog=>bif (bif (!(bif false then false else false)) then (!(bif true then Xog else false)) else false) then (some (.x1 ([]:List Bool) (k:Int))) else ((X1c (List.length (Xe++[true])) 1).bind λu2576=>X1b X0g xs (k+1) (Xe++[true]))) else ((bif (decide (x.Kind<=11)) then (some ((V2.mk true false),false)) else (bif (decide (x.Kind<=15)) then (some ((V2.mk true false),true)) else (bif (decide (x.Kind<=17)) then (some ((V2.mk true true),true)) else (some ((V2.mk false true),true)))):Option ((V2 Bool)×Bool)).bind λw2581=>(bif w2581.1.e0 then (((X3t (List.length [x.A,x.B])).bind λu2980=>(X0b  Xe w2581.1 [x.A,x.B] [x.A,x.B] 0).bind λo3016=>match o3016 with|.x0=>(some true)|.x1=>(some false):Option (Bool)).bind λXc8=>bif (!(bif w2581.1.e0 then Xc8 else false)) then (bif w2581.1.e1 then (((X3t (List.length [x.A,x.B])).bind λu3096=>(X0c  Xe [x.A,x.B] [x.A,x.B] 0).bind λo3132=>match o3132 with|.x0=>(some true)|.x1=>(some false):Option (Bool)).bind λXoe=>some (bif (!(bif w2581.1.e0 then Xc8 else false)) then (!(bif w2581.1.e1 then Xoe else false)) else false)) else (some (bif (!(bif w2581.1.e0 then Xc8 else false)) then (!(bif w2581.1.e1 then false else false)) else false))) else (some (bif (!(bif w2581.1.e0 then Xc8 else false)) then false else false))) else (bif (!(bif w2581.1.e0 then false else false)) then (bif w2581.1.e1 then (((X3t (List.length [x.A,x.B])).bind λu3192=>(X0c  Xe [x.A,x.B] [x.A,x.B] 0).bind λo3218=>match o3218 with|.x0=>(some true)|.x1=>(some false):Option (Bool)).bind λXod=>some (bif (!(bif w2581.1.e0 then false else false)) then (!(bif w2581.1.e1 then Xod else false)) else false)) else (some (bif (!(bif w2581.1.e0 then false else false)) then (!(bif w2581.1.e1 then false else false)) else false))) else (some (bif (!(bif w2581.1.e0 then false else false)) then false else false))):Option (Bool)).bind λXof=>bif Xof then (some (.x1 ([]:List Bool) (k:Int))) else ((X1c (List.length (Xe++[w2581.2])) 1).bind λu3223=>X1b X0g xs (k+1) (Xe++[w2581.2])))))
def X97 (a0:(List X4)):Option ((List Bool)×Int) :=
 (X3t (List.length a0)).bind λu1=>(X1b  a0 a0 0 ([]:List Bool)).bind λo3784=>match o3784 with|.x0 X00=>(some (X00,(List.length a0:Int)))|.x1 Xy Xch=>(some (Xy,Xch))
def Xae (a0:(List X4)):Option (Bool×Int×Int) :=
 (X1v a0).bind λv1=>bif (v1 != 0) then (some (false,0,v1)) else ((X97 a0).bind λv4=>bif (decide (v4.2<(List.length a0:Int))) then (some (false,v4.2,42)) else ((getI v4.1 (IntKind.i64.wrap (v4.2 - 1))).bind λe7=>some (e7,(IntKind.i64.wrap (v4.2 - 1)),0)))
def X96 (a0:(List X4)) (a1:Bool):Option (Int×Int) :=
 (Xae a0).bind λv1=>(bif (bif (v1.2.2==0) then (!(v1.1==a1)) else false) then some 42 else (some v1.2.2):Option (Int)).bind λj4_8=>some (v1.2.1,j4_8)
def Xa0 (a0:(List X4)):Option (Int×Int) :=
 (X96 a0 true).bind λv1=>some (v1.1,v1.2)
def Xaf (a0:(List X4)):Option (Int×Int) :=
 (X96 a0 false).bind λv1=>some (v1.1,v1.2)
def X43 (a0:Xb):Option (Int×Int) :=
 (X6u a0).bind λv1=>bif (v1 != 0) then (some (0,v1)) else ((bif ((List.length a0.Arg:Int)==0) then (bif ((List.length a0.Where:Int)==0) then (some (0,0)) else ((Xa0 a0.Where).bind λv25=>bif (v25.2 != 0) then ((getI a0.Where v25.1).bind λe28=>some (e28.At,v25.2)) else (some (0,0)))) else ((Xaf a0.Arg).bind λv30=>bif (v30.2 != 0) then ((getI a0.Arg v30.1).bind λe33=>some (e33.At,v30.2)) else (bif ((List.length a0.Where:Int)==0) then (some (0,0)) else ((Xa0 a0.Where).bind λv36=>bif (v36.2 != 0) then ((getI a0.Where v36.1).bind λe39=>some (e39.At,v36.2)) else (some (0,0))))):Option (Int×Int)).bind λw22=>some (w22.1,w22.2))
def Xbg (a0:Int):Option (Bool) :=
 some (bif (decide (a0 >= ((-1099511627776):Int))) then (decide (a0<=1099511627776)) else false)
inductive Xks where
 |x0
 |x1
def X48 (X3c:(List Xs)):List Xs->Nat->Option Xks
 |[],k=>some (.x0)
 |x::xs,k=>(bif (X38 x.Record (X9.mk 0 0 0)) then ((Xbg x.Time).bind λv49=>bif v49 then (some (bif (X38 x.Record (X9.mk 0 0 0)) then (bif v49 then true else false) else false)) else (some (bif (X38 x.Record (X9.mk 0 0 0)) then (bif v49 then true else (x.Time==9223372036854775807)) else false))) else (some (bif (X38 x.Record (X9.mk 0 0 0)) then false else false)):Option (Bool)).bind λX05e=>(bif (x.Time==0) then ((Xbg x.Record.Time).bind λv58=>some (bif (x.Time==0) then v58 else false)) else (some (bif (x.Time==0) then false else false)):Option (Bool)).bind λX0ah=>bif (bif (bif x.Mark then (!X05e) else false) then true else (bif (!x.Mark) then (!X0ah) else false)) then some (.x1) else (X48 X3c xs (k+1))
def X7o (a0:(List Xs)):Option (Int) :=
 bif (decide ((List.length a0:Int)>60)) then some 4 else ((X3t (List.length a0)).bind λu2=>(X48  a0 a0 0).bind λo62=>match o62 with|.x0=>(some 0)|.x1=>(some 8))
inductive Xey where
 |x0
 |x1 (X4z:Int)
def X27 (Xro:(List (List Xs))):List (List Xs)->Nat->Option Xey
 |[],k=>some (.x0)
 |x::xs,k=>(X7o x).bind λv10=>bif (v10 != 0) then (some (.x1 v10)) else (X27 Xro xs (k+1))
def X4o (a0:(List (List Xs))):Option (Int) :=
 (X3t (List.length a0)).bind λu1=>(X27  a0 a0 0).bind λo13=>match o13 with|.x0=>(some 0)|.x1 X4z=>(some X4z)
inductive X9z where
 |x0 (Xo:(List X9)) (X00:(List X9))
def X3h (Xep:(List Xs)):List Xs->Nat->(List X9)->(List X9)->Int->Option X9z
 |[],k,Xd,Xe,X5q=>some (.x0 Xd Xe)
 |x::xs,k,Xd,Xe,X5q=>(bif x.Mark then (some (if x.Time>X5q then x.Time else X5q)) else (some X5q):Option (Int)).bind λXom=>(bif x.Mark then (some (Xd,Xe)) else (bif (decide (x.Record.Time<X5q)) then ((X1c (List.length (Xe++[x.Record])) 24).bind λu200=>some (Xd,(Xe++[x.Record]))) else ((X1c (List.length (Xd++[x.Record])) 24).bind λu202=>some ((Xd++[x.Record]),Xe))):Option ((List X9)×(List X9))).bind λw197=>X3h Xep xs (k+1) w197.1 w197.2 Xom
def Xbh (a0:(List Xs)):Option ((List X9)×(List X9)×Int) :=
 (X7o a0).bind λv1=>bif (v1 != 0) then (some (([]:List X9),([]:List X9),v1)) else ((X3t (List.length a0)).bind λu4=>(X3h  a0 a0 0 ([]:List X9) ([]:List X9) (-9223372036854775808)).bind λo271=>match o271 with|.x0 Xo X00=>(some (Xo,X00,0)))
def Xa4 (a0:(List X4)):Option (Int) :=
 (Xae a0).bind λv1=>some v1.2.2
def X3f (a0:Bool):Option (Int) :=
 bif a0 then some 1 else (some 0)
def Xa2 (a0:Int) (a1:Int) (a2:Int):Option (Int×Int) :=
 bif (a0==5) then (some ((IntKind.i64.wrap (0 - a1)),0)) else (bif (a0==6) then ((X3f (a1==0)).bind λv3=>some (v3,0)) else (bif (a0==7) then (some ((IntKind.i64.wrap (a1*a2)),0)) else (bif (a0==8) then (some ((IntKind.i64.wrap (a1+a2)),0)) else (bif (a0==9) then (some ((IntKind.i64.wrap (a1 - a2)),0)) else (bif (a0==10) then ((shOk (bits .and IntKind.i64 a2 63)).bind λu9=>some ((IntKind.i64.wrap (a1*2 ^ (min (Int.toNat (bits .and IntKind.i64 a2 63)) IntKind.i64.bits))),0)) else (bif (a0==11) then ((shOk (bits .and IntKind.i64 a2 63)).bind λu12=>some ((Int.fdiv a1 (2 ^ (min (Int.toNat (bits .and IntKind.i64 a2 63)) IntKind.i64.bits))),0)) else (bif (a0==12) then ((X3f (decide (a1<a2))).bind λv15=>some (v15,0)) else (bif (a0==13) then ((X3f (decide (a1<=a2))).bind λv18=>some (v18,0)) else (bif (a0==14) then ((X3f (decide (a1>a2))).bind λv21=>some (v21,0)) else (bif (a0==15) then ((X3f (decide (a1 >= a2))).bind λv24=>some (v24,0)) else (bif (a0==16) then ((X3f (a1==a2)).bind λv27=>some (v27,0)) else (bif (a0==17) then ((X3f (a1 != a2)).bind λv30=>some (v30,0)) else (bif (a0==18) then ((X3f (bif (a1 != 0) then (a2 != 0) else false)).bind λv33=>some (v33,0)) else (bif (a0==19) then ((X3f ((bits .or IntKind.i64 a1 a2) != 0)).bind λv36=>some (v36,0)) else (some (0,2))))))))))))))))
inductive X81 where
 |x0 (Xo:(List Int))
 |x1 (Xy:(List Int)) (Xmn:Int)
def X1q (Xd:(V5 Int)) (Xjr:(List X4)):List X4->Nat->(List Int)->Option X81
 |[],k,Xe=>some (.x0 Xe)
 |x::xs,k,Xe=>bif (x.Kind==1) then ((getI Xe (k:Int)).bind λe88=>X1q Xd Xjr xs (k+1) (List.set Xe (Int.toNat (k:Int)) x.N)) else (bif (decide (x.Kind<=4)) then ((bif (x.Kind==0) then ((getI Xe (k:Int)).bind λe105=>some (List.set Xe (Int.toNat (k:Int)) Xd.e0)) else (bif (x.Kind==2) then ((getI Xe (k:Int)).bind λe108=>some (List.set Xe (Int.toNat (k:Int)) Xd.e2)) else (bif (x.Kind==3) then ((getI Xe (k:Int)).bind λe111=>some (List.set Xe (Int.toNat (k:Int)) Xd.e3)) else (bif (x.Kind==4) then ((getI Xe (k:Int)).bind λe114=>some (List.set Xe (Int.toNat (k:Int)) Xd.e4)) else none))):Option ((List Int))).bind λXoq=>X1q Xd Xjr xs (k+1) Xoq) else ((getI Xe x.A).bind λe117=>(getI Xe x.B).bind λe119=>(Xa2 x.Kind e117 e119).bind λv121=>bif (v121.2 != 0) then (some (.x1 ([]:List Int) v121.2)) else ((getI Xe (k:Int)).bind λe124=>X1q Xd Xjr xs (k+1) (List.set Xe (Int.toNat (k:Int)) v121.1))))
def Xdh (a0:(List X4)) (a1:X9):Option ((List Int)×Int) :=
 (Xa4 a0).bind λv1=>bif (v1 != 0) then (some (([]:List Int),v1)) else ((mkOk (List.length a0:Int) (List.length a0:Int) 8).bind λu4=>(X3t (List.length a0)).bind λu6=>(X1q  (V5.mk 0 0 a1.Key a1.Time a1.Value) a0 a0 0 (List.replicate (Int.toNat (List.length a0:Int)) 0)).bind λo126=>match o126 with|.x0 Xo=>(some (Xo,0))|.x1 Xy Xmn=>(some (Xy,Xmn)))
def X4b (a0:(List X4)) (a1:X9):Option (Int×Int) :=
 (Xdh a0 a1).bind λv1=>bif (v1.2 != 0) then (some (0,v1.2)) else ((getI v1.1 (IntKind.i64.wrap ((List.length v1.1:Int) - 1))).bind λe4=>some (e4,0))
def X5t (a0:Xb) (a1:X9):Option (X9×Bool) :=
 bif (decide ((List.length a0.Where:Int)>0)) then ((X4b a0.Where a1).bind λv2=>bif (bif (v2.2 != 0) then true else (v2.1==0)) then (some ((X9.mk 0 0 0),false)) else ((bif a0.ByKey then (some (X9.mk a1.Key a1.Time 0)) else (some (X9.mk 0 a1.Time 0)):Option (X9)).bind λXoc=>(bif (a0.Agg != 1) then ((X4b a0.Arg a1).bind λv14=>some (X9.mk Xoc.Key Xoc.Time v14.1)) else (some Xoc):Option (X9)).bind λXg4=>some (Xg4,true))) else ((bif a0.ByKey then (some (X9.mk a1.Key a1.Time 0)) else (some (X9.mk 0 a1.Time 0)):Option (X9)).bind λXqp=>(bif (a0.Agg != 1) then ((X4b a0.Arg a1).bind λv26=>some (X9.mk Xqp.Key Xqp.Time v26.1)) else (some Xqp):Option (X9)).bind λX00k=>some (X00k,true))
def X2y (a0:X0z):Option (Int) :=
 (bif (a0.Count==0) then (some (Xxp a0 (X0z.mk 0 0 0 0))) else (bif (a0.Count==1) then (some (bif (a0.Sum==a0.Min) then (a0.Sum==a0.Max) else false)) else (bif (bif (decide (a0.Count>1)) then (decide (a0.Count<=1073741824)) else false) then (some (decide (a0.Min<=a0.Max))) else (some false))):Option (Bool)).bind λj4_3=>bif (!j4_3) then some 8 else (some 0)
def X9e (a0:X3):Option (Bool) :=
 bif (bif (bif (decide (a0.Span.Start<((-1100585369600):Int))) then true else (decide (a0.Span.End<=a0.Span.Start))) then true else (decide (a0.Span.End>1100585369600))) then some false else (((X2y a0.Values.e0).bind λv9=>bif (v9==0) then ((X2y a0.Values.e1).bind λv12=>bif (v12==0) then (some (bif (bif (v9==0) then (v12==0) else false) then (decide ((IntKind.i64.wrap (a0.Values.e0.Count+a0.Values.e1.Count))>0)) else false)) else (some (bif (bif (v9==0) then (v12==0) else false) then false else false))) else (some (bif (bif (v9==0) then false else false) then false else false)):Option (Bool)).bind λj8_2=>some j8_2)
def X59 (a0:Int):Option (Bool) :=
 some (a0 != a0)
def X2b (a0:Int) (a1:Int):Option (Int) :=
 (X59 a0).bind λv1=>(X59 a1).bind λv3=>bif v1 then (bif v3 then some 0 else (some (-1))) else (bif v3 then some 1 else (bif (decide (a0<a1)) then (some (-1)) else (bif (decide (a0>a1)) then some 1 else (some 0))))
inductive Xli where
 |x0
 |x1 (X4z:Int)
def X5j (Xro:(List Int)):List Int->Nat->Option Xli
 |[],k=>some (.x0)
 |x::xs,k=>bif (x != 0) then (some (.x1 x)) else (X5j Xro xs (k+1))
def Xe3 (a0:(List Int)):Option (Int) :=
 (X3t (List.length a0)).bind λu1=>(X5j  a0 a0 0).bind λo7=>match o7 with|.x0=>(some 0)|.x1 X4z=>(some X4z)
def X61 (a0:X3) (a1:X3):Option (Int) :=
 (X2b a0.Span.End a1.Span.End).bind λv1=>(X2b a0.Span.Start a1.Span.Start).bind λv3=>(X2b a0.Key a1.Key).bind λv5=>(Xe3 [v1,v3,v5]).bind λv7=>some v7
inductive Xi8 where
 |x0
 |x1
def X3i (X0g:(List X3)):List X3->Nat->Option Xi8
 |[],k=>some (.x0)
 |x::xs,k=>((X9e x).bind λv52=>bif (!v52) then some true else (bif (decide ((k:Int)>0)) then ((getI X0g (IntKind.i64.wrap ((k:Int) - 1))).bind λe56=>(X61 e56 x).bind λv58=>some (bif (!v52) then true else (bif (decide ((k:Int)>0)) then (decide (v58 >= 0)) else false))) else (some (bif (!v52) then true else false))):Option (Bool)).bind λX00d=>bif X00d then some (.x1) else (X3i X0g xs (k+1))
def X9f (a0:(List X3)):Option (Int) :=
 bif (decide ((List.length a0:Int)>4000)) then some 4 else ((X3t (List.length a0)).bind λu2=>(X3i  a0 a0 0).bind λo62=>match o62 with|.x0=>(some 0)|.x1=>(some 8))
def Xa6 (a0:Int):Option (X0z) :=
 some (X0z.mk 1 a0 a0 a0)
def X3g (a0:Int) (a1:Int):Option (Int) :=
 bif (bif (decide (a1<1)) then true else (decide (a1>1073741824))) then some 2 else (bif (bif (decide (a0<((-1099511627776):Int))) then true else (decide (a0>1099511627776))) then some 16 else (some 0))
def Xhk:List Int:=[0,1,2,2,3,3,3,3,4,4,4,4,4,4,4,4,5,5,5,5,5,5,5,5,5,5,5,5,5,5,5,5,6,6,6,6,6,6,6,6,6,6,6,6,6,6,6,6,6,6,6,6,6,6,6,6,6,6,6,6,6,6,6,6,7,7,7,7,7,7,7,7,7,7,7,7,7,7,7,7,7,7,7,7,7,7,7,7,7,7,7,7,7,7,7,7,7,7,7,7,7,7,7,7,7,7,7,7,7,7,7,7,7,7,7,7,7,7,7,7,7,7,7,7,7,7,7,7,8,8,8,8,8,8,8,8,8,8,8,8,8,8,8,8,8,8,8,8,8,8,8,8,8,8,8,8,8,8,8,8,8,8,8,8,8,8,8,8,8,8,8,8,8,8,8,8,8,8,8,8,8,8,8,8,8,8,8,8,8,8,8,8,8,8,8,8,8,8,8,8,8,8,8,8,8,8,8,8,8,8,8,8,8,8,8,8,8,8,8,8,8,8,8,8,8,8,8,8,8,8,8,8,8,8,8,8,8,8,8,8,8,8,8,8,8,8,8,8,8,8,8,8,8,8,8,8]
def X9y (a0:Int):Option (Int) :=
 (bif (decide (a0 >= 4294967296)) then (some ((Int.fdiv a0 (2 ^ (min (Int.toNat 32) IntKind.u64.bits))),32)) else (some (a0,0)):Option (Int×Int)).bind λw2=>(bif (decide (w2.1 >= 65536)) then (some ((Int.fdiv w2.1 (2 ^ (min (Int.toNat 16) IntKind.u64.bits))),(IntKind.i64.wrap (w2.2+16)))) else (some (w2.1,w2.2)):Option (Int×Int)).bind λw6=>(bif (decide (w6.1 >= 256)) then (some ((Int.fdiv w6.1 (2 ^ (min (Int.toNat 8) IntKind.u64.bits))),(IntKind.i64.wrap (w6.2+8)))) else (some (w6.1,w6.2)):Option (Int×Int)).bind λw10=>(getI Xhk (IntKind.u8.wrap w10.1)).bind λb13=>some (IntKind.i64.wrap (w10.2+(IntKind.i64.wrap b13)))
def X8s (a0:Int):Option (Int) :=
 (X9y a0).bind λv1=>some v1
inductive X3s where
 |x0 (Xf9:Int)
def Xu (X0g:(List X3)) (Xd:X3) (Xu4:Int):Nat->Int->Int->Option X3s
 |0,_,_=>none
 |n+1,Xyd,X3c=>bif (decide (Xyd<X3c)) then ((getI X0g (IntKind.i64.wrap (Int.fdiv (IntKind.u64.wrap (IntKind.i64.wrap (Xyd+X3c))) (2 ^ (min (Int.toNat 1) IntKind.u64.bits))))).bind λe15=>(X61 e15 Xd).bind λv17=>bif (decide (v17<0)) then (Xu X0g Xd Xu4 n (IntKind.i64.wrap ((IntKind.i64.wrap (Int.fdiv (IntKind.u64.wrap (IntKind.i64.wrap (Xyd+X3c))) (2 ^ (min (Int.toNat 1) IntKind.u64.bits))))+1)) X3c) else (Xu X0g Xd Xu4 n Xyd (IntKind.i64.wrap (Int.fdiv (IntKind.u64.wrap (IntKind.i64.wrap (Xyd+X3c))) (2 ^ (min (Int.toNat 1) IntKind.u64.bits)))))) else (some (.x0 Xyd))
def Xl (a0:(List X3)) (a1:X3):Option (Int×Bool) :=
 (Xu  a0 a1 (List.length a0:Int) FU 0 (List.length a0:Int)).bind λo20=>match o20 with|.x0 Xf9=>((bif (decide (Xf9<(List.length a0:Int))) then ((getI a0 Xf9).bind λe29=>(X61 e29 a1).bind λv31=>some (bif (decide (Xf9<(List.length a0:Int))) then (v31==0) else false)) else (some false):Option (Bool)).bind λX0ao=>some (Xf9,X0ao))
def X20 (a0:X0z) (a1:X0z):Option (X0z×Int) :=
 ((X2y a0).bind λv7=>bif (v7 != 0) then (some (bif (v7 != 0) then true else false)) else ((X2y a1).bind λv10=>some (bif (v7 != 0) then true else (v10 != 0))):Option (Bool)).bind λX0ag=>bif X0ag then (some ((X0z.mk 0 0 0 0),8)) else (bif (decide ((IntKind.i64.wrap (a0.Count+a1.Count))>1073741824)) then (some ((X0z.mk 0 0 0 0),4)) else (bif (a0.Count==0) then (some (a1,0)) else (bif (a1.Count==0) then (some (a0,0)) else (some ((X0z.mk (IntKind.i64.wrap (a0.Count+a1.Count)) (IntKind.i64.wrap (a0.Sum+a1.Sum)) (if a1.Min<a0.Min then a1.Min else a0.Min) (if a1.Max>a0.Max then a1.Max else a0.Max)),0)))))
def Xaa (a0:Int) (a1:Int):Option (Int) :=
 bif (bif (decide (a1<1)) then true else (decide (a1>1073741824))) then some 2 else (bif (bif (decide (a0<((-1099511627776):Int))) then true else (decide (a0>1099511627776))) then some 16 else (some 0))
def X6j (a0:Int) (a1:Int):Option (Int×Int) :=
 (Xaa a0 a1).bind λv1=>bif (v1 != 0) then (some (0,v1)) else ((X01p a1).bind λu4=>(bif (decide ((Int.tmod a0 a1)<0)) then (some (IntKind.i64.wrap ((IntKind.i64.wrap (Int.tdiv a0 a1)) - 1))) else (some (IntKind.i64.wrap (Int.tdiv a0 a1))):Option (Int)).bind λj7_7=>some (j7_7,0))
def Xb4 (a0:Int) (a1:Int):Option (X0s×Int) :=
 (X6j a0 a1).bind λv1=>bif (v1.2 != 0) then (some ((X0s.mk 0 0),v1.2)) else (some ((X0s.mk (IntKind.i64.wrap (v1.1*a1)) (IntKind.i64.wrap ((IntKind.i64.wrap (v1.1+1))*a1))),0))
inductive Xap where
 |x0 (Xo:(List X0s))
def X51 (X0g:Int) (Xa7:Int) (y0_2:Int):Nat->(List X0s)->Int->Option Xap
 |0,_,_=>none
 |n+1,Xd,Xbr=>bif (decide ((IntKind.i64.wrap (Xbr+Xa7))>X0g)) then ((X1c (List.length (Xd++[(X0s.mk Xbr (IntKind.i64.wrap (Xbr+Xa7)))])) 16).bind λu19=>X51 X0g Xa7 y0_2 n (Xd++[(X0s.mk Xbr (IntKind.i64.wrap (Xbr+Xa7)))]) (IntKind.i64.wrap (Xbr - y0_2))) else (some (.x0 Xd))
inductive X7e where
 |x0 (X44:(List X0s)) (Xcp:(List X0s))
def X35 (X1k:(List X0s)):Nat->(List X0s)->Int->Option X7e
 |0,_,_=>none
 |n+1,X0t,Xjq=>bif (decide (Xjq >= 0)) then ((getI X1k Xjq).bind λe68=>(X1c (List.length (X0t++[e68])) 16).bind λu72=>X35 X1k n (X0t++[e68]) (IntKind.i64.wrap (Xjq - 1))) else (some (.x0 X0t X1k))
def Xct (a0:Int) (a1:Int) (a2:Int):Option ((List X0s)×Int) :=
 bif (bif (bif (bif (decide ((if a2<a1 then a2 else a1)<1)) then true else (decide (a1>1073741824))) then true else (decide (a2>a1))) then true else (decide (a1>(IntKind.i64.wrap (16*a2))))) then (some (([]:List X0s),2)) else ((Xb4 a0 a2).bind λv2=>bif (v2.2 != 0) then (some (([]:List X0s),v2.2)) else ((X51  a0 a1 a2 FU ([]:List X0s) v2.1.Start).bind λo24=>match o24 with|.x0 Xo=>((X35  Xo FU ([]:List X0s) (IntKind.i64.wrap ((List.length Xo:Int) - 1))).bind λo87=>match o87 with|.x0 X44 Xcp=>(some (X44,0)))))
def Xfi (a0:Xn) (a1:Int):Option ((List X0s)×Int) :=
 (X0y a0).bind λv1=>bif (v1 != 0) then (some (([]:List X0s),v1)) else (bif (a0.Kind==1) then ((Xb4 a1 a0.Size).bind λv5=>bif (v5.2 != 0) then (some (([]:List X0s),v5.2)) else (some ([v5.1],0))) else (bif (a0.Kind==2) then ((Xct a1 a0.Size a0.Every).bind λv9=>some (v9.1,v9.2)) else (some (([]:List X0s),2))))
inductive X2p where
 |x0
 |x1 (X72:Int)
def Xm (X0t:(List X3)) (X1k:X3):List X3->Nat->Option X2p
 |[],k=>some (.x0)
 |x::xs,k=>bif (bif (bif (x.Key==X1k.Key) then (decide (x.Span.Start<X1k.Span.End)) else false) then (decide (X1k.Span.Start<x.Span.End)) else false) then (some (.x1 (k:Int))) else (Xm X0t X1k xs (k+1))
inductive X3j where
 |x0 (X44:(List X3)) (Xaz:Int)
def X18:Nat->(List X3)->X3->Option X3j
 |0,_,_=>none
 |n+1,X0t,X1k=>((X3t (List.length X0t)).bind λu1330=>(Xm  X0t X1k X0t 0).bind λo1342=>match o1342 with|.x0=>(some (-1))|.x1 X72=>(some X72):Option (Int)).bind λXdv=>bif (decide (Xdv<0)) then (((Xl X0t X1k).bind λv1393=>bif (!v1393.2) then (bif (v1393.1==(List.length X0t:Int)) then (((X5n X0t v1393.1 (List.length X0t:Int)).bind λm1405=>bif (List.isEmpty m1405) then ((X1c (List.length (X0t++[X1k])) 88).bind λu1408=>some ()) else ((X1c (List.length (X0t++[X1k])) 88).bind λu1410=>some ()):Option (Unit)).bind λ_=>some ((X0t++[X1k]),0)) else ((Xwx X0t v1393.1 X1k 88).bind λm1413=>some (m1413,0))) else ((getI X0t v1393.1).bind λe1415=>((X20 e1415.Values.e0 X1k.Values.e0).bind λv1430=>bif (v1430.2 != 0) then (some (X0t,v1430.2)) else ((X20 (((X3.mk e1415.Key e1415.Span (V2.mk v1430.1 e1415.Values.e1)).Values).e1) X1k.Values.e1).bind λv1435=>bif (v1435.2 != 0) then (some ((List.set X0t (Int.toNat v1393.1) (X3.mk e1415.Key e1415.Span (V2.mk v1430.1 e1415.Values.e1))),v1435.2)) else (some ((List.set (List.set X0t (Int.toNat v1393.1) (X3.mk e1415.Key e1415.Span (V2.mk v1430.1 e1415.Values.e1))) (Int.toNat v1393.1) (X3.mk ((X3.mk e1415.Key e1415.Span (V2.mk v1430.1 e1415.Values.e1)).Key) ((X3.mk e1415.Key e1415.Span (V2.mk v1430.1 e1415.Values.e1)).Span) (V2.mk (((X3.mk e1415.Key e1415.Span (V2.mk v1430.1 e1415.Values.e1)).Values).e0) v1435.1))),0))):Option ((List X3)×Int)).bind λw1427=>some (w1427.1,w1427.2)):Option ((List X3)×Int)).bind λw1392=>some (.x0 w1392.1 w1392.2)) else ((getI X0t Xdv).bind λe1440=>((X20 X1k.Values.e0 e1440.Values.e0).bind λv1455=>bif (v1455.2 != 0) then (some (X1k,v1455.2)) else ((X20 X1k.Values.e1 e1440.Values.e1).bind λv1460=>bif (v1460.2 != 0) then (some ((X3.mk X1k.Key X1k.Span (V2.mk v1455.1 X1k.Values.e1)),v1460.2)) else (some ((X3.mk X1k.Key X1k.Span (V2.mk v1455.1 v1460.1)),0))):Option (X3×Int)).bind λw1452=>bif (w1452.2 != 0) then (some (.x0 ([]:List X3) w1452.2)) else ((delI X0t Xdv).bind λm1465=>X18 n m1465 (X3.mk w1452.1.Key (X0s.mk (if e1440.Span.Start<w1452.1.Span.Start then e1440.Span.Start else w1452.1.Span.Start) (if e1440.Span.End>w1452.1.Span.End then e1440.Span.End else w1452.1.Span.End)) w1452.1.Values)))
inductive X7z where
 |x0 (Xo:(List X3))
 |x1 (Xy:(List X3)) (Xa8:Int)
def X42 (Xjo:(List X0s)):List X0s->Nat->X3->(List X3)->Option X7z
 |[],k,Xd,Xe=>some (.x0 Xe)
 |x::xs,k,Xd,Xe=>((Xl Xe (X3.mk Xd.Key x Xd.Values)).bind λv1891=>bif (!v1891.2) then (bif (v1891.1==(List.length Xe:Int)) then (((X5n Xe v1891.1 (List.length Xe:Int)).bind λm1903=>bif (List.isEmpty m1903) then ((X1c (List.length (Xe++[(X3.mk Xd.Key x Xd.Values)])) 88).bind λu1906=>some ()) else ((X1c (List.length (Xe++[(X3.mk Xd.Key x Xd.Values)])) 88).bind λu1908=>some ()):Option (Unit)).bind λ_=>some ((X3.mk ((X3.mk Xd.Key x Xd.Values).Key) ((X3.mk Xd.Key x Xd.Values).Span) (V2.mk (((X3.mk Xd.Key x Xd.Values).Values).e0) (((X3.mk Xd.Key x Xd.Values).Values).e1))),(Xe++[(X3.mk Xd.Key x Xd.Values)]),0)) else ((Xwx Xe v1891.1 (X3.mk Xd.Key x Xd.Values) 88).bind λm1911=>some ((X3.mk Xd.Key x Xd.Values),m1911,0))) else ((getI Xe v1891.1).bind λe1913=>((X20 e1913.Values.e0 Xd.Values.e0).bind λv1928=>bif (v1928.2 != 0) then (some (Xe,v1928.2)) else ((X20 (((X3.mk e1913.Key e1913.Span (V2.mk v1928.1 e1913.Values.e1)).Values).e1) Xd.Values.e1).bind λv1933=>bif (v1933.2 != 0) then (some ((List.set Xe (Int.toNat v1891.1) (X3.mk e1913.Key e1913.Span (V2.mk v1928.1 e1913.Values.e1))),v1933.2)) else (some ((List.set (List.set Xe (Int.toNat v1891.1) (X3.mk e1913.Key e1913.Span (V2.mk v1928.1 e1913.Values.e1))) (Int.toNat v1891.1) (X3.mk ((X3.mk e1913.Key e1913.Span (V2.mk v1928.1 e1913.Values.e1)).Key) ((X3.mk e1913.Key e1913.Span (V2.mk v1928.1 e1913.Values.e1)).Span) (V2.mk (((X3.mk e1913.Key e1913.Span (V2.mk v1928.1 e1913.Values.e1)).Values).e0) v1933.1))),0))):Option ((List X3)×Int)).bind λw1925=>some ((X3.mk ((X3.mk Xd.Key x Xd.Values).Key) ((X3.mk Xd.Key x Xd.Values).Span) (V2.mk (((X3.mk Xd.Key x Xd.Values).Values).e0) (((X3.mk Xd.Key x Xd.Values).Values).e1))),w1925.1,w1925.2)):Option (X3×(List X3)×Int)).bind λw1890=>bif (w1890.2.2 != 0) then (some (.x1 ([]:List X3) w1890.2.2)) else (X42 Xjo xs (k+1) w1890.1 w1890.2.1)
def X84 (a0:(List X3)) (a1:Xn) (a2:X9) (a3:Int):Option ((List X3)×Int) :=
 (X9f a0).bind λv1=>bif (v1 != 0) then (some (([]:List X3),v1)) else ((X0y a1).bind λv4=>bif (v4 != 0) then (some (([]:List X3),v4)) else (bif (bif (a3 != 0) then (a3 != 1) else false) then (some (([]:List X3),2)) else (bif (bif (decide (a2.Time<((-1099511627776):Int))) then true else (decide (a2.Time>1099511627776))) then (some (([]:List X3),16)) else (((Xa6 a2.Value).bind λv14=>bif (a3==0) then (some (X3.mk a2.Key (X0s.mk 0 0) (V2.mk v14 (X0z.mk 0 0 0 0)))) else (bif (a3==1) then (some (X3.mk a2.Key (X0s.mk 0 0) (V2.mk (X0z.mk 0 0 0 0) v14))) else none):Option (X3)).bind λXhu=>(bif (List.isEmpty a0) then some a0 else ((X1c (List.length a0) 88).bind λu28=>some a0):Option ((List X3))).bind λXht=>bif (a1.Kind==3) then (((X3g 0 a1.Size).bind λv51=>bif (v51 != 0) then (some (([]:List X0s),v51)) else ((X3g a2.Time a1.Size).bind λv54=>bif (v54 != 0) then (some (([]:List X0s),v54)) else ((X8s 1).bind λv67=>some ([(X0s.mk a2.Time (IntKind.i64.wrap (a2.Time+a1.Size)))],0))):Option ((List X0s)×Int)).bind λw50=>bif (w50.2 != 0) then (some (([]:List X3),w50.2)) else ((getI w50.1 0).bind λe71=>((X18  FU Xht (X3.mk Xhu.Key e71 Xhu.Values)).bind λo1548=>match o1548 with|.x0 X44 Xaz=>(some (X44,Xaz)):Option ((List X3)×Int)).bind λw811=>bif (w811.2 != 0) then (some (([]:List X3),w811.2)) else (bif (decide ((List.length w811.1:Int)>4000)) then (some (([]:List X3),4)) else (some (w811.1,0))))) else ((Xfi a1 a2.Time).bind λv1558=>bif (v1558.2 != 0) then (some (([]:List X3),v1558.2)) else ((X3t (List.length v1558.1)).bind λu1561=>(X42  v1558.1 v1558.1 0 Xhu Xht).bind λo1984=>match o1984 with|.x0 Xo=>(bif (decide ((List.length Xo:Int)>4000)) then (some (([]:List X3),4)) else (some (Xo,0)))|.x1 Xy Xa8=>(some (Xy,Xa8))))))))
def X6f (a0:Int) (a1:X0z):Option (Int×Int) :=
 bif (bif (decide (a0<1)) then true else (decide (a0>4))) then (some (0,2)) else ((X2y a1).bind λv2=>bif (v2 != 0) then (some (0,v2)) else (bif (a1.Count==0) then (some (0,6)) else ((bif (a0==0) then some 0 else (bif (a0==1) then (some a1.Count) else (bif (a0==2) then (some a1.Sum) else (bif (a0==3) then (some a1.Min) else (bif (a0==4) then (some a1.Max) else none)))):Option (Int)).bind λX0aq=>some (X0aq,0))))
def X9x (a0:Xb) (a1:X3):Option (X5v×Bool) :=
 (X6f a0.Agg a1.Values.e0).bind λv3=>bif (v3.2 != 0) then (some ((X5v.mk 0 (X0s.mk 0 0) (V2.mk 0 0)),false)) else (bif (bif ((1:Int)==1) then (!a0.Join) else false) then (some ((X5v.mk a1.Key a1.Span (V2.mk v3.1 0)),true)) else ((X6f a0.Agg a1.Values.e1).bind λv9=>bif (v9.2 != 0) then (some ((X5v.mk 0 (X0s.mk 0 0) (V2.mk 0 0)),false)) else (some ((X5v.mk a1.Key a1.Span (V2.mk v3.1 v9.1)),true))))
inductive X5x where
 |x0 (X99:(List X3)) (X79:(List X9))
 |x1 (X78:(List X5v)) (X77:(List X9)) (Xco:Int)
def X2d (Xjl:Xb) (Xls:(List X9)) (Xps:Int) (Xpr:(List (List Xs))) (Xpq:Int) (Xpp:Int) (Xi6:(List X9)):List X9->Nat->(List X3)->Option X5x
 |[],k,Xjm=>some (.x0 Xjm Xls)
 |x::xs,k,Xjm=>(X5t Xjl x).bind λv482=>bif (!v482.2) then (X2d Xjl Xls Xps Xpr Xpq Xpp Xi6 xs (k+1) Xjm) else ((bif Xjl.Join then some Xps else (some 0):Option (Int)).bind λXsz=>(X84 Xjm Xjl.Window v482.1 Xsz).bind λv489=>bif (v489.2 != 0) then (some (.x1 ([]:List X5v) ([]:List X9) v489.2)) else (X2d Xjl Xls Xps Xpr Xpq Xpp Xi6 xs (k+1) v489.1))
inductive X5y where
 |x0 (X6h:(List X3)) (X00:(List X9))
 |x1 (Xy:(List X5v)) (X32:(List X9)) (Xmm:Int)
def X2e (Xd:Xb) (Xb1:(List (List Xs))):List (List Xs)->Nat->(List X3)->(List X9)->Option X5y
 |[],k,X3c,Xe=>some (.x0 X3c Xe)
 |x::xs,k,X3c,Xe=>(Xbh x).bind λv435=>bif (v435.2.2 != 0) then (some (.x1 ([]:List X5v) ([]:List X9) v435.2.2)) else (bif (List.isEmpty v435.2.1) then ((X3t (List.length v435.1)).bind λu439=>(X2d  Xd (Xe++v435.2.1) (k:Int) Xb1 (List.length Xb1:Int) (k:Int) v435.1 v435.1 0 X3c).bind λo502=>match o502 with|.x0 X99 X79=>(X2e Xd Xb1 xs (k+1) X99 X79)|.x1 X78 X77 Xco=>(some (.x1 X78 X77 Xco))) else ((X1c (List.length (Xe++v435.2.1)) 24).bind λu504=>(X3t (List.length v435.1)).bind λu506=>(X2d  Xd (Xe++v435.2.1) (k:Int) Xb1 (List.length Xb1:Int) (k:Int) v435.1 v435.1 0 X3c).bind λo549=>match o549 with|.x0 X99 X79=>(X2e Xd Xb1 xs (k+1) X99 X79)|.x1 X78 X77 Xco=>(some (.x1 X78 X77 Xco))))
inductive X8i where
 |x0 (Xbp:(List X9)) (X4y:(List X5v))
def X2x (Xlr:Xb) (Xjk:(List X9)) (Xeo:(List X3)):List X3->Nat->(List X5v)->Option X8i
 |[],k,Xi5=>some (.x0 Xjk Xi5)
 |x::xs,k,Xi5=>(X9x Xlr x).bind λv732=>(bif v732.2 then ((X1c (List.length (Xi5++[v732.1])) 40).bind λu739=>some (Xi5++[v732.1])) else (some Xi5):Option ((List X5v))).bind λXkx=>X2x Xlr Xjk Xeo xs (k+1) Xkx
def X7n (a0:Xb) (a1:(List (List Xs))):Option ((List X5v)×(List X9)×Int) :=
 (X43 a0).bind λv1=>bif (v1.2 != 0) then (some (([]:List X5v),([]:List X9),v1.2)) else (bif ((List.length a1:Int) != (List.length a0.Sources:Int)) then (some (([]:List X5v),([]:List X9),2)) else ((X4o a1).bind λv5=>bif (v5 != 0) then (some (([]:List X5v),([]:List X9),v5)) else ((X3t (List.length a1)).bind λu8=>(X2e  a0 a1 a1 0 ([]:List X3) ([]:List X9)).bind λo647=>match o647 with|.x0 X6h X00=>((X3t (List.length X6h)).bind λu649=>(X2x  a0 X00 X6h X6h 0 ([]:List X5v)).bind λo772=>match o772 with|.x0 Xbp X4y=>((bif (a0.Late != 2) then (some ([]:List X9)) else (some Xbp):Option ((List X9))).bind λXkw=>some (X4y,Xkw,0)))|.x1 Xy X32 Xmm=>(some (Xy,X32,Xmm)))))
inductive Xmc where
 |x0 (Xo:Int)
def X54 (Xrr:(List Xs)):List Xs->Nat->Int->Option Xmc
 |[],k,Xd=>some (.x0 Xd)
 |x::xs,k,Xd=>(bif x.Mark then (some (if x.Time>Xd then x.Time else Xd)) else (some Xd):Option (Int)).bind λX00g=>X54 Xrr xs (k+1) X00g
def Xd0 (a0:(List Xs)):Option (Int×Int) :=
 (X7o a0).bind λv1=>bif (v1 != 0) then (some (0,v1)) else ((X3t (List.length a0)).bind λu4=>(X54  a0 a0 0 (-9223372036854775808)).bind λo31=>match o31 with|.x0 Xo=>(some (Xo,0)))
inductive Xfy where
 |x0 (Xaz:Int)
 |x1 (Xch:Int)
def X2o (Xrq:(List (List Xs))):List (List Xs)->Nat->Int->Option Xfy
 |[],k,y0_5=>some (.x0 y0_5)
 |x::xs,k,y0_5=>(Xd0 x).bind λv14=>bif (v14.2 != 0) then (some (.x1 v14.2)) else (X2o Xrq xs (k+1) (if v14.1<y0_5 then v14.1 else y0_5))
def X6o (a0:(List (List Xs))):Option (Int×Int) :=
 bif (bif (decide ((List.length a0:Int)<1)) then true else (decide ((List.length a0:Int)>4))) then (some (0,2)) else ((X4o a0).bind λv2=>bif (v2 != 0) then (some (0,v2)) else ((X3t (List.length a0)).bind λu5=>(X2o  a0 a0 0 9223372036854775807).bind λo17=>match o17 with|.x0 Xaz=>(some (Xaz,0))|.x1 Xch=>(some (0,Xch))))
inductive X5p where
 |x0 (Xo:(List X5v))
def X1h (Xu4:(List X9)) (X3c:Int) (Xjp:(List X5v)):List X5v->Nat->(List X5v)->Option X5p
 |[],k,Xd=>some (.x0 Xd)
 |x::xs,k,Xd=>(bif (decide (x.Span.End<=X3c)) then ((X1c (List.length (Xd++[x])) 40).bind λu47=>some (Xd++[x])) else (some Xd):Option ((List X5v))).bind λXqn=>X1h Xu4 X3c Xjp xs (k+1) Xqn
def X12 (a0:Xb) (a1:(List (List Xs))):Option ((List X5v)×(List X9)×Int) :=
 (X7n a0 a1).bind λv1=>bif (v1.2.2 != 0) then (some (([]:List X5v),([]:List X9),v1.2.2)) else ((X6o a1).bind λv4=>bif (v4.2 != 0) then (some (([]:List X5v),([]:List X9),v4.2)) else ((X3t (List.length v1.1)).bind λu7=>(X1h  v1.2.1 v4.1 v1.1 v1.1 0 ([]:List X5v)).bind λo58=>match o58 with|.x0 Xo=>(some (Xo,v1.2.1,0))))
def X1j (a0:(List X4)):Option ((List X4)) :=
 bif (List.isEmpty a0) then some a0 else ((X1c (List.length a0) 40).bind λu4=>some a0)
def X2q (a0:(List Int)):Option ((List Int)) :=
 bif (List.isEmpty a0) then some a0 else ((X1c (List.length a0) 8).bind λu4=>some a0)
def X86 (a0:Xb):Option (Xb) :=
 (X1j a0.Arg).bind λv1=>(X2q a0.Sources).bind λv3=>(X1j a0.Where).bind λv5=>some (Xb.mk a0.Agg v1 v3 a0.Join v5 a0.Window a0.ByKey a0.Late)
def Xd1 (a0:(List X4)):Option ((List Bool)×Int) :=
 (Xae a0).bind λv1=>bif (v1.2.2 != 0) then (some (([]:List Bool),v1.2.2)) else ((X97 a0).bind λv4=>some (v4.1,0))
def Xbc (a0:(List X4)) (a1:Int):Option (Int×Int) :=
 (X7m a0).bind λv1=>bif (v1.2 != 0) then (some (0,v1.2)) else (bif (bif (decide (a1<0)) then true else (decide (a1 >= (List.length v1.1:Int)))) then (some (0,2)) else ((getI v1.1 a1).bind λe5=>some (e5.size,0)))
inductive X8h where
 |x0 (Xo:(List X4))
def X2w (Xa7:Int) (Xpt:Int):Nat->(List X4)->Int->Option X8h
 |0,_,_=>none
 |n+1,Xd,Xeq=>bif (decide (Xeq<Xpt)) then ((getI Xd Xeq).bind λe86=>(X2n e86.Kind).bind λv88=>(bif (decide (v88.1>0)) then (some (List.set Xd (Int.toNat Xeq) (X4.mk e86.Kind e86.N (IntKind.i64.wrap (e86.A+Xa7)) e86.B e86.At))) else (some Xd):Option ((List X4))).bind λXku=>(bif (decide (v88.1>1)) then ((getI Xku Xeq).bind λe99=>some (List.set Xku (Int.toNat Xeq) (X4.mk e99.Kind e99.N e99.A (IntKind.i64.wrap (e99.B+Xa7)) e99.At))) else (some Xku):Option ((List X4))).bind λXql=>X2w Xa7 Xpt n Xql (IntKind.i64.wrap (Xeq+1))) else (some (.x0 Xd))
def X63 (a0:(List X4)) (a1:Int):Option ((List X4)) :=
 (bif (List.isEmpty a0) then some a0 else ((X1c (List.length a0) 40).bind λu10=>some a0):Option ((List X4))).bind λXqm=>(X2w  a1 (List.length Xqm:Int) FU Xqm 0).bind λo113=>match o113 with|.x0 Xo=>(some Xo)
def Xbd (a0:(List X4)) (a1:Int):Option ((List X4)×Int) :=
 (Xbc a0 a1).bind λv1=>bif (v1.2 != 0) then (some (([]:List X4),v1.2)) else ((X5n a0 (IntKind.i64.wrap ((IntKind.i64.wrap (a1+1)) - v1.1)) (IntKind.i64.wrap (a1+1))).bind λm4=>(X63 m4 (IntKind.i64.wrap (0 - (IntKind.i64.wrap ((IntKind.i64.wrap (a1+1)) - v1.1))))).bind λv6=>some (v6,0))
def X2c (a0:X4):Option (Bool) :=
 (bif (X25 (X4.mk a0.Kind a0.N a0.A a0.B 0) (X4.mk 2 0 0 0 0)) then (some (bif (bif (X25 (X4.mk a0.Kind a0.N a0.A a0.B 0) (X4.mk 2 0 0 0 0)) then true else false) then true else false)) else (bif (X25 (X4.mk a0.Kind a0.N a0.A a0.B 0) (X4.mk 3 0 0 0 0)) then (some (bif (bif (X25 (X4.mk a0.Kind a0.N a0.A a0.B 0) (X4.mk 2 0 0 0 0)) then true else (X25 (X4.mk a0.Kind a0.N a0.A a0.B 0) (X4.mk 3 0 0 0 0))) then true else false)) else (some (bif (bif (X25 (X4.mk a0.Kind a0.N a0.A a0.B 0) (X4.mk 2 0 0 0 0)) then true else (X25 (X4.mk a0.Kind a0.N a0.A a0.B 0) (X4.mk 3 0 0 0 0))) then true else (X25 (X4.mk a0.Kind a0.N a0.A a0.B 0) (X4.mk 4 0 0 0 0))))):Option (Bool)).bind λj3_2=>some j3_2
inductive X7f where
 |x0
 |x1 (X72:Int)
def X0a (X0g:(List X4)):List X4->Nat->Option X7f
 |[],k=>some (.x0)
 |x::xs,k=>(X2c x).bind λv10=>bif v10 then (some (.x1 (k:Int))) else (X0a X0g xs (k+1))
def X0i (a0:(List X4)):Option (Int) :=
 (X3t (List.length a0)).bind λu1=>(X0a  a0 a0 0).bind λo13=>match o13 with|.x0=>(some (-1))|.x1 X72=>(some X72)
def X0d (a0:(List X4)):Option (Bool) :=
 (X0i a0).bind λv1=>some (decide (v1 >= 0))
def X5a (a0:(List X4)):Option (Bool×Int) :=
 (X1v a0).bind λv1=>bif (v1 != 0) then (some (false,v1)) else ((X0d a0).bind λv4=>some ((!v4),0))
def X7t (a0:(List X4)):Option (Int×Bool×Int) :=
 (Xae a0).bind λv1=>bif (v1.2.2 != 0) then (some (0,false,v1.2.2)) else ((X5a a0).bind λv4=>bif (bif (v4.2 != 0) then true else (!v4.1)) then (some (0,false,v4.2)) else ((X4b a0 (X9.mk 0 0 0)).bind λv7=>some (v7.1,(v7.2==0),v7.2)))
def X56 (a0:Int) (a1:Int):Option ((List X4)) :=
 some [(X4.mk 1 a0 0 0 a1)]
inductive X6m where
 |x0 (Xo:X4) (X00:(List X4))
 |x1 (Xy:(List X4)) (Xa8:Int)
def X1u (Xe7:(List (List X4))):List (List X4)->Nat->X4->(List X4)->Option X6m
 |[],k,Xd,Xe=>some (.x0 Xd Xe)
 |x::xs,k,Xd,Xe=>(X1v x).bind λv71=>bif (v71 != 0) then (some (.x1 ([]:List X4) v71)) else ((X63 x (List.length Xe:Int)).bind λv74=>bif (List.isEmpty v74) then ((bif ((k:Int)==0) then (some (X4.mk Xd.Kind Xd.N (IntKind.i64.wrap ((List.length (Xe++v74):Int) - 1)) Xd.B Xd.At)) else (some (X4.mk Xd.Kind Xd.N Xd.A (IntKind.i64.wrap ((List.length (Xe++v74):Int) - 1)) Xd.At)):Option (X4)).bind λX00b=>X1u Xe7 xs (k+1) X00b (Xe++v74)) else ((X1c (List.length (Xe++v74)) 40).bind λu81=>(bif ((k:Int)==0) then (some (X4.mk Xd.Kind Xd.N (IntKind.i64.wrap ((List.length (Xe++v74):Int) - 1)) Xd.B Xd.At)) else (some (X4.mk Xd.Kind Xd.N Xd.A (IntKind.i64.wrap ((List.length (Xe++v74):Int) - 1)) Xd.At)):Option (X4)).bind λX009=>X1u Xe7 xs (k+1) X009 (Xe++v74)))
def X2z (a0:Int) (a1:Int) (a2:Int) (a3:(List (List X4))):Option ((List X4)×Int) :=
 (X2n a0).bind λv1=>bif (bif (bif (bif (bif (bif (v1.2 != 0) then true else (v1.1 != (List.length a3:Int))) then true else (decide (a1<0))) then true else (bif (decide (a1>0)) then (a0 != 1) else false)) then true else (decide (a2<0))) then true else (decide (a2>400))) then (some (([]:List X4),2)) else ((X3t (List.length a3)).bind λu4=>(X1u  a3 a3 0 (X4.mk a0 a1 0 0 a2) ([]:List X4)).bind λo103=>match o103 with|.x0 Xo X00=>((X1c (List.length (X00++[Xo])) 40).bind λu105=>(X1v (X00++[Xo])).bind λv107=>bif (v107 != 0) then (some (([]:List X4),v107)) else (some ((X00++[Xo]),0)))|.x1 Xy Xa8=>(some (Xy,Xa8)))
def Xbk (a0:Int) (a1:Bool) (a2:Int):Option (Xj) :=
 bif a1 then ((bif (a0 != 0) then some 16 else (some 17):Option (Int)).bind λXqo=>(X56 0 a2).bind λv22=>(X2z Xqo 0 a2 [v22,v22]).bind λv24=>some (Xj.mk v24.1 (bif (v24.2==0) then (decide ((List.length v24.1:Int)>0)) else false))) else (bif (decide (a0 >= 0)) then (some (Xj.mk [(X4.mk 1 a0 0 0 a2)] (bif ((0:Int)==0) then (decide ((1:Int)>0)) else false))) else (bif (decide ((IntKind.i64.wrap (0 - a0))>0)) then ((X56 (IntKind.i64.wrap (0 - a0)) a2).bind λv41=>(X2z 5 0 a2 [v41]).bind λv43=>some (Xj.mk v43.1 (bif (v43.2==0) then (decide ((List.length v43.1:Int)>0)) else false))) else (some (Xj.mk ([]:List X4) (bif ((0:Int)==0) then (decide ((0:Int)>0)) else false)))))
inductive X5z where
 |x0 (X00:(List (List X4)))
 |x1 (Xy:(List X4)) (Xml:Int)
def X4p (rec:(List X4)->(List Xj)->Int->Option ((List X4)×Int)) (X0g:(List X4)) (Xa7:(List Xj)) (Xd:X4) (X3c:Int) (Xrp:(List Int)):List Int->Nat->(List (List X4))->Option X5z
 |[],k,Xe=>some (.x0 Xe)
 |x::xs,k,Xe=>(rec X0g Xa7 x).bind λv44=>bif (v44.2 != 0) then (some (.x1 ([]:List X4) v44.2)) else ((X1c (List.length (Xe++[v44.1])) 24).bind λu47=>X4p rec X0g Xa7 Xd X3c Xrp xs (k+1) (Xe++[v44.1]))
def X1x:Nat->(List X4)->(List Xj)->Int->Option ((List X4)×Int)
 |0,_,_,_=>none
 |n+1,a0,a1,a2=>(getI a1 a2).bind λe1=>bif e1.there then ((bif (List.isEmpty e1.value) then (some e1.value) else ((X1c (List.length e1.value) 40).bind λu13=>some e1.value):Option ((List X4))).bind λX008=>some (X008,0)) else ((getI a0 a2).bind λe16=>(X2n e16.Kind).bind λv18=>bif (v18.1==0) then ((X3t (List.length ([]:List Int))).bind λu21=>(X4p (X1x n)  a0 a1 e16 v18.2 [] [] 0 ([]:List (List X4))).bind λo54=>match o54 with|.x0 X00=>(bif (v18.2 != 0) then (some (([]:List X4),v18.2)) else ((X2z e16.Kind e16.N e16.At X00).bind λv57=>some (v57.1,v57.2)))|.x1 Xy Xml=>(some (Xy,Xml))) else (bif (v18.1==1) then (((X1x n) a0 a1 e16.A).bind λv63=>bif (v63.2 != 0) then (some (([]:List X4),v63.2)) else (bif (v18.2 != 0) then (some (([]:List X4),v18.2)) else ((X2z e16.Kind e16.N e16.At [v63.1]).bind λv67=>some (v67.1,v67.2)))) else (bif (v18.1==2) then (((X1x n) a0 a1 e16.A).bind λv70=>bif (v70.2 != 0) then (some (([]:List X4),v70.2)) else (((X1x n) a0 a1 e16.B).bind λv73=>bif (v73.2 != 0) then (some (([]:List X4),v73.2)) else (bif (v18.2 != 0) then (some (([]:List X4),v18.2)) else ((X2z e16.Kind e16.N e16.At [v70.1,v73.1]).bind λv77=>some (v77.1,v77.2))))) else none)))
inductive X6s where
 |x0 (Xen:(List X4)) (Xbq:(List Xj))
def X03 (Xd:(List X4)) (Xi7:(List X4)) (X5q:Int) (X0t:(List Bool)) (Xjn:(List X4)):Nat->(List Xj)->(List Int)->Option X6s
 |0,_,_=>none
 |n+1,Xlt,X5r=>bif (decide ((List.length X5r:Int)>0)) then ((getI X5r (IntKind.i64.wrap ((List.length X5r:Int) - 1))).bind λe208=>(X5n X5r 0 (IntKind.i64.wrap ((List.length X5r:Int) - 1))).bind λm210=>((Xbd Xd e208).bind λv227=>bif (v227.2 != 0) then none else ((X7t v227.1).bind λv230=>bif (bif (v230.2.2==0) then v230.2.1 else false) then ((getI X0t e208).bind λe233=>(getI Xd e208).bind λe235=>(Xbk v230.1 e233 e235.At).bind λv237=>(getI Xlt e208).bind λe239=>some (List.set Xlt (Int.toNat e208) v237)) else (some Xlt)):Option ((List Xj))).bind λXd3=>(getI Xd3 e208).bind λe244=>bif (!(!e244.there)) then (X03 Xd Xi7 X5q X0t Xjn n Xd3 m210) else ((getI Xjn e208).bind λe247=>(X2n e247.Kind).bind λv249=>bif (v249.1==1) then ((X1c (List.length (m210++[e247.A])) 8).bind λu252=>X03 Xd Xi7 X5q X0t Xjn n Xd3 (m210++[e247.A])) else (bif (v249.1==2) then ((X1c (List.length (m210++[e247.A,e247.B])) 8).bind λu255=>X03 Xd Xi7 X5q X0t Xjn n Xd3 (m210++[e247.A,e247.B])) else (X03 Xd Xi7 X5q X0t Xjn n Xd3 m210)))) else (some (.x0 Xi7 Xlt))
def X3w (a0:(List X4)):Option ((List X4)×Int) :=
 (Xd1 a0).bind λv1=>bif (v1.2 != 0) then (some (([]:List X4),v1.2)) else ((mkOk (List.length a0:Int) (List.length a0:Int) 32).bind λu4=>(X03  a0 ([]:List X4) 0 v1.1 a0 FU (List.replicate (Int.toNat (List.length a0:Int)) (Xj.mk ([]:List X4) false)) [(IntKind.i64.wrap ((List.length a0:Int) - 1))]).bind λo307=>match o307 with|.x0 Xen Xbq=>((X1x FU a0 Xbq (IntKind.i64.wrap ((List.length a0:Int) - 1))).bind λv309=>some (v309.1,v309.2)))
def X7u (a0:Xb):Option (Xb×Int) :=
 (X43 a0).bind λv1=>bif (v1.2 != 0) then (some ((Xb.mk 0 ([]:List X4) ([]:List Int) false ([]:List X4) (Xn.mk 0 0 0) false 0),v1.2)) else ((bif (List.isEmpty a0.Sources) then (some a0.Sources) else ((X1c (List.length a0.Sources) 8).bind λu13=>some a0.Sources):Option ((List Int))).bind λXqk=>bif ((List.length a0.Arg:Int)==0) then (bif ((List.length a0.Where:Int)==0) then (some ((Xb.mk a0.Agg a0.Arg Xqk a0.Join a0.Where a0.Window a0.ByKey a0.Late),0)) else ((X3w a0.Where).bind λv18=>bif (v18.2 != 0) then (some ((Xb.mk 0 ([]:List X4) ([]:List Int) false ([]:List X4) (Xn.mk 0 0 0) false 0),v18.2)) else (some ((Xb.mk a0.Agg a0.Arg Xqk a0.Join v18.1 a0.Window a0.ByKey a0.Late),0)))) else ((X3w a0.Arg).bind λv21=>bif (v21.2 != 0) then (some ((Xb.mk 0 ([]:List X4) ([]:List Int) false ([]:List X4) (Xn.mk 0 0 0) false 0),v21.2)) else (bif ((List.length a0.Where:Int)==0) then (some ((Xb.mk a0.Agg v21.1 Xqk a0.Join a0.Where a0.Window a0.ByKey a0.Late),0)) else ((X3w a0.Where).bind λv25=>bif (v25.2 != 0) then (some ((Xb.mk 0 ([]:List X4) ([]:List Int) false ([]:List X4) (Xn.mk 0 0 0) false 0),v25.2)) else (some ((Xb.mk a0.Agg v21.1 Xqk a0.Join v25.1 a0.Window a0.ByKey a0.Late),0))))))
def X88 (a0:Xb) (a1:Int):Option (Xb×Int) :=
 (X86 a0).bind λv1=>bif (a1==1) then ((X7u v1).bind λv4=>some (v4.1,v4.2)) else (bif (a1==2) then (bif ((List.length a0.Where:Int)==0) then (some (v1,0)) else ((X7t a0.Where).bind λv8=>bif (v8.2.2 != 0) then (some ((Xb.mk 0 ([]:List X4) ([]:List Int) false ([]:List X4) (Xn.mk 0 0 0) false 0),v8.2.2)) else ((bif (bif v8.2.1 then (v8.1 != 0) else false) then (some (Xb.mk v1.Agg v1.Arg v1.Sources v1.Join ([]:List X4) v1.Window v1.ByKey v1.Late)) else (some v1):Option (Xb)).bind λXg4=>some (Xg4,0)))) else ((bif (a1==3) then (bif (bif (a0.Window.Kind==2) then (a0.Window.Size==a0.Window.Every) else false) then (some (Xb.mk v1.Agg v1.Arg v1.Sources v1.Join v1.Where (Xn.mk 1 a0.Window.Size 0) v1.ByKey v1.Late)) else (some v1)) else (some v1):Option (Xb)).bind λX00o=>some (X00o,0)))
inductive X9g where
 |x0
 |x1
def X0k (X0g:(List X4)) (Xa7:(List X4)):List X4->Nat->Option X9g
 |[],k=>some (.x0)
 |x::xs,k=>(getI Xa7 (k:Int)).bind λe11=>bif (!(X25 x e11)) then some (.x1) else (X0k X0g Xa7 xs (k+1))
def X1i (a0:(List X4)) (a1:(List X4)):Option (Bool) :=
 bif ((List.length a0:Int) != (List.length a1:Int)) then some false else ((X3t (List.length a0)).bind λu2=>(X0k  a0 a1 a0 0).bind λo14=>match o14 with|.x0=>(some true)|.x1=>(some false))
def X87 (a0:Xb) (a1:Xb):Option (Bool) :=
 ((X1i a0.Arg a1.Arg).bind λv8=>bif v8 then ((X1i a0.Where a1.Where).bind λv11=>bif v11 then (some (bif (bif v8 then v11 else false) then (Xf6 a0.Window a1.Window) else false)) else (some (bif (bif v8 then v11 else false) then false else false))) else (some (bif (bif v8 then false else false) then false else false)):Option (Bool)).bind λj7_4=>some j7_4
def X19 (a0:Xb) (a1:Int):Option (Xb×Bool×Int) :=
 (X43 a0).bind λv1=>bif (v1.2 != 0) then (some ((Xb.mk 0 ([]:List X4) ([]:List Int) false ([]:List X4) (Xn.mk 0 0 0) false 0),false,v1.2)) else (bif (bif (decide (a1<1)) then true else (decide (a1>3))) then (some ((Xb.mk 0 ([]:List X4) ([]:List Int) false ([]:List X4) (Xn.mk 0 0 0) false 0),false,2)) else ((X88 a0 a1).bind λv5=>bif (v5.2 != 0) then (some ((Xb.mk 0 ([]:List X4) ([]:List Int) false ([]:List X4) (Xn.mk 0 0 0) false 0),false,v5.2)) else ((X87 a0 v5.1).bind λv8=>some (v5.1,(!v8),0))))
inductive Xib where
 |x0 (Xhi:Int)
 |x1 (X32:Xb)
def X4j (Xd:Xb):Nat->Xb->Int->Option Xib
 |0,_,_=>none
 |n+1,Xe,Xbr=>bif (decide (Xbr<20)) then ((X19 Xe 1).bind λv25=>bif (v25.2.2 != 0) then (some (.x0 v25.2.2)) else ((X19 v25.1 2).bind λv28=>bif (v28.2.2 != 0) then (some (.x0 v28.2.2)) else ((X19 v28.1 3).bind λv31=>bif (v31.2.2 != 0) then (some (.x0 v31.2.2)) else (bif (!(bif (bif (bif false then true else v25.2.1) then true else v28.2.1) then true else v31.2.1)) then (some (.x1 v31.1)) else (X4j Xd n v31.1 (IntKind.i64.wrap (Xbr+1))))))) else (some (.x1 Xe))
def X9j (a0:Xb):Option (Xb×Int) :=
 (X4j  (Xb.mk 0 ([]:List X4) ([]:List Int) false ([]:List X4) (Xn.mk 0 0 0) false 0) FU a0 0).bind λo35=>match o35 with|.x0 Xhi=>(some ((Xb.mk ((Xb.mk 0 ([]:List X4) ([]:List Int) false ([]:List X4) (Xn.mk 0 0 0) false 0).Agg) ((Xb.mk 0 ([]:List X4) ([]:List Int) false ([]:List X4) (Xn.mk 0 0 0) false 0).Arg) ((Xb.mk 0 ([]:List X4) ([]:List Int) false ([]:List X4) (Xn.mk 0 0 0) false 0).Sources) ((Xb.mk 0 ([]:List X4) ([]:List Int) false ([]:List X4) (Xn.mk 0 0 0) false 0).Join) ((Xb.mk 0 ([]:List X4) ([]:List Int) false ([]:List X4) (Xn.mk 0 0 0) false 0).Where) ((Xb.mk 0 ([]:List X4) ([]:List Int) false ([]:List X4) (Xn.mk 0 0 0) false 0).Window) ((Xb.mk 0 ([]:List X4) ([]:List Int) false ([]:List X4) (Xn.mk 0 0 0) false 0).ByKey) ((Xb.mk 0 ([]:List X4) ([]:List Int) false ([]:List X4) (Xn.mk 0 0 0) false 0).Late)),Xhi))|.x1 X32=>(some (X32,0))
inductive Xk7 where
 |x0
 |x1
def X45 (X0g:(List X5v)) (Xa7:(List X5v)):List X5v->Nat->Option Xk7
 |[],k=>some (.x0)
 |x::xs,k=>(getI Xa7 (k:Int)).bind λe11=>bif (!(Xp8 x e11)) then some (.x1) else (X45 X0g Xa7 xs (k+1))
def X90 (a0:(List X5v)) (a1:(List X5v)):Option (Bool) :=
 bif ((List.length a0:Int) != (List.length a1:Int)) then some false else ((X3t (List.length a0)).bind λu2=>(X45  a0 a1 a0 0).bind λo14=>match o14 with|.x0=>(some true)|.x1=>(some false))
inductive Xk8 where
 |x0
 |x1
def X46 (X0g:(List X9)) (Xa7:(List X9)):List X9->Nat->Option Xk8
 |[],k=>some (.x0)
 |x::xs,k=>(getI Xa7 (k:Int)).bind λe11=>bif (!(X38 x e11)) then some (.x1) else (X46 X0g Xa7 xs (k+1))
def X91 (a0:(List X9)) (a1:(List X9)):Option (Bool) :=
 bif ((List.length a0:Int) != (List.length a1:Int)) then some false else ((X3t (List.length a0)).bind λu2=>(X46  a0 a1 a0 0).bind λo14=>match o14 with|.x0=>(some true)|.x1=>(some false))
def X4u (a0:Xb) (a1:(List (List Xs))) (a2:Int):Option (Bool) :=
 (Xf1).bind λv1=>((X37 a0).bind λv13=>bif (!v13) then (some (bif (bif (bif (!v13) then true else false) then true else false) then true else false)) else ((X9l a1).bind λv16=>bif v16 then (some (bif (bif (bif (!v13) then true else v16) then true else false) then true else false)) else ((X9m a0 a1).bind λv19=>bif (v19 != 0) then (some (bif (bif (bif (!v13) then true else v16) then true else (v19 != 0)) then true else false)) else (some (bif (bif (bif (!v13) then true else v16) then true else (v19 != 0)) then true else (!v1))))):Option (Bool)).bind λX00r=>bif X00r then some v1 else ((X12 a0 a1).bind λv24=>(X9j a0).bind λv26=>(X12 v26.1 a1).bind λv28=>(bif (v24.2.2 != 0) then (some (bif (bif (bif (bif (bif (v24.2.2 != 0) then true else false) then true else false) then true else false) then true else false) then true else false)) else (bif (v26.2 != 0) then (some (bif (bif (bif (bif (bif (v24.2.2 != 0) then true else (v26.2 != 0)) then true else false) then true else false) then true else false) then true else false)) else (bif (v28.2.2 != 0) then (some (bif (bif (bif (bif (bif (v24.2.2 != 0) then true else (v26.2 != 0)) then true else (v28.2.2 != 0)) then true else false) then true else false) then true else false)) else ((X37 v26.1).bind λv45=>bif (!v45) then (some (bif (bif (bif (bif (bif (v24.2.2 != 0) then true else (v26.2 != 0)) then true else (v28.2.2 != 0)) then true else (!v45)) then true else false) then true else false)) else ((X90 v24.1 v28.1).bind λv48=>bif (!v48) then (some (bif (bif (bif (bif (bif (v24.2.2 != 0) then true else (v26.2 != 0)) then true else (v28.2.2 != 0)) then true else (!v45)) then true else (!v48)) then true else false)) else ((X91 v24.2.1 v28.2.1).bind λv51=>some (bif (bif (bif (bif (bif (v24.2.2 != 0) then true else (v26.2 != 0)) then true else (v28.2.2 != 0)) then true else (!v45)) then true else (!v48)) then true else (!v51))))))):Option (Bool)).bind λX00f=>bif X00f then some false else ((X19 a0 a2).bind λv55=>bif (v55.2.2 != 0) then (some (bif v1 then (bif (decide (a2<1)) then true else (decide (a2>3))) else false)) else ((X12 v55.1 a1).bind λv58=>(bif v1 then (bif (v58.2.2==0) then ((X37 v55.1).bind λv73=>bif v73 then ((X90 v24.1 v58.1).bind λv76=>bif v76 then ((X91 v24.2.1 v58.2.1).bind λv79=>some (bif (bif (bif (bif v1 then (v58.2.2==0) else false) then v73 else false) then v76 else false) then v79 else false)) else (some (bif (bif (bif (bif v1 then (v58.2.2==0) else false) then v73 else false) then v76 else false) then false else false))) else (some (bif (bif (bif (bif v1 then (v58.2.2==0) else false) then v73 else false) then false else false) then false else false))) else (some (bif (bif (bif (bif v1 then (v58.2.2==0) else false) then false else false) then false else false) then false else false))) else (some (bif (bif (bif (bif v1 then false else false) then false else false) then false else false) then false else false)):Option (Bool)).bind λX0ae=>some X0ae)))
end
end Go.D
