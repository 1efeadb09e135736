/- Functions that the proof speaks of, and the program of this seat does not hold (printed at the seat of RewriteTells). -/
import Derived.Test.YtnfamdbgcgjlaaaGreatDoorDFunZ
set_option linter.all false

namespace Go.D
noncomputable section
def Xch (a0:Xa):Option (Xa) :=
 bif (List.isEmpty a0.Arg) then (bif (List.isEmpty a0.Where) then (bif (List.isEmpty a0.Sources) then (some a0) else ((X1c (List.length a0.Sources) 8).bind λu4=>some a0)) else ((X1c (List.length a0.Where) 40).bind λu6=>bif (List.isEmpty a0.Sources) then (some a0) else ((X1c (List.length a0.Sources) 8).bind λu9=>some a0))) else ((X1c (List.length a0.Arg) 40).bind λu11=>bif (List.isEmpty a0.Where) then (bif (List.isEmpty a0.Sources) then (some a0) else ((X1c (List.length a0.Sources) 8).bind λu15=>some a0)) else ((X1c (List.length a0.Where) 40).bind λu17=>bif (List.isEmpty a0.Sources) then (some a0) else ((X1c (List.length a0.Sources) 8).bind λu20=>some a0)))
inductive Xg2 where
 |x0 (X01:(List X1))
def X52 (X0l:(List X1)) (X87:Int) (y0_8:Int):Nat->(List X1)->Int->Option Xg2
 |0,_,_=>none
 |n+1,Xr,Xh1=>bif (decide (Xh1<=X87)) then ((getI X0l Xh1).bind λe75=>(X0b e75.Kind).bind λv77=>(bif (decide (v77>(0:Int))) then (some (X1.mk e75.Kind e75.N (IntKind.i64.wrap (e75.A - y0_8)) e75.B e75.At)) else (some e75):Option (X1)).bind λXf3=>(X0b Xf3.Kind).bind λv83=>(bif (decide (v83>(1:Int))) then (some (X1.mk Xf3.Kind Xf3.N Xf3.A (IntKind.i64.wrap (Xf3.B - y0_8)) Xf3.At)) else (some Xf3):Option (X1)).bind λXv2=>(X1c (List.length (Xr++[Xv2])) 40).bind λu89=>X52 X0l X87 y0_8 n (Xr++[Xv2]) (IntKind.i64.wrap (Xh1+1))) else (some (.x0 Xr))
def Xet (a0:(List X1)) (a1:Int):Option ((List X1)) :=
 (X4v a0).bind λv1=>(getI v1.1 a1).bind λe3=>(X52  a0 a1 (IntKind.i64.wrap ((IntKind.i64.wrap (a1+1)) - e3)) FU ([]:List X1) (IntKind.i64.wrap ((IntKind.i64.wrap (a1+1)) - e3))).bind λo108=>match o108 with|.x0 X01=>(some X01)
inductive Xdf where
 |x0
 |x1
def X60 (X0l:(List X1)):List X1->Nat->Option Xdf
 |[],k=>some (.x0)
 |x::xs,k=>(bif (decide (x.Kind>(1:Int))) then (some (bif (decide (x.Kind>(1:Int))) then (decide (x.Kind<(5:Int))) else false)) else (some (bif (decide (x.Kind>(1:Int))) then false else false)):Option (Bool)).bind λX01p=>bif X01p then (some (.x1)) else (X60 X0l xs (k+1))
def X8r (a0:(List X1)):Option (Bool) :=
 (X6e (List.length a0)).bind λu1=>(X60  a0 a0 0).bind λo19=>match o19 with|.x0=>(some true)|.x1=>(some false)
def X77 (a0:Bool):Option (Int) :=
 bif a0 then (some 1) else (some 0)
def X8w (a0:Int):Option (Int) :=
 some (IntKind.i64.wrap (Int.tmod (IntKind.u64.wrap a0) 64))
inductive Xdh where
 |x0 (Xbe:Int)
def X3k (X0l:Int):Nat->Int->Int->Option Xdh
 |0,_,_=>none
 |n+1,Xzf,y0_4=>bif (decide (y0_4<X0l)) then (X3k X0l n (IntKind.i64.wrap (Xzf+Xzf)) (IntKind.i64.wrap (y0_4+1))) else (some (.x0 Xzf))
def X8v (a0:Int):Option (Int) :=
 (X3k  a0 FU 1 0).bind λo5=>match o5 with|.x0 Xbe=>(some Xbe)
def Xcl (a0:Int):Option (Int) :=
 bif (decide ((Int.tmod a0 2)<(0:Int))) then (some (IntKind.i64.wrap ((IntKind.i64.wrap (Int.tdiv a0 2)) - 1))) else (some (IntKind.i64.wrap (Int.tdiv a0 2)))
def Xbm (a0:Int) (a1:Int) (a2:Int):Option (Bool) :=
 bif (a0==(12:Int)) then (some (decide (a1<a2))) else (bif (a0==(13:Int)) then (some (bif (decide (a1<a2)) then true else (a1==a2))) else (bif (a0==(14:Int)) then (some (decide (a2<a1))) else (bif (a0==(15:Int)) then (some (bif (decide (a2<a1)) then true else (a1==a2))) else (bif (a0==(16:Int)) then (some (a1==a2)) else (some (a1 != a2))))))
inductive Xdi where
 |x0 (Xul:Int)
def X3l (y0_2:Int):Nat->Int->Int->Option Xdi
 |0,_,_=>none
 |n+1,X87,y0_7=>(X8w y0_2).bind λv25=>bif (decide (y0_7<v25)) then ((Xcl X87).bind λv28=>X3l y0_2 n v28 (IntKind.i64.wrap (y0_7+1))) else (some (.x0 X87))
def X40 (a0:Int) (a1:Int) (a2:Int):Option (Int) :=
 bif (a0==(5:Int)) then (some (IntKind.i64.wrap (0 - a1))) else (bif (a0==(6:Int)) then ((X77 (a1==(0:Int))).bind λv3=>some v3) else (bif (a0==(7:Int)) then (some (IntKind.i64.wrap (a1*a2))) else (bif (a0==(8:Int)) then (some (IntKind.i64.wrap (a1+a2))) else (bif (a0==(9:Int)) then (some (IntKind.i64.wrap (a1 - a2))) else (bif (a0==(10:Int)) then ((X8w a2).bind λv9=>(X8v v9).bind λv11=>some (IntKind.i64.wrap (a1*v11))) else (bif (a0==(11:Int)) then ((X3l  a2 FU a1 0).bind λo30=>match o30 with|.x0 Xul=>(some Xul)) else (bif (a0==(18:Int)) then ((X77 (bif (a1 != (0:Int)) then (a2 != (0:Int)) else false)).bind λv33=>some v33) else (bif (a0==(19:Int)) then ((X77 (bif (a1 != (0:Int)) then true else (a2 != (0:Int)))).bind λv36=>some v36) else ((Xbm a0 a1 a2).bind λv38=>(X77 v38).bind λv40=>some v40)))))))))
def X0a:Nat->(List X1)->Int->X1w->Option (Int)
 |0,_,_,_=>none
 |n+1,a0,a1,a2=>(getI a0 a1).bind λe1=>bif (e1.Kind==(1:Int)) then (some e1.N) else (bif (e1.Kind==(2:Int)) then (some a2.Key) else (bif (e1.Kind==(3:Int)) then (some a2.Time) else (bif (e1.Kind==(4:Int)) then (some a2.Value) else ((X0b e1.Kind).bind λv7=>(bif (v7==(2:Int)) then (((X0a n) a0 e1.B a2).bind λv14=>some v14) else (some 0):Option (Int)).bind λX04o=>((X0a n) a0 e1.A a2).bind λv17=>(X40 e1.Kind v17 X04o).bind λv19=>some v19))))
def X6b (a0:Int) (a1:Int):Option ((List X1)) :=
 some [(X1.mk 1 a0 0 0 a1)]
inductive Xer where
 |x0 (Xgz:(List X1))
def X4d (y1_3:(List (List X1))) (X03m:X1) (Xzz:Int) (Xvw:Int):Nat->(List X1)->Int->Option Xer
 |0,_,_=>none
 |n+1,Xvu,Xvv=>(getI y1_3 Xzz).bind λe505=>bif (decide (Xvv<(List.length e505:Int))) then ((getI e505 Xvv).bind λe508=>(X0b e508.Kind).bind λv510=>(bif (decide (v510>(0:Int))) then (some (X1.mk e508.Kind e508.N (IntKind.i64.wrap (e508.A+Xvw)) e508.B e508.At)) else (some e508):Option (X1)).bind λXb6=>(X0b Xb6.Kind).bind λv516=>(bif (decide (v516>(1:Int))) then (some (X1.mk Xb6.Kind Xb6.N Xb6.A (IntKind.i64.wrap (Xb6.B+Xvw)) Xb6.At)) else (some Xb6):Option (X1)).bind λXp0=>(X1c (List.length (Xvu++[Xp0])) 40).bind λu522=>X4d y1_3 X03m Xzz Xvw n (Xvu++[Xp0]) (IntKind.i64.wrap (Xvv+1))) else (some (.x0 Xvu))
inductive Xes where
 |x0 (X01:(List X1)) (X03:X1)
def X2s (Xzf:(List (List X1))):List (List X1)->Nat->(List X1)->X1->Option Xes
 |[],k,Xr,Xg=>some (.x0 Xr Xg)
 |x::xs,k,Xr,Xg=>(X4d  Xzf Xg (k:Int) (List.length Xr:Int) FU Xr 0).bind λo543=>match o543 with|.x0 Xgz=>((bif ((k:Int)==(0:Int)) then (some (X1.mk Xg.Kind Xg.N (IntKind.i64.wrap ((List.length Xgz:Int) - 1)) Xg.B Xg.At)) else (some (X1.mk Xg.Kind Xg.N Xg.A (IntKind.i64.wrap ((List.length Xgz:Int) - 1)) Xg.At)):Option (X1)).bind λXxk=>X2s Xzf xs (k+1) Xgz Xxk)
def X23 (a0:Int) (a1:Int) (a2:Int) (a3:(List (List X1))):Option ((List X1)) :=
 (X6e (List.length a3)).bind λu1=>(X2s  a3 a3 0 ([]:List X1) (X1.mk a0 a1 0 0 a2)).bind λo640=>match o640 with|.x0 X01 X03=>((X1c (List.length (X01++[X03])) 40).bind λu642=>some (X01++[X03]))
def X5q (a0:Int) (a1:Bool) (a2:Int):Option ((List X1)×Bool) :=
 (X6b 0 a2).bind λv1=>bif (bif a1 then (a0==(1:Int)) else false) then ((X23 16 0 a2 [v1,v1]).bind λv4=>some (v4,true)) else (bif a1 then ((X23 17 0 a2 [v1,v1]).bind λv7=>some (v7,true)) else (bif (decide (a0 >= (0:Int))) then ((X6b a0 a2).bind λv10=>some (v10,true)) else (bif (decide (a0>((-9223372036854775808):Int))) then ((X6b (IntKind.i64.wrap (0 - a0)) a2).bind λv13=>(X23 5 0 a2 [v13]).bind λv15=>some (v15,true)) else (some (([]:List X1),false)))))
def X2r:Nat->(List X1)->Int->Option ((List X1))
 |0,_,_=>none
 |n+1,a0,a1=>(getI a0 a1).bind λe1=>(Xet a0 a1).bind λv3=>(X8r v3).bind λv5=>bif v5 then ((X0a FU a0 a1 (X1w.mk 0 0 0)).bind λv8=>(X3z e1.Kind).bind λv10=>(X5q v8 v10 e1.At).bind λv12=>bif v12.2 then (some v12.1) else ((X0b e1.Kind).bind λv15=>(bif (decide (v15>(0:Int))) then (((X2r n) a0 e1.A).bind λv22=>some [v22]) else (some ([]:List (List X1))):Option ((List (List X1)))).bind λXp7=>(bif (decide (v15>(1:Int))) then (((X2r n) a0 e1.B).bind λv32=>(X1c (List.length (Xp7++[v32])) 24).bind λu34=>some (Xp7++[v32])) else (some Xp7):Option ((List (List X1)))).bind λX01j=>(X23 e1.Kind e1.N e1.At X01j).bind λv37=>some v37)) else ((X0b e1.Kind).bind λv57=>(bif (decide (v57>(0:Int))) then (((X2r n) a0 e1.A).bind λv64=>some [v64]) else (some ([]:List (List X1))):Option ((List (List X1)))).bind λXoy=>(bif (decide (v57>(1:Int))) then (((X2r n) a0 e1.B).bind λv74=>(X1c (List.length (Xoy++[v74])) 24).bind λu76=>some (Xoy++[v74])) else (some Xoy):Option ((List (List X1)))).bind λX01h=>(X23 e1.Kind e1.N e1.At X01h).bind λv79=>some v79)
def X5r (a0:(List X1)):Option ((List X1)×Int) :=
 (X8u a0).bind λv1=>bif (v1.2.2 != (0:Int)) then (some (([]:List X1),v1.2.2)) else ((X2r FU a0 (IntKind.i64.wrap ((List.length a0:Int) - 1))).bind λv4=>some (v4,0))
def Xay (a0:Xa):Option (Xa×Int) :=
 (X4t a0).bind λv1=>bif (v1.2 != (0:Int)) then (some ((Xa.mk 0 ([]:List X1) ([]:List Int) false ([]:List X1) (Xk.mk 0 0 0) false 0),v1.2)) else ((bif (decide ((List.length a0.Arg:Int)>(0:Int))) then ((X5r a0.Arg).bind λv9=>some (Xa.mk a0.Agg v9.1 a0.Sources a0.Join a0.Where a0.Window a0.ByKey a0.Late)) else (some a0):Option (Xa)).bind λXg6=>(bif (decide ((List.length Xg6.Where:Int)>(0:Int))) then ((X5r Xg6.Where).bind λv17=>some (Xa.mk Xg6.Agg Xg6.Arg Xg6.Sources Xg6.Join v17.1 Xg6.Window Xg6.ByKey Xg6.Late)) else (some Xg6):Option (Xa)).bind λXlh=>bif (List.isEmpty Xlh.Sources) then (some (Xlh,0)) else ((X1c (List.length Xlh.Sources) 8).bind λu21=>some (Xlh,0)))
def X8q (a0:(List X1)):Option (Int×Bool×Int) :=
 (X8u a0).bind λv1=>bif (v1.2.2 != (0:Int)) then (some (0,false,v1.2.2)) else ((X8r a0).bind λv4=>bif (!v4) then (some (0,false,0)) else ((X0a FU a0 (IntKind.i64.wrap ((List.length a0:Int) - 1)) (X1w.mk 0 0 0)).bind λv7=>some (v7,true,0)))
def Xce (a0:Xa) (a1:Int):Option (Xa) :=
 (Xch a0).bind λv1=>bif (a1==(1:Int)) then ((Xay a0).bind λv8=>(bif (a1==(2:Int)) then (some (bif (a1==(2:Int)) then (decide ((List.length a0.Where:Int)>(0:Int))) else false)) else (some (bif (a1==(2:Int)) then false else false)):Option (Bool)).bind λX01q=>(bif X01q then ((X8q a0.Where).bind λv20=>bif (bif v20.2.1 then (v20.1 != (0:Int)) else false) then (some (Xa.mk v8.1.Agg v8.1.Arg v8.1.Sources v8.1.Join ([]:List X1) v8.1.Window v8.1.ByKey v8.1.Late)) else (some v8.1)) else (some v8.1):Option (Xa)).bind λXbv=>(bif (bif (bif (a1==(3:Int)) then (a0.Window.Kind==(2:Int)) else false) then (a0.Window.Size==a0.Window.Every) else false) then (some (Xa.mk Xbv.Agg Xbv.Arg Xbv.Sources Xbv.Join Xbv.Where (Xk.mk 1 Xbv.Window.Size 0) Xbv.ByKey Xbv.Late)) else (some Xbv):Option (Xa)).bind λX01m=>some X01m) else ((bif (a1==(2:Int)) then (some (bif (a1==(2:Int)) then (decide ((List.length a0.Where:Int)>(0:Int))) else false)) else (some (bif (a1==(2:Int)) then false else false)):Option (Bool)).bind λX01k=>(bif X01k then ((X8q a0.Where).bind λv38=>bif (bif v38.2.1 then (v38.1 != (0:Int)) else false) then (some (Xa.mk v1.Agg v1.Arg v1.Sources v1.Join ([]:List X1) v1.Window v1.ByKey v1.Late)) else (some v1)) else (some v1):Option (Xa)).bind λXbu=>(bif (bif (bif (a1==(3:Int)) then (a0.Window.Kind==(2:Int)) else false) then (a0.Window.Size==a0.Window.Every) else false) then (some (Xa.mk Xbu.Agg Xbu.Arg Xbu.Sources Xbu.Join Xbu.Where (Xk.mk 1 Xbu.Window.Size 0) Xbu.ByKey Xbu.Late)) else (some Xbu):Option (Xa)).bind λX01i=>some X01i)
def Xep (a0:Xa) (a1:Int):Option (Xa×Bool×Int) :=
 (X4t a0).bind λv1=>bif (v1.2 != (0:Int)) then (some ((Xa.mk 0 ([]:List X1) ([]:List Int) false ([]:List X1) (Xk.mk 0 0 0) false 0),false,v1.2)) else (bif (bif (decide (a1<(1:Int))) then true else (decide (a1>(3:Int)))) then (some ((Xa.mk 0 ([]:List X1) ([]:List Int) false ([]:List X1) (Xk.mk 0 0 0) false 0),false,2)) else ((Xce a0 a1).bind λv5=>(Xy a0 v5).bind λv7=>some (v5,(!v7),0)))
end
end Go.D
