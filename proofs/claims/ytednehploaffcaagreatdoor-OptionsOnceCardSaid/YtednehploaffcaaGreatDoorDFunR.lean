/- Functions that the proof speaks of, and the program of this seat does not hold (printed at the seat of RewriteTells). -/
import Derived.Test.YtednehploaffcaaGreatDoorDFunZ
set_option linter.all false
set_option maxHeartbeats 4000000

namespace Go.D
noncomputable section
def Xa4 (a0:Bool):Option (Int) :=
 bif a0 then some 1 else (some 0)
def Xc8 (a0:Int):Option (Int) :=
 some (IntKind.i64.wrap (Int.tmod (IntKind.u64.wrap a0) 64))
inductive Xiu where
 |x0 (Xhv:Int)
def X4x (X0f:Int):Nat->Int->Int->Option Xiu
 |0,_,_=>none
 |n+1,Xrb,y0_4=>bif (decide (y0_4<X0f)) then (X4x X0f n (IntKind.i64.wrap (Xrb+Xrb)) (IntKind.i64.wrap (y0_4+1))) else (some (.x0 Xrb))
def Xc7 (a0:Int):Option (Int) :=
 (X4x  a0 FU 1 0).bind λo5=>match o5 with|.x0 Xhv=>(some Xhv)
def Xha (a0:Int):Option (Int) :=
 bif (decide ((Int.tmod a0 2)<0)) then (some (IntKind.i64.wrap ((IntKind.i64.wrap (Int.tdiv a0 2)) - 1))) else (some (IntKind.i64.wrap (Int.tdiv a0 2)))
def Xg7 (a0:Int) (a1:Int) (a2:Int):Option (Bool) :=
 bif (a0==12) then (some (decide (a1<a2))) else (bif (a0==13) then (some (bif (decide (a1<a2)) then true else (a1==a2))) else (bif (a0==14) then (some (decide (a2<a1))) else (bif (a0==15) then (some (bif (decide (a2<a1)) then true else (a1==a2))) else (bif (a0==16) then (some (a1==a2)) else (some (a1 != a2))))))
inductive Xiv where
 |x0 (X03i:Int)
def X4y (Xsi:Int):Nat->Int->Int->Option Xiv
 |0,_,_=>none
 |n+1,X3n,y0_7=>(Xc8 Xsi).bind λv25=>bif (decide (y0_7<v25)) then ((Xha X3n).bind λv28=>X4y Xsi n v28 (IntKind.i64.wrap (y0_7+1))) else (some (.x0 X3n))
def X55 (a0:Int) (a1:Int) (a2:Int):Option (Int) :=
 bif (a0==5) then (some (IntKind.i64.wrap (0 - a1))) else (bif (a0==6) then ((Xa4 (a1==0)).bind λv3=>some v3) else (bif (a0==7) then (some (IntKind.i64.wrap (a1*a2))) else (bif (a0==8) then (some (IntKind.i64.wrap (a1+a2))) else (bif (a0==9) then (some (IntKind.i64.wrap (a1 - a2))) else (bif (a0==10) then ((Xc8 a2).bind λv9=>(Xc7 v9).bind λv11=>some (IntKind.i64.wrap (a1*v11))) else (bif (a0==11) then ((X4y  a2 FU a1 0).bind λo30=>match o30 with|.x0 X03i=>(some X03i)) else (bif (a0==18) then ((Xa4 (bif (a1 != 0) then (a2 != 0) else false)).bind λv33=>some v33) else (bif (a0==19) then ((Xa4 (bif (a1 != 0) then true else (a2 != 0))).bind λv36=>some v36) else ((Xg7 a0 a1 a2).bind λv38=>(Xa4 v38).bind λv40=>some v40)))))))))
def X15:Nat->(List X1)->Int->X04->Option (Int)
 |0,_,_,_=>none
 |n+1,a0,a1,a2=>(getI a0 a1).bind λe1=>bif (e1.Kind==1) then (some e1.N) else (bif (e1.Kind==2) then (some a2.Key) else (bif (e1.Kind==3) then (some a2.Time) else (bif (e1.Kind==4) then (some a2.Value) else ((X1w e1.Kind).bind λv7=>(bif (v7==2) then (((X15 n) a0 e1.B a2).bind λv14=>some v14) else (some 0):Option (Int)).bind λX0eo=>((X15 n) a0 e1.A a2).bind λv17=>(X55 e1.Kind v17 X0eo).bind λv19=>some v19))))
end
end Go.D
