/- Printed by decomp.py: the functions. -/
import Derived.Test.YtmkegegjcihooaaGreatDTypesZ
import Derived.Test.YtmkegegjcihooaaGreatAvSortF1
set_option linter.all false

namespace Go.D
open Go.Av
noncomputable section
def Xc0 (a0:Xv):Option (Bool) :=
 (bif (decide ((List.length a0.Pending:Int)>(100:Int))) then (bif (decide ((List.length a0.Pending:Int)<(3990:Int))) then (some (bif (bif (decide ((List.length a0.Pending:Int)>(100:Int))) then (decide ((List.length a0.Pending:Int)<(3990:Int))) else false) then true else false)) else (some (bif (bif (decide ((List.length a0.Pending:Int)>(100:Int))) then (decide ((List.length a0.Pending:Int)<(3990:Int))) else false) then true else (decide ((List.length a0.Pending:Int)>(4010:Int)))))) else (some (bif (bif (decide ((List.length a0.Pending:Int)>(100:Int))) then false else false) then true else (decide ((List.length a0.Pending:Int)>(4010:Int))))):Option (Bool)).bind λX07j=>bif X07j then (some true) else ((bif (decide ((List.length a0.Rows:Int)>(100:Int))) then (bif (decide ((List.length a0.Rows:Int)<(3990:Int))) then (some (bif (bif (decide ((List.length a0.Rows:Int)>(100:Int))) then (decide ((List.length a0.Rows:Int)<(3990:Int))) else false) then true else false)) else (some (bif (bif (decide ((List.length a0.Rows:Int)>(100:Int))) then (decide ((List.length a0.Rows:Int)<(3990:Int))) else false) then true else (decide ((List.length a0.Rows:Int)>(4010:Int)))))) else (some (bif (bif (decide ((List.length a0.Rows:Int)>(100:Int))) then false else false) then true else (decide ((List.length a0.Rows:Int)>(4010:Int))))):Option (Bool)).bind λXzm=>bif Xzm then (some true) else ((bif (decide ((List.length a0.Late:Int)>(100:Int))) then (bif (decide ((List.length a0.Late:Int)<(3990:Int))) then (some (bif (bif (decide ((List.length a0.Late:Int)>(100:Int))) then (decide ((List.length a0.Late:Int)<(3990:Int))) else false) then true else false)) else (some (bif (bif (decide ((List.length a0.Late:Int)>(100:Int))) then (decide ((List.length a0.Late:Int)<(3990:Int))) else false) then true else (decide ((List.length a0.Late:Int)>(4010:Int)))))) else (some (bif (bif (decide ((List.length a0.Late:Int)>(100:Int))) then false else false) then true else (decide ((List.length a0.Late:Int)>(4010:Int))))):Option (Bool)).bind λXzi=>bif Xzi then (some true) else ((bif (decide ((List.length a0.Store:Int)>(100:Int))) then (some (bif (bif (decide ((List.length a0.Store:Int)>(100:Int))) then true else false) then true else false)) else (bif (decide ((List.length a0.Events:Int)>(100:Int))) then (some (bif (bif (decide ((List.length a0.Store:Int)>(100:Int))) then true else (decide ((List.length a0.Events:Int)>(100:Int)))) then true else false)) else (some (bif (bif (decide ((List.length a0.Store:Int)>(100:Int))) then true else (decide ((List.length a0.Events:Int)>(100:Int)))) then true else (decide ((List.length a0.Marks:Int)>(20:Int)))))):Option (Bool)).bind λX07w=>some X07w)))
def Xe9 (a0:X0e):Option (Bool) :=
 some (decide ((List.length a0.List:Int)>(20:Int)))
inductive X73 where
 |x0
 |x1
def X44 (Xe:Xf):Nat->Int->Option X73
 |0,_=>none
 |n+1,X6v=>bif (decide (X6v<(List.length Xe.Tasks:Int))) then ((X14 Xe.Tasks X6v).bind λe30=>(Xc0 e30).bind λv32=>bif v32 then (some (.x0)) else (X44 Xe n (IntKind.i64.wrap (X6v+1)))) else (some (.x1))
inductive X72 where
 |x0
 |x1
def X43 (X09:Xf):Nat->Int->Option X72
 |0,_=>none
 |n+1,Xb6=>bif (decide (Xb6<(List.length X09.Queues:Int))) then ((X14 X09.Queues Xb6).bind λe51=>(Xe9 e51).bind λv53=>bif v53 then (some (.x0)) else (X43 X09 n (IntKind.i64.wrap (Xb6+1)))) else (some (.x1))
def Xbw (a0:Xf):Option (Bool) :=
 (bif (decide ((List.length a0.Graph.Ops:Int)>(30:Int))) then (some (bif (bif (bif (bif (bif (bif (decide ((List.length a0.Graph.Ops:Int)>(30:Int))) then true else false) then true else false) then true else false) then true else false) then true else false) then true else false)) else (bif (decide ((List.length a0.Graph.Channels:Int)>(60:Int))) then (some (bif (bif (bif (bif (bif (bif (decide ((List.length a0.Graph.Ops:Int)>(30:Int))) then true else (decide ((List.length a0.Graph.Channels:Int)>(60:Int)))) then true else false) then true else false) then true else false) then true else false) then true else false)) else (bif (decide ((List.length a0.Tasks:Int)>(30:Int))) then (some (bif (bif (bif (bif (bif (bif (decide ((List.length a0.Graph.Ops:Int)>(30:Int))) then true else (decide ((List.length a0.Graph.Channels:Int)>(60:Int)))) then true else (decide ((List.length a0.Tasks:Int)>(30:Int)))) then true else false) then true else false) then true else false) then true else false)) else (bif (decide ((List.length a0.Queues:Int)>(60:Int))) then (some (bif (bif (bif (bif (bif (bif (decide ((List.length a0.Graph.Ops:Int)>(30:Int))) then true else (decide ((List.length a0.Graph.Channels:Int)>(60:Int)))) then true else (decide ((List.length a0.Tasks:Int)>(30:Int)))) then true else (decide ((List.length a0.Queues:Int)>(60:Int)))) then true else false) then true else false) then true else false)) else (bif (decide ((List.length a0.Query.Arg:Int)>(100:Int))) then (some (bif (bif (bif (bif (bif (bif (decide ((List.length a0.Graph.Ops:Int)>(30:Int))) then true else (decide ((List.length a0.Graph.Channels:Int)>(60:Int)))) then true else (decide ((List.length a0.Tasks:Int)>(30:Int)))) then true else (decide ((List.length a0.Queues:Int)>(60:Int)))) then true else (decide ((List.length a0.Query.Arg:Int)>(100:Int)))) then true else false) then true else false)) else (bif (decide ((List.length a0.Query.Where:Int)>(100:Int))) then (some (bif (bif (bif (bif (bif (bif (decide ((List.length a0.Graph.Ops:Int)>(30:Int))) then true else (decide ((List.length a0.Graph.Channels:Int)>(60:Int)))) then true else (decide ((List.length a0.Tasks:Int)>(30:Int)))) then true else (decide ((List.length a0.Queues:Int)>(60:Int)))) then true else (decide ((List.length a0.Query.Arg:Int)>(100:Int)))) then true else (decide ((List.length a0.Query.Where:Int)>(100:Int)))) then true else false)) else (some (bif (bif (bif (bif (bif (bif (decide ((List.length a0.Graph.Ops:Int)>(30:Int))) then true else (decide ((List.length a0.Graph.Channels:Int)>(60:Int)))) then true else (decide ((List.length a0.Tasks:Int)>(30:Int)))) then true else (decide ((List.length a0.Queues:Int)>(60:Int)))) then true else (decide ((List.length a0.Query.Arg:Int)>(100:Int)))) then true else (decide ((List.length a0.Query.Where:Int)>(100:Int)))) then true else (decide ((List.length a0.Query.Sources:Int)>(20:Int)))))))))):Option (Bool)).bind λX074=>bif X074 then (some true) else ((X44  a0 FU 0).bind λo35=>match o35 with|.x0=>(some true)|.x1=>((X43  a0 FU 0).bind λo56=>match o56 with|.x0=>(some true)|.x1=>(some false)))
def Xdl (a0:Xv):Option (Xv) :=
 bif (List.isEmpty a0.Pending) then (bif (List.isEmpty a0.Marks) then (bif (List.isEmpty a0.Store) then (bif (List.isEmpty a0.Events) then (bif (List.isEmpty a0.Rows) then (bif (List.isEmpty a0.Late) then (some a0) else ((X0a (List.length a0.Late) 24).bind λu7=>some a0)) else ((X0a (List.length a0.Rows) 40).bind λu9=>bif (List.isEmpty a0.Late) then (some a0) else ((X0a (List.length a0.Late) 24).bind λu12=>some a0))) else ((X0a (List.length a0.Events) 40).bind λu14=>bif (List.isEmpty a0.Rows) then (bif (List.isEmpty a0.Late) then (some a0) else ((X0a (List.length a0.Late) 24).bind λu18=>some a0)) else ((X0a (List.length a0.Rows) 40).bind λu20=>bif (List.isEmpty a0.Late) then (some a0) else ((X0a (List.length a0.Late) 24).bind λu23=>some a0)))) else ((X0a (List.length a0.Store) 88).bind λu25=>bif (List.isEmpty a0.Events) then (bif (List.isEmpty a0.Rows) then (bif (List.isEmpty a0.Late) then (some a0) else ((X0a (List.length a0.Late) 24).bind λu30=>some a0)) else ((X0a (List.length a0.Rows) 40).bind λu32=>bif (List.isEmpty a0.Late) then (some a0) else ((X0a (List.length a0.Late) 24).bind λu35=>some a0))) else ((X0a (List.length a0.Events) 40).bind λu37=>bif (List.isEmpty a0.Rows) then (bif (List.isEmpty a0.Late) then (some a0) else ((X0a (List.length a0.Late) 24).bind λu41=>some a0)) else ((X0a (List.length a0.Rows) 40).bind λu43=>bif (List.isEmpty a0.Late) then (some a0) else ((X0a (List.length a0.Late) 24).bind λu46=>some a0))))) else ((X0a (List.length a0.Marks) 8).bind λu48=>bif (List.isEmpty a0.Store) then (bif (List.isEmpty a0.Events) then (bif (List.isEmpty a0.Rows) then (bif (List.isEmpty a0.Late) then (some a0) else ((X0a (List.length a0.Late) 24).bind λu54=>some a0)) else ((X0a (List.length a0.Rows) 40).bind λu56=>bif (List.isEmpty a0.Late) then (some a0) else ((X0a (List.length a0.Late) 24).bind λu59=>some a0))) else ((X0a (List.length a0.Events) 40).bind λu61=>bif (List.isEmpty a0.Rows) then (bif (List.isEmpty a0.Late) then (some a0) else ((X0a (List.length a0.Late) 24).bind λu65=>some a0)) else ((X0a (List.length a0.Rows) 40).bind λu67=>bif (List.isEmpty a0.Late) then (some a0) else ((X0a (List.length a0.Late) 24).bind λu70=>some a0)))) else ((X0a (List.length a0.Store) 88).bind λu72=>bif (List.isEmpty a0.Events) then (bif (List.isEmpty a0.Rows) then (bif (List.isEmpty a0.Late) then (some a0) else ((X0a (List.length a0.Late) 24).bind λu77=>some a0)) else ((X0a (List.length a0.Rows) 40).bind λu79=>bif (List.isEmpty a0.Late) then (some a0) else ((X0a (List.length a0.Late) 24).bind λu82=>some a0))) else ((X0a (List.length a0.Events) 40).bind λu84=>bif (List.isEmpty a0.Rows) then (bif (List.isEmpty a0.Late) then (some a0) else ((X0a (List.length a0.Late) 24).bind λu88=>some a0)) else ((X0a (List.length a0.Rows) 40).bind λu90=>bif (List.isEmpty a0.Late) then (some a0) else ((X0a (List.length a0.Late) 24).bind λu93=>some a0)))))) else ((X0a (List.length a0.Pending) 88).bind λu95=>bif (List.isEmpty a0.Marks) then (bif (List.isEmpty a0.Store) then (bif (List.isEmpty a0.Events) then (bif (List.isEmpty a0.Rows) then (bif (List.isEmpty a0.Late) then (some a0) else ((X0a (List.length a0.Late) 24).bind λu102=>some a0)) else ((X0a (List.length a0.Rows) 40).bind λu104=>bif (List.isEmpty a0.Late) then (some a0) else ((X0a (List.length a0.Late) 24).bind λu107=>some a0))) else ((X0a (List.length a0.Events) 40).bind λu109=>bif (List.isEmpty a0.Rows) then (bif (List.isEmpty a0.Late) then (some a0) else ((X0a (List.length a0.Late) 24).bind λu113=>some a0)) else ((X0a (List.length a0.Rows) 40).bind λu115=>bif (List.isEmpty a0.Late) then (some a0) else ((X0a (List.length a0.Late) 24).bind λu118=>some a0)))) else ((X0a (List.length a0.Store) 88).bind λu120=>bif (List.isEmpty a0.Events) then (bif (List.isEmpty a0.Rows) then (bif (List.isEmpty a0.Late) then (some a0) else ((X0a (List.length a0.Late) 24).bind λu125=>some a0)) else ((X0a (List.length a0.Rows) 40).bind λu127=>bif (List.isEmpty a0.Late) then (some a0) else ((X0a (List.length a0.Late) 24).bind λu130=>some a0))) else ((X0a (List.length a0.Events) 40).bind λu132=>bif (List.isEmpty a0.Rows) then (bif (List.isEmpty a0.Late) then (some a0) else ((X0a (List.length a0.Late) 24).bind λu136=>some a0)) else ((X0a (List.length a0.Rows) 40).bind λu138=>bif (List.isEmpty a0.Late) then (some a0) else ((X0a (List.length a0.Late) 24).bind λu141=>some a0))))) else ((X0a (List.length a0.Marks) 8).bind λu143=>bif (List.isEmpty a0.Store) then (bif (List.isEmpty a0.Events) then (bif (List.isEmpty a0.Rows) then (bif (List.isEmpty a0.Late) then (some a0) else ((X0a (List.length a0.Late) 24).bind λu149=>some a0)) else ((X0a (List.length a0.Rows) 40).bind λu151=>bif (List.isEmpty a0.Late) then (some a0) else ((X0a (List.length a0.Late) 24).bind λu154=>some a0))) else ((X0a (List.length a0.Events) 40).bind λu156=>bif (List.isEmpty a0.Rows) then (bif (List.isEmpty a0.Late) then (some a0) else ((X0a (List.length a0.Late) 24).bind λu160=>some a0)) else ((X0a (List.length a0.Rows) 40).bind λu162=>bif (List.isEmpty a0.Late) then (some a0) else ((X0a (List.length a0.Late) 24).bind λu165=>some a0)))) else ((X0a (List.length a0.Store) 88).bind λu167=>bif (List.isEmpty a0.Events) then (bif (List.isEmpty a0.Rows) then (bif (List.isEmpty a0.Late) then (some a0) else ((X0a (List.length a0.Late) 24).bind λu172=>some a0)) else ((X0a (List.length a0.Rows) 40).bind λu174=>bif (List.isEmpty a0.Late) then (some a0) else ((X0a (List.length a0.Late) 24).bind λu177=>some a0))) else ((X0a (List.length a0.Events) 40).bind λu179=>bif (List.isEmpty a0.Rows) then (bif (List.isEmpty a0.Late) then (some a0) else ((X0a (List.length a0.Late) 24).bind λu183=>some a0)) else ((X0a (List.length a0.Rows) 40).bind λu185=>bif (List.isEmpty a0.Late) then (some a0) else ((X0a (List.length a0.Late) 24).bind λu188=>some a0))))))
def Xdn (a0:X0e):Option (X0e) :=
 bif (List.isEmpty a0.List) then (some a0) else ((X0a (List.length a0.List) 80).bind λu2=>some a0)
inductive X8n where
 |x0 (Xz:(List X0e))
def X2b (X08:(List X0e)):List X0e->Nat->(List X0e)->Option X8n
 |[],k,Xe=>some (.x0 Xe)
 |x::xs,k,Xe=>(Xdn x).bind λv20=>(X0a (List.length (Xe++[v20])) 32).bind λu22=>X2b X08 xs (k+1) (Xe++[v20])
def Xav (a0:(List X0e)):Option ((List X0e)) :=
 (X4k (List.length a0)).bind λu1=>(X2b  a0 a0 0 ([]:List X0e)).bind λo28=>match o28 with|.x0 Xz=>(some Xz)
inductive Xbv where
 |x0 (Xf3:(List Xv))
def X6j (Xe:Xf) (Xj:Xf):Nat->(List Xv)->Int->Option Xbv
 |0,_,_=>none
 |n+1,Xa9,Xgp=>bif (decide (Xgp<(List.length Xe.Tasks:Int))) then ((X14 Xe.Tasks Xgp).bind λe31=>(Xdl e31).bind λv33=>(X0a (List.length (Xa9++[v33])) 168).bind λu35=>X6j Xe Xj n (Xa9++[v33]) (IntKind.i64.wrap (Xgp+1))) else (some (.x0 Xa9))
def Xdh (a0:Xf):Option (Xf) :=
 (X6j  a0 (Xf.mk (X1t.mk 0 ([]:List X02) ([]:List Int) false ([]:List X02) (X5v.mk 0 0 0) false 0) (Xt.mk ([]:List GOp) ([]:List Xk)) ([]:List Xv) ([]:List X0e)) FU ([]:List Xv) 0).bind λo44=>match o44 with|.x0 Xf3=>((Xav a0.Queues).bind λv46=>some (Xf.mk a0.Query a0.Graph Xf3 v46))
def Xcb (a0:Int):Option (Int×Int) :=
 bif (bif (decide (a0 >= (1:Int))) then (decide (a0<=(4:Int))) else false) then (some (0,0)) else (bif (bif (a0==(5:Int)) then true else (a0==(6:Int))) then (some (1,0)) else (bif (bif (decide (a0 >= (7:Int))) then (decide (a0<=(19:Int))) else false) then (some (2,0)) else (some (0,2))))
inductive X69 where
 |x0 (Xz:(List Xh)) (X0y:(List Xh))
 |x1 (X2o:(List Xh))
def X1z (X64:(List X02)):List X02->Nat->(List Xh)->(List Xh)->Option X69
 |[],k,Xe,Xj=>some (.x0 Xe Xj)
 |x::xs,k,Xe,Xj=>(Xcb x.Kind).bind λv318=>(bif (v318.2 != (0:Int)) then (some (bif (v318.2 != (0:Int)) then true else false)) else (some (bif (v318.2 != (0:Int)) then true else (decide (v318.1>(List.length Xj:Int))))):Option (Bool)).bind λXsl=>bif Xsl then (some (.x1 Xe)) else ((X8h Xj 0 (IntKind.i64.wrap ((List.length Xj:Int) - v318.1))).bind λm331=>(X8h Xj (IntKind.i64.wrap ((List.length Xj:Int) - v318.1)) (List.length Xj:Int)).bind λm333=>bif (List.isEmpty m333) then ((bif (x.Kind==(1:Int)) then (some (X02.mk x.Kind (if 0>x.N then 0 else x.N) 0 0 (if 400<(if 0>x.At then 0 else x.At) then 400 else (if 0>x.At then 0 else x.At)))) else (some (X02.mk x.Kind 0 0 0 (if 400<(if 0>x.At then 0 else x.At) then 400 else (if 0>x.At then 0 else x.At)))):Option (X02)).bind λXsk=>bif (!(X94 Xsk x)) then (some (.x1 Xe)) else ((X0a (List.length (m331++[(Xh.mk (k:Int) 1 1)])) 24).bind λu341=>(X0a (List.length (Xe++[(Xh.mk (k:Int) 1 1)])) 24).bind λu343=>X1z X64 xs (k+1) (Xe++[(Xh.mk (k:Int) 1 1)]) (m331++[(Xh.mk (k:Int) 1 1)]))) else (bif ((List.length m333:Int)==(1:Int)) then ((X14 m333 0).bind λe346=>(bif (x.Kind==(1:Int)) then (some (X02.mk x.Kind (if 0>x.N then 0 else x.N) e346.at_ 0 (if 400<(if 0>x.At then 0 else x.At) then 400 else (if 0>x.At then 0 else x.At)))) else (some (X02.mk x.Kind 0 e346.at_ 0 (if 400<(if 0>x.At then 0 else x.At) then 400 else (if 0>x.At then 0 else x.At)))):Option (X02)).bind λXsj=>bif (!(X94 Xsj x)) then (some (.x1 Xe)) else ((X0a (List.length (m331++[(Xh.mk (k:Int) (IntKind.i64.wrap (1+e346.size)) (if (IntKind.i64.wrap (e346.depth+1))>1 then (IntKind.i64.wrap (e346.depth+1)) else 1))])) 24).bind λu353=>(X0a (List.length (Xe++[(Xh.mk (k:Int) (IntKind.i64.wrap (1+e346.size)) (if (IntKind.i64.wrap (e346.depth+1))>1 then (IntKind.i64.wrap (e346.depth+1)) else 1))])) 24).bind λu355=>X1z X64 xs (k+1) (Xe++[(Xh.mk (k:Int) (IntKind.i64.wrap (1+e346.size)) (if (IntKind.i64.wrap (e346.depth+1))>1 then (IntKind.i64.wrap (e346.depth+1)) else 1))]) (m331++[(Xh.mk (k:Int) (IntKind.i64.wrap (1+e346.size)) (if (IntKind.i64.wrap (e346.depth+1))>1 then (IntKind.i64.wrap (e346.depth+1)) else 1))]))) else (bif ((List.length m333:Int)==(2:Int)) then ((X14 m333 0).bind λe358=>(X14 m333 1).bind λe360=>(bif (x.Kind==(1:Int)) then (some (X02.mk x.Kind (if 0>x.N then 0 else x.N) e358.at_ e360.at_ (if 400<(if 0>x.At then 0 else x.At) then 400 else (if 0>x.At then 0 else x.At)))) else (some (X02.mk x.Kind 0 e358.at_ e360.at_ (if 400<(if 0>x.At then 0 else x.At) then 400 else (if 0>x.At then 0 else x.At)))):Option (X02)).bind λXsi=>bif (!(X94 Xsi x)) then (some (.x1 Xe)) else ((X0a (List.length (m331++[(Xh.mk (k:Int) (IntKind.i64.wrap ((IntKind.i64.wrap (1+e358.size))+e360.size)) (if (IntKind.i64.wrap (e360.depth+1))>(if (IntKind.i64.wrap (e358.depth+1))>1 then (IntKind.i64.wrap (e358.depth+1)) else 1) then (IntKind.i64.wrap (e360.depth+1)) else (if (IntKind.i64.wrap (e358.depth+1))>1 then (IntKind.i64.wrap (e358.depth+1)) else 1)))])) 24).bind λu367=>(X0a (List.length (Xe++[(Xh.mk (k:Int) (IntKind.i64.wrap ((IntKind.i64.wrap (1+e358.size))+e360.size)) (if (IntKind.i64.wrap (e360.depth+1))>(if (IntKind.i64.wrap (e358.depth+1))>1 then (IntKind.i64.wrap (e358.depth+1)) else 1) then (IntKind.i64.wrap (e360.depth+1)) else (if (IntKind.i64.wrap (e358.depth+1))>1 then (IntKind.i64.wrap (e358.depth+1)) else 1)))])) 24).bind λu369=>X1z X64 xs (k+1) (Xe++[(Xh.mk (k:Int) (IntKind.i64.wrap ((IntKind.i64.wrap (1+e358.size))+e360.size)) (if (IntKind.i64.wrap (e360.depth+1))>(if (IntKind.i64.wrap (e358.depth+1))>1 then (IntKind.i64.wrap (e358.depth+1)) else 1) then (IntKind.i64.wrap (e360.depth+1)) else (if (IntKind.i64.wrap (e358.depth+1))>1 then (IntKind.i64.wrap (e358.depth+1)) else 1)))]) (m331++[(Xh.mk (k:Int) (IntKind.i64.wrap ((IntKind.i64.wrap (1+e358.size))+e360.size)) (if (IntKind.i64.wrap (e360.depth+1))>(if (IntKind.i64.wrap (e358.depth+1))>1 then (IntKind.i64.wrap (e358.depth+1)) else 1) then (IntKind.i64.wrap (e360.depth+1)) else (if (IntKind.i64.wrap (e358.depth+1))>1 then (IntKind.i64.wrap (e358.depth+1)) else 1)))]))) else none)))
def Xg3 (a0:(List X02)):Option ((List Xh)×Bool) :=
 (X4k (List.length a0)).bind λu1=>(X1z  a0 a0 0 ([]:List Xh) ([]:List Xh)).bind λo475=>match o475 with|.x0 Xz X0y=>(some (Xz,((List.length X0y:Int)==(1:Int))))|.x1 X2o=>(some (X2o,false))
def Xca (a0:(List X02)):Option ((List Xh)×Int) :=
 bif (decide ((List.length a0:Int)>(60:Int))) then (some (([]:List Xh),4)) else ((Xg3 a0).bind λv2=>bif (!v2.2) then (some (([]:List Xh),8)) else ((X14 v2.1 (IntKind.i64.wrap ((List.length v2.1:Int) - 1))).bind λe5=>bif (decide (e5.depth>(20:Int))) then (some (([]:List Xh),34)) else (some (v2.1,0))))
def X6a (a0:(List X02)):Option (Int) :=
 (Xca a0).bind λv1=>some v1.2
def X6o (a0:Int):Option (Bool) :=
 some (bif (decide (a0<(0:Int))) then true else (decide (a0 >= (4:Int))))
inductive X1x where
 |x0
 |x1 (Xnt:Int)
def X0m (X08:(List Int)):List Int->Nat->Option X1x
 |[],k=>some (.x0)
 |x::xs,k=>(X6o x).bind λv10=>bif v10 then (some (.x1 (k:Int))) else (X0m X08 xs (k+1))
def X0k (a0:(List Int)):Option (Int) :=
 (X4k (List.length a0)).bind λu1=>(X0m  a0 a0 0).bind λo13=>match o13 with|.x0=>(some (-1))|.x1 Xnt=>(some Xnt)
def Xx (a0:(List Int)):Option (Bool) :=
 (X0k a0).bind λv1=>some (decide (v1 >= (0:Int)))
def X30 (l:List Int):Option Int:=(X4k (List.length l)).bind λ_=>some ((Xag [] l).length:Int)
def X28 (a0:(List Int)) (a1:Bool):Option (Int) :=
 bif (decide ((List.length a0:Int)>(4:Int))) then (some 4) else ((bif ((List.length a0:Int)==(0:Int)) then (some (bif (bif ((List.length a0:Int)==(0:Int)) then true else false) then true else false)) else (bif a1 then (bif ((List.length a0:Int) != (2:Int)) then (some (bif (bif ((List.length a0:Int)==(0:Int)) then true else (bif a1 then ((List.length a0:Int) != (2:Int)) else false)) then true else false)) else ((Xx a0).bind λv13=>some (bif (bif ((List.length a0:Int)==(0:Int)) then true else (bif a1 then ((List.length a0:Int) != (2:Int)) else false)) then true else v13))) else ((Xx a0).bind λv15=>some (bif (bif ((List.length a0:Int)==(0:Int)) then true else (bif a1 then false else false)) then true else v15))):Option (Bool)).bind λX06z=>bif X06z then (some 8) else ((X30 a0).bind λv19=>bif (decide (v19<(List.length a0:Int))) then (some 43) else (some 0)))
def X1e (a0:X5v):Option (Int) :=
 bif (bif (decide (a0.Size<(1:Int))) then true else (decide (a0.Size>(1073741824:Int)))) then (some 8) else (bif (a0.Kind==(2:Int)) then (bif (bif (bif (decide (a0.Every >= (1:Int))) then (decide (a0.Every<=a0.Size)) else false) then (decide (a0.Size<=(IntKind.i64.wrap (16*a0.Every)))) else false) then (some 0) else (some 8)) else (bif (a0.Kind==(1:Int)) then (bif (a0.Every==(0:Int)) then (some 0) else (some 8)) else (bif (a0.Kind==(3:Int)) then (bif (a0.Every==(0:Int)) then (some 0) else (some 8)) else (some 8))))
def X98 (a0:X1t):Option (Int) :=
 bif (bif (bif (decide (a0.Agg<(1:Int))) then true else (decide (a0.Agg>(4:Int)))) then true else (bif (a0.Late != (1:Int)) then (a0.Late != (2:Int)) else false)) then (some 8) else (bif (a0.Agg != (1:Int)) then ((X6a a0.Arg).bind λv3=>bif (v3 != (0:Int)) then (some v3) else (bif (decide ((List.length a0.Where:Int)>(0:Int))) then ((X6a a0.Where).bind λv7=>bif (v7 != (0:Int)) then (some v7) else ((X28 a0.Sources a0.Join).bind λv10=>bif (v10 != (0:Int)) then (some v10) else (bif (bif a0.Join then (a0.Window.Kind != (1:Int)) else false) then (some 8) else ((X1e a0.Window).bind λv14=>some v14)))) else ((X28 a0.Sources a0.Join).bind λv16=>bif (v16 != (0:Int)) then (some v16) else (bif (bif a0.Join then (a0.Window.Kind != (1:Int)) else false) then (some 8) else ((X1e a0.Window).bind λv20=>some v20))))) else (bif (decide ((List.length a0.Arg:Int)>(0:Int))) then (some 8) else (bif (decide ((List.length a0.Where:Int)>(0:Int))) then ((X6a a0.Where).bind λv24=>bif (v24 != (0:Int)) then (some v24) else ((X28 a0.Sources a0.Join).bind λv27=>bif (v27 != (0:Int)) then (some v27) else (bif (bif a0.Join then (a0.Window.Kind != (1:Int)) else false) then (some 8) else ((X1e a0.Window).bind λv31=>some v31)))) else ((X28 a0.Sources a0.Join).bind λv33=>bif (v33 != (0:Int)) then (some v33) else (bif (bif a0.Join then (a0.Window.Kind != (1:Int)) else false) then (some 8) else ((X1e a0.Window).bind λv37=>some v37))))))
inductive X23 where
 |x0
 |x1
def X0b (Xj:(List Bool)) (Xa9:(V2 Bool)) (Xk2:(List Int)):List Int->Nat->Option X23
 |[],k=>some (.x0)
 |x::xs,k=>(X14 Xj x).bind λe3011=>bif (!(e3011==false)) then (some (.x1)) else (X0b Xj Xa9 Xk2 xs (k+1))
inductive X1s where
 |x0
 |x1
def X0d (Xj:(List Bool)) (Xmz:(List Int)):List Int->Nat->Option X1s
 |[],k=>some (.x0)
 |x::xs,k=>(X14 Xj x).bind λe3127=>bif (!(e3127==true)) then (some (.x1)) else (X0d Xj Xmz xs (k+1))
inductive X6b where
 |x0 (X0y:(List Bool))
 |x1 (X2o:(List Bool)) (Xnu:Int)
def X1j (X08:(List X02)):List X02->Nat->(List Bool)->Option X6b
 |[],k,Xj=>some (.x0 Xj)
 |x::xs,k,Xj=>bif (decide (x.Kind<=(4:Int))) then ((X0a (List.length (Xj++[false])) 1).bind λu2525=>X1j X08 xs (k+1) (Xj++[false])) else (bif (x.Kind==(5:Int)) then (((X14 Xj x.A).bind λe2546=>bif (!(e2546==false)) then (some (bif (!(bif true then false else false)) then (!(bif false then false else false)) else false)) else (some (bif (!(bif true then true else false)) then false else false)):Option (Bool)).bind λXpm=>bif Xpm then (some (.x1 ([]:List Bool) (k:Int))) else ((X0a (List.length (Xj++[false])) 1).bind λu2551=>X1j X08 xs (k+1) (Xj++[false]))) else (bif (x.Kind==(6:Int)) then (((X14 Xj x.A).bind λe2571=>bif (!(e2571==true)) then (some false) else (some true):Option (Bool)).bind λXpl=>bif (bif (!(bif false then false else false)) then (!(bif true then Xpl else false)) else false) then (some (.x1 ([]:List Bool) (k:Int))) else ((X0a (List.length (Xj++[true])) 1).bind λu2576=>X1j X08 xs (k+1) (Xj++[true]))) else ((bif (decide (x.Kind<=(11:Int))) then (some ((V2.mk true false),false)) else (bif (decide (x.Kind<=(15:Int))) then (some ((V2.mk true false),true)) else (bif (decide (x.Kind<=(17:Int))) then (some ((V2.mk true true),true)) else (some ((V2.mk false true),true)))):Option ((V2 Bool)×Bool)).bind λw2581=>(bif w2581.1.e0 then (((X4k (List.length [x.A,x.B])).bind λu2980=>(X0b  Xj w2581.1 [x.A,x.B] [x.A,x.B] 0).bind λo3016=>match o3016 with|.x0=>(some true)|.x1=>(some false):Option (Bool)).bind λXeh=>bif (!(bif w2581.1.e0 then Xeh else false)) then (bif w2581.1.e1 then (((X4k (List.length [x.A,x.B])).bind λu3096=>(X0d  Xj [x.A,x.B] [x.A,x.B] 0).bind λo3132=>match o3132 with|.x0=>(some true)|.x1=>(some false):Option (Bool)).bind λXpj=>some (bif (!(bif w2581.1.e0 then Xeh else false)) then (!(bif w2581.1.e1 then Xpj else false)) else false)) else (some (bif (!(bif w2581.1.e0 then Xeh else false)) then (!(bif w2581.1.e1 then false else false)) else false))) else (some (bif (!(bif w2581.1.e0 then Xeh else false)) then false else false))) else (bif (!(bif w2581.1.e0 then false else false)) then (bif w2581.1.e1 then (((X4k (List.length [x.A,x.B])).bind λu3192=>(X0d  Xj [x.A,x.B] [x.A,x.B] 0).bind λo3218=>match o3218 with|.x0=>(some true)|.x1=>(some false):Option (Bool)).bind λXpi=>some (bif (!(bif w2581.1.e0 then false else false)) then (!(bif w2581.1.e1 then Xpi else false)) else false)) else (some (bif (!(bif w2581.1.e0 then false else false)) then (!(bif w2581.1.e1 then false else false)) else false))) else (some (bif (!(bif w2581.1.e0 then false else false)) then false else false))):Option (Bool)).bind λXpk=>bif Xpk then (some (.x1 ([]:List Bool) (k:Int))) else ((X0a (List.length (Xj++[w2581.2])) 1).bind λu3223=>X1j X08 xs (k+1) (Xj++[w2581.2])))))
def Xg7 (a0:(List X02)):Option ((List Bool)×Int) :=
 (X4k (List.length a0)).bind λu1=>(X1j  a0 a0 0 ([]:List Bool)).bind λo3784=>match o3784 with|.x0 X0y=>(some (X0y,(List.length a0:Int)))|.x1 X2o Xnu=>(some (X2o,Xnu))
def Xhv (a0:(List X02)):Option (Bool×Int×Int) :=
 (X6a a0).bind λv1=>bif (v1 != (0:Int)) then (some (false,0,v1)) else ((Xg7 a0).bind λv4=>bif (decide (v4.2<(List.length a0:Int))) then (some (false,v4.2,42)) else ((X14 v4.1 (IntKind.i64.wrap (v4.2 - 1))).bind λe7=>some (e7,(IntKind.i64.wrap (v4.2 - 1)),0)))
def Xbc (a0:(List X02)) (a1:Bool):Option (Int×Int) :=
 (Xhv a0).bind λv1=>(bif (bif (v1.2.2==(0:Int)) then (!(v1.1==a1)) else false) then (some 42) else (some v1.2.2):Option (Int)).bind λj4_8=>some (v1.2.1,j4_8)
def Xcc (a0:(List X02)):Option (Int×Int) :=
 (Xbc a0 true).bind λv1=>some (v1.1,v1.2)
def Xcs (a0:(List X02)):Option (Int×Int) :=
 (Xbc a0 false).bind λv1=>some (v1.1,v1.2)
def Xah (a0:X1t):Option (Int×Int) :=
 (X98 a0).bind λv1=>bif (v1 != (0:Int)) then (some (0,v1)) else ((bif ((List.length a0.Arg:Int)==(0:Int)) then (bif ((List.length a0.Where:Int)==(0:Int)) then (some (0,0)) else ((Xcc a0.Where).bind λv25=>bif (v25.2 != (0:Int)) then ((X14 a0.Where v25.1).bind λe28=>some (e28.At,v25.2)) else (some (0,0)))) else ((Xcs a0.Arg).bind λv30=>bif (v30.2 != (0:Int)) then ((X14 a0.Arg v30.1).bind λe33=>some (e33.At,v30.2)) else (bif ((List.length a0.Where:Int)==(0:Int)) then (some (0,0)) else ((Xcc a0.Where).bind λv36=>bif (v36.2 != (0:Int)) then ((X14 a0.Where v36.1).bind λe39=>some (e39.At,v36.2)) else (some (0,0))))):Option (Int×Int)).bind λw22=>some (w22.1,w22.2))
def X19 (a0:Int):Option ((V2 Int)×(V2 Int)) :=
 bif (a0==(1:Int)) then (some ((V2.mk 0 0),(V2.mk 1 1))) else (bif (a0==(2:Int)) then (some ((V2.mk 1 1),(V2.mk 1 2))) else (bif (a0==(3:Int)) then (some ((V2.mk 1 1),(V2.mk 1 3))) else (bif (a0==(4:Int)) then (some ((V2.mk 1 4),(V2.mk 1 1))) else (bif (a0==(5:Int)) then (some ((V2.mk 2 2),(V2.mk 1 1))) else (bif (a0==(6:Int)) then (some ((V2.mk 1 3),(V2.mk 0 0))) else (some ((V2.mk 1 4),(V2.mk 0 0))))))))
def jB1 (N:Nat) (x:Xk):Bool:=bif (bif (bif decide ((if x.To<x.From then x.To else x.From)<0) then true else decide ((if x.To>x.From then x.To else x.From) >= (N:Int))) then true else decide (x.Room<1)) then true else decide (x.Room>8)
def jB2 (k:Nat) (b x:Xk):Bool:=bif decide ((k:Int)>0) then (bif decide (b.From>x.From) then true else bif b.From==x.From then decide (b.Out >= x.Out) else false) else false
def push (L:List (List Int)) (i x:Int):List (List Int):=L.set i.toNat ((L[i.toNat]?.getD [])++[x])
def Xar (N:Nat) (l:List Xk):List Xk->Nat->List (List Int)->List (List Int)->Option (List (List Int)×List (List Int))
 |[],_,li,lo=>some (li,lo)
 |x::xs,k,li,lo=>bif jB1 N x then none else bif jB2 k (l[k - 1]?.getD default) x then none else Xar N l xs (k+1) (push li x.To x.In) (push lo x.From x.Out)
theorem X00i {k:Nat}:(bif true then if (k:Int) - 1>0 then (k:Int) - 1 else 0 else if (k:Int) - 1<0 then (k:Int) - 1 else 0)=((k - 1:Nat):Int):=by
 simp only[cond_true];split<;>omega
theorem Xz3 {N:Nat} {x:Xk} (h:jB1 N x=false):0<=x.To/\x.To<N/\0<=x.From/\x.From<N:=by
 unfold jB1 at h;have h1:decide ((if x.To<x.From then x.To else x.From)<0)=false:=by revert h;cases decide ((if x.To<x.From then x.To else x.From)<0)<;>simp
 rw[h1,cond_false] at h;have h2:decide ((if x.To>x.From then x.To else x.From) >= (N:Int))=false:=by revert h;cases decide ((if x.To>x.From then x.To else x.From) >= (N:Int))<;>simp
 simp only[decide_eq_false_iff_not] at h1 h2;split at h1<;>split at h2<;>omega
theorem Xeq {l:List AV} {i j:Nat} {a:AV} (hj:j=i) (hl:i<l.length):(l.set j a)[i]?=some a:=by rw[hj];exact List.getElem?_set_self hl
theorem Xkw (L:List (List Int)) (i x:Int):(push L i x).length=L.length:=by unfold push;simp
theorem Xy7 {L:List (List Int)} {i x:Int} {k:Nat} (h:∀ l∈L,l.length<=k):∀ l∈push L i x,l.length<=k+1:=by
 intro l hl;unfold push at hl;rcases List.mem_or_eq_of_mem_set hl with h1|rfl
 ·exact Nat.le_succ_of_le (h l h1)
 ·rw[List.length_append]
  cases hg:L[i.toNat]? with
  |none=>simp
  |some l0=>have:=h l0 (List.mem_of_getElem? hg);simp;omega
theorem Xl7 {μ1 μ2 μ μi μo:Mu} {p q:Nat×MuE} (h1:(p::μ1).Perm μi) (h2:(q::μ2).Perm μo):(q::p::(μ1++(μ2++μ))).Perm (μi++(μo++μ)):=by
 refine(List.Perm.swap _ _ _).trans ?_;refine(List.Perm.cons p (List.perm_middle (a:=q) (l₁:=μ1) (l₂:=μ2++μ)).symm).trans ?_;show(p::(μ1++(q::μ2++μ))).Perm _;exact(List.Perm.append h1 (h2.append_right μ))
def X91:List Int->Nat->Bool
 |[],_=>true
 |z::r,k=>bif !(z==(k:Int)) then false else X91 r (k+1)
def X7q (l:List Int) (lo hi:Int):Bool:=bif X91 (X2f l) 0 then (bif decide ((l.length:Int) >= lo) then decide ((l.length:Int)<=hi) else false) else false
def X62:List GOp->List (List Int)->List (List Int)->Option Bool
 |[],_,_=>some true
 |o::os,li,lo=>(X19 o.Kind).bind λb=>bif X7q (li.headD []) b.1.e0 b.1.e1 then (bif X7q (lo.headD []) b.2.e0 b.2.e1 then X62 os li.tail lo.tail else some false) else some false
def X83 (g:Xt):Option Bool :=
 bif (decide (List.length g.Ops<=1000)&&decide (List.length g.Channels<=1000)) then (match Xar (List.length g.Ops) g.Channels g.Channels 0 (List.replicate (List.length g.Ops) []) (List.replicate (List.length g.Ops) []) with
  |none=>some false
  |some p=>X62 g.Ops p.1 p.2) else none
theorem Xu5 (x:Xk):jB1 0 x=true:=by
 unfold jB1;by_cases h1:(if x.To<x.From then x.To else x.From)<0
 ·rw[decide_eq_true h1];rfl
 ·have h2:(if x.To>x.From then x.To else x.From) >= ((0:Nat):Int):=by split<;>split at h1<;>omega
  rw[decide_eq_true h2];cases decide ((if x.To<x.From then x.To else x.From)<0)<;>rfl
theorem X15 {pi ti:List AV} {e x:AV} {k:Nat} (h:pi.length=k):(pi++e::ti).set k x=pi++x::ti:=by subst h;simp
theorem X03 {pi ti:List AV} {e:AV} {k:Nat} (h:pi.length=k):(pi++e::ti)[k]?=some e:=by subst h;simp
def X06l (l:List Xk):Option Unit:=bif l.all (λc=>decide (0<=c.To)) then some () else none
def Xcd (g:Xt):Option (List Int):=(X4k (List.length g.Ops)).bind λ_=>(X4k (List.length g.Channels)).bind λ_=>(X06l g.Channels).bind λ_=>ordL (List.length g.Ops) (g.Channels.map λc=>(c.From,c.To))
inductive X7h where
 |x0
 |x1
def X4m (Xe:Xt) (Xou:(List GOp)):List GOp->Nat->Option X7h
 |[],k=>some (.x0)
 |x::xs,k=>bif (bif (bif (bif (decide (x.Kind<(1:Int))) then true else (decide (x.Kind>(7:Int)))) then true else (decide (x.N<(0:Int)))) then true else (decide (x.N>(3:Int)))) then (some (.x1)) else (X4m Xe Xou xs (k+1))
def Xce (a0:Xt):Option (Int) :=
 (bif (decide ((List.length a0.Ops:Int)>(20:Int))) then (some (bif (decide ((List.length a0.Ops:Int)>(20:Int))) then true else false)) else (some (bif (decide ((List.length a0.Ops:Int)>(20:Int))) then true else (decide ((List.length a0.Channels:Int)>(100:Int))))):Option (Bool)).bind λX07r=>bif X07r then (some 4) else ((X4k (List.length a0.Ops)).bind λu6=>(X4m  a0 a0.Ops a0.Ops 0).bind λo12=>match o12 with|.x0=>(((X83 a0).bind λv20=>bif (!v20) then (some true) else ((Xcd a0).bind λv23=>some (bif (!v20) then true else ((List.length v23:Int) != (List.length a0.Ops:Int)))):Option (Bool)).bind λXzg=>bif Xzg then (some 8) else (some 0))|.x1=>(some 8))
def X4j (a0:Int):Option (Bool) :=
 some (bif (decide (a0 >= ((-1099511627776):Int))) then (decide (a0<=(1099511627776:Int))) else false)
def X5s (a0:Int):Option (Bool) :=
 (X4j a0).bind λv1=>some (bif v1 then true else (a0==(9223372036854775807:Int)))
def X34 (a0:Xo):Option (Int) :=
 (bif (a0.Kind==(1:Int)) then (some (a0.Kind==(1:Int))) else (some (a0.Kind==(4:Int))):Option (Bool)).bind λX07t=>(bif X07t then ((X4j a0.Record.Time).bind λv14=>some (v14,(Xo.mk ((Xo.mk a0.Kind (X07.mk 0 0 0) 0 (X9f.mk 0 (X5w.mk 0 0) (V2.mk 0 0))).Kind) a0.Record ((Xo.mk a0.Kind (X07.mk 0 0 0) 0 (X9f.mk 0 (X5w.mk 0 0) (V2.mk 0 0))).Time) (X9f.mk (((Xo.mk a0.Kind (X07.mk 0 0 0) 0 (X9f.mk 0 (X5w.mk 0 0) (V2.mk 0 0))).Row).Key) (((Xo.mk a0.Kind (X07.mk 0 0 0) 0 (X9f.mk 0 (X5w.mk 0 0) (V2.mk 0 0))).Row).Span) (((Xo.mk a0.Kind (X07.mk 0 0 0) 0 (X9f.mk 0 (X5w.mk 0 0) (V2.mk 0 0))).Row).Values))))) else (bif (a0.Kind==(2:Int)) then ((X5s a0.Time).bind λv17=>some (v17,(Xo.mk ((Xo.mk a0.Kind (X07.mk 0 0 0) 0 (X9f.mk 0 (X5w.mk 0 0) (V2.mk 0 0))).Kind) ((Xo.mk a0.Kind (X07.mk 0 0 0) 0 (X9f.mk 0 (X5w.mk 0 0) (V2.mk 0 0))).Record) a0.Time (X9f.mk (((Xo.mk a0.Kind (X07.mk 0 0 0) 0 (X9f.mk 0 (X5w.mk 0 0) (V2.mk 0 0))).Row).Key) (((Xo.mk a0.Kind (X07.mk 0 0 0) 0 (X9f.mk 0 (X5w.mk 0 0) (V2.mk 0 0))).Row).Span) (((Xo.mk a0.Kind (X07.mk 0 0 0) 0 (X9f.mk 0 (X5w.mk 0 0) (V2.mk 0 0))).Row).Values))))) else (bif (a0.Kind==(3:Int)) then (some ((bif (bif (decide (((-2199023255552):Int)<=a0.Row.Span.Start)) then (decide (a0.Row.Span.Start<a0.Row.Span.End)) else false) then (decide (a0.Row.Span.End<=(2199023255552:Int))) else false),(Xo.mk ((Xo.mk a0.Kind (X07.mk 0 0 0) 0 (X9f.mk 0 (X5w.mk 0 0) (V2.mk 0 0))).Kind) ((Xo.mk a0.Kind (X07.mk 0 0 0) 0 (X9f.mk 0 (X5w.mk 0 0) (V2.mk 0 0))).Record) ((Xo.mk a0.Kind (X07.mk 0 0 0) 0 (X9f.mk 0 (X5w.mk 0 0) (V2.mk 0 0))).Time) a0.Row))) else (some (false,(Xo.mk ((Xo.mk a0.Kind (X07.mk 0 0 0) 0 (X9f.mk 0 (X5w.mk 0 0) (V2.mk 0 0))).Kind) ((Xo.mk a0.Kind (X07.mk 0 0 0) 0 (X9f.mk 0 (X5w.mk 0 0) (V2.mk 0 0))).Record) ((Xo.mk a0.Kind (X07.mk 0 0 0) 0 (X9f.mk 0 (X5w.mk 0 0) (V2.mk 0 0))).Time) (X9f.mk (((Xo.mk a0.Kind (X07.mk 0 0 0) 0 (X9f.mk 0 (X5w.mk 0 0) (V2.mk 0 0))).Row).Key) (((Xo.mk a0.Kind (X07.mk 0 0 0) 0 (X9f.mk 0 (X5w.mk 0 0) (V2.mk 0 0))).Row).Span) (((Xo.mk a0.Kind (X07.mk 0 0 0) 0 (X9f.mk 0 (X5w.mk 0 0) (V2.mk 0 0))).Row).Values))))))):Option (Bool×Xo)).bind λw12=>bif (bif (!w12.1) then true else (!(X3y a0 w12.2))) then (some 8) else (some 0)
inductive X63 where
 |x0
 |x1 (X7s:Int)
def X2e (Xot:(List Xo)):List Xo->Nat->Option X63
 |[],k=>some (.x0)
 |x::xs,k=>(X34 x).bind λv17=>bif (v17 != (0:Int)) then (some (.x1 v17)) else (X2e Xot xs (k+1))
def X6p (a0:X0e):Option (Int) :=
 (bif (decide (a0.Room<(1:Int))) then (some (bif (bif (decide (a0.Room<(1:Int))) then true else false) then true else false)) else (bif (decide (a0.Room>(8:Int))) then (some (bif (bif (decide (a0.Room<(1:Int))) then true else (decide (a0.Room>(8:Int)))) then true else false)) else (some (bif (bif (decide (a0.Room<(1:Int))) then true else (decide (a0.Room>(8:Int)))) then true else (decide ((List.length a0.List:Int)>a0.Room))))):Option (Bool)).bind λX07l=>bif X07l then (some 8) else ((X4k (List.length a0.List)).bind λu8=>(X2e  a0.List a0.List 0).bind λo20=>match o20 with|.x0=>(some 0)|.x1 X7s=>(some X7s))
def Xbi (a0:Int):Option (Int×Int×Bool×Bool×Bool×Bool) :=
 (bif (a0==(1:Int)) then (some (0,0,false,true,false,false)) else (bif (a0==(2:Int)) then (some (1,1,false,false,false,false)) else (bif (a0==(3:Int)) then (some (0,0,false,false,false,false)) else (bif (a0==(4:Int)) then (some (1,4,true,false,false,false)) else (bif (a0==(5:Int)) then (some (2,2,true,false,false,false)) else (bif (a0==(6:Int)) then (some (0,0,false,false,true,false)) else (bif (a0==(7:Int)) then (some (0,0,false,false,false,true)) else (some (1,0,false,false,false,false)))))))):Option (Int×Int×Bool×Bool×Bool×Bool)).bind λw8=>some (w8.1,w8.2.1,w8.2.2.1,w8.2.2.2.1,w8.2.2.2.2.1,w8.2.2.2.2.2)
def Xbh (a0:Bool) (a1:Int):Option (Int) :=
 bif a0 then (some a1) else (some 0)
inductive X8a where
 |x0
 |x1
def X50 (X87:(List X3i)):List X3i->Nat->Option X8a
 |[],k=>some (.x0)
 |x::xs,k=>(bif (decide (x.Out<(0:Int))) then (some (bif (bif (decide (x.Out<(0:Int))) then true else false) then true else false)) else (bif (decide (x.Out >= (3:Int))) then (some (bif (bif (decide (x.Out<(0:Int))) then true else (decide (x.Out >= (3:Int)))) then true else false)) else ((X34 x.Message).bind λv33=>some (bif (bif (decide (x.Out<(0:Int))) then true else (decide (x.Out >= (3:Int)))) then true else (v33 != (0:Int))))):Option (Bool)).bind λXzc=>bif Xzc then (some (.x1)) else (X50 X87 xs (k+1))
def Xd9 (a0:(List X3i)):Option (Bool) :=
 (X4k (List.length a0)).bind λu1=>(X50  a0 a0 0).bind λo37=>match o37 with|.x0=>(some true)|.x1=>(some false)
def X40 (a0:X4z):Option (Int) :=
 (bif (a0.Count==(0:Int)) then (some (Xa1 a0 (X4z.mk 0 0 0 0))) else (bif (a0.Count==(1:Int)) then (some (bif (a0.Sum==a0.Min) then (a0.Sum==a0.Max) else false)) else (bif (bif (decide (a0.Count>(1:Int))) then (decide (a0.Count<=(1073741824:Int))) else false) then (some (decide (a0.Min<=a0.Max))) else (some false))):Option (Bool)).bind λj4_3=>bif (!j4_3) then (some 8) else (some 0)
def X7k (a0:Xg):Option (Bool) :=
 bif (bif (bif (decide (a0.Span.Start<((-1100585369600):Int))) then true else (decide (a0.Span.End<=a0.Span.Start))) then true else (decide (a0.Span.End>(1100585369600:Int)))) then (some false) else (((X40 a0.Values.e0).bind λv9=>bif (v9==(0:Int)) then ((X40 a0.Values.e1).bind λv12=>bif (v12==(0:Int)) then (some (bif (bif (v9==(0:Int)) then (v12==(0:Int)) else false) then (decide ((IntKind.i64.wrap (a0.Values.e0.Count+a0.Values.e1.Count))>(0:Int))) else false)) else (some (bif (bif (v9==(0:Int)) then (v12==(0:Int)) else false) then false else false))) else (some (bif (bif (v9==(0:Int)) then false else false) then false else false)):Option (Bool)).bind λj8_2=>some j8_2)
def X6e (a0:Int):Option (Bool) :=
 some (a0 != a0)
def X11 (a0:Int) (a1:Int):Option (Int) :=
 (X6e a0).bind λv1=>(X6e a1).bind λv3=>bif v1 then (bif v3 then (some 0) else (some (-1))) else (bif v3 then (some 1) else (bif (decide (a0<a1)) then (some (-1)) else (bif (decide (a0>a1)) then (some 1) else (some 0))))
inductive X96 where
 |x0
 |x1 (X7s:Int)
def X6n (X85:(List Int)):List Int->Nat->Option X96
 |[],k=>some (.x0)
 |x::xs,k=>bif (x != (0:Int)) then (some (.x1 x)) else (X6n X85 xs (k+1))
def Xe0 (a0:(List Int)):Option (Int) :=
 (X4k (List.length a0)).bind λu1=>(X6n  a0 a0 0).bind λo7=>match o7 with|.x0=>(some 0)|.x1 X7s=>(some X7s)
def Xbp (a0:Xg) (a1:Xg):Option (Int) :=
 (X11 a0.Span.End a1.Span.End).bind λv1=>(X11 a0.Span.Start a1.Span.Start).bind λv3=>(X11 a0.Key a1.Key).bind λv5=>(Xe0 [v1,v3,v5]).bind λv7=>some v7
inductive X71 where
 |x0
 |x1
def X2l (X08:(List Xg)):List Xg->Nat->Option X71
 |[],k=>some (.x0)
 |x::xs,k=>((X7k x).bind λv52=>bif (!v52) then (some true) else (bif (decide ((k:Int)>(0:Int))) then ((X14 X08 (IntKind.i64.wrap ((k:Int) - 1))).bind λe56=>(Xbp e56 x).bind λv58=>some (bif (!v52) then true else (bif (decide ((k:Int)>(0:Int))) then (decide (v58 >= (0:Int))) else false))) else (some (bif (!v52) then true else false))):Option (Bool)).bind λXz8=>bif Xz8 then (some (.x1)) else (X2l X08 xs (k+1))
def X7l (a0:(List Xg)):Option (Int) :=
 bif (decide ((List.length a0:Int)>(4000:Int))) then (some 4) else ((X4k (List.length a0)).bind λu2=>(X2l  a0 a0 0).bind λo62=>match o62 with|.x0=>(some 0)|.x1=>(some 8))
def Xbj (a0:Int):Option (Bool) :=
 (bif (a0==((-9223372036854775808):Int)) then (some (bif (a0==((-9223372036854775808):Int)) then true else false)) else ((X34 (Xo.mk 2 (X07.mk 0 0 0) a0 (X9f.mk 0 (X5w.mk 0 0) (V2.mk 0 0)))).bind λv6=>some (bif (a0==((-9223372036854775808):Int)) then true else (v6==(0:Int)))):Option (Bool)).bind λj4_2=>some j4_2
def Xg6 (a0:X5m):Option (Xo×Int) :=
 bif a0.Mark then (((X5s a0.Time).bind λv6=>bif (!v6) then (some (bif (!v6) then true else false)) else (some (bif (!v6) then true else (!(X20 a0.Record (X07.mk 0 0 0))))):Option (Bool)).bind λX077=>bif X077 then (some ((Xo.mk 0 (X07.mk 0 0 0) 0 (X9f.mk 0 (X5w.mk 0 0) (V2.mk 0 0))),8)) else (some ((Xo.mk 2 (X07.mk 0 0 0) a0.Time (X9f.mk 0 (X5w.mk 0 0) (V2.mk 0 0))),0))) else ((bif (a0.Time != (0:Int)) then (some (bif (a0.Time != (0:Int)) then true else false)) else ((X4j a0.Record.Time).bind λv16=>some (bif (a0.Time != (0:Int)) then true else (!v16))):Option (Bool)).bind λXzk=>bif Xzk then (some ((Xo.mk 0 (X07.mk 0 0 0) 0 (X9f.mk 0 (X5w.mk 0 0) (V2.mk 0 0))),8)) else (some ((Xo.mk 1 a0.Record 0 (X9f.mk 0 (X5w.mk 0 0) (V2.mk 0 0))),0)))
def X90 (a0:X5m):Option (Int) :=
 (Xg6 a0).bind λv1=>some v1.2
inductive Xbo where
 |x0 (Xig:Bool)
def X3v (Xe:Xv) (Xf9:(List Int)):List Int->Nat->Bool->Option Xbo
 |[],k,Xn0=>some (.x0 Xn0)
 |x::xs,k,Xn0=>(bif Xn0 then ((Xbj x).bind λv74=>some (bif Xn0 then v74 else false)) else (some (bif Xn0 then false else false)):Option (Bool)).bind λXz5=>X3v Xe Xf9 xs (k+1) Xz5
inductive Xbn where
 |x0 (Xif:Bool)
def X3u (X09:Xv) (Xf8:(List X5m)):List X5m->Nat->Bool->Option Xbn
 |[],k,Xmy=>some (.x0 Xmy)
 |x::xs,k,Xmy=>(bif Xmy then ((X90 x).bind λv103=>some (bif Xmy then (v103==(0:Int)) else false)) else (some (bif Xmy then false else false)):Option (Bool)).bind λXsu=>X3u X09 Xf8 xs (k+1) Xsu
inductive Xbm where
 |x0 (Xie:Bool)
def X3t (X31:Xv) (Xf7:(List X9f)):List X9f->Nat->Bool->Option Xbm
 |[],k,Xmx=>some (.x0 Xmx)
 |x::xs,k,Xmx=>(bif Xmx then ((X34 (Xo.mk 3 (X07.mk 0 0 0) 0 x)).bind λv132=>some (bif Xmx then (v132==(0:Int)) else false)) else (some (bif Xmx then false else false)):Option (Bool)).bind λXsr=>X3t X31 Xf7 xs (k+1) Xsr
inductive Xbl where
 |x0 (Xid:Bool)
def X3s (X9i:Xv) (Xf5:(List X07)):List X07->Nat->Bool->Option Xbl
 |[],k,Xmw=>some (.x0 Xmw)
 |x::xs,k,Xmw=>(bif Xmw then ((X34 (Xo.mk 4 x 0 (X9f.mk 0 (X5w.mk 0 0) (V2.mk 0 0)))).bind λv161=>some (bif Xmw then (v161==(0:Int)) else false)) else (some (bif Xmw then false else false)):Option (Bool)).bind λXsq=>X3s X9i Xf5 xs (k+1) Xsq
inductive Xbk where
 |x0 (Xic:Bool)
def X3r (Xex:Xv) (Xf4:(List Xg)):List Xg->Nat->Bool->Option Xbk
 |[],k,Xla=>some (.x0 Xla)
 |x::xs,k,Xla=>(bif Xla then (bif (Xex.Op.Kind != (4:Int)) then (some (bif Xla then (bif (Xex.Op.Kind != (4:Int)) then true else false) else false)) else (some (bif Xla then (bif (Xex.Op.Kind != (4:Int)) then true else (x.Values.e1.Count==(0:Int))) else false))) else (some (bif Xla then false else false)):Option (Bool)).bind λXso=>X3r Xex Xf4 xs (k+1) Xso
def Xda (a0:Xv):Option (Int) :=
 (Xbi a0.Op.Kind).bind λv1=>(bif (decide ((List.length a0.Pending:Int)<=(4000:Int))) then (bif (decide ((List.length a0.Marks:Int) >= v1.1)) then (bif (decide ((List.length a0.Marks:Int)<=v1.2.1)) then ((Xbh v1.2.2.1 4000).bind λv21=>bif (decide ((List.length a0.Store:Int)<=v21)) then ((Xbh v1.2.2.2.1 60).bind λv24=>bif (decide ((List.length a0.Events:Int)<=v24)) then ((Xbh v1.2.2.2.2.1 4000).bind λv27=>bif (decide ((List.length a0.Rows:Int)<=v27)) then ((Xbh v1.2.2.2.2.2 4000).bind λv30=>some (bif (bif (bif (bif (bif (bif (decide ((List.length a0.Pending:Int)<=(4000:Int))) then (decide ((List.length a0.Marks:Int) >= v1.1)) else false) then (decide ((List.length a0.Marks:Int)<=v1.2.1)) else false) then (decide ((List.length a0.Store:Int)<=v21)) else false) then (decide ((List.length a0.Events:Int)<=v24)) else false) then (decide ((List.length a0.Rows:Int)<=v27)) else false) then (decide ((List.length a0.Late:Int)<=v30)) else false)) else (some false)) else (some false)) else (some false)) else (some false)) else (some false)) else (some false):Option (Bool)).bind λXog=>(bif (!(bif (bif (bif (decide (a0.Turn >= (0:Int))) then (decide (a0.Turn<(20:Int))) else false) then (decide (a0.Op.N >= (0:Int))) else false) then (decide (a0.Op.N<(4:Int))) else false)) then (some (bif (bif (bif (!(bif (bif (bif (decide (a0.Turn >= (0:Int))) then (decide (a0.Turn<(20:Int))) else false) then (decide (a0.Op.N >= (0:Int))) else false) then (decide (a0.Op.N<(4:Int))) else false)) then true else false) then true else false) then true else false)) else (bif (!Xog) then (some (bif (bif (bif (!(bif (bif (bif (decide (a0.Turn >= (0:Int))) then (decide (a0.Turn<(20:Int))) else false) then (decide (a0.Op.N >= (0:Int))) else false) then (decide (a0.Op.N<(4:Int))) else false)) then true else (!Xog)) then true else false) then true else false)) else ((Xd9 a0.Pending).bind λv43=>bif (!v43) then (some (bif (bif (bif (!(bif (bif (bif (decide (a0.Turn >= (0:Int))) then (decide (a0.Turn<(20:Int))) else false) then (decide (a0.Op.N >= (0:Int))) else false) then (decide (a0.Op.N<(4:Int))) else false)) then true else (!Xog)) then true else (!v43)) then true else false)) else ((X7l a0.Store).bind λv46=>some (bif (bif (bif (!(bif (bif (bif (decide (a0.Turn >= (0:Int))) then (decide (a0.Turn<(20:Int))) else false) then (decide (a0.Op.N >= (0:Int))) else false) then (decide (a0.Op.N<(4:Int))) else false)) then true else (!Xog)) then true else (!v43)) then true else (v46 != (0:Int)))))):Option (Bool)).bind λXsh=>bif Xsh then (some 8) else ((X4k (List.length a0.Marks)).bind λu50=>(X3v  a0 a0.Marks a0.Marks 0 true).bind λo77=>match o77 with|.x0 Xig=>((X4k (List.length a0.Events)).bind λu79=>(X3u  a0 a0.Events a0.Events 0 Xig).bind λo106=>match o106 with|.x0 Xif=>((X4k (List.length a0.Rows)).bind λu108=>(X3t  a0 a0.Rows a0.Rows 0 Xif).bind λo135=>match o135 with|.x0 Xie=>((X4k (List.length a0.Late)).bind λu137=>(X3s  a0 a0.Late a0.Late 0 Xie).bind λo164=>match o164 with|.x0 Xid=>((X4k (List.length a0.Store)).bind λu166=>(X3r  a0 a0.Store a0.Store 0 Xid).bind λo187=>match o187 with|.x0 Xic=>(bif (!Xic) then (some 8) else (some 0)))))))
def X2n (a0:Int):Option (Bool) :=
 some (a0 != a0)
def X4t (a0:Int) (a1:Int):Option (Int) :=
 (X2n a0).bind λv1=>(X2n a1).bind λv3=>bif v1 then (bif v3 then (some 0) else (some (-1))) else (bif v3 then (some 1) else (bif (decide (a0<a1)) then (some (-1)) else (bif (decide (a0>a1)) then (some 1) else (some 0))))
def Xrq (g:Xt) (i:Int):Int:=(g.Channels[i.toNat]?.getD default).In
def Xbq (g:Xt) (op:Int):Option (List Int) :=
 bif decide (List.length g.Channels<=1000) then (bif decide (((X4l (λc=>c.To==op) g.Channels 0).map (Xrq g)).Nodup) then some (X8f (Xrq g) (X4l (λc=>c.To==op) g.Channels 0)) else none) else none
def Xge (g:Xt) (i:Int):Int:=(g.Channels[i.toNat]?.getD default).Out
def Xab (g:Xt) (op:Int):Option (List Int) :=
 bif decide (List.length g.Channels<=1000) then (bif decide (((X4l (λc=>c.From==op) g.Channels 0).map (Xge g)).Nodup) then some (X8f (Xge g) (X4l (λc=>c.From==op) g.Channels 0)) else none) else none
inductive Xa3 where
 |x0
 |x1
def X4x (Xe:Xf) (Xj:Xv) (X85:Int) (Xrt:Int) (Xos:(List X3i)):List X3i->Nat->Option Xa3
 |[],k=>some (.x0)
 |x::xs,k=>bif (decide (x.Out >= Xrt)) then (some (.x1)) else (X4x Xe Xj X85 Xrt Xos xs (k+1))
def Xfb (a0:Xf) (a1:Int):Option (Bool) :=
 (X14 a0.Tasks a1).bind λe1=>((X14 a0.Graph.Ops a1).bind λe9=>bif (!(X6u e1.Op e9)) then (some true) else ((Xda e1).bind λv12=>some (bif (!(X6u e1.Op e9)) then true else (v12 != (0:Int)))):Option (Bool)).bind λX072=>bif X072 then (some false) else ((Xbq a0.Graph a1).bind λv16=>(Xab a0.Graph a1).bind λv18=>(X4k (List.length e1.Pending)).bind λu20=>(X4x  a0 e1 (List.length v16:Int) (List.length v18:Int) e1.Pending e1.Pending 0).bind λo26=>match o26 with|.x0=>(bif (e1.Op.Kind==(2:Int)) then ((bif (a0.Query.Late==(2:Int)) then (some 2) else (some 1):Option (Int)).bind λXzd=>some ((List.length v18:Int)==Xzd)) else (bif (e1.Op.Kind==(4:Int)) then (some (bif ((List.length e1.Marks:Int)==(List.length v16:Int)) then (!a0.Query.Join) else false)) else (bif (e1.Op.Kind==(5:Int)) then (some (bif ((List.length v16:Int)==(2:Int)) then a0.Query.Join else false)) else (some true))))|.x1=>(some false))
inductive X8c where
 |x0
 |x1
def X3x (Xe:Xf) (Xlb:(List X0e)):List X0e->Nat->Option X8c
 |[],k=>some (.x0)
 |x::xs,k=>((X14 Xe.Graph.Channels (k:Int)).bind λe51=>bif (x.Room != e51.Room) then (some true) else ((X6p x).bind λv54=>some (bif (x.Room != e51.Room) then true else (v54 != (0:Int)))):Option (Bool)).bind λXz9=>bif Xz9 then (some (.x1)) else (X3x Xe Xlb xs (k+1))
inductive X8b where
 |x0
 |x1
def X3w (X09:Xf) (y1_L:(List Xv)):List Xv->Nat->Option X8b
 |[],k=>some (.x0)
 |x::xs,k=>(Xfb X09 (k:Int)).bind λv69=>bif (!v69) then (some (.x1)) else (X3w X09 y1_L xs (k+1))
def Xb8 (a0:Xf):Option (Int) :=
 (Xah a0.Query).bind λv1=>(bif (v1.2 != (0:Int)) then (some (bif (bif (bif (v1.2 != (0:Int)) then true else false) then true else false) then true else false)) else ((Xce a0.Graph).bind λv10=>bif (v10 != (0:Int)) then (some (bif (bif (bif (v1.2 != (0:Int)) then true else (v10 != (0:Int))) then true else false) then true else false)) else (bif ((List.length a0.Tasks:Int) != (List.length a0.Graph.Ops:Int)) then (some (bif (bif (bif (v1.2 != (0:Int)) then true else (v10 != (0:Int))) then true else ((List.length a0.Tasks:Int) != (List.length a0.Graph.Ops:Int))) then true else false)) else (some (bif (bif (bif (v1.2 != (0:Int)) then true else (v10 != (0:Int))) then true else ((List.length a0.Tasks:Int) != (List.length a0.Graph.Ops:Int))) then true else ((List.length a0.Queues:Int) != (List.length a0.Graph.Channels:Int)))))):Option (Bool)).bind λX070=>bif X070 then (some 8) else ((X4k (List.length a0.Queues)).bind λu16=>(X3x  a0 a0.Queues a0.Queues 0).bind λo58=>match o58 with|.x0=>((X4k (List.length a0.Tasks)).bind λu60=>(X3w  a0 a0.Tasks a0.Tasks 0).bind λo72=>match o72 with|.x0=>(some 0)|.x1=>(some 8))|.x1=>(some 8))
def Xax (a0:Xg) (a1:Xg):Option (Int) :=
 (X11 a0.Span.End a1.Span.End).bind λv1=>(X11 a0.Span.Start a1.Span.Start).bind λv3=>(X11 a0.Key a1.Key).bind λv5=>(Xe0 [v1,v3,v5]).bind λv7=>some v7
inductive X4i where
 |x0 (Xa8:(List Xg)) (X88:(List Xg)) (Xz:(List Xg))
def X0v:Nat->(List Xg)->(List Xg)->(List Xg)->Option X4i
 |0,_,_,_=>none
 |n+1,X08,X4w,Xe=>(bif (decide ((List.length X08:Int)>(0:Int))) then (some (bif (decide ((List.length X08:Int)>(0:Int))) then (decide ((List.length X4w:Int)>(0:Int))) else false)) else (some (bif (decide ((List.length X08:Int)>(0:Int))) then false else false)):Option (Bool)).bind λXz4=>bif Xz4 then ((X14 X08 0).bind λe87=>(X14 X4w 0).bind λe89=>(Xax e87 e89).bind λv91=>bif (decide (v91<=(0:Int))) then ((X0a (List.length (Xe++[e87])) 88).bind λu94=>(X8h X08 1 (List.length X08:Int)).bind λm96=>X0v n m96 X4w (Xe++[e87])) else ((X0a (List.length (Xe++[e89])) 88).bind λu98=>(X8h X4w 1 (List.length X4w:Int)).bind λm100=>X0v n X08 m100 (Xe++[e89]))) else (some (.x0 X08 X4w Xe))
def X0o (a0:(List Xg)) (a1:(List Xg)):Option ((List Xg)) :=
 (X0v  FU a0 a1 ([]:List Xg)).bind λo122=>match o122 with|.x0 Xa8 X88 Xz=>(bif (List.isEmpty Xa8) then (bif (List.isEmpty X88) then (some ((Xz++Xa8)++X88)) else ((X0a (List.length ((Xz++Xa8)++X88)) 88).bind λu126=>some ((Xz++Xa8)++X88))) else ((X0a (List.length (Xz++Xa8)) 88).bind λu128=>bif (List.isEmpty X88) then (some ((Xz++Xa8)++X88)) else ((X0a (List.length ((Xz++Xa8)++X88)) 88).bind λu131=>some ((Xz++Xa8)++X88))))
inductive X9w where
 |x0 (X7t:(List Xg))
def X2s (Xov:(List Xv)):List Xv->Nat->(List Xg)->Option X9w
 |[],k,X87=>some (.x0 X87)
 |x::xs,k,X87=>(X0o X87 x.Store).bind λv11=>X2s Xov xs (k+1) v11
def Xcq (a0:Xf):Option ((List Xg)×Int) :=
 (Xb8 a0).bind λv1=>bif (v1 != (0:Int)) then (some (([]:List Xg),v1)) else ((X4k (List.length a0.Tasks)).bind λu4=>(X2s  a0.Tasks a0.Tasks 0 ([]:List Xg)).bind λo13=>match o13 with|.x0 X7t=>(some (X7t,0)))
def Xec (a0:Int):Option (Int) :=
 bif (decide (a0<=(4:Int))) then (some 0) else (bif (decide (a0<=(6:Int))) then (some 1) else (some 2))
def X7o (a0:X02) (a1:Int) (a2:Int):Option (Bool) :=
 some (bif (bif (bif (bif (bif (bif (bif (decide (a0.Kind >= (1:Int))) then (decide (a0.Kind<=(19:Int))) else false) then (decide (a0.N >= (0:Int))) else false) then (bif (a0.N==(0:Int)) then true else (a0.Kind==(1:Int))) else false) then (decide (a0.At >= (0:Int))) else false) then (decide (a0.At<=(400:Int))) else false) then (a0.A==a1) else false) then (a0.B==a2) else false)
inductive X5h where
 |x0 (Xz:(List Int)) (X0y:(List Int))
 |x1 (X2o:(List Int)) (Xf2:(List Int))
def X1d (X08:(List X02)):List X02->Nat->(List Int)->(List Int)->Option X5h
 |[],k,Xe,Xj=>some (.x0 Xe Xj)
 |x::xs,k,Xe,Xj=>(Xec x.Kind).bind λv156=>bif (decide (v156>(0:Int))) then (bif (decide ((IntKind.i64.wrap ((k:Int) - 1))<(0:Int))) then (some (.x1 ([]:List Int) ([]:List Int))) else ((X14 Xe (IntKind.i64.wrap ((k:Int) - 1))).bind λe160=>(X14 Xj (IntKind.i64.wrap ((k:Int) - 1))).bind λe162=>bif (v156==(2:Int)) then (bif (decide ((IntKind.i64.wrap ((IntKind.i64.wrap ((k:Int) - 1)) - e160))<(0:Int))) then (some (.x1 ([]:List Int) ([]:List Int))) else ((X14 Xe (IntKind.i64.wrap ((IntKind.i64.wrap ((k:Int) - 1)) - e160))).bind λe166=>(X14 Xj (IntKind.i64.wrap ((IntKind.i64.wrap ((k:Int) - 1)) - e160))).bind λe168=>(X7o x (IntKind.i64.wrap ((IntKind.i64.wrap ((k:Int) - 1)) - e160)) (IntKind.i64.wrap ((k:Int) - 1))).bind λv170=>bif (!v170) then (some (.x1 ([]:List Int) ([]:List Int))) else ((X0a (List.length (Xe++[(IntKind.i64.wrap ((IntKind.i64.wrap (1+e160))+e166))])) 8).bind λu173=>(X0a (List.length (Xj++[(if (IntKind.i64.wrap (1+e168))>(IntKind.i64.wrap (1+e162)) then (IntKind.i64.wrap (1+e168)) else (IntKind.i64.wrap (1+e162)))])) 8).bind λu175=>X1d X08 xs (k+1) (Xe++[(IntKind.i64.wrap ((IntKind.i64.wrap (1+e160))+e166))]) (Xj++[(if (IntKind.i64.wrap (1+e168))>(IntKind.i64.wrap (1+e162)) then (IntKind.i64.wrap (1+e168)) else (IntKind.i64.wrap (1+e162)))])))) else ((X7o x (IntKind.i64.wrap ((k:Int) - 1)) 0).bind λv177=>bif (!v177) then (some (.x1 ([]:List Int) ([]:List Int))) else ((X0a (List.length (Xe++[(IntKind.i64.wrap (1+e160))])) 8).bind λu180=>(X0a (List.length (Xj++[(IntKind.i64.wrap (1+e162))])) 8).bind λu182=>X1d X08 xs (k+1) (Xe++[(IntKind.i64.wrap (1+e160))]) (Xj++[(IntKind.i64.wrap (1+e162))]))))) else ((X7o x 0 0).bind λv184=>bif (!v184) then (some (.x1 ([]:List Int) ([]:List Int))) else ((X0a (List.length (Xe++[1])) 8).bind λu187=>(X0a (List.length (Xj++[1])) 8).bind λu189=>X1d X08 xs (k+1) (Xe++[1]) (Xj++[1])))
def Xeb (a0:(List X02)):Option ((List Int)×(List Int)×Bool) :=
 (X4k (List.length a0)).bind λu1=>(X1d  a0 a0 0 ([]:List Int) ([]:List Int)).bind λo232=>match o232 with|.x0 Xz X0y=>((bif (decide ((List.length a0:Int)>(0:Int))) then ((X14 Xz (IntKind.i64.wrap ((List.length a0:Int) - 1))).bind λe239=>some (bif (decide ((List.length a0:Int)>(0:Int))) then (e239==(List.length a0:Int)) else false)) else (some false):Option (Bool)).bind λXzf=>some (Xz,X0y,Xzf))|.x1 X2o Xf2=>(some (X2o,Xf2,false))
def X5a (a0:(List X02)):Option (Int) :=
 bif (decide ((List.length a0:Int)>(60:Int))) then (some 4) else ((Xeb a0).bind λv2=>bif (!v2.2.2) then (some 8) else ((X14 v2.2.1 (IntKind.i64.wrap ((List.length a0:Int) - 1))).bind λe5=>bif (decide (e5>(20:Int))) then (some 34) else (some 0)))
inductive X60 where
 |x0
 |x1
def X2z (X08:(List Int)):List Int->Nat->Option X60
 |[],k=>some (.x0)
 |x::xs,k=>(bif (decide (x<(0:Int))) then (some (bif (decide (x<(0:Int))) then true else false)) else (some (bif (decide (x<(0:Int))) then true else (decide (x>(3:Int))))):Option (Bool)).bind λXze=>bif Xze then (some (.x1)) else (X2z X08 xs (k+1))
inductive X5y where
 |x0
 |x1
def X2y (y2_0:(List Int)) (y2_6:Int):Nat->Int->Option X5y
 |0,_=>none
 |n+1,Xcj=>bif (decide (Xcj<y2_6)) then ((X14 y2_0 Xcj).bind λe86=>(X14 y2_0 y2_6).bind λe88=>bif (e86==e88) then (some (.x0)) else (X2y y2_0 y2_6 n (IntKind.i64.wrap (Xcj+1)))) else (some (.x1))
inductive X5z where
 |x0
 |x1
def X2d (Xwa:(List Int)):List Int->Nat->Option X5z
 |[],k=>some (.x0)
 |x::xs,k=>(X2y  Xwa (k:Int) FU 0).bind λo91=>match o91 with|.x0=>(some (.x1))|.x1=>(X2d Xwa xs (k+1))
def X8y (a0:(List Int)) (a1:Bool):Option (Int) :=
 bif (decide ((List.length a0:Int)>(4:Int))) then (some 4) else ((bif ((List.length a0:Int)==(0:Int)) then (some (bif ((List.length a0:Int)==(0:Int)) then true else false)) else (bif a1 then (some (bif ((List.length a0:Int)==(0:Int)) then true else (bif a1 then ((List.length a0:Int) != (2:Int)) else false))) else (some (bif ((List.length a0:Int)==(0:Int)) then true else (bif a1 then false else false)))):Option (Bool)).bind λX079=>bif X079 then (some 8) else ((X4k (List.length a0)).bind λu9=>(X2z  a0 a0 0).bind λo27=>match o27 with|.x0=>((X2d  a0 a0 0).bind λo93=>match o93 with|.x0=>(some 0)|.x1=>(some 43))|.x1=>(some 8)))
def X9u (a0:X5v):Option (Bool) :=
 bif (bif (decide (a0.Size<(1:Int))) then true else (decide (a0.Size>(1073741824:Int)))) then (some false) else (bif (a0.Kind==(2:Int)) then (some (bif (bif (decide (a0.Every >= (1:Int))) then (decide (a0.Every<=a0.Size)) else false) then (decide (a0.Size<=(IntKind.i64.wrap (16*a0.Every)))) else false)) else (some (bif (bif (a0.Kind==(1:Int)) then true else (a0.Kind==(3:Int))) then (a0.Every==(0:Int)) else false)))
def Xc8 (a0:X1t):Option (Int) :=
 bif (bif (bif (bif (decide (a0.Agg<(1:Int))) then true else (decide (a0.Agg>(4:Int)))) then true else (decide (a0.Late<(1:Int)))) then true else (decide (a0.Late>(2:Int)))) then (some 8) else ((bif (a0.Agg==(1:Int)) then (some (bif (a0.Agg==(1:Int)) then (decide ((List.length a0.Arg:Int)>(0:Int))) else false)) else (some (bif (a0.Agg==(1:Int)) then false else false)):Option (Bool)).bind λX07k=>bif X07k then (some 8) else ((bif (a0.Agg != (1:Int)) then ((X5a a0.Arg).bind λv12=>some (bif (a0.Agg != (1:Int)) then (v12 != (0:Int)) else false)) else (some (bif (a0.Agg != (1:Int)) then false else false)):Option (Bool)).bind λXzn=>bif Xzn then ((X5a a0.Arg).bind λv16=>some v16) else ((bif (decide ((List.length a0.Where:Int)>(0:Int))) then ((X5a a0.Where).bind λv23=>some (bif (decide ((List.length a0.Where:Int)>(0:Int))) then (v23 != (0:Int)) else false)) else (some (bif (decide ((List.length a0.Where:Int)>(0:Int))) then false else false)):Option (Bool)).bind λXqx=>bif Xqx then ((X5a a0.Where).bind λv27=>some v27) else ((X8y a0.Sources a0.Join).bind λv29=>bif (v29 != (0:Int)) then (some v29) else ((X9u a0.Window).bind λv32=>bif (bif (!v32) then true else (bif a0.Join then (a0.Window.Kind != (1:Int)) else false)) then (some 8) else (some 0))))))
def X7n (a0:Int):Option (Bool) :=
 some (bif (a0==(6:Int)) then true else (decide (a0 >= (12:Int))))
def Xds (a0:(List X02)) (a1:Int):Option (Bool) :=
 (X14 a0 a1).bind λe1=>(X14 a0 e1.A).bind λe3=>(X7n e3.Kind).bind λv5=>(X14 a0 e1.B).bind λe7=>(X7n e7.Kind).bind λv9=>bif (decide (e1.Kind<=(4:Int))) then (some true) else (bif (e1.Kind==(5:Int)) then (some (!v5)) else (bif (e1.Kind==(6:Int)) then (some v5) else (bif (bif (e1.Kind==(16:Int)) then true else (e1.Kind==(17:Int))) then (some (v5==v9)) else (bif (decide (e1.Kind >= (18:Int))) then (some (bif v5 then v9 else false)) else (some (bif (!v5) then (!v9) else false))))))
inductive X7g where
 |x0
 |x1 (X7s:Int)
def X4h (X08:(List X02)):List X02->Nat->Option X7g
 |[],k=>some (.x0)
 |x::xs,k=>(Xds X08 (k:Int)).bind λv10=>bif (!v10) then (some (.x1 (k:Int))) else (X4h X08 xs (k+1))
def Xea (a0:(List X02)):Option (Int) :=
 (X4k (List.length a0)).bind λu1=>(X4h  a0 a0 0).bind λo13=>match o13 with|.x0=>(some (List.length a0:Int))|.x1 X7s=>(some X7s)
def Xhl (a0:(List X02)):Option (Bool×Int×Int) :=
 (X5a a0).bind λv1=>bif (v1 != (0:Int)) then (some (false,0,v1)) else ((Xea a0).bind λv4=>bif (decide (v4<(List.length a0:Int))) then (some (false,v4,42)) else ((X14 a0 (IntKind.i64.wrap ((List.length a0:Int) - 1))).bind λe7=>(X7n e7.Kind).bind λv9=>some (v9,(IntKind.i64.wrap ((List.length a0:Int) - 1)),0)))
def X9v (a0:(List X02)) (a1:Bool):Option (Int×Int) :=
 (Xhl a0).bind λv1=>bif (bif (v1.2.2==(0:Int)) then (!(v1.1==a1)) else false) then (some (v1.2.1,42)) else (some (v1.2.1,v1.2.2))
def Xc6 (a0:X1t):Option (Int×Int) :=
 bif (decide ((List.length a0.Arg:Int)>(0:Int))) then ((X9v a0.Arg false).bind λv2=>bif (v2.2 != (0:Int)) then ((X14 a0.Arg v2.1).bind λe5=>some (e5.At,v2.2)) else (bif (decide ((List.length a0.Where:Int)>(0:Int))) then ((X9v a0.Where true).bind λv8=>bif (v8.2 != (0:Int)) then ((X14 a0.Where v8.1).bind λe11=>some (e11.At,v8.2)) else (some (0,0))) else (some (0,0)))) else (bif (decide ((List.length a0.Where:Int)>(0:Int))) then ((X9v a0.Where true).bind λv14=>bif (v14.2 != (0:Int)) then ((X14 a0.Where v14.1).bind λe17=>some (e17.At,v14.2)) else (some (0,0))) else (some (0,0)))
def Xc7 (a0:X1t):Option (Int×Int) :=
 (Xc8 a0).bind λv1=>bif (v1 != (0:Int)) then (some (0,v1)) else ((Xc6 a0).bind λv4=>some (v4.1,v4.2))
def X6x (a0:X1t):Option (Bool) :=
 (Xc7 a0).bind λv1=>some (v1.2==(0:Int))
inductive X7d where
 |x0
 |x1
def X5r (X4w:Int) (Xe:Xt) (Xj:Xk):Nat->Int->Option X7d
 |0,_=>none
 |n+1,X85=>bif (decide (X85<X4w)) then ((X14 Xe.Channels X85).bind λe13=>bif (bif (bif (decide (e13.From>Xj.From)) then true else (bif (e13.From==Xj.From) then (decide (e13.Out >= Xj.Out)) else false)) then true else (bif (e13.To==Xj.To) then (e13.In==Xj.In) else false)) then (some (.x0)) else (X5r X4w Xe Xj n (IntKind.i64.wrap (X85+1)))) else (some (.x1))
def Xc3 (a0:Xt) (a1:Int):Option (Bool) :=
 (X14 a0.Channels a1).bind λe1=>(X5r  a1 a0 e1 FU 0).bind λo16=>match o16 with|.x0=>(some false)|.x1=>(some true)
inductive X8w where
 |x0 (X7t:Int)
def X2x (X4w:Int) (Xe:Xt):Nat->Int->Int->Option X8w
 |0,_,_=>none
 |n+1,X87,X85=>bif (decide (X85<(List.length Xe.Channels:Int))) then ((X14 Xe.Channels X85).bind λe17=>(bif (e17.From==X4w) then (some (IntKind.i64.wrap (X87+1))) else (some X87):Option (Int)).bind λXsn=>X2x X4w Xe n Xsn (IntKind.i64.wrap (X85+1))) else (some (.x0 X87))
def X58 (a0:Xt) (a1:Int):Option (Int) :=
 (X2x  a1 a0 FU 0 0).bind λo23=>match o23 with|.x0 X7t=>(some X7t)
inductive X9s where
 |x0 (X7t:Int)
def X3h (X4w:Int) (Xe:Xt):Nat->Int->Int->Option X9s
 |0,_,_=>none
 |n+1,X87,X85=>bif (decide (X85<(List.length Xe.Channels:Int))) then ((X14 Xe.Channels X85).bind λe17=>(bif (e17.To==X4w) then (some (IntKind.i64.wrap (X87+1))) else (some X87):Option (Int)).bind λXsn=>X3h X4w Xe n Xsn (IntKind.i64.wrap (X85+1))) else (some (.x0 X87))
def X67 (a0:Xt) (a1:Int):Option (Int) :=
 (X3h  a1 a0 FU 0 0).bind λo23=>match o23 with|.x0 X7t=>(some X7t)
def X1y (a0:Int) (a1:Int) (a2:Int):Option (Bool) :=
 some (bif (decide (a0 >= a1)) then (decide (a0<=a2)) else false)
def X3q (a0:Int) (a1:Int) (a2:Int):Option (Bool) :=
 bif (a0==(1:Int)) then (some (bif (a1==(0:Int)) then (a2==(1:Int)) else false)) else (bif (a0==(2:Int)) then ((bif (a1==(1:Int)) then ((X1y a2 1 2).bind λv8=>some (bif (a1==(1:Int)) then v8 else false)) else (some (bif (a1==(1:Int)) then false else false)):Option (Bool)).bind λj6_6=>some j6_6) else (bif (a0==(3:Int)) then ((bif (a1==(1:Int)) then ((X1y a2 1 3).bind λv17=>some (bif (a1==(1:Int)) then v17 else false)) else (some (bif (a1==(1:Int)) then false else false)):Option (Bool)).bind λX080=>some X080) else (bif (a0==(4:Int)) then ((X1y a1 1 4).bind λv21=>some (bif v21 then (a2==(1:Int)) else false)) else (bif (a0==(5:Int)) then (some (bif (a1==(2:Int)) then (a2==(1:Int)) else false)) else (bif (a0==(6:Int)) then ((X1y a1 1 3).bind λv25=>some (bif v25 then (a2==(0:Int)) else false)) else ((bif (a0==(7:Int)) then ((X1y a1 1 4).bind λv33=>bif v33 then (some (bif (bif (a0==(7:Int)) then v33 else false) then (a2==(0:Int)) else false)) else (some (bif (bif (a0==(7:Int)) then v33 else false) then false else false))) else (some (bif (bif (a0==(7:Int)) then false else false) then false else false)):Option (Bool)).bind λX07q=>some X07q))))))
inductive X8t where
 |x0 (X1h:(List Bool))
def X2c (Xnw:Int) (X09:Xt) (Xjo:Int):Nat->(List Bool)->Int->Option X8t
 |0,_,_=>none
 |n+1,X2i,y1_7=>bif (decide (y1_7<(List.length X09.Channels:Int))) then ((X14 X09.Channels y1_7).bind λe167=>(bif (e167.From==Xnw) then (some (bif (e167.From==Xnw) then true else false)) else ((X14 X2i e167.From).bind λe174=>some (bif (e167.From==Xnw) then true else e174)):Option (Bool)).bind λXsp=>(bif Xsp then ((X14 X2i e167.To).bind λe182=>some (List.set X2i (Int.toNat e167.To) true)) else (some X2i):Option ((List Bool))).bind λXpp=>X2c Xnw X09 Xjo n Xpp (IntKind.i64.wrap (y1_7+1))) else (some (.x0 X2i))
inductive X8u where
 |x0 (Xz:(List Bool))
def X2w (X4w:Int) (Xe:Xt):Nat->(List Bool)->Int->Option X8u
 |0,_,_=>none
 |n+1,Xj,X85=>bif (decide (X85<=(List.length Xe.Ops:Int))) then ((X2c  X4w Xe X85 FU Xj 0).bind λo185=>match o185 with|.x0 X1h=>(X2w X4w Xe n X1h (IntKind.i64.wrap (X85+1)))) else (some (.x0 Xj))
def X8v (a0:Xt) (a1:Int):Option ((List Bool)) :=
 (mkOk (List.length a0.Ops:Int) (List.length a0.Ops:Int) 1).bind λu1=>(X2w  a1 a0 FU (List.replicate (Int.toNat (List.length a0.Ops:Int)) false) 0).bind λo187=>match o187 with|.x0 Xz=>(some Xz)
inductive X7e where
 |x0
 |x1
def X4f (Xe:Xt):Nat->Int->Option X7e
 |0,_=>none
 |n+1,X6v=>bif (decide (X6v<(List.length Xe.Channels:Int))) then ((X14 Xe.Channels X6v).bind λe35=>(bif (decide (e35.From<(0:Int))) then (some (bif (bif (bif (bif (bif (decide (e35.From<(0:Int))) then true else false) then true else false) then true else false) then true else false) then true else false)) else (bif (decide (e35.To<(0:Int))) then (some (bif (bif (bif (bif (bif (decide (e35.From<(0:Int))) then true else (decide (e35.To<(0:Int)))) then true else false) then true else false) then true else false) then true else false)) else (bif (decide (e35.From >= (List.length Xe.Ops:Int))) then (some (bif (bif (bif (bif (bif (decide (e35.From<(0:Int))) then true else (decide (e35.To<(0:Int)))) then true else (decide (e35.From >= (List.length Xe.Ops:Int)))) then true else false) then true else false) then true else false)) else (bif (decide (e35.To >= (List.length Xe.Ops:Int))) then (some (bif (bif (bif (bif (bif (decide (e35.From<(0:Int))) then true else (decide (e35.To<(0:Int)))) then true else (decide (e35.From >= (List.length Xe.Ops:Int)))) then true else (decide (e35.To >= (List.length Xe.Ops:Int)))) then true else false) then true else false)) else (bif (decide (e35.Room<(1:Int))) then (some (bif (bif (bif (bif (bif (decide (e35.From<(0:Int))) then true else (decide (e35.To<(0:Int)))) then true else (decide (e35.From >= (List.length Xe.Ops:Int)))) then true else (decide (e35.To >= (List.length Xe.Ops:Int)))) then true else (decide (e35.Room<(1:Int)))) then true else false)) else (some (bif (bif (bif (bif (bif (decide (e35.From<(0:Int))) then true else (decide (e35.To<(0:Int)))) then true else (decide (e35.From >= (List.length Xe.Ops:Int)))) then true else (decide (e35.To >= (List.length Xe.Ops:Int)))) then true else (decide (e35.Room<(1:Int)))) then true else (decide (e35.Room>(8:Int))))))))):Option (Bool)).bind λXza=>bif Xza then (some (.x0)) else (X4f Xe n (IntKind.i64.wrap (X6v+1)))) else (some (.x1))
inductive X5g where
 |x0
 |x1
def X4e (X09:Xt):Nat->Int->Option X5g
 |0,_=>none
 |n+1,Xih=>bif (decide (Xih<(List.length X09.Channels:Int))) then ((X14 X09.Channels Xih).bind λe106=>((Xc3 X09 Xih).bind λv119=>bif (!v119) then (some true) else (bif (decide (e106.Out<(0:Int))) then (some true) else ((X58 X09 e106.From).bind λv123=>bif (decide (e106.Out >= v123)) then (some true) else (bif (decide (e106.In<(0:Int))) then (some true) else ((X67 X09 e106.To).bind λv127=>some (bif (bif (bif (bif (!v119) then true else (decide (e106.Out<(0:Int)))) then true else (decide (e106.Out >= v123))) then true else (decide (e106.In<(0:Int)))) then true else (decide (e106.In >= v127))))))):Option (Bool)).bind λXss=>bif Xss then (some (.x0)) else (X4e X09 n (IntKind.i64.wrap (Xih+1)))) else (some (.x1))
inductive X5f where
 |x0
 |x1
def X4d (X31:Xt):Nat->Int->Option X5f
 |0,_=>none
 |n+1,Xcj=>bif (decide (Xcj<(List.length X31.Ops:Int))) then ((X14 X31.Ops Xcj).bind λe199=>(bif (decide (e199.N<(0:Int))) then (some true) else (bif (decide (e199.N>(3:Int))) then (some true) else ((X67 X31 Xcj).bind λv217=>(X58 X31 Xcj).bind λv219=>(X3q e199.Kind v217 v219).bind λv221=>bif (!v221) then (some true) else ((X8v X31 Xcj).bind λv224=>(X14 v224 Xcj).bind λe226=>some (bif (bif (bif (decide (e199.N<(0:Int))) then true else (decide (e199.N>(3:Int)))) then true else (!v221)) then true else e226)))):Option (Bool)).bind λXpo=>bif Xpo then (some (.x0)) else (X4d X31 n (IntKind.i64.wrap (Xcj+1)))) else (some (.x1))
def Xc4 (a0:Xt):Option (Bool) :=
 (X4f  a0 FU 0).bind λo50=>match o50 with|.x0=>(some false)|.x1=>((X4e  a0 FU 0).bind λo131=>match o131 with|.x0=>(some false)|.x1=>((X4d  a0 FU 0).bind λo230=>match o230 with|.x0=>(some false)|.x1=>(some true)))
def X7m (a0:Xt):Option (Int) :=
 (bif (decide ((List.length a0.Ops:Int)>(20:Int))) then (some (bif (decide ((List.length a0.Ops:Int)>(20:Int))) then true else false)) else (some (bif (decide ((List.length a0.Ops:Int)>(20:Int))) then true else (decide ((List.length a0.Channels:Int)>(100:Int))))):Option (Bool)).bind λX07s=>bif X07s then (some 4) else ((Xc4 a0).bind λv6=>bif (!v6) then (some 8) else (some 0))
def X57 (a0:X07):Option (Bool) :=
 some (bif (decide (a0.Time >= ((-1099511627776):Int))) then (decide (a0.Time<=(1099511627776:Int))) else false)
def X9r (a0:Int):Option (Bool) :=
 some (bif (bif (decide (a0 >= ((-1099511627776):Int))) then (decide (a0<=(1099511627776:Int))) else false) then true else (a0==(9223372036854775807:Int)))
def Xdp (a0:X9f):Option (Bool) :=
 some (bif (bif (decide (a0.Span.Start<a0.Span.End)) then (decide (a0.Span.Start >= ((-2199023255552):Int))) else false) then (decide (a0.Span.End<=(2199023255552:Int))) else false)
def X9q (a0:Xo):Option (Bool) :=
 (bif (a0.Kind==(1:Int)) then (some (a0.Kind==(1:Int))) else (some (a0.Kind==(4:Int))):Option (Bool)).bind λj2_5=>bif j2_5 then (((X57 a0.Record).bind λv10=>bif v10 then (some (bif v10 then (X3y a0 (Xo.mk a0.Kind a0.Record 0 (X9f.mk 0 (X5w.mk 0 0) (V2.mk 0 0)))) else false)) else (some (bif v10 then false else false)):Option (Bool)).bind λj9_2=>some j9_2) else (bif (a0.Kind==(2:Int)) then (((X9r a0.Time).bind λv19=>bif v19 then (some (bif v19 then (X3y a0 (Xo.mk a0.Kind (X07.mk 0 0 0) a0.Time (X9f.mk 0 (X5w.mk 0 0) (V2.mk 0 0)))) else false)) else (some (bif v19 then false else false)):Option (Bool)).bind λX07y=>some X07y) else (bif (a0.Kind==(3:Int)) then (((Xdp a0.Row).bind λv28=>bif v28 then (some (bif v28 then (X3y a0 (Xo.mk a0.Kind (X07.mk 0 0 0) 0 a0.Row)) else false)) else (some (bif v28 then false else false)):Option (Bool)).bind λX07v=>some X07v) else (some false)))
inductive X7c where
 |x0
 |x1
def X5q (Xe:X0e):Nat->Int->Option X7c
 |0,_=>none
 |n+1,X6v=>bif (decide (X6v<(List.length Xe.List:Int))) then ((X14 Xe.List X6v).bind λe22=>(X9q e22).bind λv24=>bif (!v24) then (some (.x0)) else (X5q Xe n (IntKind.i64.wrap (X6v+1)))) else (some (.x1))
def X9p (a0:X0e):Option (Int) :=
 (bif (decide (a0.Room<(1:Int))) then (some (bif (bif (decide (a0.Room<(1:Int))) then true else false) then true else false)) else (bif (decide (a0.Room>(8:Int))) then (some (bif (bif (decide (a0.Room<(1:Int))) then true else (decide (a0.Room>(8:Int)))) then true else false)) else (some (bif (bif (decide (a0.Room<(1:Int))) then true else (decide (a0.Room>(8:Int)))) then true else (decide ((List.length a0.List:Int)>a0.Room))))):Option (Bool)).bind λX07m=>bif X07m then (some 8) else ((X5q  a0 FU 0).bind λo27=>match o27 with|.x0=>(some 8)|.x1=>(some 0))
def Xdk (a0:Xv):Option (Bool) :=
 bif (a0.Op.Kind==(1:Int)) then ((bif ((List.length a0.Marks:Int)==(0:Int)) then (bif (decide ((List.length a0.Store:Int)<=(0:Int))) then (bif (decide ((List.length a0.Events:Int)<=(60:Int))) then (bif (decide ((List.length a0.Rows:Int)<=(0:Int))) then (some (bif (bif (bif (bif ((List.length a0.Marks:Int)==(0:Int)) then (decide ((List.length a0.Store:Int)<=(0:Int))) else false) then (decide ((List.length a0.Events:Int)<=(60:Int))) else false) then (decide ((List.length a0.Rows:Int)<=(0:Int))) else false) then (decide ((List.length a0.Late:Int)<=(0:Int))) else false)) else (some (bif (bif (bif (bif ((List.length a0.Marks:Int)==(0:Int)) then (decide ((List.length a0.Store:Int)<=(0:Int))) else false) then (decide ((List.length a0.Events:Int)<=(60:Int))) else false) then (decide ((List.length a0.Rows:Int)<=(0:Int))) else false) then false else false))) else (some (bif (bif (bif (bif ((List.length a0.Marks:Int)==(0:Int)) then (decide ((List.length a0.Store:Int)<=(0:Int))) else false) then (decide ((List.length a0.Events:Int)<=(60:Int))) else false) then false else false) then false else false))) else (some (bif (bif (bif (bif ((List.length a0.Marks:Int)==(0:Int)) then (decide ((List.length a0.Store:Int)<=(0:Int))) else false) then false else false) then false else false) then false else false))) else (some (bif (bif (bif (bif ((List.length a0.Marks:Int)==(0:Int)) then false else false) then false else false) then false else false) then false else false)):Option (Bool)).bind λj6_2=>some j6_2) else (bif (a0.Op.Kind==(2:Int)) then ((bif ((List.length a0.Marks:Int)==(1:Int)) then (bif (decide ((List.length a0.Store:Int)<=(0:Int))) then (bif (decide ((List.length a0.Events:Int)<=(0:Int))) then (bif (decide ((List.length a0.Rows:Int)<=(0:Int))) then (some (bif (bif (bif (bif ((List.length a0.Marks:Int)==(1:Int)) then (decide ((List.length a0.Store:Int)<=(0:Int))) else false) then (decide ((List.length a0.Events:Int)<=(0:Int))) else false) then (decide ((List.length a0.Rows:Int)<=(0:Int))) else false) then (decide ((List.length a0.Late:Int)<=(0:Int))) else false)) else (some (bif (bif (bif (bif ((List.length a0.Marks:Int)==(1:Int)) then (decide ((List.length a0.Store:Int)<=(0:Int))) else false) then (decide ((List.length a0.Events:Int)<=(0:Int))) else false) then (decide ((List.length a0.Rows:Int)<=(0:Int))) else false) then false else false))) else (some (bif (bif (bif (bif ((List.length a0.Marks:Int)==(1:Int)) then (decide ((List.length a0.Store:Int)<=(0:Int))) else false) then (decide ((List.length a0.Events:Int)<=(0:Int))) else false) then false else false) then false else false))) else (some (bif (bif (bif (bif ((List.length a0.Marks:Int)==(1:Int)) then (decide ((List.length a0.Store:Int)<=(0:Int))) else false) then false else false) then false else false) then false else false))) else (some (bif (bif (bif (bif ((List.length a0.Marks:Int)==(1:Int)) then false else false) then false else false) then false else false) then false else false)):Option (Bool)).bind λX07z=>some X07z) else (bif (a0.Op.Kind==(3:Int)) then ((bif ((List.length a0.Marks:Int)==(0:Int)) then (bif (decide ((List.length a0.Store:Int)<=(0:Int))) then (bif (decide ((List.length a0.Events:Int)<=(0:Int))) then (bif (decide ((List.length a0.Rows:Int)<=(0:Int))) then (some (bif (bif (bif (bif ((List.length a0.Marks:Int)==(0:Int)) then (decide ((List.length a0.Store:Int)<=(0:Int))) else false) then (decide ((List.length a0.Events:Int)<=(0:Int))) else false) then (decide ((List.length a0.Rows:Int)<=(0:Int))) else false) then (decide ((List.length a0.Late:Int)<=(0:Int))) else false)) else (some (bif (bif (bif (bif ((List.length a0.Marks:Int)==(0:Int)) then (decide ((List.length a0.Store:Int)<=(0:Int))) else false) then (decide ((List.length a0.Events:Int)<=(0:Int))) else false) then (decide ((List.length a0.Rows:Int)<=(0:Int))) else false) then false else false))) else (some (bif (bif (bif (bif ((List.length a0.Marks:Int)==(0:Int)) then (decide ((List.length a0.Store:Int)<=(0:Int))) else false) then (decide ((List.length a0.Events:Int)<=(0:Int))) else false) then false else false) then false else false))) else (some (bif (bif (bif (bif ((List.length a0.Marks:Int)==(0:Int)) then (decide ((List.length a0.Store:Int)<=(0:Int))) else false) then false else false) then false else false) then false else false))) else (some (bif (bif (bif (bif ((List.length a0.Marks:Int)==(0:Int)) then false else false) then false else false) then false else false) then false else false)):Option (Bool)).bind λX07u=>some X07u) else (bif (a0.Op.Kind==(4:Int)) then ((bif ((List.length a0.Marks:Int)==(if (if (List.length a0.Marks:Int)>1 then (List.length a0.Marks:Int) else 1)<4 then (if (List.length a0.Marks:Int)>1 then (List.length a0.Marks:Int) else 1) else 4)) then (bif (decide ((List.length a0.Store:Int)<=(List.length a0.Store:Int))) then (bif (decide ((List.length a0.Events:Int)<=(0:Int))) then (bif (decide ((List.length a0.Rows:Int)<=(0:Int))) then (some (bif (bif (bif (bif ((List.length a0.Marks:Int)==(if (if (List.length a0.Marks:Int)>1 then (List.length a0.Marks:Int) else 1)<4 then (if (List.length a0.Marks:Int)>1 then (List.length a0.Marks:Int) else 1) else 4)) then (decide ((List.length a0.Store:Int)<=(List.length a0.Store:Int))) else false) then (decide ((List.length a0.Events:Int)<=(0:Int))) else false) then (decide ((List.length a0.Rows:Int)<=(0:Int))) else false) then (decide ((List.length a0.Late:Int)<=(0:Int))) else false)) else (some (bif (bif (bif (bif ((List.length a0.Marks:Int)==(if (if (List.length a0.Marks:Int)>1 then (List.length a0.Marks:Int) else 1)<4 then (if (List.length a0.Marks:Int)>1 then (List.length a0.Marks:Int) else 1) else 4)) then (decide ((List.length a0.Store:Int)<=(List.length a0.Store:Int))) else false) then (decide ((List.length a0.Events:Int)<=(0:Int))) else false) then (decide ((List.length a0.Rows:Int)<=(0:Int))) else false) then false else false))) else (some (bif (bif (bif (bif ((List.length a0.Marks:Int)==(if (if (List.length a0.Marks:Int)>1 then (List.length a0.Marks:Int) else 1)<4 then (if (List.length a0.Marks:Int)>1 then (List.length a0.Marks:Int) else 1) else 4)) then (decide ((List.length a0.Store:Int)<=(List.length a0.Store:Int))) else false) then (decide ((List.length a0.Events:Int)<=(0:Int))) else false) then false else false) then false else false))) else (some (bif (bif (bif (bif ((List.length a0.Marks:Int)==(if (if (List.length a0.Marks:Int)>1 then (List.length a0.Marks:Int) else 1)<4 then (if (List.length a0.Marks:Int)>1 then (List.length a0.Marks:Int) else 1) else 4)) then (decide ((List.length a0.Store:Int)<=(List.length a0.Store:Int))) else false) then false else false) then false else false) then false else false))) else (some (bif (bif (bif (bif ((List.length a0.Marks:Int)==(if (if (List.length a0.Marks:Int)>1 then (List.length a0.Marks:Int) else 1)<4 then (if (List.length a0.Marks:Int)>1 then (List.length a0.Marks:Int) else 1) else 4)) then false else false) then false else false) then false else false) then false else false)):Option (Bool)).bind λX07n=>some X07n) else (bif (a0.Op.Kind==(5:Int)) then ((bif ((List.length a0.Marks:Int)==(2:Int)) then (bif (decide ((List.length a0.Store:Int)<=(List.length a0.Store:Int))) then (bif (decide ((List.length a0.Events:Int)<=(0:Int))) then (bif (decide ((List.length a0.Rows:Int)<=(0:Int))) then (some (bif (bif (bif (bif ((List.length a0.Marks:Int)==(2:Int)) then (decide ((List.length a0.Store:Int)<=(List.length a0.Store:Int))) else false) then (decide ((List.length a0.Events:Int)<=(0:Int))) else false) then (decide ((List.length a0.Rows:Int)<=(0:Int))) else false) then (decide ((List.length a0.Late:Int)<=(0:Int))) else false)) else (some (bif (bif (bif (bif ((List.length a0.Marks:Int)==(2:Int)) then (decide ((List.length a0.Store:Int)<=(List.length a0.Store:Int))) else false) then (decide ((List.length a0.Events:Int)<=(0:Int))) else false) then (decide ((List.length a0.Rows:Int)<=(0:Int))) else false) then false else false))) else (some (bif (bif (bif (bif ((List.length a0.Marks:Int)==(2:Int)) then (decide ((List.length a0.Store:Int)<=(List.length a0.Store:Int))) else false) then (decide ((List.length a0.Events:Int)<=(0:Int))) else false) then false else false) then false else false))) else (some (bif (bif (bif (bif ((List.length a0.Marks:Int)==(2:Int)) then (decide ((List.length a0.Store:Int)<=(List.length a0.Store:Int))) else false) then false else false) then false else false) then false else false))) else (some (bif (bif (bif (bif ((List.length a0.Marks:Int)==(2:Int)) then false else false) then false else false) then false else false) then false else false)):Option (Bool)).bind λX078=>some X078) else (bif (a0.Op.Kind==(6:Int)) then ((bif ((List.length a0.Marks:Int)==(0:Int)) then (bif (decide ((List.length a0.Store:Int)<=(0:Int))) then (bif (decide ((List.length a0.Events:Int)<=(0:Int))) then (bif (decide ((List.length a0.Rows:Int)<=(4000:Int))) then (some (bif (bif (bif (bif ((List.length a0.Marks:Int)==(0:Int)) then (decide ((List.length a0.Store:Int)<=(0:Int))) else false) then (decide ((List.length a0.Events:Int)<=(0:Int))) else false) then (decide ((List.length a0.Rows:Int)<=(4000:Int))) else false) then (decide ((List.length a0.Late:Int)<=(0:Int))) else false)) else (some (bif (bif (bif (bif ((List.length a0.Marks:Int)==(0:Int)) then (decide ((List.length a0.Store:Int)<=(0:Int))) else false) then (decide ((List.length a0.Events:Int)<=(0:Int))) else false) then (decide ((List.length a0.Rows:Int)<=(4000:Int))) else false) then false else false))) else (some (bif (bif (bif (bif ((List.length a0.Marks:Int)==(0:Int)) then (decide ((List.length a0.Store:Int)<=(0:Int))) else false) then (decide ((List.length a0.Events:Int)<=(0:Int))) else false) then false else false) then false else false))) else (some (bif (bif (bif (bif ((List.length a0.Marks:Int)==(0:Int)) then (decide ((List.length a0.Store:Int)<=(0:Int))) else false) then false else false) then false else false) then false else false))) else (some (bif (bif (bif (bif ((List.length a0.Marks:Int)==(0:Int)) then false else false) then false else false) then false else false) then false else false)):Option (Bool)).bind λX076=>some X076) else (bif (a0.Op.Kind==(7:Int)) then ((bif ((List.length a0.Marks:Int)==(0:Int)) then (bif (decide ((List.length a0.Store:Int)<=(0:Int))) then (bif (decide ((List.length a0.Events:Int)<=(0:Int))) then (bif (decide ((List.length a0.Rows:Int)<=(0:Int))) then (some (bif (bif (bif (bif ((List.length a0.Marks:Int)==(0:Int)) then (decide ((List.length a0.Store:Int)<=(0:Int))) else false) then (decide ((List.length a0.Events:Int)<=(0:Int))) else false) then (decide ((List.length a0.Rows:Int)<=(0:Int))) else false) then (decide ((List.length a0.Late:Int)<=(4000:Int))) else false)) else (some (bif (bif (bif (bif ((List.length a0.Marks:Int)==(0:Int)) then (decide ((List.length a0.Store:Int)<=(0:Int))) else false) then (decide ((List.length a0.Events:Int)<=(0:Int))) else false) then (decide ((List.length a0.Rows:Int)<=(0:Int))) else false) then false else false))) else (some (bif (bif (bif (bif ((List.length a0.Marks:Int)==(0:Int)) then (decide ((List.length a0.Store:Int)<=(0:Int))) else false) then (decide ((List.length a0.Events:Int)<=(0:Int))) else false) then false else false) then false else false))) else (some (bif (bif (bif (bif ((List.length a0.Marks:Int)==(0:Int)) then (decide ((List.length a0.Store:Int)<=(0:Int))) else false) then false else false) then false else false) then false else false))) else (some (bif (bif (bif (bif ((List.length a0.Marks:Int)==(0:Int)) then false else false) then false else false) then false else false) then false else false)):Option (Bool)).bind λX075=>some X075) else (some false)))))))
inductive X76 where
 |x0
 |x1
def X47 (X08:(List X3i)):List X3i->Nat->Option X76
 |[],k=>some (.x0)
 |x::xs,k=>(bif (decide (x.Out<(0:Int))) then (some (bif (bif (decide (x.Out<(0:Int))) then true else false) then true else false)) else (bif (decide (x.Out >= (3:Int))) then (some (bif (bif (decide (x.Out<(0:Int))) then true else (decide (x.Out >= (3:Int)))) then true else false)) else ((X9q x.Message).bind λv33=>some (bif (bif (decide (x.Out<(0:Int))) then true else (decide (x.Out >= (3:Int)))) then true else (!v33)))):Option (Bool)).bind λXzb=>bif Xzb then (some (.x1)) else (X47 X08 xs (k+1))
def Xbx (a0:(List X3i)):Option (Bool) :=
 (X4k (List.length a0)).bind λu1=>(X47  a0 a0 0).bind λo37=>match o37 with|.x0=>(some true)|.x1=>(some false)
def Xbz (a0:Int):Option (Bool) :=
 (bif (a0==((-9223372036854775808):Int)) then (some (bif (a0==((-9223372036854775808):Int)) then true else false)) else ((X9r a0).bind λv6=>some (bif (a0==((-9223372036854775808):Int)) then true else v6)):Option (Bool)).bind λj4_2=>some j4_2
def Xc2 (a0:X5m):Option (Int) :=
 (bif a0.Mark then ((X9r a0.Time).bind λv20=>bif v20 then (bif (X20 a0.Record (X07.mk 0 0 0)) then (some (bif (bif (bif a0.Mark then v20 else false) then (X20 a0.Record (X07.mk 0 0 0)) else false) then true else false)) else (bif (!a0.Mark) then (bif (a0.Time==(0:Int)) then ((X57 a0.Record).bind λv26=>some (bif (bif (bif a0.Mark then v20 else false) then (X20 a0.Record (X07.mk 0 0 0)) else false) then true else (bif (bif (!a0.Mark) then (a0.Time==(0:Int)) else false) then v26 else false))) else (some (bif (bif (bif a0.Mark then v20 else false) then (X20 a0.Record (X07.mk 0 0 0)) else false) then true else (bif (bif (!a0.Mark) then (a0.Time==(0:Int)) else false) then false else false)))) else (some (bif (bif (bif a0.Mark then v20 else false) then (X20 a0.Record (X07.mk 0 0 0)) else false) then true else (bif (bif (!a0.Mark) then false else false) then false else false))))) else (bif (!a0.Mark) then (bif (a0.Time==(0:Int)) then ((X57 a0.Record).bind λv30=>some (bif (bif (bif a0.Mark then v20 else false) then false else false) then true else (bif (bif (!a0.Mark) then (a0.Time==(0:Int)) else false) then v30 else false))) else (some (bif (bif (bif a0.Mark then v20 else false) then false else false) then true else (bif (bif (!a0.Mark) then (a0.Time==(0:Int)) else false) then false else false)))) else (some (bif (bif (bif a0.Mark then v20 else false) then false else false) then true else (bif (bif (!a0.Mark) then false else false) then false else false))))) else (bif (!a0.Mark) then (bif (a0.Time==(0:Int)) then ((X57 a0.Record).bind λv34=>some (bif (bif (bif a0.Mark then false else false) then false else false) then true else (bif (bif (!a0.Mark) then (a0.Time==(0:Int)) else false) then v34 else false))) else (some (bif (bif (bif a0.Mark then false else false) then false else false) then true else (bif (bif (!a0.Mark) then (a0.Time==(0:Int)) else false) then false else false)))) else (some (bif (bif (bif a0.Mark then false else false) then false else false) then true else (bif (bif (!a0.Mark) then false else false) then false else false)))):Option (Bool)).bind λXzh=>bif Xzh then (some 0) else (some 8)
inductive X7a where
 |x0
 |x1
def X4b (Xe:Xv):Nat->Int->Option X7a
 |0,_=>none
 |n+1,X6v=>bif (decide (X6v<(List.length Xe.Marks:Int))) then ((X14 Xe.Marks X6v).bind λe15=>(Xbz e15).bind λv17=>bif (!v17) then (some (.x0)) else (X4b Xe n (IntKind.i64.wrap (X6v+1)))) else (some (.x1))
inductive X79 where
 |x0
 |x1
def X4a (X09:Xv):Nat->Int->Option X79
 |0,_=>none
 |n+1,Xb6=>bif (decide (Xb6<(List.length X09.Events:Int))) then ((X14 X09.Events Xb6).bind λe36=>(Xc2 e36).bind λv38=>bif (v38 != (0:Int)) then (some (.x0)) else (X4a X09 n (IntKind.i64.wrap (Xb6+1)))) else (some (.x1))
inductive X78 where
 |x0
 |x1
def X49 (X31:Xv):Nat->Int->Option X78
 |0,_=>none
 |n+1,Xrn=>bif (decide (Xrn<(List.length X31.Rows:Int))) then ((X14 X31.Rows Xrn).bind λe57=>(Xdp e57).bind λv59=>bif (!v59) then (some (.x0)) else (X49 X31 n (IntKind.i64.wrap (Xrn+1)))) else (some (.x1))
inductive X77 where
 |x0
 |x1
def X48 (X9i:Xv):Nat->Int->Option X77
 |0,_=>none
 |n+1,y3_6=>bif (decide (y3_6<(List.length X9i.Late:Int))) then ((X14 X9i.Late y3_6).bind λe78=>(X57 e78).bind λv80=>bif (!v80) then (some (.x0)) else (X48 X9i n (IntKind.i64.wrap (y3_6+1)))) else (some (.x1))
def Xby (a0:Xv):Option (Bool) :=
 (X4b  a0 FU 0).bind λo20=>match o20 with|.x0=>(some false)|.x1=>((X4a  a0 FU 0).bind λo41=>match o41 with|.x0=>(some false)|.x1=>((X49  a0 FU 0).bind λo62=>match o62 with|.x0=>(some false)|.x1=>((X48  a0 FU 0).bind λo83=>match o83 with|.x0=>(some false)|.x1=>(some true))))
def X68 (a0:X4z):Option (Int) :=
 (bif (decide (a0.Count<(0:Int))) then (some (decide (a0.Count<(0:Int)))) else (some (decide (a0.Count>(1073741824:Int)))):Option (Bool)).bind λj2_3=>bif j2_3 then (some 8) else (bif (bif (a0.Count==(0:Int)) then (bif (bif (a0.Sum != (0:Int)) then true else (a0.Min != (0:Int))) then true else (a0.Max != (0:Int))) else false) then (some 8) else (bif (bif (a0.Count==(1:Int)) then (bif (a0.Sum != a0.Min) then true else (a0.Min != a0.Max)) else false) then (some 8) else (bif (decide (a0.Min>a0.Max)) then (some 8) else (some 0))))
def X9t (a0:Xg) (a1:Xg):Option (Bool) :=
 bif (a0.Span.End != a1.Span.End) then (some (decide (a0.Span.End<a1.Span.End))) else (bif (a0.Span.Start != a1.Span.Start) then (some (decide (a0.Span.Start<a1.Span.Start))) else (some (decide (a0.Key<a1.Key))))
inductive X7f where
 |x0
 |x1
def X4g (X08:(List Xg)):List Xg->Nat->Option X7f
 |[],k=>some (.x0)
 |x::xs,k=>((X68 x.Values.e0).bind λv97=>bif (v97==(0:Int)) then ((X68 x.Values.e1).bind λv100=>some (bif (v97==(0:Int)) then (v100==(0:Int)) else false)) else (some (bif (v97==(0:Int)) then false else false)):Option (Bool)).bind λXsg=>(bif (!(bif (bif (decide (x.Span.Start >= ((-1100585369600):Int))) then (decide (x.Span.Start<x.Span.End)) else false) then (decide (x.Span.End<=(1100585369600:Int))) else false)) then (some true) else (bif (!Xsg) then (some true) else (bif (x.Values.e0.Count==(0:Int)) then (bif (x.Values.e1.Count==(0:Int)) then (some true) else (bif (decide ((k:Int)>(0:Int))) then ((X14 X08 (IntKind.i64.wrap ((k:Int) - 1))).bind λe123=>(X9t e123 x).bind λv125=>some (bif (bif (bif (!(bif (bif (decide (x.Span.Start >= ((-1100585369600):Int))) then (decide (x.Span.Start<x.Span.End)) else false) then (decide (x.Span.End<=(1100585369600:Int))) else false)) then true else (!Xsg)) then true else (bif (x.Values.e0.Count==(0:Int)) then (x.Values.e1.Count==(0:Int)) else false)) then true else (bif (decide ((k:Int)>(0:Int))) then (!v125) else false))) else (some (bif (bif (bif (!(bif (bif (decide (x.Span.Start >= ((-1100585369600):Int))) then (decide (x.Span.Start<x.Span.End)) else false) then (decide (x.Span.End<=(1100585369600:Int))) else false)) then true else (!Xsg)) then true else (bif (x.Values.e0.Count==(0:Int)) then (x.Values.e1.Count==(0:Int)) else false)) then true else false)))) else (bif (decide ((k:Int)>(0:Int))) then ((X14 X08 (IntKind.i64.wrap ((k:Int) - 1))).bind λe128=>(X9t e128 x).bind λv130=>some (bif (bif (bif (!(bif (bif (decide (x.Span.Start >= ((-1100585369600):Int))) then (decide (x.Span.Start<x.Span.End)) else false) then (decide (x.Span.End<=(1100585369600:Int))) else false)) then true else (!Xsg)) then true else false) then true else (bif (decide ((k:Int)>(0:Int))) then (!v130) else false))) else (some (bif (bif (bif (!(bif (bif (decide (x.Span.Start >= ((-1100585369600):Int))) then (decide (x.Span.Start<x.Span.End)) else false) then (decide (x.Span.End<=(1100585369600:Int))) else false)) then true else (!Xsg)) then true else false) then true else false))))):Option (Bool)).bind λXst=>bif Xst then (some (.x1)) else (X4g X08 xs (k+1))
def Xc5 (a0:(List Xg)):Option (Int) :=
 bif (decide ((List.length a0:Int)>(4000:Int))) then (some 4) else ((X4k (List.length a0)).bind λu2=>(X4g  a0 a0 0).bind λo134=>match o134 with|.x0=>(some 0)|.x1=>(some 8))
inductive X7b where
 |x0
 |x1
def X4c (Xe:Xv):Nat->Int->Option X7b
 |0,_=>none
 |n+1,X6v=>bif (decide (X6v<(List.length Xe.Store:Int))) then ((bif (Xe.Op.Kind==(4:Int)) then ((X14 Xe.Store X6v).bind λe60=>some (bif (Xe.Op.Kind==(4:Int)) then (e60.Values.e1.Count != (0:Int)) else false)) else (some (bif (Xe.Op.Kind==(4:Int)) then false else false)):Option (Bool)).bind λXz7=>bif Xz7 then (some (.x0)) else (X4c Xe n (IntKind.i64.wrap (X6v+1)))) else (some (.x1))
def Xc1 (a0:Xv):Option (Int) :=
 (bif (decide (a0.Turn<(0:Int))) then (some (bif (bif (bif (bif (bif (bif (bif (decide (a0.Turn<(0:Int))) then true else false) then true else false) then true else false) then true else false) then true else false) then true else false) then true else false)) else (bif (decide (a0.Turn >= (20:Int))) then (some (bif (bif (bif (bif (bif (bif (bif (decide (a0.Turn<(0:Int))) then true else (decide (a0.Turn >= (20:Int)))) then true else false) then true else false) then true else false) then true else false) then true else false) then true else false)) else (bif (decide ((List.length a0.Pending:Int)>(4000:Int))) then (some (bif (bif (bif (bif (bif (bif (bif (decide (a0.Turn<(0:Int))) then true else (decide (a0.Turn >= (20:Int)))) then true else (decide ((List.length a0.Pending:Int)>(4000:Int)))) then true else false) then true else false) then true else false) then true else false) then true else false)) else (bif (decide (a0.Op.N<(0:Int))) then (some (bif (bif (bif (bif (bif (bif (bif (decide (a0.Turn<(0:Int))) then true else (decide (a0.Turn >= (20:Int)))) then true else (decide ((List.length a0.Pending:Int)>(4000:Int)))) then true else (decide (a0.Op.N<(0:Int)))) then true else false) then true else false) then true else false) then true else false)) else (bif (decide (a0.Op.N >= (4:Int))) then (some (bif (bif (bif (bif (bif (bif (bif (decide (a0.Turn<(0:Int))) then true else (decide (a0.Turn >= (20:Int)))) then true else (decide ((List.length a0.Pending:Int)>(4000:Int)))) then true else (decide (a0.Op.N<(0:Int)))) then true else (decide (a0.Op.N >= (4:Int)))) then true else false) then true else false) then true else false)) else ((Xdk a0).bind λv20=>bif (!v20) then (some (bif (bif (bif (bif (bif (bif (bif (decide (a0.Turn<(0:Int))) then true else (decide (a0.Turn >= (20:Int)))) then true else (decide ((List.length a0.Pending:Int)>(4000:Int)))) then true else (decide (a0.Op.N<(0:Int)))) then true else (decide (a0.Op.N >= (4:Int)))) then true else (!v20)) then true else false) then true else false)) else ((Xbx a0.Pending).bind λv23=>bif (!v23) then (some (bif (bif (bif (bif (bif (bif (bif (decide (a0.Turn<(0:Int))) then true else (decide (a0.Turn >= (20:Int)))) then true else (decide ((List.length a0.Pending:Int)>(4000:Int)))) then true else (decide (a0.Op.N<(0:Int)))) then true else (decide (a0.Op.N >= (4:Int)))) then true else (!v20)) then true else (!v23)) then true else false)) else ((Xby a0).bind λv26=>some (bif (bif (bif (bif (bif (bif (bif (decide (a0.Turn<(0:Int))) then true else (decide (a0.Turn >= (20:Int)))) then true else (decide ((List.length a0.Pending:Int)>(4000:Int)))) then true else (decide (a0.Op.N<(0:Int)))) then true else (decide (a0.Op.N >= (4:Int)))) then true else (!v20)) then true else (!v23)) then true else (!v26))))))))):Option (Bool)).bind λXzj=>bif Xzj then (some 8) else ((Xc5 a0.Store).bind λv30=>bif (v30 != (0:Int)) then (some 8) else ((X4c  a0 FU 0).bind λo64=>match o64 with|.x0=>(some 8)|.x1=>(some 0)))
inductive X9m where
 |x0 (X1h:(List Int))
def X4q (Xnw:Int) (y1_2:Bool) (X09:Xt) (Xrs:Int):Nat->(List Int)->Int->Option X9m
 |0,_,_=>none
 |n+1,X2i,Xq6=>bif (decide (Xq6<(List.length X09.Channels:Int))) then ((X14 X09.Channels Xq6).bind λe285=>(bif (bif (bif (bif y1_2 then (e285.To==Xnw) else false) then (e285.In==Xrs) else false) then true else (bif (bif (!y1_2) then (e285.From==Xnw) else false) then (e285.Out==Xrs) else false)) then ((X0a (List.length (X2i++[Xq6])) 8).bind λu292=>some (X2i++[Xq6])) else (some X2i):Option ((List Int))).bind λXmb=>X4q Xnw y1_2 X09 Xrs n Xmb (IntKind.i64.wrap (Xq6+1))) else (some (.x0 X2i))
inductive X9n where
 |x0 (Xz:(List Int))
def X4r (X4w:Int) (y0_2:Bool) (Xe:Xt):Nat->(List Int)->Int->Option X9n
 |0,_,_=>none
 |n+1,Xj,Xk3=>bif (decide (Xk3<(20:Int))) then ((X4q  X4w y0_2 Xe Xk3 FU Xj 0).bind λo306=>match o306 with|.x0 X1h=>(X4r X4w y0_2 Xe n X1h (IntKind.i64.wrap (Xk3+1)))) else (some (.x0 Xj))
def X80 (a0:Xt) (a1:Int) (a2:Bool):Option ((List Int)) :=
 (X4r  a1 a2 a0 FU ([]:List Int) 0).bind λo356=>match o356 with|.x0 Xz=>(some Xz)
def Xdj (a0:Xf) (a1:Int):Option ((List Int)) :=
 (X80 a0.Graph a1 false).bind λv1=>some v1
def Xfe (a0:Xf) (a1:Int):Option ((List Int)) :=
 (X80 a0.Graph a1 true).bind λv1=>some v1
inductive X6i where
 |x0
 |x1
def X4p (X4w:Int) (Xe:Xf) (Xj:Xv) (X85:Int):Nat->Int->Option X6i
 |0,_=>none
 |n+1,Xrt=>bif (decide (Xrt<(List.length Xj.Pending:Int))) then ((X14 Xj.Pending Xrt).bind λe28=>bif (decide (e28.Out >= X85)) then (some (.x0)) else (X4p X4w Xe Xj X85 n (IntKind.i64.wrap (Xrt+1)))) else (some (.x1))
def Xad (a0:Xf) (a1:Int):Option (Bool) :=
 (X14 a0.Tasks a1).bind λe1=>((X14 a0.Graph.Ops a1).bind λe9=>bif (!(X6u e1.Op e9)) then (some true) else ((Xc1 e1).bind λv12=>some (bif (!(X6u e1.Op e9)) then true else (v12 != (0:Int)))):Option (Bool)).bind λX073=>bif X073 then (some false) else ((Xdj a0 a1).bind λv16=>(X4p  a1 a0 e1 (List.length v16:Int) FU 0).bind λo31=>match o31 with|.x0=>(some false)|.x1=>(bif (bif (bif (e1.Op.Kind==(2:Int)) then (bif ((List.length v16:Int) != (1:Int)) then true else (a0.Query.Late==(2:Int))) else false) then (bif ((List.length v16:Int) != (2:Int)) then true else (!(a0.Query.Late==(2:Int)))) else false) then (some false) else ((Xfe a0 a1).bind λv34=>(bif (e1.Op.Kind != (4:Int)) then (bif (e1.Op.Kind != (5:Int)) then (some (bif (bif (e1.Op.Kind != (4:Int)) then true else false) then (bif (e1.Op.Kind != (5:Int)) then true else false) else false)) else (bif ((List.length v34:Int)==(2:Int)) then (some (bif (bif (e1.Op.Kind != (4:Int)) then true else false) then (bif (e1.Op.Kind != (5:Int)) then true else (bif ((List.length v34:Int)==(2:Int)) then a0.Query.Join else false)) else false)) else (some (bif (bif (e1.Op.Kind != (4:Int)) then true else false) then (bif (e1.Op.Kind != (5:Int)) then true else (bif ((List.length v34:Int)==(2:Int)) then false else false)) else false)))) else (bif ((List.length e1.Marks:Int)==(List.length v34:Int)) then (bif (!a0.Query.Join) then (bif (e1.Op.Kind != (5:Int)) then (some (bif (bif (e1.Op.Kind != (4:Int)) then true else (bif ((List.length e1.Marks:Int)==(List.length v34:Int)) then (!a0.Query.Join) else false)) then (bif (e1.Op.Kind != (5:Int)) then true else false) else false)) else (bif ((List.length v34:Int)==(2:Int)) then (some (bif (bif (e1.Op.Kind != (4:Int)) then true else (bif ((List.length e1.Marks:Int)==(List.length v34:Int)) then (!a0.Query.Join) else false)) then (bif (e1.Op.Kind != (5:Int)) then true else (bif ((List.length v34:Int)==(2:Int)) then a0.Query.Join else false)) else false)) else (some (bif (bif (e1.Op.Kind != (4:Int)) then true else (bif ((List.length e1.Marks:Int)==(List.length v34:Int)) then (!a0.Query.Join) else false)) then (bif (e1.Op.Kind != (5:Int)) then true else (bif ((List.length v34:Int)==(2:Int)) then false else false)) else false)))) else (some (bif (bif (e1.Op.Kind != (4:Int)) then true else (bif ((List.length e1.Marks:Int)==(List.length v34:Int)) then (!a0.Query.Join) else false)) then false else false))) else (some (bif (bif (e1.Op.Kind != (4:Int)) then true else (bif ((List.length e1.Marks:Int)==(List.length v34:Int)) then false else false)) then false else false))):Option (Bool)).bind λX07f=>some X07f)))
inductive X75 where
 |x0
 |x1
def X46 (Xe:Xf):Nat->Int->Option X75
 |0,_=>none
 |n+1,X6v=>bif (decide (X6v<(List.length Xe.Queues:Int))) then (((X14 Xe.Queues X6v).bind λe64=>(X14 Xe.Graph.Channels X6v).bind λe66=>bif (e64.Room != e66.Room) then (some true) else ((X9p e64).bind λv69=>some (bif (e64.Room != e66.Room) then true else (v69 != (0:Int)))):Option (Bool)).bind λXz6=>bif Xz6 then (some (.x0)) else (X46 Xe n (IntKind.i64.wrap (X6v+1)))) else (some (.x1))
inductive X74 where
 |x0
 |x1
def X45 (X09:Xf):Nat->Int->Option X74
 |0,_=>none
 |n+1,Xb6=>bif (decide (Xb6<(List.length X09.Tasks:Int))) then ((Xad X09 Xb6).bind λv85=>bif (!v85) then (some (.x0)) else (X45 X09 n (IntKind.i64.wrap (Xb6+1)))) else (some (.x1))
def X9o (a0:Xf):Option (Int) :=
 ((X6x a0.Query).bind λv9=>bif (!v9) then (some (bif (bif (bif (!v9) then true else false) then true else false) then true else false)) else ((X7m a0.Graph).bind λv12=>bif (v12 != (0:Int)) then (some (bif (bif (bif (!v9) then true else (v12 != (0:Int))) then true else false) then true else false)) else (bif ((List.length a0.Tasks:Int) != (List.length a0.Graph.Ops:Int)) then (some (bif (bif (bif (!v9) then true else (v12 != (0:Int))) then true else ((List.length a0.Tasks:Int) != (List.length a0.Graph.Ops:Int))) then true else false)) else (some (bif (bif (bif (!v9) then true else (v12 != (0:Int))) then true else ((List.length a0.Tasks:Int) != (List.length a0.Graph.Ops:Int))) then true else ((List.length a0.Queues:Int) != (List.length a0.Graph.Channels:Int)))))):Option (Bool)).bind λX071=>bif X071 then (some 8) else ((X46  a0 FU 0).bind λo73=>match o73 with|.x0=>(some 8)|.x1=>((X45  a0 FU 0).bind λo88=>match o88 with|.x0=>(some 8)|.x1=>(some 0)))
inductive X8j where
 |x0 (Xbf:(List Xg)) (Xeo:Int)
def X3o (X31:Xf) (Xf6:(List Xg)) (y2_4:Int) (Xrn:Int) (Xqa:Xg):Nat->Int->Option X8j
 |0,_=>none
 |n+1,Xcj=>(bif (decide (Xcj>(0:Int))) then ((X14 Xf6 (IntKind.i64.wrap (Xcj - 1))).bind λe2269=>(X9t Xqa e2269).bind λv2271=>some (bif (decide (Xcj>(0:Int))) then v2271 else false)) else (some false):Option (Bool)).bind λXpn=>bif Xpn then (X3o X31 Xf6 y2_4 Xrn Xqa n (IntKind.i64.wrap (Xcj - 1))) else (some (.x0 Xf6 Xcj))
inductive X8k where
 |x0 (X1h:(List Xg))
def X10 (X09:Xf) (Xb6:Int):Nat->(List Xg)->Int->Option X8k
 |0,_,_=>none
 |n+1,X2i,Xih=>(X14 X09.Tasks Xb6).bind λe2212=>bif (decide (Xih<(List.length e2212.Store:Int))) then ((X14 e2212.Store Xih).bind λe2215=>(X3o  X09 X2i Xb6 Xih e2215 FU (List.length X2i:Int)).bind λo2284=>match o2284 with|.x0 Xbf Xeo=>((X8h Xbf 0 Xeo).bind λm2286=>(X8h Xbf Xeo (List.length Xbf:Int)).bind λm2288=>bif (List.isEmpty m2288) then (bif (List.isEmpty ([]:List Xg)) then ((X0a (List.length (m2286++[e2215])) 88).bind λu2292=>X10 X09 Xb6 n (m2286++[e2215]) (IntKind.i64.wrap (Xih+1))) else ((X0a (List.length ([e2215]++([]:List Xg))) 88).bind λu2294=>bif (List.isEmpty ([e2215]++([]:List Xg))) then (X10 X09 Xb6 n m2286 (IntKind.i64.wrap (Xih+1))) else ((X0a (List.length (m2286++([e2215]++([]:List Xg)))) 88).bind λu2297=>X10 X09 Xb6 n (m2286++([e2215]++([]:List Xg))) (IntKind.i64.wrap (Xih+1))))) else (bif (List.isEmpty m2288) then ((X0a (List.length (m2286++[e2215])) 88).bind λu2300=>X10 X09 Xb6 n (m2286++[e2215]) (IntKind.i64.wrap (Xih+1))) else ((X0a (List.length ([e2215]++m2288)) 88).bind λu2302=>bif (List.isEmpty ([e2215]++m2288)) then (X10 X09 Xb6 n m2286 (IntKind.i64.wrap (Xih+1))) else ((X0a (List.length (m2286++([e2215]++m2288))) 88).bind λu2305=>X10 X09 Xb6 n (m2286++([e2215]++m2288)) (IntKind.i64.wrap (Xih+1))))))) else (some (.x0 X2i))
inductive X8l where
 |x0 (Xz:(List Xg))
def X3p (Xe:Xf):Nat->(List Xg)->Int->Option X8l
 |0,_,_=>none
 |n+1,Xj,Xgp=>bif (decide (Xgp<(List.length Xe.Tasks:Int))) then ((X10  Xe Xgp FU Xj 0).bind λo2402=>match o2402 with|.x0 X1h=>(X3p Xe n X1h (IntKind.i64.wrap (Xgp+1)))) else (some (.x0 Xj))
def Xau (a0:Xf):Option ((List Xg)) :=
 (X3p  a0 FU ([]:List Xg) 0).bind λo2744=>match o2744 with|.x0 Xz=>(some Xz)
def Xg1 (a0:Xf):Option ((List Xg)×Int) :=
 (X9o a0).bind λv1=>bif (v1 != (0:Int)) then (some (([]:List Xg),v1)) else ((Xau a0).bind λv4=>some (v4,0))
inductive X6s where
 |x0 (X1h:Int)
def X1p (Xwt:Xf) (Xrs:(List Xv)) (Xq6:Int) (Xwu:Int) (Xor:(List Int)):List Int->Nat->Int->Option X6s
 |[],k,X2i=>some (.x0 X2i)
 |x::xs,k,X2i=>X1p Xwt Xrs Xq6 Xwu Xor xs (k+1) (if x<X2i then x else X2i)
inductive X6t where
 |x0 (X0y:Int)
def X13 (Xa9:Xf) (Xk3:(List Xv)):List Xv->Nat->Int->Option X6t
 |[],k,Xj=>some (.x0 Xj)
 |x::xs,k,Xj=>bif (bif (x.Op.Kind != (4:Int)) then (x.Op.Kind != (5:Int)) else false) then (X13 Xa9 Xk3 xs (k+1) Xj) else ((X4k (List.length x.Marks)).bind λu20=>(X1p  Xa9 Xk3 (List.length Xk3:Int) (k:Int) x.Marks x.Marks 0 Xj).bind λo23=>match o23 with|.x0 X1h=>(X13 Xa9 Xk3 xs (k+1) X1h))
def Xcr (a0:Xf):Option (Int×Int) :=
 (Xb8 a0).bind λv1=>bif (v1 != (0:Int)) then (some (0,v1)) else ((X4k (List.length a0.Tasks)).bind λu4=>(X13  a0 a0.Tasks a0.Tasks 0 9223372036854775807).bind λo25=>match o25 with|.x0 X0y=>(some (X0y,0)))
inductive Xan where
 |x0 (Xns:Int)
def X5p (X09:Xf) (Xb6:Int):Nat->Int->Int->Option Xan
 |0,_,_=>none
 |n+1,y1_3,Xjo=>(X14 X09.Tasks Xb6).bind λe61=>bif (decide (Xjo<(List.length e61.Marks:Int))) then ((X14 e61.Marks Xjo).bind λe64=>X5p X09 Xb6 n (if e64<y1_3 then e64 else y1_3) (IntKind.i64.wrap (Xjo+1))) else (some (.x0 y1_3))
inductive Xao where
 |x0 (Xnv:Int)
def X42 (Xe:Xf):Nat->Int->Int->Option Xao
 |0,_,_=>none
 |n+1,X6v,Xgp=>bif (decide (Xgp<(List.length Xe.Tasks:Int))) then ((X14 Xe.Tasks Xgp).bind λe47=>bif (bif (e47.Op.Kind != (4:Int)) then (e47.Op.Kind != (5:Int)) else false) then (X42 Xe n X6v (IntKind.i64.wrap (Xgp+1))) else ((X5p  Xe Xgp FU X6v 0).bind λo66=>match o66 with|.x0 Xns=>(X42 Xe n Xns (IntKind.i64.wrap (Xgp+1))))) else (some (.x0 X6v))
def Xe8 (a0:Xf):Option (Int) :=
 (X42  a0 FU 9223372036854775807 0).bind λo68=>match o68 with|.x0 Xnv=>(some Xnv)
def Xg2 (a0:Xf):Option (Int×Int) :=
 (X9o a0).bind λv1=>bif (v1 != (0:Int)) then (some (0,v1)) else ((Xe8 a0).bind λv4=>some (v4,0))
inductive X8x where
 |x0
 |x1
def X59 (X08:(List Xg)) (X4w:(List Xg)):List Xg->Nat->Option X8x
 |[],k=>some (.x0)
 |x::xs,k=>(X14 X4w (k:Int)).bind λe11=>bif (!(Xbe x e11)) then (some (.x1)) else (X59 X08 X4w xs (k+1))
def Xdq (a0:(List Xg)) (a1:(List Xg)):Option (Bool) :=
 bif ((List.length a0:Int) != (List.length a1:Int)) then (some false) else ((X4k (List.length a0)).bind λu2=>(X59  a0 a1 a0 0).bind λo14=>match o14 with|.x0=>(some true)|.x1=>(some false))
inductive X56 where
 |x0
 |x1
def X2j (X08:(List Xo)) (X4w:(List Xo)):List Xo->Nat->Option X56
 |[],k=>some (.x0)
 |x::xs,k=>(X14 X4w (k:Int)).bind λe11=>bif (!(X3y x e11)) then (some (.x1)) else (X2j X08 X4w xs (k+1))
def Xa4 (a0:(List Xo)) (a1:(List Xo)):Option (Bool) :=
 bif ((List.length a0:Int) != (List.length a1:Int)) then (some false) else ((X4k (List.length a0)).bind λu2=>(X2j  a0 a1 a0 0).bind λo14=>match o14 with|.x0=>(some true)|.x1=>(some false))
def Xdo (a0:X0e) (a1:X0e):Option (Bool) :=
 (bif (a0.Room==a1.Room) then ((Xa4 a0.List a1.List).bind λv6=>some (bif (a0.Room==a1.Room) then v6 else false)) else (some (bif (a0.Room==a1.Room) then false else false)):Option (Bool)).bind λj4_4=>some j4_4
inductive X5x where
 |x0
 |x1
def X2v (X08:(List X0e)) (X4w:(List X0e)):List X0e->Nat->Option X5x
 |[],k=>some (.x0)
 |x::xs,k=>(X14 X4w (k:Int)).bind λe15=>(Xdo x e15).bind λv17=>bif (!v17) then (some (.x1)) else (X2v X08 X4w xs (k+1))
def Xaw (a0:(List X0e)) (a1:(List X0e)):Option (Bool) :=
 bif ((List.length a0:Int) != (List.length a1:Int)) then (some false) else ((X4k (List.length a0)).bind λu2=>(X2v  a0 a1 a0 0).bind λo20=>match o20 with|.x0=>(some true)|.x1=>(some false))
inductive X4n where
 |x0
 |x1
def X26 (X08:(List X3i)) (X4w:(List X3i)):List X3i->Nat->Option X4n
 |[],k=>some (.x0)
 |x::xs,k=>(X14 X4w (k:Int)).bind λe11=>bif (!(Xmn x e11)) then (some (.x1)) else (X26 X08 X4w xs (k+1))
def X66 (a0:(List X3i)) (a1:(List X3i)):Option (Bool) :=
 bif ((List.length a0:Int) != (List.length a1:Int)) then (some false) else ((X4k (List.length a0)).bind λu2=>(X26  a0 a1 a0 0).bind λo14=>match o14 with|.x0=>(some true)|.x1=>(some false))
inductive X8s where
 |x0
 |x1
def X55 (Xe:Xv) (Xj:Xv):Nat->Int->Option X8s
 |0,_=>none
 |n+1,X87=>bif (decide (X87<(List.length Xe.Marks:Int))) then ((X14 Xe.Marks X87).bind λe36=>(X14 Xj.Marks X87).bind λe38=>bif (e36 != e38) then (some (.x0)) else (X55 Xe Xj n (IntKind.i64.wrap (X87+1)))) else (some (.x1))
inductive X8r where
 |x0
 |x1
def X54 (X09:Xv) (X2i:Xv):Nat->Int->Option X8r
 |0,_=>none
 |n+1,Xjo=>bif (decide (Xjo<(List.length X09.Store:Int))) then ((X14 X09.Store Xjo).bind λe57=>(X14 X2i.Store Xjo).bind λe59=>bif (!(Xbe e57 e59)) then (some (.x0)) else (X54 X09 X2i n (IntKind.i64.wrap (Xjo+1)))) else (some (.x1))
inductive X8q where
 |x0
 |x1
def X53 (X31:Xv) (Xf6:Xv):Nat->Int->Option X8q
 |0,_=>none
 |n+1,Xcj=>bif (decide (Xcj<(List.length X31.Events:Int))) then ((X14 X31.Events Xcj).bind λe78=>(X14 Xf6.Events Xcj).bind λe80=>bif (!(Xjk e78 e80)) then (some (.x0)) else (X53 X31 Xf6 n (IntKind.i64.wrap (Xcj+1)))) else (some (.x1))
inductive X8p where
 |x0
 |x1
def X52 (X9i:Xv) (Xus:Xv):Nat->Int->Option X8p
 |0,_=>none
 |n+1,y3_8=>bif (decide (y3_8<(List.length X9i.Rows:Int))) then ((X14 X9i.Rows y3_8).bind λe99=>(X14 Xus.Rows y3_8).bind λe101=>bif (!(Xi5 e99 e101)) then (some (.x0)) else (X52 X9i Xus n (IntKind.i64.wrap (y3_8+1)))) else (some (.x1))
inductive X8o where
 |x0
 |x1
def X51 (Xex:Xv) (Xws:Xv):Nat->Int->Option X8o
 |0,_=>none
 |n+1,y4_9=>bif (decide (y4_9<(List.length Xex.Late:Int))) then ((X14 Xex.Late y4_9).bind λe120=>(X14 Xws.Late y4_9).bind λe122=>bif (!(X20 e120 e122)) then (some (.x0)) else (X51 Xex Xws n (IntKind.i64.wrap (y4_9+1)))) else (some (.x1))
def Xdm (a0:Xv) (a1:Xv):Option (Bool) :=
 (bif (!(X6u a0.Op a1.Op)) then (some (bif (bif (bif (bif (bif (bif (bif (!(X6u a0.Op a1.Op)) then true else false) then true else false) then true else false) then true else false) then true else false) then true else false) then true else false)) else (bif (a0.Turn != a1.Turn) then (some (bif (bif (bif (bif (bif (bif (bif (!(X6u a0.Op a1.Op)) then true else (a0.Turn != a1.Turn)) then true else false) then true else false) then true else false) then true else false) then true else false) then true else false)) else ((X66 a0.Pending a1.Pending).bind λv13=>bif (!v13) then (some (bif (bif (bif (bif (bif (bif (bif (!(X6u a0.Op a1.Op)) then true else (a0.Turn != a1.Turn)) then true else (!v13)) then true else false) then true else false) then true else false) then true else false) then true else false)) else (bif ((List.length a0.Marks:Int) != (List.length a1.Marks:Int)) then (some (bif (bif (bif (bif (bif (bif (bif (!(X6u a0.Op a1.Op)) then true else (a0.Turn != a1.Turn)) then true else (!v13)) then true else ((List.length a0.Marks:Int) != (List.length a1.Marks:Int))) then true else false) then true else false) then true else false) then true else false)) else (bif ((List.length a0.Store:Int) != (List.length a1.Store:Int)) then (some (bif (bif (bif (bif (bif (bif (bif (!(X6u a0.Op a1.Op)) then true else (a0.Turn != a1.Turn)) then true else (!v13)) then true else ((List.length a0.Marks:Int) != (List.length a1.Marks:Int))) then true else ((List.length a0.Store:Int) != (List.length a1.Store:Int))) then true else false) then true else false) then true else false)) else (bif ((List.length a0.Events:Int) != (List.length a1.Events:Int)) then (some (bif (bif (bif (bif (bif (bif (bif (!(X6u a0.Op a1.Op)) then true else (a0.Turn != a1.Turn)) then true else (!v13)) then true else ((List.length a0.Marks:Int) != (List.length a1.Marks:Int))) then true else ((List.length a0.Store:Int) != (List.length a1.Store:Int))) then true else ((List.length a0.Events:Int) != (List.length a1.Events:Int))) then true else false) then true else false)) else (bif ((List.length a0.Rows:Int) != (List.length a1.Rows:Int)) then (some (bif (bif (bif (bif (bif (bif (bif (!(X6u a0.Op a1.Op)) then true else (a0.Turn != a1.Turn)) then true else (!v13)) then true else ((List.length a0.Marks:Int) != (List.length a1.Marks:Int))) then true else ((List.length a0.Store:Int) != (List.length a1.Store:Int))) then true else ((List.length a0.Events:Int) != (List.length a1.Events:Int))) then true else ((List.length a0.Rows:Int) != (List.length a1.Rows:Int))) then true else false)) else (some (bif (bif (bif (bif (bif (bif (bif (!(X6u a0.Op a1.Op)) then true else (a0.Turn != a1.Turn)) then true else (!v13)) then true else ((List.length a0.Marks:Int) != (List.length a1.Marks:Int))) then true else ((List.length a0.Store:Int) != (List.length a1.Store:Int))) then true else ((List.length a0.Events:Int) != (List.length a1.Events:Int))) then true else ((List.length a0.Rows:Int) != (List.length a1.Rows:Int))) then true else ((List.length a0.Late:Int) != (List.length a1.Late:Int)))))))))):Option (Bool)).bind λXzl=>bif Xzl then (some false) else ((X55  a0 a1 FU 0).bind λo41=>match o41 with|.x0=>(some false)|.x1=>((X54  a0 a1 FU 0).bind λo62=>match o62 with|.x0=>(some false)|.x1=>((X53  a0 a1 FU 0).bind λo83=>match o83 with|.x0=>(some false)|.x1=>((X52  a0 a1 FU 0).bind λo104=>match o104 with|.x0=>(some false)|.x1=>((X51  a0 a1 FU 0).bind λo125=>match o125 with|.x0=>(some false)|.x1=>(some true))))))
inductive X8m where
 |x0
 |x1
def X6k (Xe:Xf) (Xj:Xf):Nat->Int->Option X8m
 |0,_=>none
 |n+1,X87=>bif (decide (X87<(List.length Xe.Tasks:Int))) then ((X14 Xe.Tasks X87).bind λe28=>(X14 Xj.Tasks X87).bind λe30=>(Xdm e28 e30).bind λv32=>bif (!v32) then (some (.x0)) else (X6k Xe Xj n (IntKind.i64.wrap (X87+1)))) else (some (.x1))
def Xdi (a0:Xf) (a1:Xf):Option (Bool) :=
 (bif ((List.length a0.Tasks:Int) != (List.length a1.Tasks:Int)) then (some (bif ((List.length a0.Tasks:Int) != (List.length a1.Tasks:Int)) then true else false)) else ((Xaw a0.Queues a1.Queues).bind λv6=>some (bif ((List.length a0.Tasks:Int) != (List.length a1.Tasks:Int)) then true else (!v6))):Option (Bool)).bind λX07a=>bif X07a then (some false) else ((X6k  a0 a1 FU 0).bind λo35=>match o35 with|.x0=>(some false)|.x1=>(some true))
def X61 (a0:Xf):Option (Bool) :=
 (Xbw a0).bind λv1=>bif v1 then (some true) else ((Xdh a0).bind λv4=>(Xcq v4).bind λv6=>(Xg1 a0).bind λv8=>(Xcr v4).bind λv10=>(Xg2 a0).bind λv12=>((Xdq v6.1 v8.1).bind λv23=>bif v23 then (bif (v6.2==v8.2) then (bif (v10.1==v12.1) then (bif (v10.2==v12.2) then ((Xdi v4 a0).bind λv29=>some (bif (bif (bif (bif v23 then (v6.2==v8.2) else false) then (v10.1==v12.1) else false) then (v10.2==v12.2) else false) then v29 else false)) else (some (bif (bif (bif (bif v23 then (v6.2==v8.2) else false) then (v10.1==v12.1) else false) then (v10.2==v12.2) else false) then false else false))) else (some (bif (bif (bif (bif v23 then (v6.2==v8.2) else false) then (v10.1==v12.1) else false) then false else false) then false else false))) else (some (bif (bif (bif (bif v23 then (v6.2==v8.2) else false) then false else false) then false else false) then false else false))) else (some (bif (bif (bif (bif v23 then false else false) then false else false) then false else false) then false else false)):Option (Bool)).bind λX07x=>some X07x)
end
end Go.D
