/- Printed by decomp.py: the types of the Go program, as data; their encodings. -/
import Derived.Test.YtednehploaffcaaGreatDoorGlX
import Derived.Test.YtednehploaffcaaGreatDoorAvc
set_option linter.all false

namespace Go.D
theorem Yo {α β:Type} {a:α} {f:α->Option β}:(some a).bind f=f a:=rfl
theorem Yf {p:Prop} [Decidable p] (h:¬ p):decide p=false:=decide_eq_false h
theorem Yt {p:Prop} [Decidable p] (h:p):decide p=true:=decide_eq_true h
theorem Ym {α β:Type} {f:α->β} {l:List α} {i:Nat}:List.map f (List.take i l)=List.take i (List.map f l):=List.map_take
theorem Yd {α β:Type} {f:α->β} {l:List α} {i:Nat}:List.map f (List.drop i l)=List.drop i (List.map f l):=List.map_drop
theorem Ya {a b:Prop} (x:a) (y:b):a/\b:=⟨x,y⟩
theorem Ye {α:Type} {l:List α} {i:Nat} (h:i<l.length):l[i]?=some l[i]:=List.getElem?_eq_getElem h
theorem Ys {α:Type} {l:List α} {i:Nat} {a:α}:l[i]?=some a↔∃ h:i<l.length,l[i]=a:=List.getElem?_eq_some_iff
theorem Yg {α:Type} {l:List α} {i:Nat} {a:α} (h:l[i]?=some a):a∈l:=List.mem_of_getElem? h
structure X1 where
  Kind:Int
  N:Int
  A:Int
  B:Int
  At:Int
  deriving DecidableEq,Inhabited
structure Xi where
  Kind:Int
  Size:Int
  Every:Int
  deriving DecidableEq,Inhabited
structure X6 where
  Agg:Int
  Arg:(List X1)
  Sources:(List Int)
  Join:Bool
  Where:(List X1)
  Window:Xi
  ByKey:Bool
  Late:Int
  deriving DecidableEq,Inhabited
structure X04 where
  Key:Int
  Time:Int
  Value:Int
  deriving DecidableEq,Inhabited
structure Xv where
  Mark:Bool
  Time:Int
  Record:X04
  deriving DecidableEq,Inhabited
structure X2u where
  Parts:Int
  Room:Int
  Rewrite:Bool
  deriving DecidableEq,Inhabited
structure Xf where
  at_:Int
  size:Int
  depth:Int
  deriving DecidableEq,Inhabited
structure Xj where
  value:(List X1)
  there:Bool
  deriving DecidableEq,Inhabited
structure GOp where
  Kind:Int
  N:Int
  deriving DecidableEq,Inhabited
structure X7 where
  From:Int
  Out:Int
  To:Int
  In:Int
  Room:Int
  deriving DecidableEq,Inhabited
structure Xu where
  Ops:(List GOp)
  Channels:(List X7)
  deriving DecidableEq,Inhabited
structure Xpe where
  Start:Int
  End:Int
  deriving DecidableEq,Inhabited
structure Xey where
  Key:Int
  Span:Xpe
  Values:(V2 Int)
  deriving DecidableEq,Inhabited
structure X20 where
  Kind:Int
  Record:X04
  Time:Int
  Row:Xey
  deriving DecidableEq,Inhabited
structure X5p where
  Out:Int
  Message:X20
  deriving DecidableEq,Inhabited
structure Xzi where
  Count:Int
  Sum:Int
  Min:Int
  Max:Int
  deriving DecidableEq,Inhabited
structure X4v where
  Key:Int
  Span:Xpe
  Values:(V2 Xzi)
  deriving DecidableEq,Inhabited
structure X02 where
  Op:GOp
  Turn:Int
  Pending:(List X5p)
  Marks:(List Int)
  Store:(List X4v)
  Events:(List Xv)
  Rows:(List Xey)
  Late:(List X04)
  deriving DecidableEq,Inhabited
structure X05 where
  Room:Int
  List:(List X20)
  deriving DecidableEq,Inhabited
structure Xl where
  Query:X6
  Graph:Xu
  Tasks:(List X02)
  Queues:(List X05)
  deriving DecidableEq,Inhabited
structure X5y where
  Steps:(List Int)
  Query:X6
  deriving DecidableEq,Inhabited
end Go.D
namespace Go.Av
open Go.D
def X0 (x:X1):AV:=.agg [(aI .u8 x.Kind),(aI .i64 x.N),(aI .i64 x.A),(aI .i64 x.B),(aI .i64 x.At)]
theorem X1e (x:X1):Xal (X0 x):=(X1l (X1l (X1l (X1l (X1l Xgo)))))
theorem X7j (x:X1):X4c (X0 x):=λ_=>rfl
theorem Xed (x:X1):Xak (X0 x):=X73 (X1e x) rfl
instance X0d8:Xbs X0:=⟨X1e,λ_=>rfl,X7j⟩
def X7y (x:Xi):AV:=.agg [(aI .u8 x.Kind),(aI .i64 x.Size),(aI .i64 x.Every)]
theorem Xqj (x:Xi):Xal (X7y x):=(X1l (X1l (X1l Xgo)))
theorem X5c (x:Xi):X4c (X7y x):=λ_=>rfl
instance X09d:Xbs X7y:=⟨Xqj,λ_=>rfl,X5c⟩
def Xa (o:Bool) (x:X6):AV:=.agg [(aI .u8 x.Agg),(AV.list o (List.map X0 x.Arg)),(AV.list o (List.map (aI .i64) x.Sources)),(aB x.Join),(AV.list o (List.map X0 x.Where)),(aI .u8 x.Window.Kind),(aI .i64 x.Window.Size),(aI .i64 x.Window.Every),(aB x.ByKey),(aI .u8 x.Late)]
theorem X3i (o:Bool) (x:X6):X4c (Xa o x):=λ_=>rfl
theorem X4l (o:Bool) (x:X6):Xak (Xa o x):=Xcn (λ_=>(Xg .sc (Xg .list (Xg .list (Xg .sc (Xg .list (Xg .sc (Xg .sc (Xg .sc (Xg .sc (Xg .sc X3d)))))))))))
theorem Xv5 {H:Xz} {o:Bool} {x:X6}:Cv false H (Xa o x) (Xa false x):=X8u (Cvs.cons .sc (Cvs.cons (X0z (Xr X1e _)) (Cvs.cons (X0z (Xr (λ_=>X7h) _)) (Cvs.cons .sc (Cvs.cons (X0z (Xr X1e _)) (Cvs.cons .sc (Cvs.cons .sc (Cvs.cons .sc (Cvs.cons .sc (Cvs.cons .sc Cvs.nil))))))))))
theorem Xv3 {H:Xz} {o:Bool} {x:X6}:Cv true H (Xa o x) (Xa o x):=X8u (Cvs.cons .sc (Cvs.cons (.listS rfl) (Cvs.cons (.listS rfl) (Cvs.cons .sc (Cvs.cons (.listS rfl) (Cvs.cons .sc (Cvs.cons .sc (Cvs.cons .sc (Cvs.cons .sc (Cvs.cons .sc Cvs.nil))))))))))
instance X0ay:Xpd Xa:=⟨Xv5,Xv3,λ_ _ _=>rfl,X4l,X3i⟩
def X1x (x:X04):AV:=.agg [(aI .i64 x.Key),(aI .i64 x.Time),(aI .i64 x.Value)]
theorem X6g (x:X04):Xal (X1x x):=(X1l (X1l (X1l Xgo)))
theorem X6m (x:X04):X4c (X1x x):=λ_=>rfl
instance X09e:Xbs X1x:=⟨X6g,λ_=>rfl,X6m⟩
def Xd (x:Xv):AV:=.agg [(aB x.Mark),(aI .i64 x.Time),(aI .i64 x.Record.Key),(aI .i64 x.Record.Time),(aI .i64 x.Record.Value)]
theorem X3c (x:Xv):Xal (Xd x):=(X1l (X1l (X1l (X1l (X1l Xgo)))))
theorem X86 (x:Xv):X4c (Xd x):=λ_=>rfl
theorem Xco (x:Xv):Xak (Xd x):=X73 (X3c x) rfl
instance X0bw:Xbs Xd:=⟨X3c,λ_=>rfl,X86⟩
def X4b (x:X2u):AV:=.agg [(aI .i64 x.Parts),(aI .i64 x.Room),(aB x.Rewrite)]
theorem Xox (x:X2u):Xal (X4b x):=(X1l (X1l (X1l Xgo)))
theorem X5s (x:X2u):X4c (X4b x):=λ_=>rfl
instance X07s:Xbs X4b:=⟨Xox,λ_=>rfl,X5s⟩
def X3 (x:Xf):AV:=.agg [(aI .i64 x.at_),(aI .i64 x.size),(aI .i64 x.depth)]
theorem Xdo (x:Xf):Xal (X3 x):=(X1l (X1l (X1l Xgo)))
theorem X4q (x:Xf):X4c (X3 x):=λ_=>rfl
theorem X70 (x:Xf):Xak (X3 x):=X73 (Xdo x) rfl
instance X02y:Xbs X3:=⟨Xdo,λ_=>rfl,X4q⟩
def X9b (x:(V2 Bool)):AV:=.agg [(aB x.e0),(aB x.e1)]
theorem X02r (x:(V2 Bool)):Xal (X9b x):=(X1l (X1l Xgo))
theorem Xji (x:(V2 Bool)):Xak (X9b x):=X73 (X02r x) rfl
def Xee (x:(V5 Int)):AV:=.agg [(aI .i64 x.e0),(aI .i64 x.e1),(aI .i64 x.e2),(aI .i64 x.e3),(aI .i64 x.e4)]
theorem Xuu (x:(V5 Int)):Xal (Xee x):=(X1l (X1l (X1l (X1l (X1l Xgo)))))
theorem Xec (x:(V5 Int)):Xak (Xee x):=X73 (Xuu x) rfl
def X4 (o:Bool) (x:Xj):AV:=.agg [(AV.list o (List.map X0 x.value)),(aB x.there)]
theorem X0o (o:Bool) (x:Xj):X4c (X4 o x):=λ_=>rfl
theorem X0x (o:Bool) (x:Xj):Xak (X4 o x):=Xcn (λ_=>(Xg .list (Xg .sc X3d)))
theorem X2b {H:Xz} {o:Bool} {x:Xj}:Cv false H (X4 o x) (X4 false x):=X8u (Cvs.cons (X0z (Xr X1e _)) (Cvs.cons .sc Cvs.nil))
def X0d (x:GOp):AV:=.agg [(aI .u8 x.Kind),(aI .i64 x.N)]
theorem Xjk (x:GOp):Xal (X0d x):=(X1l (X1l Xgo))
theorem Xd7 (x:GOp):X4c (X0d x):=λ_=>rfl
theorem Xjj (x:GOp):Xak (X0d x):=X73 (Xjk x) rfl
instance X0h7:Xbs X0d:=⟨Xjk,λ_=>rfl,Xd7⟩
def Xq (x:X7):AV:=.agg [(aI .i64 x.From),(aI .i64 x.Out),(aI .i64 x.To),(aI .i64 x.In),(aI .i64 x.Room)]
theorem X99 (x:X7):Xal (Xq x):=(X1l (X1l (X1l (X1l (X1l Xgo)))))
theorem X5u (x:X7):X4c (Xq x):=λ_=>rfl
theorem X98 (x:X7):Xak (Xq x):=X73 (X99 x) rfl
instance X07u:Xbs Xq:=⟨X99,λ_=>rfl,X5u⟩
def Xw (o:Bool) (x:Xu):AV:=.agg [(AV.list o (List.map X0d x.Ops)),(AV.list o (List.map Xq x.Channels))]
theorem X3j (o:Bool) (x:Xu):X4c (Xw o x):=λ_=>rfl
theorem X4m (o:Bool) (x:Xu):Xak (Xw o x):=Xcn (λ_=>(Xg .list (Xg .list X3d)))
theorem Xv6 {H:Xz} {o:Bool} {x:Xu}:Cv false H (Xw o x) (Xw false x):=X8u (Cvs.cons (X0z (Xr Xjk _)) (Cvs.cons (X0z (Xr X99 _)) Cvs.nil))
theorem Xv4 {H:Xz} {o:Bool} {x:Xu}:Cv true H (Xw o x) (Xw o x):=X8u (Cvs.cons (.listS rfl) (Cvs.cons (.listS rfl) Cvs.nil))
instance X0az:Xpd Xw:=⟨Xv6,Xv4,λ_ _ _=>rfl,X4m,X3j⟩
def X5m (x:Xey):AV:=.agg [(aI .i64 x.Key),(aI .i64 x.Span.Start),(aI .i64 x.Span.End),(aI .i64 x.Values.e0),(aI .i64 x.Values.e1)]
theorem Xbn (x:Xey):Xal (X5m x):=(X1l (X1l (X1l (X1l (X1l Xgo)))))
theorem Xb9 (x:Xey):X4c (X5m x):=λ_=>rfl
instance X0fw:Xbs X5m:=⟨Xbn,λ_=>rfl,Xb9⟩
def X1f (x:X20):AV:=.agg [(aI .u8 x.Kind),(aI .i64 x.Record.Key),(aI .i64 x.Record.Time),(aI .i64 x.Record.Value),(aI .i64 x.Time),(aI .i64 x.Row.Key),(aI .i64 x.Row.Span.Start),(aI .i64 x.Row.Span.End),(aI .i64 x.Row.Values.e0),(aI .i64 x.Row.Values.e1)]
theorem Xcp (x:X20):Xal (X1f x):=(X1l (X1l (X1l (X1l (X1l (X1l (X1l (X1l (X1l (X1l Xgo))))))))))
theorem X5t (x:X20):X4c (X1f x):=λ_=>rfl
theorem X97 (x:X20):Xak (X1f x):=X73 (Xcp x) rfl
instance X07t:Xbs X1f:=⟨Xcp,λ_=>rfl,X5t⟩
def X2o (x:X5p):AV:=.agg [(aI .i64 x.Out),(aI .u8 x.Message.Kind),(aI .i64 x.Message.Record.Key),(aI .i64 x.Message.Record.Time),(aI .i64 x.Message.Record.Value),(aI .i64 x.Message.Time),(aI .i64 x.Message.Row.Key),(aI .i64 x.Message.Row.Span.Start),(aI .i64 x.Message.Row.Span.End),(aI .i64 x.Message.Row.Values.e0),(aI .i64 x.Message.Row.Values.e1)]
theorem X9m (x:X5p):Xal (X2o x):=(X1l (X1l (X1l (X1l (X1l (X1l (X1l (X1l (X1l (X1l (X1l Xgo)))))))))))
theorem X9s (x:X5p):X4c (X2o x):=λ_=>rfl
instance X0d7:Xbs X2o:=⟨X9m,λ_=>rfl,X9s⟩
def X37 (x:X4v):AV:=.agg [(aI .i64 x.Key),(aI .i64 x.Span.Start),(aI .i64 x.Span.End),(aI .i64 x.Values.e0.Count),(aI .i64 x.Values.e0.Sum),(aI .i64 x.Values.e0.Min),(aI .i64 x.Values.e0.Max),(aI .i64 x.Values.e1.Count),(aI .i64 x.Values.e1.Sum),(aI .i64 x.Values.e1.Min),(aI .i64 x.Values.e1.Max)]
theorem X7x (x:X4v):Xal (X37 x):=(X1l (X1l (X1l (X1l (X1l (X1l (X1l (X1l (X1l (X1l (X1l Xgo)))))))))))
theorem X87 (x:X4v):X4c (X37 x):=λ_=>rfl
instance X0bx:Xbs X37:=⟨X7x,λ_=>rfl,X87⟩
def Xe (o:Bool) (x:X02):AV:=.agg [(aI .u8 x.Op.Kind),(aI .i64 x.Op.N),(aI .i64 x.Turn),(AV.list o (List.map X2o x.Pending)),(AV.list o (List.map (aI .i64) x.Marks)),(AV.list o (List.map X37 x.Store)),(AV.list o (List.map Xd x.Events)),(AV.list o (List.map X5m x.Rows)),(AV.list o (List.map X1x x.Late))]
theorem X4f (o:Bool) (x:X02):X4c (Xe o x):=λ_=>rfl
theorem X5j (o:Bool) (x:X02):Xak (Xe o x):=Xcn (λ_=>(Xg .sc (Xg .sc (Xg .sc (Xg .list (Xg .list (Xg .list (Xg .list (Xg .list (Xg .list X3d))))))))))
theorem Xqr {H:Xz} {o:Bool} {x:X02}:Cv false H (Xe o x) (Xe false x):=X8u (Cvs.cons .sc (Cvs.cons .sc (Cvs.cons .sc (Cvs.cons (X0z (Xr X9m _)) (Cvs.cons (X0z (Xr (λ_=>X7h) _)) (Cvs.cons (X0z (Xr X7x _)) (Cvs.cons (X0z (Xr X3c _)) (Cvs.cons (X0z (Xr Xbn _)) (Cvs.cons (X0z (Xr X6g _)) Cvs.nil)))))))))
theorem Xyt {H:Xz} {o:Bool} {x:X02}:Cv true H (Xe o x) (Xe o x):=X8u (Cvs.cons .sc (Cvs.cons .sc (Cvs.cons .sc (Cvs.cons (.listS rfl) (Cvs.cons (.listS rfl) (Cvs.cons (.listS rfl) (Cvs.cons (.listS rfl) (Cvs.cons (.listS rfl) (Cvs.cons (.listS rfl) Cvs.nil)))))))))
instance X0d2:Xpd Xe:=⟨Xqr,Xyt,λ_ _ _=>rfl,X5j,X4f⟩
def X07 (o:Bool) (x:X05):AV:=.agg [(aI .i64 x.Room),(AV.list o (List.map X1f x.List))]
theorem X3h (o:Bool) (x:X05):X4c (X07 o x):=λ_=>rfl
theorem X4k (o:Bool) (x:X05):Xak (X07 o x):=Xcn (λ_=>(Xg .sc (Xg .list X3d)))
theorem Xn9 {H:Xz} {o:Bool} {x:X05}:Cv false H (X07 o x) (X07 false x):=X8u (Cvs.cons .sc (Cvs.cons (X0z (Xr Xcp _)) Cvs.nil))
theorem Xv2 {H:Xz} {o:Bool} {x:X05}:Cv true H (X07 o x) (X07 o x):=X8u (Cvs.cons .sc (Cvs.cons (.listS rfl) Cvs.nil))
instance X0ax:Xpd X07:=⟨Xn9,Xv2,λ_ _ _=>rfl,X4k,X3h⟩
def Xx (o:Bool) (x:Xl):AV:=.agg [(aI .u8 x.Query.Agg),(AV.list o (List.map X0 x.Query.Arg)),(AV.list o (List.map (aI .i64) x.Query.Sources)),(aB x.Query.Join),(AV.list o (List.map X0 x.Query.Where)),(aI .u8 x.Query.Window.Kind),(aI .i64 x.Query.Window.Size),(aI .i64 x.Query.Window.Every),(aB x.Query.ByKey),(aI .u8 x.Query.Late),(AV.list o (List.map X0d x.Graph.Ops)),(AV.list o (List.map Xq x.Graph.Channels)),(AV.list o (List.map (Xe o) x.Tasks)),(AV.list o (List.map (X07 o) x.Queues))]
theorem X2k (o:Bool) (x:Xl):X4c (Xx o x):=λ_=>rfl
theorem X32 (o:Bool) (x:Xl):Xak (Xx o x):=Xcn (λ_=>(Xg .sc (Xg .list (Xg .list (Xg .sc (Xg .list (Xg .sc (Xg .sc (Xg .sc (Xg .sc (Xg .sc (Xg .list (Xg .list (Xg .list (Xg .list X3d)))))))))))))))
theorem Xqs {H:Xz} {o:Bool} {x:Xl}:Cv false H (Xx o x) (Xx false x):=X8u (Cvs.cons .sc (Cvs.cons (X0z (Xr X1e _)) (Cvs.cons (X0z (Xr (λ_=>X7h) _)) (Cvs.cons .sc (Cvs.cons (X0z (Xr X1e _)) (Cvs.cons .sc (Cvs.cons .sc (Cvs.cons .sc (Cvs.cons .sc (Cvs.cons .sc (Cvs.cons (X0z (Xr Xjk _)) (Cvs.cons (X0z (Xr X99 _)) (Cvs.cons (Xb4 (f:=(Xe o)) (g:=(Xe false)) (λ_=>rfl) (λx=>X4n Xqr) _) (Cvs.cons (Xb4 (f:=(X07 o)) (g:=(X07 false)) (λ_=>rfl) (λx=>X4n Xn9) _) Cvs.nil))))))))))))))
theorem Xqq {H:Xz} {o:Bool} {x:Xl}:Cv true H (Xx o x) (Xx o x):=X8u (Cvs.cons .sc (Cvs.cons (.listS rfl) (Cvs.cons (.listS rfl) (Cvs.cons .sc (Cvs.cons (.listS rfl) (Cvs.cons .sc (Cvs.cons .sc (Cvs.cons .sc (Cvs.cons .sc (Cvs.cons .sc (Cvs.cons (.listS rfl) (Cvs.cons (.listS rfl) (Cvs.cons (.listS rfl) (Cvs.cons (.listS rfl) Cvs.nil))))))))))))))
instance X06p:Xpd Xx:=⟨Xqs,Xqq,λ_ _ _=>rfl,X32,X2k⟩
def X0b (o:Bool) (x:X5y):AV:=.agg [(AV.list o (List.map (aI .u8) x.Steps)),(aI .u8 x.Query.Agg),(AV.list o (List.map X0 x.Query.Arg)),(AV.list o (List.map (aI .i64) x.Query.Sources)),(aB x.Query.Join),(AV.list o (List.map X0 x.Query.Where)),(aI .u8 x.Query.Window.Kind),(aI .i64 x.Query.Window.Size),(aI .i64 x.Query.Window.Every),(aB x.Query.ByKey),(aI .u8 x.Query.Late)]
theorem X4g (o:Bool) (x:X5y):X4c (X0b o x):=λ_=>rfl
theorem X5k (o:Bool) (x:X5y):Xak (X0b o x):=Xcn (λ_=>(Xg .list (Xg .sc (Xg .list (Xg .list (Xg .sc (Xg .list (Xg .sc (Xg .sc (Xg .sc (Xg .sc (Xg .sc X3d))))))))))))
theorem Xyv {H:Xz} {o:Bool} {x:X5y}:Cv false H (X0b o x) (X0b false x):=X8u (Cvs.cons (X0z (Xr (λ_=>X7h) _)) (Cvs.cons .sc (Cvs.cons (X0z (Xr X1e _)) (Cvs.cons (X0z (Xr (λ_=>X7h) _)) (Cvs.cons .sc (Cvs.cons (X0z (Xr X1e _)) (Cvs.cons .sc (Cvs.cons .sc (Cvs.cons .sc (Cvs.cons .sc (Cvs.cons .sc Cvs.nil)))))))))))
theorem Xyu {H:Xz} {o:Bool} {x:X5y}:Cv true H (X0b o x) (X0b o x):=X8u (Cvs.cons (.listS rfl) (Cvs.cons .sc (Cvs.cons (.listS rfl) (Cvs.cons (.listS rfl) (Cvs.cons .sc (Cvs.cons (.listS rfl) (Cvs.cons .sc (Cvs.cons .sc (Cvs.cons .sc (Cvs.cons .sc (Cvs.cons .sc Cvs.nil)))))))))))
instance X0d3:Xpd X0b:=⟨Xyv,Xyu,λ_ _ _=>rfl,X5k,X4g⟩
theorem wkA {P:Prop} (h:P:=by
  first
    |exact trivial
    |rfl
    |exact .sc
    |exact .list
    |exact .nils
    |exact .ref (by decide)
    |exact .ptr (by decide)
    |exact Xwv
    |(refine AV.Ok.tup ?_;repeat' first|exact X3d|refine Xg ?_ ?_|exact .sc|exact .nils|exact .list|exact .ref (by decide)|exact .ptr (by decide))
    |(refine congrArg AV.tup ?_;repeat' first|rfl|(refine congrArg (λz=>AV.ref _ 0 z) ?_;first|rfl|omega|(simp;done)|(simp;omega))|(show AV.ref _ 0 _=AV.ref _ 0 _;congr 1;first|omega|(simp;done))|(refine congrArg (λz=>AV.sc (Value.int IntKind.i64 z)) ?_;first|rfl|omega|assumption|(simp;done))|refine congr (congrArg List.cons ?_) ?_|(show(_::_:List AV)=_::_;refine congr (congrArg List.cons ?_) ?_))
    |exact .fn (Xg (.ptr (by decide)) X3d)
    |exact .fn (Xg (.ptr (by decide)) (Xg (.ptr (by decide)) X3d))
    |exact .fn (Xg (.ptr (by decide)) (Xg (.ptr (by decide)) (Xg (.ptr (by decide)) X3d)))
    |assumption
    |exact(Xed _ _).1
    |exact(free_GWindow _ _).1
    |exact(X4l true _ _).1
    |exact(X4l false _ _).1
    |exact(free_GRecord _ _).1
    |exact(Xco _ _).1
    |exact(free_GOptions _ _).1
    |exact(X70 _ _).1
    |exact(Xji _ _).1
    |exact(Xec _ _).1
    |exact(X0x true _ _).1
    |exact(X0x false _ _).1
    |exact(Xjj _ _).1
    |exact(X98 _ _).1
    |exact(X4m true _ _).1
    |exact(X4m false _ _).1
    |exact(free_GSpan _ _).1
    |exact(free_V2i64 _ _).1
    |exact(free_GRow _ _).1
    |exact(X97 _ _).1
    |exact(free_GSend _ _).1
    |exact(free_GAccum _ _).1
    |exact(free_V2GAccum _ _).1
    |exact(free_GEntry _ _).1
    |exact(X5j true _ _).1
    |exact(X5j false _ _).1
    |exact(X4k true _ _).1
    |exact(X4k false _ _).1
    |exact(X32 true _ _).1
    |exact(X32 false _ _).1
    |exact(X5k true _ _).1
    |exact(X5k false _ _).1
    |(refine congrArg (λz=>AV.sc (Value.int IntKind.i64 z)) ?_;first|rfl|omega|assumption|(simp;done)|(simp;omega))
    |(refine congrArg (λz=>AV.sc (Value.bool z)) ?_;first|rfl|assumption|(simp;done))
    |(refine congrArg (λz=>AV.ref _ 0 z) ?_;first|rfl|omega|(simp;done)|(simp;omega))
    |(show AV.ref _ 0 _=AV.ref _ 0 _;congr 1;first|(simp;done)|(simp;omega))
    |(simp[slE,opE,nbF,nbT,nbS,AV.ren,List.map_take,List.map_drop];done)
    |(simp[slE,opE,nbF,nbT,nbS,AV.ren,List.map_take,List.map_drop, *];done)
    |(simp[AV.ren, *];done)
    |exact wkSl rfl
    |exact okSl (by decide)
    |(refine aggV ?_;repeat' first|exact trivial|refine And.intro ?_ ?_|rfl|exact wkSl rfl|(refine refR rfl ?_;first|rfl|(simp;done)|(simp;omega)))
    |(refine aggOk ?_;repeat' first|exact X3d|refine Xg ?_ ?_|exact .sc|exact .list|exact .nils|exact .ref (by decide)|exact .ptr (by decide)|exact okSl (by decide)|exact okF|exact okG|exact Xwv|exact .fn (Xg (.ptr (by decide)) X3d))):P:=h
theorem wkR0 {P:Prop} (h:P:=by
  first
    |exact X18 Xed _ _
    |exact X17 (Xed _) _
    |exact free_cons Xed _ _ _
    |exact X18 free_GWindow _ _
    |exact X17 (free_GWindow _) _
    |exact free_cons free_GWindow _ _ _
    |exact X18 (X4l true) _ _
    |exact X17 ((X4l true) _) _
    |exact free_cons (X4l true) _ _ _
    |exact X18 (X4l false) _ _
    |exact X17 ((X4l false) _) _
    |exact free_cons (X4l false) _ _ _
    |exact X18 free_GRecord _ _
    |exact X17 (free_GRecord _) _
    |exact free_cons free_GRecord _ _ _
    |exact X18 Xco _ _
    |exact X17 (Xco _) _
    |exact free_cons Xco _ _ _
    |exact X18 free_GOptions _ _
    |exact X17 (free_GOptions _) _
    |exact free_cons free_GOptions _ _ _
    |exact X18 X70 _ _
    |exact X17 (X70 _) _
    |exact free_cons X70 _ _ _
    |exact X18 Xji _ _
    |exact X17 (Xji _) _
    |exact free_cons Xji _ _ _
    |exact X18 Xec _ _
    |exact X17 (Xec _) _
    |exact free_cons Xec _ _ _
    |exact X18 (X0x true) _ _
    |exact X17 ((X0x true) _) _
    |exact free_cons (X0x true) _ _ _
    |exact X18 (X0x false) _ _
    |exact X17 ((X0x false) _) _
    |exact free_cons (X0x false) _ _ _
    |exact X18 Xjj _ _
    |exact X17 (Xjj _) _
    |exact free_cons Xjj _ _ _
    |exact X18 X98 _ _
    |exact X17 (X98 _) _
    |exact free_cons X98 _ _ _
    |exact X18 (X4m true) _ _
    |exact X17 ((X4m true) _) _
    |exact free_cons (X4m true) _ _ _
    |exact X18 (X4m false) _ _
    |exact X17 ((X4m false) _) _
    |exact free_cons (X4m false) _ _ _
    |exact X18 free_GSpan _ _
    |exact X17 (free_GSpan _) _
    |exact free_cons free_GSpan _ _ _
    |exact X18 free_V2i64 _ _
    |exact X17 (free_V2i64 _) _
    |exact free_cons free_V2i64 _ _ _
    |exact X18 free_GRow _ _
    |exact X17 (free_GRow _) _
    |exact free_cons free_GRow _ _ _
    |exact X18 X97 _ _
    |exact X17 (X97 _) _
    |exact free_cons X97 _ _ _
    |exact X18 free_GSend _ _
    |exact X17 (free_GSend _) _
    |exact free_cons free_GSend _ _ _
    |exact X18 free_GAccum _ _
    |exact X17 (free_GAccum _) _
    |exact free_cons free_GAccum _ _ _
    |exact X18 free_V2GAccum _ _
    |exact X17 (free_V2GAccum _) _
    |exact free_cons free_V2GAccum _ _ _
    |exact X18 free_GEntry _ _
    |exact X17 (free_GEntry _) _
    |exact free_cons free_GEntry _ _ _
    |exact X18 (X5j true) _ _
    |exact X17 ((X5j true) _) _
    |exact free_cons (X5j true) _ _ _
    |exact X18 (X5j false) _ _
    |exact X17 ((X5j false) _) _
    |exact free_cons (X5j false) _ _ _
    |exact X18 (X4k true) _ _
    |exact X17 ((X4k true) _) _
    |exact free_cons (X4k true) _ _ _
    |exact X18 (X4k false) _ _
    |exact X17 ((X4k false) _) _
    |exact free_cons (X4k false) _ _ _
    |exact X18 (X32 true) _ _
    |exact X17 ((X32 true) _) _
    |exact free_cons (X32 true) _ _ _
    |exact X18 (X32 false) _ _
    |exact X17 ((X32 false) _) _
    |exact free_cons (X32 false) _ _ _
    |exact X18 (X5k true) _ _
    |exact X17 ((X5k true) _) _
    |exact free_cons (X5k true) _ _ _
    |exact X18 (X5k false) _ _
    |exact X17 ((X5k false) _) _
    |exact free_cons (X5k false) _ _ _
    |exact X18 (λ_=>Xy5) _ _
    |exact X17 ((λ_=>Xy5) _) _
    |exact free_cons (λ_=>Xy5) _ _ _
    |exact X18 (λ_=>Xl5) _ _
    |exact X17 ((λ_=>Xl5) _) _
    |exact free_cons (λ_=>Xl5) _ _ _
    |(refine⟨_,rfl,rfl,Eq.trans ?_ (X2 (Xn X7j _) _)⟩;rfl)
    |(refine⟨_,rfl,rfl,Eq.trans ?_ (X2 (still_cons X7j _ _) _)⟩;rfl)
    |(refine⟨_,rfl,rfl,Eq.trans ?_ (X2 (Xn X5c _) _)⟩;rfl)
    |(refine⟨_,rfl,rfl,Eq.trans ?_ (X2 (still_cons X5c _ _) _)⟩;rfl)
    |(refine⟨_,rfl,rfl,Eq.trans ?_ (X2 (Xn (X3i true) _) _)⟩;rfl)
    |(refine⟨_,rfl,rfl,Eq.trans ?_ (X2 (still_cons (X3i true) _ _) _)⟩;rfl)
    |(refine⟨_,rfl,rfl,Eq.trans ?_ (X2 (Xn (X3i false) _) _)⟩;rfl)
    |(refine⟨_,rfl,rfl,Eq.trans ?_ (X2 (still_cons (X3i false) _ _) _)⟩;rfl)
    |(refine⟨_,rfl,rfl,Eq.trans ?_ (X2 (Xn X6m _) _)⟩;rfl)
    |(refine⟨_,rfl,rfl,Eq.trans ?_ (X2 (still_cons X6m _ _) _)⟩;rfl)
    |(refine⟨_,rfl,rfl,Eq.trans ?_ (X2 (Xn X86 _) _)⟩;rfl)
    |(refine⟨_,rfl,rfl,Eq.trans ?_ (X2 (still_cons X86 _ _) _)⟩;rfl)
    |(refine⟨_,rfl,rfl,Eq.trans ?_ (X2 (Xn X5s _) _)⟩;rfl)
    |(refine⟨_,rfl,rfl,Eq.trans ?_ (X2 (still_cons X5s _ _) _)⟩;rfl)
    |(refine⟨_,rfl,rfl,Eq.trans ?_ (X2 (Xn X4q _) _)⟩;rfl)
    |(refine⟨_,rfl,rfl,Eq.trans ?_ (X2 (still_cons X4q _ _) _)⟩;rfl)
    |(refine⟨_,rfl,rfl,Eq.trans ?_ (X2 (Xn still_V2b _) _)⟩;rfl)
    |(refine⟨_,rfl,rfl,Eq.trans ?_ (X2 (still_cons still_V2b _ _) _)⟩;rfl)):P:=h
theorem wkR1 {P:Prop} (h:P:=by
  first
    |(refine⟨_,rfl,rfl,Eq.trans ?_ (X2 (Xn still_V5i64 _) _)⟩;rfl)
    |(refine⟨_,rfl,rfl,Eq.trans ?_ (X2 (still_cons still_V5i64 _ _) _)⟩;rfl)
    |(refine⟨_,rfl,rfl,Eq.trans ?_ (X2 (Xn (X0o true) _) _)⟩;rfl)
    |(refine⟨_,rfl,rfl,Eq.trans ?_ (X2 (still_cons (X0o true) _ _) _)⟩;rfl)
    |(refine⟨_,rfl,rfl,Eq.trans ?_ (X2 (Xn (X0o false) _) _)⟩;rfl)
    |(refine⟨_,rfl,rfl,Eq.trans ?_ (X2 (still_cons (X0o false) _ _) _)⟩;rfl)
    |(refine⟨_,rfl,rfl,Eq.trans ?_ (X2 (Xn Xd7 _) _)⟩;rfl)
    |(refine⟨_,rfl,rfl,Eq.trans ?_ (X2 (still_cons Xd7 _ _) _)⟩;rfl)
    |(refine⟨_,rfl,rfl,Eq.trans ?_ (X2 (Xn X5u _) _)⟩;rfl)
    |(refine⟨_,rfl,rfl,Eq.trans ?_ (X2 (still_cons X5u _ _) _)⟩;rfl)
    |(refine⟨_,rfl,rfl,Eq.trans ?_ (X2 (Xn (X3j true) _) _)⟩;rfl)
    |(refine⟨_,rfl,rfl,Eq.trans ?_ (X2 (still_cons (X3j true) _ _) _)⟩;rfl)
    |(refine⟨_,rfl,rfl,Eq.trans ?_ (X2 (Xn (X3j false) _) _)⟩;rfl)
    |(refine⟨_,rfl,rfl,Eq.trans ?_ (X2 (still_cons (X3j false) _ _) _)⟩;rfl)
    |(refine⟨_,rfl,rfl,Eq.trans ?_ (X2 (Xn still_GSpan _) _)⟩;rfl)
    |(refine⟨_,rfl,rfl,Eq.trans ?_ (X2 (still_cons still_GSpan _ _) _)⟩;rfl)
    |(refine⟨_,rfl,rfl,Eq.trans ?_ (X2 (Xn still_V2i64 _) _)⟩;rfl)
    |(refine⟨_,rfl,rfl,Eq.trans ?_ (X2 (still_cons still_V2i64 _ _) _)⟩;rfl)
    |(refine⟨_,rfl,rfl,Eq.trans ?_ (X2 (Xn Xb9 _) _)⟩;rfl)
    |(refine⟨_,rfl,rfl,Eq.trans ?_ (X2 (still_cons Xb9 _ _) _)⟩;rfl)
    |(refine⟨_,rfl,rfl,Eq.trans ?_ (X2 (Xn X5t _) _)⟩;rfl)
    |(refine⟨_,rfl,rfl,Eq.trans ?_ (X2 (still_cons X5t _ _) _)⟩;rfl)
    |(refine⟨_,rfl,rfl,Eq.trans ?_ (X2 (Xn X9s _) _)⟩;rfl)
    |(refine⟨_,rfl,rfl,Eq.trans ?_ (X2 (still_cons X9s _ _) _)⟩;rfl)
    |(refine⟨_,rfl,rfl,Eq.trans ?_ (X2 (Xn still_GAccum _) _)⟩;rfl)
    |(refine⟨_,rfl,rfl,Eq.trans ?_ (X2 (still_cons still_GAccum _ _) _)⟩;rfl)
    |(refine⟨_,rfl,rfl,Eq.trans ?_ (X2 (Xn still_V2GAccum _) _)⟩;rfl)
    |(refine⟨_,rfl,rfl,Eq.trans ?_ (X2 (still_cons still_V2GAccum _ _) _)⟩;rfl)
    |(refine⟨_,rfl,rfl,Eq.trans ?_ (X2 (Xn X87 _) _)⟩;rfl)
    |(refine⟨_,rfl,rfl,Eq.trans ?_ (X2 (still_cons X87 _ _) _)⟩;rfl)
    |(refine⟨_,rfl,rfl,Eq.trans ?_ (X2 (Xn (X4f true) _) _)⟩;rfl)
    |(refine⟨_,rfl,rfl,Eq.trans ?_ (X2 (still_cons (X4f true) _ _) _)⟩;rfl)
    |(refine⟨_,rfl,rfl,Eq.trans ?_ (X2 (Xn (X4f false) _) _)⟩;rfl)
    |(refine⟨_,rfl,rfl,Eq.trans ?_ (X2 (still_cons (X4f false) _ _) _)⟩;rfl)
    |(refine⟨_,rfl,rfl,Eq.trans ?_ (X2 (Xn (X3h true) _) _)⟩;rfl)
    |(refine⟨_,rfl,rfl,Eq.trans ?_ (X2 (still_cons (X3h true) _ _) _)⟩;rfl)
    |(refine⟨_,rfl,rfl,Eq.trans ?_ (X2 (Xn (X3h false) _) _)⟩;rfl)
    |(refine⟨_,rfl,rfl,Eq.trans ?_ (X2 (still_cons (X3h false) _ _) _)⟩;rfl)
    |(refine⟨_,rfl,rfl,Eq.trans ?_ (X2 (Xn (X2k true) _) _)⟩;rfl)
    |(refine⟨_,rfl,rfl,Eq.trans ?_ (X2 (still_cons (X2k true) _ _) _)⟩;rfl)
    |(refine⟨_,rfl,rfl,Eq.trans ?_ (X2 (Xn (X2k false) _) _)⟩;rfl)
    |(refine⟨_,rfl,rfl,Eq.trans ?_ (X2 (still_cons (X2k false) _ _) _)⟩;rfl)
    |(refine⟨_,rfl,rfl,Eq.trans ?_ (X2 (Xn (X4g true) _) _)⟩;rfl)
    |(refine⟨_,rfl,rfl,Eq.trans ?_ (X2 (still_cons (X4g true) _ _) _)⟩;rfl)
    |(refine⟨_,rfl,rfl,Eq.trans ?_ (X2 (Xn (X4g false) _) _)⟩;rfl)
    |(refine⟨_,rfl,rfl,Eq.trans ?_ (X2 (still_cons (X4g false) _ _) _)⟩;rfl)
    |(refine⟨_,rfl,rfl,Eq.trans ?_ (X2 (Xn (λ_=>Xgy) _) _)⟩;rfl)
    |(refine⟨_,rfl,rfl,Eq.trans ?_ (X2 (still_cons (λ_=>Xgy) _ _) _)⟩;rfl)
    |(refine⟨_,rfl,rfl,Eq.trans ?_ (X2 (Xn (λ_=>X9f) _) _)⟩;rfl)
    |(refine⟨_,rfl,rfl,Eq.trans ?_ (X2 (still_cons (λ_=>X9f) _ _) _)⟩;rfl)
    |(refine⟨_,rfl,rfl,Eq.trans ?_ (X2 (Xn X7j _) _)⟩;first|(simp;done)|(simp;rfl)|(exact Eq.symm (Eq.trans List.map_append rfl))|(rw[List.map_append];rfl)|(rw[List.map_set];rfl)|(simp[*];done)|(rw[List.map_replicate];rfl))
    |(refine⟨_,rfl,rfl,Eq.trans ?_ (X2 (still_cons X7j _ _) _)⟩;first|(simp;done)|(simp;rfl)|(simp[*];done))
    |(refine⟨_,rfl,rfl,Eq.trans ?_ (X2 (Xn X5c _) _)⟩;first|(simp;done)|(simp;rfl)|(exact Eq.symm (Eq.trans List.map_append rfl))|(rw[List.map_append];rfl)|(rw[List.map_set];rfl)|(simp[*];done)|(rw[List.map_replicate];rfl))
    |(refine⟨_,rfl,rfl,Eq.trans ?_ (X2 (still_cons X5c _ _) _)⟩;first|(simp;done)|(simp;rfl)|(simp[*];done))
    |(refine⟨_,rfl,rfl,Eq.trans ?_ (X2 (Xn (X3i true) _) _)⟩;first|(simp;done)|(simp;rfl)|(exact Eq.symm (Eq.trans List.map_append rfl))|(rw[List.map_append];rfl)|(rw[List.map_set];rfl)|(simp[*];done)|(rw[List.map_replicate];rfl))
    |(refine⟨_,rfl,rfl,Eq.trans ?_ (X2 (still_cons (X3i true) _ _) _)⟩;first|(simp;done)|(simp;rfl)|(simp[*];done))
    |(refine⟨_,rfl,rfl,Eq.trans ?_ (X2 (Xn (X3i false) _) _)⟩;first|(simp;done)|(simp;rfl)|(exact Eq.symm (Eq.trans List.map_append rfl))|(rw[List.map_append];rfl)|(rw[List.map_set];rfl)|(simp[*];done)|(rw[List.map_replicate];rfl))
    |(refine⟨_,rfl,rfl,Eq.trans ?_ (X2 (still_cons (X3i false) _ _) _)⟩;first|(simp;done)|(simp;rfl)|(simp[*];done))
    |(refine⟨_,rfl,rfl,Eq.trans ?_ (X2 (Xn X6m _) _)⟩;first|(simp;done)|(simp;rfl)|(exact Eq.symm (Eq.trans List.map_append rfl))|(rw[List.map_append];rfl)|(rw[List.map_set];rfl)|(simp[*];done)|(rw[List.map_replicate];rfl))
    |(refine⟨_,rfl,rfl,Eq.trans ?_ (X2 (still_cons X6m _ _) _)⟩;first|(simp;done)|(simp;rfl)|(simp[*];done))
    |(refine⟨_,rfl,rfl,Eq.trans ?_ (X2 (Xn X86 _) _)⟩;first|(simp;done)|(simp;rfl)|(exact Eq.symm (Eq.trans List.map_append rfl))|(rw[List.map_append];rfl)|(rw[List.map_set];rfl)|(simp[*];done)|(rw[List.map_replicate];rfl))
    |(refine⟨_,rfl,rfl,Eq.trans ?_ (X2 (still_cons X86 _ _) _)⟩;first|(simp;done)|(simp;rfl)|(simp[*];done))
    |(refine⟨_,rfl,rfl,Eq.trans ?_ (X2 (Xn X5s _) _)⟩;first|(simp;done)|(simp;rfl)|(exact Eq.symm (Eq.trans List.map_append rfl))|(rw[List.map_append];rfl)|(rw[List.map_set];rfl)|(simp[*];done)|(rw[List.map_replicate];rfl))
    |(refine⟨_,rfl,rfl,Eq.trans ?_ (X2 (still_cons X5s _ _) _)⟩;first|(simp;done)|(simp;rfl)|(simp[*];done))
    |(refine⟨_,rfl,rfl,Eq.trans ?_ (X2 (Xn X4q _) _)⟩;first|(simp;done)|(simp;rfl)|(exact Eq.symm (Eq.trans List.map_append rfl))|(rw[List.map_append];rfl)|(rw[List.map_set];rfl)|(simp[*];done)|(rw[List.map_replicate];rfl))
    |(refine⟨_,rfl,rfl,Eq.trans ?_ (X2 (still_cons X4q _ _) _)⟩;first|(simp;done)|(simp;rfl)|(simp[*];done))
    |(refine⟨_,rfl,rfl,Eq.trans ?_ (X2 (Xn still_V2b _) _)⟩;first|(simp;done)|(simp;rfl)|(exact Eq.symm (Eq.trans List.map_append rfl))|(rw[List.map_append];rfl)|(rw[List.map_set];rfl)|(simp[*];done)|(rw[List.map_replicate];rfl))
    |(refine⟨_,rfl,rfl,Eq.trans ?_ (X2 (still_cons still_V2b _ _) _)⟩;first|(simp;done)|(simp;rfl)|(simp[*];done))
    |(refine⟨_,rfl,rfl,Eq.trans ?_ (X2 (Xn still_V5i64 _) _)⟩;first|(simp;done)|(simp;rfl)|(exact Eq.symm (Eq.trans List.map_append rfl))|(rw[List.map_append];rfl)|(rw[List.map_set];rfl)|(simp[*];done)|(rw[List.map_replicate];rfl))
    |(refine⟨_,rfl,rfl,Eq.trans ?_ (X2 (still_cons still_V5i64 _ _) _)⟩;first|(simp;done)|(simp;rfl)|(simp[*];done))
    |(refine⟨_,rfl,rfl,Eq.trans ?_ (X2 (Xn (X0o true) _) _)⟩;first|(simp;done)|(simp;rfl)|(exact Eq.symm (Eq.trans List.map_append rfl))|(rw[List.map_append];rfl)|(rw[List.map_set];rfl)|(simp[*];done)|(rw[List.map_replicate];rfl))
    |(refine⟨_,rfl,rfl,Eq.trans ?_ (X2 (still_cons (X0o true) _ _) _)⟩;first|(simp;done)|(simp;rfl)|(simp[*];done))
    |(refine⟨_,rfl,rfl,Eq.trans ?_ (X2 (Xn (X0o false) _) _)⟩;first|(simp;done)|(simp;rfl)|(exact Eq.symm (Eq.trans List.map_append rfl))|(rw[List.map_append];rfl)|(rw[List.map_set];rfl)|(simp[*];done)|(rw[List.map_replicate];rfl))
    |(refine⟨_,rfl,rfl,Eq.trans ?_ (X2 (still_cons (X0o false) _ _) _)⟩;first|(simp;done)|(simp;rfl)|(simp[*];done))
    |(refine⟨_,rfl,rfl,Eq.trans ?_ (X2 (Xn Xd7 _) _)⟩;first|(simp;done)|(simp;rfl)|(exact Eq.symm (Eq.trans List.map_append rfl))|(rw[List.map_append];rfl)|(rw[List.map_set];rfl)|(simp[*];done)|(rw[List.map_replicate];rfl))
    |(refine⟨_,rfl,rfl,Eq.trans ?_ (X2 (still_cons Xd7 _ _) _)⟩;first|(simp;done)|(simp;rfl)|(simp[*];done))
    |(refine⟨_,rfl,rfl,Eq.trans ?_ (X2 (Xn X5u _) _)⟩;first|(simp;done)|(simp;rfl)|(exact Eq.symm (Eq.trans List.map_append rfl))|(rw[List.map_append];rfl)|(rw[List.map_set];rfl)|(simp[*];done)|(rw[List.map_replicate];rfl))
    |(refine⟨_,rfl,rfl,Eq.trans ?_ (X2 (still_cons X5u _ _) _)⟩;first|(simp;done)|(simp;rfl)|(simp[*];done))
    |(refine⟨_,rfl,rfl,Eq.trans ?_ (X2 (Xn (X3j true) _) _)⟩;first|(simp;done)|(simp;rfl)|(exact Eq.symm (Eq.trans List.map_append rfl))|(rw[List.map_append];rfl)|(rw[List.map_set];rfl)|(simp[*];done)|(rw[List.map_replicate];rfl))
    |(refine⟨_,rfl,rfl,Eq.trans ?_ (X2 (still_cons (X3j true) _ _) _)⟩;first|(simp;done)|(simp;rfl)|(simp[*];done))
    |(refine⟨_,rfl,rfl,Eq.trans ?_ (X2 (Xn (X3j false) _) _)⟩;first|(simp;done)|(simp;rfl)|(exact Eq.symm (Eq.trans List.map_append rfl))|(rw[List.map_append];rfl)|(rw[List.map_set];rfl)|(simp[*];done)|(rw[List.map_replicate];rfl))
    |(refine⟨_,rfl,rfl,Eq.trans ?_ (X2 (still_cons (X3j false) _ _) _)⟩;first|(simp;done)|(simp;rfl)|(simp[*];done))
    |(refine⟨_,rfl,rfl,Eq.trans ?_ (X2 (Xn still_GSpan _) _)⟩;first|(simp;done)|(simp;rfl)|(exact Eq.symm (Eq.trans List.map_append rfl))|(rw[List.map_append];rfl)|(rw[List.map_set];rfl)|(simp[*];done)|(rw[List.map_replicate];rfl))
    |(refine⟨_,rfl,rfl,Eq.trans ?_ (X2 (still_cons still_GSpan _ _) _)⟩;first|(simp;done)|(simp;rfl)|(simp[*];done))
    |(refine⟨_,rfl,rfl,Eq.trans ?_ (X2 (Xn still_V2i64 _) _)⟩;first|(simp;done)|(simp;rfl)|(exact Eq.symm (Eq.trans List.map_append rfl))|(rw[List.map_append];rfl)|(rw[List.map_set];rfl)|(simp[*];done)|(rw[List.map_replicate];rfl))
    |(refine⟨_,rfl,rfl,Eq.trans ?_ (X2 (still_cons still_V2i64 _ _) _)⟩;first|(simp;done)|(simp;rfl)|(simp[*];done))
    |(refine⟨_,rfl,rfl,Eq.trans ?_ (X2 (Xn Xb9 _) _)⟩;first|(simp;done)|(simp;rfl)|(exact Eq.symm (Eq.trans List.map_append rfl))|(rw[List.map_append];rfl)|(rw[List.map_set];rfl)|(simp[*];done)|(rw[List.map_replicate];rfl))
    |(refine⟨_,rfl,rfl,Eq.trans ?_ (X2 (still_cons Xb9 _ _) _)⟩;first|(simp;done)|(simp;rfl)|(simp[*];done))
    |(refine⟨_,rfl,rfl,Eq.trans ?_ (X2 (Xn X5t _) _)⟩;first|(simp;done)|(simp;rfl)|(exact Eq.symm (Eq.trans List.map_append rfl))|(rw[List.map_append];rfl)|(rw[List.map_set];rfl)|(simp[*];done)|(rw[List.map_replicate];rfl))
    |(refine⟨_,rfl,rfl,Eq.trans ?_ (X2 (still_cons X5t _ _) _)⟩;first|(simp;done)|(simp;rfl)|(simp[*];done))
    |(refine⟨_,rfl,rfl,Eq.trans ?_ (X2 (Xn X9s _) _)⟩;first|(simp;done)|(simp;rfl)|(exact Eq.symm (Eq.trans List.map_append rfl))|(rw[List.map_append];rfl)|(rw[List.map_set];rfl)|(simp[*];done)|(rw[List.map_replicate];rfl))
    |(refine⟨_,rfl,rfl,Eq.trans ?_ (X2 (still_cons X9s _ _) _)⟩;first|(simp;done)|(simp;rfl)|(simp[*];done))
    |(refine⟨_,rfl,rfl,Eq.trans ?_ (X2 (Xn still_GAccum _) _)⟩;first|(simp;done)|(simp;rfl)|(exact Eq.symm (Eq.trans List.map_append rfl))|(rw[List.map_append];rfl)|(rw[List.map_set];rfl)|(simp[*];done)|(rw[List.map_replicate];rfl))
    |(refine⟨_,rfl,rfl,Eq.trans ?_ (X2 (still_cons still_GAccum _ _) _)⟩;first|(simp;done)|(simp;rfl)|(simp[*];done))
    |(refine⟨_,rfl,rfl,Eq.trans ?_ (X2 (Xn still_V2GAccum _) _)⟩;first|(simp;done)|(simp;rfl)|(exact Eq.symm (Eq.trans List.map_append rfl))|(rw[List.map_append];rfl)|(rw[List.map_set];rfl)|(simp[*];done)|(rw[List.map_replicate];rfl))
    |(refine⟨_,rfl,rfl,Eq.trans ?_ (X2 (still_cons still_V2GAccum _ _) _)⟩;first|(simp;done)|(simp;rfl)|(simp[*];done))
    |(refine⟨_,rfl,rfl,Eq.trans ?_ (X2 (Xn X87 _) _)⟩;first|(simp;done)|(simp;rfl)|(exact Eq.symm (Eq.trans List.map_append rfl))|(rw[List.map_append];rfl)|(rw[List.map_set];rfl)|(simp[*];done)|(rw[List.map_replicate];rfl))
    |(refine⟨_,rfl,rfl,Eq.trans ?_ (X2 (still_cons X87 _ _) _)⟩;first|(simp;done)|(simp;rfl)|(simp[*];done))
    |(refine⟨_,rfl,rfl,Eq.trans ?_ (X2 (Xn (X4f true) _) _)⟩;first|(simp;done)|(simp;rfl)|(exact Eq.symm (Eq.trans List.map_append rfl))|(rw[List.map_append];rfl)|(rw[List.map_set];rfl)|(simp[*];done)|(rw[List.map_replicate];rfl))
    |(refine⟨_,rfl,rfl,Eq.trans ?_ (X2 (still_cons (X4f true) _ _) _)⟩;first|(simp;done)|(simp;rfl)|(simp[*];done))
    |(refine⟨_,rfl,rfl,Eq.trans ?_ (X2 (Xn (X4f false) _) _)⟩;first|(simp;done)|(simp;rfl)|(exact Eq.symm (Eq.trans List.map_append rfl))|(rw[List.map_append];rfl)|(rw[List.map_set];rfl)|(simp[*];done)|(rw[List.map_replicate];rfl))
    |(refine⟨_,rfl,rfl,Eq.trans ?_ (X2 (still_cons (X4f false) _ _) _)⟩;first|(simp;done)|(simp;rfl)|(simp[*];done))
    |(refine⟨_,rfl,rfl,Eq.trans ?_ (X2 (Xn (X3h true) _) _)⟩;first|(simp;done)|(simp;rfl)|(exact Eq.symm (Eq.trans List.map_append rfl))|(rw[List.map_append];rfl)|(rw[List.map_set];rfl)|(simp[*];done)|(rw[List.map_replicate];rfl))
    |(refine⟨_,rfl,rfl,Eq.trans ?_ (X2 (still_cons (X3h true) _ _) _)⟩;first|(simp;done)|(simp;rfl)|(simp[*];done))
    |(refine⟨_,rfl,rfl,Eq.trans ?_ (X2 (Xn (X3h false) _) _)⟩;first|(simp;done)|(simp;rfl)|(exact Eq.symm (Eq.trans List.map_append rfl))|(rw[List.map_append];rfl)|(rw[List.map_set];rfl)|(simp[*];done)|(rw[List.map_replicate];rfl))
    |(refine⟨_,rfl,rfl,Eq.trans ?_ (X2 (still_cons (X3h false) _ _) _)⟩;first|(simp;done)|(simp;rfl)|(simp[*];done))
    |(refine⟨_,rfl,rfl,Eq.trans ?_ (X2 (Xn (X2k true) _) _)⟩;first|(simp;done)|(simp;rfl)|(exact Eq.symm (Eq.trans List.map_append rfl))|(rw[List.map_append];rfl)|(rw[List.map_set];rfl)|(simp[*];done)|(rw[List.map_replicate];rfl))
    |(refine⟨_,rfl,rfl,Eq.trans ?_ (X2 (still_cons (X2k true) _ _) _)⟩;first|(simp;done)|(simp;rfl)|(simp[*];done))
    |(refine⟨_,rfl,rfl,Eq.trans ?_ (X2 (Xn (X2k false) _) _)⟩;first|(simp;done)|(simp;rfl)|(exact Eq.symm (Eq.trans List.map_append rfl))|(rw[List.map_append];rfl)|(rw[List.map_set];rfl)|(simp[*];done)|(rw[List.map_replicate];rfl))
    |(refine⟨_,rfl,rfl,Eq.trans ?_ (X2 (still_cons (X2k false) _ _) _)⟩;first|(simp;done)|(simp;rfl)|(simp[*];done))
    |(refine⟨_,rfl,rfl,Eq.trans ?_ (X2 (Xn (X4g true) _) _)⟩;first|(simp;done)|(simp;rfl)|(exact Eq.symm (Eq.trans List.map_append rfl))|(rw[List.map_append];rfl)|(rw[List.map_set];rfl)|(simp[*];done)|(rw[List.map_replicate];rfl))
    |(refine⟨_,rfl,rfl,Eq.trans ?_ (X2 (still_cons (X4g true) _ _) _)⟩;first|(simp;done)|(simp;rfl)|(simp[*];done))
    |(refine⟨_,rfl,rfl,Eq.trans ?_ (X2 (Xn (X4g false) _) _)⟩;first|(simp;done)|(simp;rfl)|(exact Eq.symm (Eq.trans List.map_append rfl))|(rw[List.map_append];rfl)|(rw[List.map_set];rfl)|(simp[*];done)|(rw[List.map_replicate];rfl))
    |(refine⟨_,rfl,rfl,Eq.trans ?_ (X2 (still_cons (X4g false) _ _) _)⟩;first|(simp;done)|(simp;rfl)|(simp[*];done))
    |(refine⟨_,rfl,rfl,Eq.trans ?_ (X2 (Xn (λ_=>Xgy) _) _)⟩;first|(simp;done)|(simp;rfl)|(exact Eq.symm (Eq.trans List.map_append rfl))|(rw[List.map_append];rfl)|(rw[List.map_set];rfl)|(simp[*];done)|(rw[List.map_replicate];rfl))
    |(refine⟨_,rfl,rfl,Eq.trans ?_ (X2 (still_cons (λ_=>Xgy) _ _) _)⟩;first|(simp;done)|(simp;rfl)|(simp[*];done))
    |(refine⟨_,rfl,rfl,Eq.trans ?_ (X2 (Xn (λ_=>X9f) _) _)⟩;first|(simp;done)|(simp;rfl)|(exact Eq.symm (Eq.trans List.map_append rfl))|(rw[List.map_append];rfl)|(rw[List.map_set];rfl)|(simp[*];done)|(rw[List.map_replicate];rfl))
    |(refine⟨_,rfl,rfl,Eq.trans ?_ (X2 (still_cons (λ_=>X9f) _ _) _)⟩;first|(simp;done)|(simp;rfl)|(simp[*];done))
    |(refine⟨_,rfl,rfl,Eq.trans ?_ (X2 (still_one (X7j _)) _)⟩;simp only[List.length_cons,List.length_map];rfl)
    |(refine⟨_,rfl,rfl,Eq.trans ?_ (X2 (still_one (X5c _)) _)⟩;simp only[List.length_cons,List.length_map];rfl)):P:=h
theorem wkB {P:Prop} (h:P:=by
  first
    |exact trivial
    |rfl
    |decide
    |exact⟨_,rfl,rfl,rfl⟩
    |exact X0an rfl
    |(refine⟨_,rfl,rfl,ref1 ?_⟩;first|rfl|omega|(simp;done)|(simp;omega))
    |exact wkR0
    |exact wkR1
    |exact wkR2
    |(intro e he a ha;rw[List.mem_singleton.1 he] at ha;rw[List.mem_singleton.1 ha];first|exact .sc|exact .list|exact .nils|exact .ref (by decide)|exact .ptr (by decide)|exact Xwv|exact .fn (Xg (.ptr (by decide)) X3d)|exact .fn (Xg (.ptr (by decide)) (Xg (.ptr (by decide)) X3d)))
    |(intro e he a ha;simp at he;subst he;simp[AV.cells] at ha;first|(subst ha;exact .sc)|(rcases ha with rfl|rfl|rfl|rfl|rfl<;>exact .sc))
    | (refine focO ?_ ?_; · first | exact okSl (by decide) | exact .ref (by decide) | exact .nils | exact .list
       · first|rfl|exact slE_cells)
    |(refine⟨_,rfl,rfl,focR (λ_=>X9f) (by first|rfl|(simp;done)) ?_⟩;first|rfl|(refine focC rfl ?_;first|rfl|(simp;done)|(simp;omega))|(simp[slE,nbF,AV.ren,thL];done))
    |(refine⟨_,rfl,rfl,focR2 (λ_=>X9f) (by first|rfl|(simp;done)) (by first|rfl|(simp;done)) ?_⟩;first|rfl|(refine focC rfl ?_;first|rfl|(simp;done)|(simp;omega))|(simp[slE,nbF,AV.ren,thL];done))
    |(refine⟨_,rfl,rfl,aggR ?_⟩;repeat' first|exact trivial|refine And.intro ?_ ?_|rfl|exact wkSl rfl|(refine refR rfl ?_;first|rfl|(simp;done)|(simp;omega)))
    |(refine X0e5 ?_;repeat' first|exact X3d|refine Xg ?_ ?_|exact .sc|exact .list|exact .nils|exact .ref (by decide)|exact .ptr (by decide)|exact okSl (by decide)|exact okF|exact okG|exact Xwv|exact .fn (Xg (.ptr (by decide)) X3d))):P:=h
theorem rn {P:Program} {T:Ty} {nt n0:Nat} {μ:Mu} {Q:Xp->St->Mu->Prop} {cf cf':Cf} {K K':List Kn} {L L':List (Nat×AV)} {G G':List (Nat×Obj)} {n n':Nat} {hs':List X4d} {ps':List Prop} (hT:X7a P T/\P.follows .mixedOrders=true) (hs:List X4d) (h:Xb6 P T nt 4000 cf K L G n hs []=some (cf',K',L',G',n',hs',ps')) (hp':X4u ps') (k:X9 P nt n0 Q cf' K' ⟨fr L',hp G',n'⟩ μ):X9 P nt n0 Q cf K ⟨fr L,hp G,n⟩ μ:=Xcu hT 4000 hs h hp' k
abbrev cc:=@Cvs.cons
abbrev cn:=@Cvs.nil
abbrev pn:=@X3m.none
abbrev Bt:X4d:=.br true
abbrev Bf:X4d:=.br false
abbrev Ob (e:List AV) (n:Nat):Obj:={ es:=e,esz:=n }
abbrev Lf:=AV.list false
abbrev Lt:=AV.list true
abbrev Gt:X4d:=.go true
abbrev Gf:X4d:=.go false
theorem Zn {α:Type} {m:Bool} {H:Xz} (f:α->AV):Cv m H .nils (.list m (List.map f ([]:List α))):=.nils
theorem wkT {P : Program} {nt n0 : Nat} {Q : Xp -> St -> Mu -> Prop} {cf : Cf} {K : List Kn} {μ : Mu} {L L' : List (Nat × AV)} {G G' : List (Nat × Obj)} {n n' : Nat} (θ : List (Nat × Nat)) (h : X9 P nt n0 Q cf K ⟨fr L', hp G', n'⟩ μ)
    (hb:(fixB θ n0&&injB θ (G'.map (·.1))&&Nat.ble n0 n')=true:=by rfl) (hL:wkL L θ n' L':=by repeat' first|refine And.intro ?_ ?_|exact wkA) (hG:wkG G θ n' G':=by repeat' first|refine And.intro ?_ ?_|exact wkB):X9 P nt n0 Q cf K ⟨fr L,hp G,n⟩ μ:=X9.weakTo θ h hb hL hG
theorem wkI {A : Prop} {P : Program} {nt n0 : Nat} {Q : Xp -> St -> Mu -> Prop} {cf : Cf} {K : List Kn} {μ : Mu} {L L' : List (Nat × AV)} {G G' : List (Nat × Obj)} {n n' : Nat} (θ : List (Nat × Nat)) (h : A -> X9 P nt n0 Q cf K ⟨fr L', hp G', n'⟩ μ)
    (hb:(fixB θ n0&&injB θ (G'.map (·.1))&&Nat.ble n0 n')=true:=by rfl) (hL:wkL L θ n' L':=by repeat' first|refine And.intro ?_ ?_|exact wkA) (hG:wkG G θ n' G':=by repeat' first|refine And.intro ?_ ?_|exact wkB):A->X9 P nt n0 Q cf K ⟨fr L,hp G,n⟩ μ:=λa=>wkT θ (h a) hb hL hG
theorem wC {P : Program} {nt n0 : Nat} {Q : Xp -> St -> Mu -> Prop} {e : Xp} {μ : Mu} {O : Type} {a o : O} {out : O -> Xp × St} {L L' : List (Nat × AV)} {G G' : List (Nat × Obj)} {n n' : Nat} (h : some a = some o) (C : Lc P nt n0 Q μ o out)
    (r:out a=(e,⟨fr L',hp G',n'⟩):=by exact rfl) (hb:(fixB [] n0&&injB [] (G'.map (·.1))&&Nat.ble n0 n')=true:=by rfl) (hL:wkL L [] n' L':=by repeat' first|refine And.intro ?_ ?_|exact wkA) (hG:wkG G [] n' G':=by repeat' first|refine And.intro ?_ ?_|exact wkB):X9 P nt n0 Q (.exit e) [] ⟨fr L,hp G,n⟩ μ:=wkT [] (lE h C r) hb hL hG
theorem wJ {P : Program} {nt n0 : Nat} {Q : Xp -> St -> Mu -> Prop} {x : Xp} {K : List Kn} {μ : Mu} {s' : St} {L L' : List (Nat × AV)} {G G' : List (Nat × Obj)} {n n' : Nat} (θ : List (Nat × Nat)) (J : X9 P nt n0 Q (.exit x) K s' μ)
    (r:s'=⟨fr L',hp G',n'⟩:=by first|rw[<-oj1 e,<-oj2 e]|rw[<-oj e]|(cases oj e;exact rfl)) (hb:(fixB θ n0&&injB θ (G'.map (·.1))&&Nat.ble n0 n')=true:=by rfl) (hL:wkL L θ n' L':=by repeat' first|refine And.intro ?_ ?_|exact wkA) (hG:wkG G θ n' G':=by repeat' first|refine And.intro ?_ ?_|exact wkB):X9 P nt n0 (Xd2 P nt n0 Q K) (.exit x) [] ⟨fr L,hp G,n⟩ μ:=wkT θ (gJ J r) hb hL hG
end Go.Av
namespace Go.D
open Go.Av
def X2a (x y:X1):Bool:=((x.Kind==y.Kind)&&((x.N==y.N)&&((x.A==y.A)&&((x.B==y.B)&&((x.At==y.At)&&true)))))
def X69 (x y:Xi):Bool:=((x.Kind==y.Kind)&&((x.Size==y.Size)&&((x.Every==y.Every)&&true)))
def X23 (x y:X04):Bool:=((x.Key==y.Key)&&((x.Time==y.Time)&&((x.Value==y.Value)&&true)))
def Xhn (x y:Xv):Bool:=((x.Mark==y.Mark)&&((x.Time==y.Time)&&((X23 x.Record y.Record)&&true)))
def X74 (x y:GOp):Bool:=((x.Kind==y.Kind)&&((x.N==y.N)&&true))
def Xds (x y:X7):Bool:=((x.From==y.From)&&((x.Out==y.Out)&&((x.To==y.To)&&((x.In==y.In)&&((x.Room==y.Room)&&true)))))
def Xqn (x y:Xpe):Bool:=((x.Start==y.Start)&&((x.End==y.End)&&true))
def Xyd (x y:(V2 Int)):Bool:=((x.e0==y.e0)&&((x.e1==y.e1)&&true))
def Xtl (x y:Xey):Bool:=((x.Key==y.Key)&&((Xqn x.Span y.Span)&&((Xyd x.Values y.Values)&&true)))
def Xi7 (x y:X20):Bool:=((x.Kind==y.Kind)&&((X23 x.Record y.Record)&&((x.Time==y.Time)&&((Xtl x.Row y.Row)&&true))))
def Xye (x y:X5p):Bool:=((x.Out==y.Out)&&((Xi7 x.Message y.Message)&&true))
def Xn8 (x y:Xzi):Bool:=((x.Count==y.Count)&&((x.Sum==y.Sum)&&((x.Min==y.Min)&&((x.Max==y.Max)&&true))))
def Xqm (x y:(V2 Xzi)):Bool:=((Xn8 x.e0 y.e0)&&((Xn8 x.e1 y.e1)&&true))
def Xv0 (x y:X4v):Bool:=((x.Key==y.Key)&&((Xqn x.Span y.Span)&&((Xqm x.Values y.Values)&&true)))
def Xj6 (x:X1):Prop:=wfI .u8 x.Kind/\wfI .i64 x.N/\wfI .i64 x.A/\wfI .i64 x.B/\wfI .i64 x.At
def Xmr (x:Xi):Prop:=wfI .u8 x.Kind/\wfI .i64 x.Size/\wfI .i64 x.Every
def Xfu (x:X6):Prop:=wfI .u8 x.Agg/\(List.length x.Arg<=maxLen/\∀ y∈x.Arg,Xj6 y)/\(List.length x.Sources<=maxLen/\∀ y∈x.Sources,wfI .i64 y)/\True/\(List.length x.Where<=maxLen/\∀ y∈x.Where,Xj6 y)/\Xmr x.Window/\True/\wfI .u8 x.Late
def Xms (x:X04):Prop:=wfI .i64 x.Key/\wfI .i64 x.Time/\wfI .i64 x.Value
def Xfv (x:Xv):Prop:=True/\wfI .i64 x.Time/\Xms x.Record
def Xrf (x:X2u):Prop:=wfI .i64 x.Parts/\wfI .i64 x.Room/\True
end Go.D
