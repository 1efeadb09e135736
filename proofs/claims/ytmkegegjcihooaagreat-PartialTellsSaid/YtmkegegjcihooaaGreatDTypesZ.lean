/- Printed by decomp.py: the types of the Go program, as data; their encodings. -/
import Derived.Test.YtmkegegjcihooaaGreatAvc
set_option linter.all false

namespace Go.D
theorem Yo {α β:Type} {a:α} {f:α->Option β}:(some a).bind f=f a:=rfl
theorem Yf {p:Prop} [Decidable p] (h:¬ p):decide p=false:=decide_eq_false h
theorem Yt {p:Prop} [Decidable p] (h:p):decide p=true:=decide_eq_true h
theorem Ym {α β:Type} {f:α->β} {l:List α} {i:Nat}:List.map f (List.take i l)=List.take i (List.map f l):=List.map_take
theorem Yd {α β:Type} {f:α->β} {l:List α} {i:Nat}:List.map f (List.drop i l)=List.drop i (List.map f l):=List.map_drop
theorem Ya {a b:Prop} (x:a) (y:b):a/\b:=⟨x,y⟩
theorem Ye {α:Type} {l:List α} {i:Nat} (h:i<l.length):l[i]?=some l[i]:=List.getElem?_eq_getElem h
theorem Ys {α:Type} {l:List α} {i:Nat} {a:α}:l[i]?=some a↔∃ h:i<l.length,l[i]=a:=List.getElem?_eq_some_iff
theorem Yg {α:Type} {l:List α} {i:Nat} {a:α} (h:l[i]?=some a):a∈l:=List.mem_of_getElem? h
structure X02 where
  Kind:Int
  N:Int
  A:Int
  B:Int
  At:Int
  deriving DecidableEq,Inhabited
structure X5v where
  Kind:Int
  Size:Int
  Every:Int
  deriving DecidableEq,Inhabited
structure X1t where
  Agg:Int
  Arg:(List X02)
  Sources:(List Int)
  Join:Bool
  Where:(List X02)
  Window:X5v
  ByKey:Bool
  Late:Int
  deriving DecidableEq,Inhabited
structure GOp where
  Kind:Int
  N:Int
  deriving DecidableEq,Inhabited
structure Xk where
  From:Int
  Out:Int
  To:Int
  In:Int
  Room:Int
  deriving DecidableEq,Inhabited
structure Xt where
  Ops:(List GOp)
  Channels:(List Xk)
  deriving DecidableEq,Inhabited
structure X07 where
  Key:Int
  Time:Int
  Value:Int
  deriving DecidableEq,Inhabited
structure X5w where
  Start:Int
  End:Int
  deriving DecidableEq,Inhabited
structure X9f where
  Key:Int
  Span:X5w
  Values:(V2 Int)
  deriving DecidableEq,Inhabited
structure Xo where
  Kind:Int
  Record:X07
  Time:Int
  Row:X9f
  deriving DecidableEq,Inhabited
structure X3i where
  Out:Int
  Message:Xo
  deriving DecidableEq,Inhabited
structure X4z where
  Count:Int
  Sum:Int
  Min:Int
  Max:Int
  deriving DecidableEq,Inhabited
structure Xg where
  Key:Int
  Span:X5w
  Values:(V2 X4z)
  deriving DecidableEq,Inhabited
structure X5m where
  Mark:Bool
  Time:Int
  Record:X07
  deriving DecidableEq,Inhabited
structure Xv where
  Op:GOp
  Turn:Int
  Pending:(List X3i)
  Marks:(List Int)
  Store:(List Xg)
  Events:(List X5m)
  Rows:(List X9f)
  Late:(List X07)
  deriving DecidableEq,Inhabited
structure X0e where
  Room:Int
  List:(List Xo)
  deriving DecidableEq,Inhabited
structure Xf where
  Query:X1t
  Graph:Xt
  Tasks:(List Xv)
  Queues:(List X0e)
  deriving DecidableEq,Inhabited
structure Xh where
  at_:Int
  size:Int
  depth:Int
  deriving DecidableEq,Inhabited
end Go.D
namespace Go.Av
open Go.D
def X2 (x:X02):AV:=.agg [(aI .u8 x.Kind),(aI .i64 x.N),(aI .i64 x.A),(aI .i64 x.B),(aI .i64 x.At)]
theorem Xbd (x:X02):Xd6 (X2 x):=(X1a (X1a (X1a (X1a (X1a Xi2)))))
theorem X9l (x:X02):X6f (X2 x):=λ_=>rfl
theorem Xgb (x:X02):Xe4 (X2 x):=X6z (Xbd x) rfl
instance X0b8:Xfy X2:=⟨Xbd,λ_=>rfl,X9l⟩
def Xa2 (x:X5v):AV:=.agg [(aI .u8 x.Kind),(aI .i64 x.Size),(aI .i64 x.Every)]
theorem Xr8 (x:X5v):Xd6 (Xa2 x):=(X1a (X1a (X1a Xi2)))
theorem X6g (x:X5v):X6f (Xa2 x):=λ_=>rfl
instance X097:Xfy Xa2:=⟨Xr8,λ_=>rfl,X6g⟩
def X22 (o:Bool) (x:X1t):AV:=.agg [(aI .u8 x.Agg),(AV.list o (List.map X2 x.Arg)),(AV.list o (List.map (aI .i64) x.Sources)),(aB x.Join),(AV.list o (List.map X2 x.Where)),(aI .u8 x.Window.Kind),(aI .i64 x.Window.Size),(aI .i64 x.Window.Every),(aB x.ByKey),(aI .u8 x.Late)]
theorem X2q (o:Bool) (x:X1t):X6f (X22 o x):=λ_=>rfl
theorem X5c (o:Bool) (x:X1t):Xe4 (X22 o x):=Xhz (λ_=>(Xs .sc (Xs .list (Xs .list (Xs .sc (Xs .list (Xs .sc (Xs .sc (Xs .sc (Xs .sc (Xs .sc X3k)))))))))))
theorem Xw3 {H:X0c} {o:Bool} {x:X1t}:Cv false H (X22 o x) (X22 false x):=X9g (Cvs.cons .sc (Cvs.cons (X1c (X0p Xbd _)) (Cvs.cons (X1c (X0p (λ_=>Xgo) _)) (Cvs.cons .sc (Cvs.cons (X1c (X0p Xbd _)) (Cvs.cons .sc (Cvs.cons .sc (Cvs.cons .sc (Cvs.cons .sc (Cvs.cons .sc Cvs.nil))))))))))
theorem Xw1 {H:X0c} {o:Bool} {x:X1t}:Cv true H (X22 o x) (X22 o x):=X9g (Cvs.cons .sc (Cvs.cons (.listS rfl) (Cvs.cons (.listS rfl) (Cvs.cons .sc (Cvs.cons (.listS rfl) (Cvs.cons .sc (Cvs.cons .sc (Cvs.cons .sc (Cvs.cons .sc (Cvs.cons .sc Cvs.nil))))))))))
instance X0a4:Xq3 X22:=⟨Xw3,Xw1,λ_ _ _=>rfl,X5c,X2q⟩
def X2g (x:GOp):AV:=.agg [(aI .u8 x.Kind),(aI .i64 x.N)]
theorem Xcv (x:GOp):Xd6 (X2g x):=(X1a (X1a Xi2))
theorem Xdc (x:GOp):X6f (X2g x):=λ_=>rfl
instance X0ec:Xfy X2g:=⟨Xcv,λ_=>rfl,Xdc⟩
def X8 (x:Xk):AV:=.agg [(aI .i64 x.From),(aI .i64 x.Out),(aI .i64 x.To),(aI .i64 x.In),(aI .i64 x.Room)]
theorem X37 (x:Xk):Xd6 (X8 x):=(X1a (X1a (X1a (X1a (X1a Xi2)))))
theorem X5o (x:Xk):X6f (X8 x):=λ_=>rfl
theorem Xb2 (x:Xk):Xe4 (X8 x):=X6z (X37 x) rfl
instance X08c:Xfy X8:=⟨X37,λ_=>rfl,X5o⟩
def Xb (o:Bool) (x:Xt):AV:=.agg [(AV.list o (List.map X2g x.Ops)),(AV.list o (List.map X8 x.Channels))]
theorem X2r (o:Bool) (x:Xt):X6f (Xb o x):=λ_=>rfl
theorem X5d (o:Bool) (x:Xt):Xe4 (Xb o x):=Xhz (λ_=>(Xs .list (Xs .list X3k)))
theorem Xw4 {H:X0c} {o:Bool} {x:Xt}:Cv false H (Xb o x) (Xb false x):=X9g (Cvs.cons (X1c (X0p Xcv _)) (Cvs.cons (X1c (X0p X37 _)) Cvs.nil))
theorem Xw2 {H:X0c} {o:Bool} {x:Xt}:Cv true H (Xb o x) (Xb o x):=X9g (Cvs.cons (.listS rfl) (Cvs.cons (.listS rfl) Cvs.nil))
instance X0a5:Xq3 Xb:=⟨Xw4,Xw2,λ_ _ _=>rfl,X5d,X2r⟩
def X1b (x:X07):AV:=.agg [(aI .i64 x.Key),(aI .i64 x.Time),(aI .i64 x.Value)]
theorem Xk0 (x:X07):Xd6 (X1b x):=(X1a (X1a (X1a Xi2)))
theorem X6h (x:X07):X6f (X1b x):=λ_=>rfl
instance X098:Xfy X1b:=⟨Xk0,λ_=>rfl,X6h⟩
def X004 (x:X5w):AV:=.agg [(aI .i64 x.Start),(aI .i64 x.End)]
def X1k (x:(V2 Int)):AV:=.agg [(aI .i64 x.e0),(aI .i64 x.e1)]
theorem Xvw (x:(V2 Int)):Xd6 (X1k x):=(X1a (X1a Xi2))
theorem Xga (x:(V2 Int)):Xe4 (X1k x):=X6z (Xvw x) rfl
def X3z (x:X9f):AV:=.agg [(aI .i64 x.Key),(aI .i64 x.Span.Start),(aI .i64 x.Span.End),(aI .i64 x.Values.e0),(aI .i64 x.Values.e1)]
theorem Xr9 (x:X9f):Xd6 (X3z x):=(X1a (X1a (X1a (X1a (X1a Xi2)))))
theorem Xb7 (x:X9f):X6f (X3z x):=λ_=>rfl
instance X0du:Xfy X3z:=⟨Xr9,λ_=>rfl,Xb7⟩
def Xw (x:Xo):AV:=.agg [(aI .u8 x.Kind),(aI .i64 x.Record.Key),(aI .i64 x.Record.Time),(aI .i64 x.Record.Value),(aI .i64 x.Time),(aI .i64 x.Row.Key),(aI .i64 x.Row.Span.Start),(aI .i64 x.Row.Span.End),(aI .i64 x.Row.Values.e0),(aI .i64 x.Row.Values.e1)]
theorem Xel (x:Xo):Xd6 (Xw x):=(X1a (X1a (X1a (X1a (X1a (X1a (X1a (X1a (X1a (X1a Xi2))))))))))
theorem X5n (x:Xo):X6f (Xw x):=λ_=>rfl
theorem Xb1 (x:Xo):Xe4 (Xw x):=X6z (Xel x) rfl
instance X08b:Xfy Xw:=⟨Xel,λ_=>rfl,X5n⟩
def X0i (x:X3i):AV:=.agg [(aI .i64 x.Out),(aI .u8 x.Message.Kind),(aI .i64 x.Message.Record.Key),(aI .i64 x.Message.Record.Time),(aI .i64 x.Message.Record.Value),(aI .i64 x.Message.Time),(aI .i64 x.Message.Row.Key),(aI .i64 x.Message.Row.Span.Start),(aI .i64 x.Message.Row.Span.End),(aI .i64 x.Message.Row.Values.e0),(aI .i64 x.Message.Row.Values.e1)]
theorem Xom (x:X3i):Xd6 (X0i x):=(X1a (X1a (X1a (X1a (X1a (X1a (X1a (X1a (X1a (X1a (X1a Xi2)))))))))))
theorem X9k (x:X3i):X6f (X0i x):=λ_=>rfl
instance X0b7:Xfy X0i:=⟨Xom,λ_=>rfl,X9k⟩
def X84 (x:X4z):AV:=.agg [(aI .i64 x.Count),(aI .i64 x.Sum),(aI .i64 x.Min),(aI .i64 x.Max)]
theorem Xmk (x:X4z):Xd6 (X84 x):=(X1a (X1a (X1a (X1a Xi2))))
theorem X7x (x:X4z):X6f (X84 x):=λ_=>rfl
theorem Xek (x:X4z):Xe4 (X84 x):=X6z (Xmk x) rfl
instance X0aq:Xfy X84:=⟨Xmk,λ_=>rfl,X7x⟩
def Xpz (x:(V2 X4z)):AV:=.agg [(aI .i64 x.e0.Count),(aI .i64 x.e0.Sum),(aI .i64 x.e0.Min),(aI .i64 x.e0.Max),(aI .i64 x.e1.Count),(aI .i64 x.e1.Sum),(aI .i64 x.e1.Min),(aI .i64 x.e1.Max)]
def X1 (x:Xg):AV:=.agg [(aI .i64 x.Key),(aI .i64 x.Span.Start),(aI .i64 x.Span.End),(aI .i64 x.Values.e0.Count),(aI .i64 x.Values.e0.Sum),(aI .i64 x.Values.e0.Min),(aI .i64 x.Values.e0.Max),(aI .i64 x.Values.e1.Count),(aI .i64 x.Values.e1.Sum),(aI .i64 x.Values.e1.Min),(aI .i64 x.Values.e1.Max)]
theorem Xcg (x:Xg):Xd6 (X1 x):=(X1a (X1a (X1a (X1a (X1a (X1a (X1a (X1a (X1a (X1a (X1a Xi2)))))))))))
theorem X7w (x:Xg):X6f (X1 x):=λ_=>rfl
theorem Xej (x:Xg):Xe4 (X1 x):=X6z (Xcg x) rfl
instance X0ap:Xfy X1:=⟨Xcg,λ_=>rfl,X7w⟩
def X0u (x:X5m):AV:=.agg [(aB x.Mark),(aI .i64 x.Time),(aI .i64 x.Record.Key),(aI .i64 x.Record.Time),(aI .i64 x.Record.Value)]
theorem Xh7 (x:X5m):Xd6 (X0u x):=(X1a (X1a (X1a (X1a (X1a Xi2)))))
theorem X7v (x:X5m):X6f (X0u x):=λ_=>rfl
theorem Xei (x:X5m):Xe4 (X0u x):=X6z (Xh7 x) rfl
instance X0ao:Xfy X0u:=⟨Xh7,λ_=>rfl,X7v⟩
def Xa (o:Bool) (x:Xv):AV:=.agg [(aI .u8 x.Op.Kind),(aI .i64 x.Op.N),(aI .i64 x.Turn),(AV.list o (List.map X0i x.Pending)),(AV.list o (List.map (aI .i64) x.Marks)),(AV.list o (List.map X1 x.Store)),(AV.list o (List.map X0u x.Events)),(AV.list o (List.map X3z x.Rows)),(AV.list o (List.map X1b x.Late))]
theorem X3e (o:Bool) (x:Xv):X6f (Xa o x):=λ_=>rfl
theorem X6m (o:Bool) (x:Xv):Xe4 (Xa o x):=Xhz (λ_=>(Xs .sc (Xs .sc (Xs .sc (Xs .list (Xs .list (Xs .list (Xs .list (Xs .list (Xs .list X3k))))))))))
theorem Xrf {H:X0c} {o:Bool} {x:Xv}:Cv false H (Xa o x) (Xa false x):=X9g (Cvs.cons .sc (Cvs.cons .sc (Cvs.cons .sc (Cvs.cons (X1c (X0p Xom _)) (Cvs.cons (X1c (X0p (λ_=>Xgo) _)) (Cvs.cons (X1c (X0p Xcg _)) (Cvs.cons (X1c (X0p Xh7 _)) (Cvs.cons (X1c (X0p Xr9 _)) (Cvs.cons (X1c (X0p Xk0 _)) Cvs.nil)))))))))
theorem X00f {H:X0c} {o:Bool} {x:Xv}:Cv true H (Xa o x) (Xa o x):=X9g (Cvs.cons .sc (Cvs.cons .sc (Cvs.cons .sc (Cvs.cons (.listS rfl) (Cvs.cons (.listS rfl) (Cvs.cons (.listS rfl) (Cvs.cons (.listS rfl) (Cvs.cons (.listS rfl) (Cvs.cons (.listS rfl) Cvs.nil)))))))))
instance X0b5:Xq3 Xa:=⟨Xrf,X00f,λ_ _ _=>rfl,X6m,X3e⟩
instance X0b4:X091 Xa:=⟨X9g (Cvs.cons .sc (Cvs.cons .sc (Cvs.cons .sc (Cvs.cons (.weak (.listS rfl)) (Cvs.cons (.weak (.listS rfl)) (Cvs.cons (.weak (.listS rfl)) (Cvs.cons (.weak (.listS rfl)) (Cvs.cons (.weak (.listS rfl)) (Cvs.cons (.weak (.listS rfl)) Cvs.nil)))))))))⟩
def Xq (o:Bool) (x:X0e):AV:=.agg [(aI .i64 x.Room),(AV.list o (List.map Xw x.List))]
theorem X2p (o:Bool) (x:X0e):X6f (Xq o x):=λ_=>rfl
theorem X5b (o:Bool) (x:X0e):Xe4 (Xq o x):=Xhz (λ_=>(Xs .sc (Xs .list X3k)))
theorem Xop {H:X0c} {o:Bool} {x:X0e}:Cv false H (Xq o x) (Xq false x):=X9g (Cvs.cons .sc (Cvs.cons (X1c (X0p Xel _)) Cvs.nil))
theorem Xw0 {H:X0c} {o:Bool} {x:X0e}:Cv true H (Xq o x) (Xq o x):=X9g (Cvs.cons .sc (Cvs.cons (.listS rfl) Cvs.nil))
instance X0a3:Xq3 Xq:=⟨Xop,Xw0,λ_ _ _=>rfl,X5b,X2p⟩
instance X0a2:X091 Xq:=⟨X9g (Cvs.cons .sc (Cvs.cons (.weak (.listS rfl)) Cvs.nil))⟩
def Xc (o:Bool) (x:Xf):AV:=.agg [(aI .u8 x.Query.Agg),(AV.list o (List.map X2 x.Query.Arg)),(AV.list o (List.map (aI .i64) x.Query.Sources)),(aB x.Query.Join),(AV.list o (List.map X2 x.Query.Where)),(aI .u8 x.Query.Window.Kind),(aI .i64 x.Query.Window.Size),(aI .i64 x.Query.Window.Every),(aB x.Query.ByKey),(aI .u8 x.Query.Late),(AV.list o (List.map X2g x.Graph.Ops)),(AV.list o (List.map X8 x.Graph.Channels)),(AV.list o (List.map (Xa o) x.Tasks)),(AV.list o (List.map (Xq o) x.Queues))]
theorem X1u (o:Bool) (x:Xf):X6f (Xc o x):=λ_=>rfl
theorem X36 (o:Bool) (x:Xf):Xe4 (Xc o x):=Xhz (λ_=>(Xs .sc (Xs .list (Xs .list (Xs .sc (Xs .list (Xs .sc (Xs .sc (Xs .sc (Xs .sc (Xs .sc (Xs .list (Xs .list (Xs .list (Xs .list X3k)))))))))))))))
theorem Xrg {H:X0c} {o:Bool} {x:Xf}:Cv false H (Xc o x) (Xc false x):=X9g (Cvs.cons .sc (Cvs.cons (X1c (X0p Xbd _)) (Cvs.cons (X1c (X0p (λ_=>Xgo) _)) (Cvs.cons .sc (Cvs.cons (X1c (X0p Xbd _)) (Cvs.cons .sc (Cvs.cons .sc (Cvs.cons .sc (Cvs.cons .sc (Cvs.cons .sc (Cvs.cons (X1c (X0p Xcv _)) (Cvs.cons (X1c (X0p X37 _)) (Cvs.cons (Xt2 (f:=(Xa o)) (g:=(Xa false)) (λ_=>rfl) (λx=>Xi9 Xrf) _) (Cvs.cons (Xt2 (f:=(Xq o)) (g:=(Xq false)) (λ_=>rfl) (λx=>Xi9 Xop) _) Cvs.nil))))))))))))))
theorem Xre {H:X0c} {o:Bool} {x:Xf}:Cv true H (Xc o x) (Xc o x):=X9g (Cvs.cons .sc (Cvs.cons (.listS rfl) (Cvs.cons (.listS rfl) (Cvs.cons .sc (Cvs.cons (.listS rfl) (Cvs.cons .sc (Cvs.cons .sc (Cvs.cons .sc (Cvs.cons .sc (Cvs.cons .sc (Cvs.cons (.listS rfl) (Cvs.cons (.listS rfl) (Cvs.cons (.listS rfl) (Cvs.cons (.listS rfl) Cvs.nil))))))))))))))
instance X06s:Xq3 Xc:=⟨Xrg,Xre,λ_ _ _=>rfl,X36,X1u⟩
def X7 (x:Xh):AV:=.agg [(aI .i64 x.at_),(aI .i64 x.size),(aI .i64 x.depth)]
theorem Xft (x:Xh):Xd6 (X7 x):=(X1a (X1a (X1a Xi2)))
theorem X3m (x:Xh):X6f (X7 x):=λ_=>rfl
theorem X92 (x:Xh):Xe4 (X7 x):=X6z (Xft x) rfl
instance X048:Xfy X7:=⟨Xft,λ_=>rfl,X3m⟩
def Xb3 (x:(V2 Bool)):AV:=.agg [(aB x.e0),(aB x.e1)]
theorem X045 (x:(V2 Bool)):Xd6 (Xb3 x):=(X1a (X1a Xi2))
theorem Xl6 (x:(V2 Bool)):Xe4 (Xb3 x):=X6z (X045 x) rfl
theorem wkA {P:Prop} (h:P:=by
  first
    |exact trivial
    |rfl
    |exact .sc
    |exact .list
    |exact .nils
    |exact .ref (by decide)
    |exact .ptr (by decide)
    |exact Xyg
    |(refine AV.Ok.tup ?_;repeat' first|exact X3k|refine Xs ?_ ?_|exact .sc|exact .nils|exact .list|exact .ref (by decide)|exact .ptr (by decide))
    |(refine congrArg AV.tup ?_;repeat' first|rfl|(refine congrArg (λz=>AV.ref _ 0 z) ?_;first|rfl|omega|(simp;done)|(simp;omega))|(show AV.ref _ 0 _=AV.ref _ 0 _;congr 1;first|omega|(simp;done))|(refine congrArg (λz=>AV.sc (Value.int IntKind.i64 z)) ?_;first|rfl|omega|assumption|(simp;done))|refine congr (congrArg List.cons ?_) ?_|(show(_::_:List AV)=_::_;refine congr (congrArg List.cons ?_) ?_))
    |exact .fn (Xs (.ptr (by decide)) X3k)
    |exact .fn (Xs (.ptr (by decide)) (Xs (.ptr (by decide)) X3k))
    |exact .fn (Xs (.ptr (by decide)) (Xs (.ptr (by decide)) (Xs (.ptr (by decide)) X3k)))
    |assumption
    |exact(Xgb _ _).1
    |exact(free_GWindow _ _).1
    |exact(X5c true _ _).1
    |exact(X5c false _ _).1
    |exact(free_GOp _ _).1
    |exact(Xb2 _ _).1
    |exact(X5d true _ _).1
    |exact(X5d false _ _).1
    |exact(free_GRecord _ _).1
    |exact(free_GSpan _ _).1
    |exact(Xga _ _).1
    |exact(free_GRow _ _).1
    |exact(Xb1 _ _).1
    |exact(free_GSend _ _).1
    |exact(Xek _ _).1
    |exact(free_V2GAccum _ _).1
    |exact(Xej _ _).1
    |exact(Xei _ _).1
    |exact(X6m true _ _).1
    |exact(X6m false _ _).1
    |exact(X5b true _ _).1
    |exact(X5b false _ _).1
    |exact(X36 true _ _).1
    |exact(X36 false _ _).1
    |exact(X92 _ _).1
    |exact(Xl6 _ _).1
    |(refine congrArg (λz=>AV.sc (Value.int IntKind.i64 z)) ?_;first|rfl|omega|assumption|(simp;done)|(simp;omega))
    |(refine congrArg (λz=>AV.sc (Value.bool z)) ?_;first|rfl|assumption|(simp;done))
    |(refine congrArg (λz=>AV.ref _ 0 z) ?_;first|rfl|omega|(simp;done)|(simp;omega))
    |(show AV.ref _ 0 _=AV.ref _ 0 _;congr 1;first|(simp;done)|(simp;omega))
    |(simp[slE,opE,nbF,nbT,nbS,AV.ren,List.map_take,List.map_drop];done)
    |(simp[slE,opE,nbF,nbT,nbS,AV.ren,List.map_take,List.map_drop, *];done)
    |(simp[AV.ren, *];done)
    |exact wkSl rfl
    |exact okSl (by decide)
    |(refine aggV ?_;repeat' first|exact trivial|refine And.intro ?_ ?_|rfl|exact wkSl rfl|(refine refR rfl ?_;first|rfl|(simp;done)|(simp;omega)))
    |(refine X0e1 ?_;repeat' first|exact X3k|refine Xs ?_ ?_|exact .sc|exact .list|exact .nils|exact .ref (by decide)|exact .ptr (by decide)|exact okSl (by decide)|exact okF|exact okG|exact Xyg)):P:=h
theorem wkR0 {P:Prop} (h:P:=by
  first
    |exact X18 Xgb _ _
    |exact X17 (Xgb _) _
    |exact free_cons Xgb _ _ _
    |exact X18 free_GWindow _ _
    |exact X17 (free_GWindow _) _
    |exact free_cons free_GWindow _ _ _
    |exact X18 (X5c true) _ _
    |exact X17 ((X5c true) _) _
    |exact free_cons (X5c true) _ _ _
    |exact X18 (X5c false) _ _
    |exact X17 ((X5c false) _) _
    |exact free_cons (X5c false) _ _ _
    |exact X18 free_GOp _ _
    |exact X17 (free_GOp _) _
    |exact free_cons free_GOp _ _ _
    |exact X18 Xb2 _ _
    |exact X17 (Xb2 _) _
    |exact free_cons Xb2 _ _ _
    |exact X18 (X5d true) _ _
    |exact X17 ((X5d true) _) _
    |exact free_cons (X5d true) _ _ _
    |exact X18 (X5d false) _ _
    |exact X17 ((X5d false) _) _
    |exact free_cons (X5d false) _ _ _
    |exact X18 free_GRecord _ _
    |exact X17 (free_GRecord _) _
    |exact free_cons free_GRecord _ _ _
    |exact X18 free_GSpan _ _
    |exact X17 (free_GSpan _) _
    |exact free_cons free_GSpan _ _ _
    |exact X18 Xga _ _
    |exact X17 (Xga _) _
    |exact free_cons Xga _ _ _
    |exact X18 free_GRow _ _
    |exact X17 (free_GRow _) _
    |exact free_cons free_GRow _ _ _
    |exact X18 Xb1 _ _
    |exact X17 (Xb1 _) _
    |exact free_cons Xb1 _ _ _
    |exact X18 free_GSend _ _
    |exact X17 (free_GSend _) _
    |exact free_cons free_GSend _ _ _
    |exact X18 Xek _ _
    |exact X17 (Xek _) _
    |exact free_cons Xek _ _ _
    |exact X18 free_V2GAccum _ _
    |exact X17 (free_V2GAccum _) _
    |exact free_cons free_V2GAccum _ _ _
    |exact X18 Xej _ _
    |exact X17 (Xej _) _
    |exact free_cons Xej _ _ _
    |exact X18 Xei _ _
    |exact X17 (Xei _) _
    |exact free_cons Xei _ _ _
    |exact X18 (X6m true) _ _
    |exact X17 ((X6m true) _) _
    |exact free_cons (X6m true) _ _ _
    |exact X18 (X6m false) _ _
    |exact X17 ((X6m false) _) _
    |exact free_cons (X6m false) _ _ _
    |exact X18 (X5b true) _ _
    |exact X17 ((X5b true) _) _
    |exact free_cons (X5b true) _ _ _
    |exact X18 (X5b false) _ _
    |exact X17 ((X5b false) _) _
    |exact free_cons (X5b false) _ _ _
    |exact X18 (X36 true) _ _
    |exact X17 ((X36 true) _) _
    |exact free_cons (X36 true) _ _ _
    |exact X18 (X36 false) _ _
    |exact X17 ((X36 false) _) _
    |exact free_cons (X36 false) _ _ _
    |exact X18 X92 _ _
    |exact X17 (X92 _) _
    |exact free_cons X92 _ _ _
    |exact X18 Xl6 _ _
    |exact X17 (Xl6 _) _
    |exact free_cons Xl6 _ _ _
    |exact X18 (λ_=>Xzy) _ _
    |exact X17 ((λ_=>Xzy) _) _
    |exact free_cons (λ_=>Xzy) _ _ _
    |exact X18 (λ_=>free_encl) _ _
    |exact X17 ((λ_=>free_encl) _) _
    |exact free_cons (λ_=>free_encl) _ _ _
    |(refine⟨_,rfl,rfl,Eq.trans ?_ (X4 (Xr X9l _) _)⟩;rfl)
    |(refine⟨_,rfl,rfl,Eq.trans ?_ (X4 (still_cons X9l _ _) _)⟩;rfl)
    |(refine⟨_,rfl,rfl,Eq.trans ?_ (X4 (Xr X6g _) _)⟩;rfl)
    |(refine⟨_,rfl,rfl,Eq.trans ?_ (X4 (still_cons X6g _ _) _)⟩;rfl)
    |(refine⟨_,rfl,rfl,Eq.trans ?_ (X4 (Xr (X2q true) _) _)⟩;rfl)
    |(refine⟨_,rfl,rfl,Eq.trans ?_ (X4 (still_cons (X2q true) _ _) _)⟩;rfl)
    |(refine⟨_,rfl,rfl,Eq.trans ?_ (X4 (Xr (X2q false) _) _)⟩;rfl)
    |(refine⟨_,rfl,rfl,Eq.trans ?_ (X4 (still_cons (X2q false) _ _) _)⟩;rfl)
    |(refine⟨_,rfl,rfl,Eq.trans ?_ (X4 (Xr Xdc _) _)⟩;rfl)
    |(refine⟨_,rfl,rfl,Eq.trans ?_ (X4 (still_cons Xdc _ _) _)⟩;rfl)
    |(refine⟨_,rfl,rfl,Eq.trans ?_ (X4 (Xr X5o _) _)⟩;rfl)
    |(refine⟨_,rfl,rfl,Eq.trans ?_ (X4 (still_cons X5o _ _) _)⟩;rfl)
    |(refine⟨_,rfl,rfl,Eq.trans ?_ (X4 (Xr (X2r true) _) _)⟩;rfl)
    |(refine⟨_,rfl,rfl,Eq.trans ?_ (X4 (still_cons (X2r true) _ _) _)⟩;rfl)
    |(refine⟨_,rfl,rfl,Eq.trans ?_ (X4 (Xr (X2r false) _) _)⟩;rfl)
    |(refine⟨_,rfl,rfl,Eq.trans ?_ (X4 (still_cons (X2r false) _ _) _)⟩;rfl)
    |(refine⟨_,rfl,rfl,Eq.trans ?_ (X4 (Xr X6h _) _)⟩;rfl)
    |(refine⟨_,rfl,rfl,Eq.trans ?_ (X4 (still_cons X6h _ _) _)⟩;rfl)
    |(refine⟨_,rfl,rfl,Eq.trans ?_ (X4 (Xr still_GSpan _) _)⟩;rfl)
    |(refine⟨_,rfl,rfl,Eq.trans ?_ (X4 (still_cons still_GSpan _ _) _)⟩;rfl)
    |(refine⟨_,rfl,rfl,Eq.trans ?_ (X4 (Xr still_V2i64 _) _)⟩;rfl)
    |(refine⟨_,rfl,rfl,Eq.trans ?_ (X4 (still_cons still_V2i64 _ _) _)⟩;rfl)
    |(refine⟨_,rfl,rfl,Eq.trans ?_ (X4 (Xr Xb7 _) _)⟩;rfl)
    |(refine⟨_,rfl,rfl,Eq.trans ?_ (X4 (still_cons Xb7 _ _) _)⟩;rfl)
    |(refine⟨_,rfl,rfl,Eq.trans ?_ (X4 (Xr X5n _) _)⟩;rfl)
    |(refine⟨_,rfl,rfl,Eq.trans ?_ (X4 (still_cons X5n _ _) _)⟩;rfl)
    |(refine⟨_,rfl,rfl,Eq.trans ?_ (X4 (Xr X9k _) _)⟩;rfl)
    |(refine⟨_,rfl,rfl,Eq.trans ?_ (X4 (still_cons X9k _ _) _)⟩;rfl)
    |(refine⟨_,rfl,rfl,Eq.trans ?_ (X4 (Xr X7x _) _)⟩;rfl)
    |(refine⟨_,rfl,rfl,Eq.trans ?_ (X4 (still_cons X7x _ _) _)⟩;rfl)
    |(refine⟨_,rfl,rfl,Eq.trans ?_ (X4 (Xr still_V2GAccum _) _)⟩;rfl)
    |(refine⟨_,rfl,rfl,Eq.trans ?_ (X4 (still_cons still_V2GAccum _ _) _)⟩;rfl)
    |(refine⟨_,rfl,rfl,Eq.trans ?_ (X4 (Xr X7w _) _)⟩;rfl)
    |(refine⟨_,rfl,rfl,Eq.trans ?_ (X4 (still_cons X7w _ _) _)⟩;rfl)
    |(refine⟨_,rfl,rfl,Eq.trans ?_ (X4 (Xr X7v _) _)⟩;rfl)
    |(refine⟨_,rfl,rfl,Eq.trans ?_ (X4 (still_cons X7v _ _) _)⟩;rfl)):P:=h
theorem wkR1 {P:Prop} (h:P:=by
  first
    |(refine⟨_,rfl,rfl,Eq.trans ?_ (X4 (Xr (X3e true) _) _)⟩;rfl)
    |(refine⟨_,rfl,rfl,Eq.trans ?_ (X4 (still_cons (X3e true) _ _) _)⟩;rfl)
    |(refine⟨_,rfl,rfl,Eq.trans ?_ (X4 (Xr (X3e false) _) _)⟩;rfl)
    |(refine⟨_,rfl,rfl,Eq.trans ?_ (X4 (still_cons (X3e false) _ _) _)⟩;rfl)
    |(refine⟨_,rfl,rfl,Eq.trans ?_ (X4 (Xr (X2p true) _) _)⟩;rfl)
    |(refine⟨_,rfl,rfl,Eq.trans ?_ (X4 (still_cons (X2p true) _ _) _)⟩;rfl)
    |(refine⟨_,rfl,rfl,Eq.trans ?_ (X4 (Xr (X2p false) _) _)⟩;rfl)
    |(refine⟨_,rfl,rfl,Eq.trans ?_ (X4 (still_cons (X2p false) _ _) _)⟩;rfl)
    |(refine⟨_,rfl,rfl,Eq.trans ?_ (X4 (Xr (X1u true) _) _)⟩;rfl)
    |(refine⟨_,rfl,rfl,Eq.trans ?_ (X4 (still_cons (X1u true) _ _) _)⟩;rfl)
    |(refine⟨_,rfl,rfl,Eq.trans ?_ (X4 (Xr (X1u false) _) _)⟩;rfl)
    |(refine⟨_,rfl,rfl,Eq.trans ?_ (X4 (still_cons (X1u false) _ _) _)⟩;rfl)
    |(refine⟨_,rfl,rfl,Eq.trans ?_ (X4 (Xr X3m _) _)⟩;rfl)
    |(refine⟨_,rfl,rfl,Eq.trans ?_ (X4 (still_cons X3m _ _) _)⟩;rfl)
    |(refine⟨_,rfl,rfl,Eq.trans ?_ (X4 (Xr still_V2b _) _)⟩;rfl)
    |(refine⟨_,rfl,rfl,Eq.trans ?_ (X4 (still_cons still_V2b _ _) _)⟩;rfl)
    |(refine⟨_,rfl,rfl,Eq.trans ?_ (X4 (Xr (λ_=>Xgr) _) _)⟩;rfl)
    |(refine⟨_,rfl,rfl,Eq.trans ?_ (X4 (still_cons (λ_=>Xgr) _ _) _)⟩;rfl)
    |(refine⟨_,rfl,rfl,Eq.trans ?_ (X4 (Xr (λ_=>still_encl) _) _)⟩;rfl)
    |(refine⟨_,rfl,rfl,Eq.trans ?_ (X4 (still_cons (λ_=>still_encl) _ _) _)⟩;rfl)
    |(refine⟨_,rfl,rfl,Eq.trans ?_ (X4 (Xr X9l _) _)⟩;first|(simp;done)|(simp;rfl)|(exact Eq.symm (Eq.trans List.map_append rfl))|(rw[List.map_append];rfl)|(rw[List.map_set];rfl)|(simp[*];done)|(rw[List.map_replicate];rfl))
    |(refine⟨_,rfl,rfl,Eq.trans ?_ (X4 (still_cons X9l _ _) _)⟩;first|(simp;done)|(simp;rfl)|(simp[*];done))
    |(refine⟨_,rfl,rfl,Eq.trans ?_ (X4 (Xr X6g _) _)⟩;first|(simp;done)|(simp;rfl)|(exact Eq.symm (Eq.trans List.map_append rfl))|(rw[List.map_append];rfl)|(rw[List.map_set];rfl)|(simp[*];done)|(rw[List.map_replicate];rfl))
    |(refine⟨_,rfl,rfl,Eq.trans ?_ (X4 (still_cons X6g _ _) _)⟩;first|(simp;done)|(simp;rfl)|(simp[*];done))
    |(refine⟨_,rfl,rfl,Eq.trans ?_ (X4 (Xr (X2q true) _) _)⟩;first|(simp;done)|(simp;rfl)|(exact Eq.symm (Eq.trans List.map_append rfl))|(rw[List.map_append];rfl)|(rw[List.map_set];rfl)|(simp[*];done)|(rw[List.map_replicate];rfl))
    |(refine⟨_,rfl,rfl,Eq.trans ?_ (X4 (still_cons (X2q true) _ _) _)⟩;first|(simp;done)|(simp;rfl)|(simp[*];done))
    |(refine⟨_,rfl,rfl,Eq.trans ?_ (X4 (Xr (X2q false) _) _)⟩;first|(simp;done)|(simp;rfl)|(exact Eq.symm (Eq.trans List.map_append rfl))|(rw[List.map_append];rfl)|(rw[List.map_set];rfl)|(simp[*];done)|(rw[List.map_replicate];rfl))
    |(refine⟨_,rfl,rfl,Eq.trans ?_ (X4 (still_cons (X2q false) _ _) _)⟩;first|(simp;done)|(simp;rfl)|(simp[*];done))
    |(refine⟨_,rfl,rfl,Eq.trans ?_ (X4 (Xr Xdc _) _)⟩;first|(simp;done)|(simp;rfl)|(exact Eq.symm (Eq.trans List.map_append rfl))|(rw[List.map_append];rfl)|(rw[List.map_set];rfl)|(simp[*];done)|(rw[List.map_replicate];rfl))
    |(refine⟨_,rfl,rfl,Eq.trans ?_ (X4 (still_cons Xdc _ _) _)⟩;first|(simp;done)|(simp;rfl)|(simp[*];done))
    |(refine⟨_,rfl,rfl,Eq.trans ?_ (X4 (Xr X5o _) _)⟩;first|(simp;done)|(simp;rfl)|(exact Eq.symm (Eq.trans List.map_append rfl))|(rw[List.map_append];rfl)|(rw[List.map_set];rfl)|(simp[*];done)|(rw[List.map_replicate];rfl))
    |(refine⟨_,rfl,rfl,Eq.trans ?_ (X4 (still_cons X5o _ _) _)⟩;first|(simp;done)|(simp;rfl)|(simp[*];done))
    |(refine⟨_,rfl,rfl,Eq.trans ?_ (X4 (Xr (X2r true) _) _)⟩;first|(simp;done)|(simp;rfl)|(exact Eq.symm (Eq.trans List.map_append rfl))|(rw[List.map_append];rfl)|(rw[List.map_set];rfl)|(simp[*];done)|(rw[List.map_replicate];rfl))
    |(refine⟨_,rfl,rfl,Eq.trans ?_ (X4 (still_cons (X2r true) _ _) _)⟩;first|(simp;done)|(simp;rfl)|(simp[*];done))
    |(refine⟨_,rfl,rfl,Eq.trans ?_ (X4 (Xr (X2r false) _) _)⟩;first|(simp;done)|(simp;rfl)|(exact Eq.symm (Eq.trans List.map_append rfl))|(rw[List.map_append];rfl)|(rw[List.map_set];rfl)|(simp[*];done)|(rw[List.map_replicate];rfl))
    |(refine⟨_,rfl,rfl,Eq.trans ?_ (X4 (still_cons (X2r false) _ _) _)⟩;first|(simp;done)|(simp;rfl)|(simp[*];done))
    |(refine⟨_,rfl,rfl,Eq.trans ?_ (X4 (Xr X6h _) _)⟩;first|(simp;done)|(simp;rfl)|(exact Eq.symm (Eq.trans List.map_append rfl))|(rw[List.map_append];rfl)|(rw[List.map_set];rfl)|(simp[*];done)|(rw[List.map_replicate];rfl))
    |(refine⟨_,rfl,rfl,Eq.trans ?_ (X4 (still_cons X6h _ _) _)⟩;first|(simp;done)|(simp;rfl)|(simp[*];done))
    |(refine⟨_,rfl,rfl,Eq.trans ?_ (X4 (Xr still_GSpan _) _)⟩;first|(simp;done)|(simp;rfl)|(exact Eq.symm (Eq.trans List.map_append rfl))|(rw[List.map_append];rfl)|(rw[List.map_set];rfl)|(simp[*];done)|(rw[List.map_replicate];rfl))
    |(refine⟨_,rfl,rfl,Eq.trans ?_ (X4 (still_cons still_GSpan _ _) _)⟩;first|(simp;done)|(simp;rfl)|(simp[*];done))
    |(refine⟨_,rfl,rfl,Eq.trans ?_ (X4 (Xr still_V2i64 _) _)⟩;first|(simp;done)|(simp;rfl)|(exact Eq.symm (Eq.trans List.map_append rfl))|(rw[List.map_append];rfl)|(rw[List.map_set];rfl)|(simp[*];done)|(rw[List.map_replicate];rfl))
    |(refine⟨_,rfl,rfl,Eq.trans ?_ (X4 (still_cons still_V2i64 _ _) _)⟩;first|(simp;done)|(simp;rfl)|(simp[*];done))
    |(refine⟨_,rfl,rfl,Eq.trans ?_ (X4 (Xr Xb7 _) _)⟩;first|(simp;done)|(simp;rfl)|(exact Eq.symm (Eq.trans List.map_append rfl))|(rw[List.map_append];rfl)|(rw[List.map_set];rfl)|(simp[*];done)|(rw[List.map_replicate];rfl))
    |(refine⟨_,rfl,rfl,Eq.trans ?_ (X4 (still_cons Xb7 _ _) _)⟩;first|(simp;done)|(simp;rfl)|(simp[*];done))
    |(refine⟨_,rfl,rfl,Eq.trans ?_ (X4 (Xr X5n _) _)⟩;first|(simp;done)|(simp;rfl)|(exact Eq.symm (Eq.trans List.map_append rfl))|(rw[List.map_append];rfl)|(rw[List.map_set];rfl)|(simp[*];done)|(rw[List.map_replicate];rfl))
    |(refine⟨_,rfl,rfl,Eq.trans ?_ (X4 (still_cons X5n _ _) _)⟩;first|(simp;done)|(simp;rfl)|(simp[*];done))
    |(refine⟨_,rfl,rfl,Eq.trans ?_ (X4 (Xr X9k _) _)⟩;first|(simp;done)|(simp;rfl)|(exact Eq.symm (Eq.trans List.map_append rfl))|(rw[List.map_append];rfl)|(rw[List.map_set];rfl)|(simp[*];done)|(rw[List.map_replicate];rfl))
    |(refine⟨_,rfl,rfl,Eq.trans ?_ (X4 (still_cons X9k _ _) _)⟩;first|(simp;done)|(simp;rfl)|(simp[*];done))
    |(refine⟨_,rfl,rfl,Eq.trans ?_ (X4 (Xr X7x _) _)⟩;first|(simp;done)|(simp;rfl)|(exact Eq.symm (Eq.trans List.map_append rfl))|(rw[List.map_append];rfl)|(rw[List.map_set];rfl)|(simp[*];done)|(rw[List.map_replicate];rfl))
    |(refine⟨_,rfl,rfl,Eq.trans ?_ (X4 (still_cons X7x _ _) _)⟩;first|(simp;done)|(simp;rfl)|(simp[*];done))
    |(refine⟨_,rfl,rfl,Eq.trans ?_ (X4 (Xr still_V2GAccum _) _)⟩;first|(simp;done)|(simp;rfl)|(exact Eq.symm (Eq.trans List.map_append rfl))|(rw[List.map_append];rfl)|(rw[List.map_set];rfl)|(simp[*];done)|(rw[List.map_replicate];rfl))
    |(refine⟨_,rfl,rfl,Eq.trans ?_ (X4 (still_cons still_V2GAccum _ _) _)⟩;first|(simp;done)|(simp;rfl)|(simp[*];done))
    |(refine⟨_,rfl,rfl,Eq.trans ?_ (X4 (Xr X7w _) _)⟩;first|(simp;done)|(simp;rfl)|(exact Eq.symm (Eq.trans List.map_append rfl))|(rw[List.map_append];rfl)|(rw[List.map_set];rfl)|(simp[*];done)|(rw[List.map_replicate];rfl))
    |(refine⟨_,rfl,rfl,Eq.trans ?_ (X4 (still_cons X7w _ _) _)⟩;first|(simp;done)|(simp;rfl)|(simp[*];done))
    |(refine⟨_,rfl,rfl,Eq.trans ?_ (X4 (Xr X7v _) _)⟩;first|(simp;done)|(simp;rfl)|(exact Eq.symm (Eq.trans List.map_append rfl))|(rw[List.map_append];rfl)|(rw[List.map_set];rfl)|(simp[*];done)|(rw[List.map_replicate];rfl))
    |(refine⟨_,rfl,rfl,Eq.trans ?_ (X4 (still_cons X7v _ _) _)⟩;first|(simp;done)|(simp;rfl)|(simp[*];done))
    |(refine⟨_,rfl,rfl,Eq.trans ?_ (X4 (Xr (X3e true) _) _)⟩;first|(simp;done)|(simp;rfl)|(exact Eq.symm (Eq.trans List.map_append rfl))|(rw[List.map_append];rfl)|(rw[List.map_set];rfl)|(simp[*];done)|(rw[List.map_replicate];rfl))
    |(refine⟨_,rfl,rfl,Eq.trans ?_ (X4 (still_cons (X3e true) _ _) _)⟩;first|(simp;done)|(simp;rfl)|(simp[*];done))
    |(refine⟨_,rfl,rfl,Eq.trans ?_ (X4 (Xr (X3e false) _) _)⟩;first|(simp;done)|(simp;rfl)|(exact Eq.symm (Eq.trans List.map_append rfl))|(rw[List.map_append];rfl)|(rw[List.map_set];rfl)|(simp[*];done)|(rw[List.map_replicate];rfl))
    |(refine⟨_,rfl,rfl,Eq.trans ?_ (X4 (still_cons (X3e false) _ _) _)⟩;first|(simp;done)|(simp;rfl)|(simp[*];done))
    |(refine⟨_,rfl,rfl,Eq.trans ?_ (X4 (Xr (X2p true) _) _)⟩;first|(simp;done)|(simp;rfl)|(exact Eq.symm (Eq.trans List.map_append rfl))|(rw[List.map_append];rfl)|(rw[List.map_set];rfl)|(simp[*];done)|(rw[List.map_replicate];rfl))
    |(refine⟨_,rfl,rfl,Eq.trans ?_ (X4 (still_cons (X2p true) _ _) _)⟩;first|(simp;done)|(simp;rfl)|(simp[*];done))
    |(refine⟨_,rfl,rfl,Eq.trans ?_ (X4 (Xr (X2p false) _) _)⟩;first|(simp;done)|(simp;rfl)|(exact Eq.symm (Eq.trans List.map_append rfl))|(rw[List.map_append];rfl)|(rw[List.map_set];rfl)|(simp[*];done)|(rw[List.map_replicate];rfl))
    |(refine⟨_,rfl,rfl,Eq.trans ?_ (X4 (still_cons (X2p false) _ _) _)⟩;first|(simp;done)|(simp;rfl)|(simp[*];done))
    |(refine⟨_,rfl,rfl,Eq.trans ?_ (X4 (Xr (X1u true) _) _)⟩;first|(simp;done)|(simp;rfl)|(exact Eq.symm (Eq.trans List.map_append rfl))|(rw[List.map_append];rfl)|(rw[List.map_set];rfl)|(simp[*];done)|(rw[List.map_replicate];rfl))
    |(refine⟨_,rfl,rfl,Eq.trans ?_ (X4 (still_cons (X1u true) _ _) _)⟩;first|(simp;done)|(simp;rfl)|(simp[*];done))
    |(refine⟨_,rfl,rfl,Eq.trans ?_ (X4 (Xr (X1u false) _) _)⟩;first|(simp;done)|(simp;rfl)|(exact Eq.symm (Eq.trans List.map_append rfl))|(rw[List.map_append];rfl)|(rw[List.map_set];rfl)|(simp[*];done)|(rw[List.map_replicate];rfl))
    |(refine⟨_,rfl,rfl,Eq.trans ?_ (X4 (still_cons (X1u false) _ _) _)⟩;first|(simp;done)|(simp;rfl)|(simp[*];done))
    |(refine⟨_,rfl,rfl,Eq.trans ?_ (X4 (Xr X3m _) _)⟩;first|(simp;done)|(simp;rfl)|(exact Eq.symm (Eq.trans List.map_append rfl))|(rw[List.map_append];rfl)|(rw[List.map_set];rfl)|(simp[*];done)|(rw[List.map_replicate];rfl))
    |(refine⟨_,rfl,rfl,Eq.trans ?_ (X4 (still_cons X3m _ _) _)⟩;first|(simp;done)|(simp;rfl)|(simp[*];done))
    |(refine⟨_,rfl,rfl,Eq.trans ?_ (X4 (Xr still_V2b _) _)⟩;first|(simp;done)|(simp;rfl)|(exact Eq.symm (Eq.trans List.map_append rfl))|(rw[List.map_append];rfl)|(rw[List.map_set];rfl)|(simp[*];done)|(rw[List.map_replicate];rfl))
    |(refine⟨_,rfl,rfl,Eq.trans ?_ (X4 (still_cons still_V2b _ _) _)⟩;first|(simp;done)|(simp;rfl)|(simp[*];done))
    |(refine⟨_,rfl,rfl,Eq.trans ?_ (X4 (Xr (λ_=>Xgr) _) _)⟩;first|(simp;done)|(simp;rfl)|(exact Eq.symm (Eq.trans List.map_append rfl))|(rw[List.map_append];rfl)|(rw[List.map_set];rfl)|(simp[*];done)|(rw[List.map_replicate];rfl))
    |(refine⟨_,rfl,rfl,Eq.trans ?_ (X4 (still_cons (λ_=>Xgr) _ _) _)⟩;first|(simp;done)|(simp;rfl)|(simp[*];done))
    |(refine⟨_,rfl,rfl,Eq.trans ?_ (X4 (Xr (λ_=>still_encl) _) _)⟩;first|(simp;done)|(simp;rfl)|(exact Eq.symm (Eq.trans List.map_append rfl))|(rw[List.map_append];rfl)|(rw[List.map_set];rfl)|(simp[*];done)|(rw[List.map_replicate];rfl))
    |(refine⟨_,rfl,rfl,Eq.trans ?_ (X4 (still_cons (λ_=>still_encl) _ _) _)⟩;first|(simp;done)|(simp;rfl)|(simp[*];done))
    |(refine⟨_,rfl,rfl,Eq.trans ?_ (X4 (still_one (X9l _)) _)⟩;simp only[List.length_cons,List.length_map];rfl)
    |(refine⟨_,rfl,rfl,Eq.trans ?_ (X4 (still_one (X6g _)) _)⟩;simp only[List.length_cons,List.length_map];rfl)
    |(refine⟨_,rfl,rfl,Eq.trans ?_ (X4 (still_one ((X2q true) _)) _)⟩;simp only[List.length_cons,List.length_map];rfl)
    |(refine⟨_,rfl,rfl,Eq.trans ?_ (X4 (still_one ((X2q false) _)) _)⟩;simp only[List.length_cons,List.length_map];rfl)
    |(refine⟨_,rfl,rfl,Eq.trans ?_ (X4 (still_one (Xdc _)) _)⟩;simp only[List.length_cons,List.length_map];rfl)
    |(refine⟨_,rfl,rfl,Eq.trans ?_ (X4 (still_one (X5o _)) _)⟩;simp only[List.length_cons,List.length_map];rfl)
    |(refine⟨_,rfl,rfl,Eq.trans ?_ (X4 (still_one ((X2r true) _)) _)⟩;simp only[List.length_cons,List.length_map];rfl)
    |(refine⟨_,rfl,rfl,Eq.trans ?_ (X4 (still_one ((X2r false) _)) _)⟩;simp only[List.length_cons,List.length_map];rfl)
    |(refine⟨_,rfl,rfl,Eq.trans ?_ (X4 (still_one (X6h _)) _)⟩;simp only[List.length_cons,List.length_map];rfl)
    |(refine⟨_,rfl,rfl,Eq.trans ?_ (X4 (still_one (still_GSpan _)) _)⟩;simp only[List.length_cons,List.length_map];rfl)
    |(refine⟨_,rfl,rfl,Eq.trans ?_ (X4 (still_one (still_V2i64 _)) _)⟩;simp only[List.length_cons,List.length_map];rfl)
    |(refine⟨_,rfl,rfl,Eq.trans ?_ (X4 (still_one (Xb7 _)) _)⟩;simp only[List.length_cons,List.length_map];rfl)
    |(refine⟨_,rfl,rfl,Eq.trans ?_ (X4 (still_one (X5n _)) _)⟩;simp only[List.length_cons,List.length_map];rfl)
    |(refine⟨_,rfl,rfl,Eq.trans ?_ (X4 (still_one (X9k _)) _)⟩;simp only[List.length_cons,List.length_map];rfl)
    |(refine⟨_,rfl,rfl,Eq.trans ?_ (X4 (still_one (X7x _)) _)⟩;simp only[List.length_cons,List.length_map];rfl)
    |(refine⟨_,rfl,rfl,Eq.trans ?_ (X4 (still_one (still_V2GAccum _)) _)⟩;simp only[List.length_cons,List.length_map];rfl)
    |(refine⟨_,rfl,rfl,Eq.trans ?_ (X4 (still_one (X7w _)) _)⟩;simp only[List.length_cons,List.length_map];rfl)
    |(refine⟨_,rfl,rfl,Eq.trans ?_ (X4 (still_one (X7v _)) _)⟩;simp only[List.length_cons,List.length_map];rfl)
    |(refine⟨_,rfl,rfl,Eq.trans ?_ (X4 (still_one ((X3e true) _)) _)⟩;simp only[List.length_cons,List.length_map];rfl)
    |(refine⟨_,rfl,rfl,Eq.trans ?_ (X4 (still_one ((X3e false) _)) _)⟩;simp only[List.length_cons,List.length_map];rfl)
    |(refine⟨_,rfl,rfl,Eq.trans ?_ (X4 (still_one ((X2p true) _)) _)⟩;simp only[List.length_cons,List.length_map];rfl)
    |(refine⟨_,rfl,rfl,Eq.trans ?_ (X4 (still_one ((X2p false) _)) _)⟩;simp only[List.length_cons,List.length_map];rfl)
    |(refine⟨_,rfl,rfl,Eq.trans ?_ (X4 (still_one ((X1u true) _)) _)⟩;simp only[List.length_cons,List.length_map];rfl)
    |(refine⟨_,rfl,rfl,Eq.trans ?_ (X4 (still_one ((X1u false) _)) _)⟩;simp only[List.length_cons,List.length_map];rfl)
    |(refine⟨_,rfl,rfl,Eq.trans ?_ (X4 (still_one (X3m _)) _)⟩;simp only[List.length_cons,List.length_map];rfl)
    |(refine⟨_,rfl,rfl,Eq.trans ?_ (X4 (still_one (still_V2b _)) _)⟩;simp only[List.length_cons,List.length_map];rfl)
    |(refine⟨_,rfl,rfl,Eq.trans ?_ (X4 (still_one ((λ_=>Xgr) _)) _)⟩;simp only[List.length_cons,List.length_map];rfl)
    |(refine⟨_,rfl,rfl,Eq.trans ?_ (X4 (still_one ((λ_=>still_encl) _)) _)⟩;simp only[List.length_cons,List.length_map];rfl)):P:=h
theorem wkB {P:Prop} (h:P:=by
  first
    |exact trivial
    |rfl
    |decide
    |exact⟨_,rfl,rfl,rfl⟩
    |exact X09v rfl
    |(refine⟨_,rfl,rfl,ref1 ?_⟩;first|rfl|omega|(simp;done)|(simp;omega))
    |exact wkR0
    |exact wkR1
    |(intro e he a ha;rw[List.mem_singleton.1 he] at ha;rw[List.mem_singleton.1 ha];first|exact .sc|exact .list|exact .nils|exact .ref (by decide)|exact .ptr (by decide)|exact Xyg|exact .fn (Xs (.ptr (by decide)) X3k)|exact .fn (Xs (.ptr (by decide)) (Xs (.ptr (by decide)) X3k)))
    |(intro e he a ha;simp at he;subst he;simp[AV.cells] at ha;first|(subst ha;exact .sc)|(rcases ha with rfl|rfl|rfl|rfl|rfl<;>exact .sc))
    | (refine focO ?_ ?_; · first | exact okSl (by decide) | exact .ref (by decide) | exact .nils | exact .list
       · first|rfl|exact slE_cells)
    |(refine⟨_,rfl,rfl,focR (λ_=>still_encl) (by first|rfl|(simp;done)) ?_⟩;first|rfl|(refine focC rfl ?_;first|rfl|(simp;done)|(simp;omega))|(simp[slE,nbF,AV.ren,thL];done))
    |(refine⟨_,rfl,rfl,focR2 (λ_=>still_encl) (by first|rfl|(simp;done)) (by first|rfl|(simp;done)) ?_⟩;first|rfl|(refine focC rfl ?_;first|rfl|(simp;done)|(simp;omega))|(simp[slE,nbF,AV.ren,thL];done))
    |(refine⟨_,rfl,rfl,aggR ?_⟩;repeat' first|exact trivial|refine And.intro ?_ ?_|rfl|exact wkSl rfl|(refine refR rfl ?_;first|rfl|(simp;done)|(simp;omega)))
    |(refine okAgg ?_;repeat' first|exact X3k|refine Xs ?_ ?_|exact .sc|exact .list|exact .nils|exact .ref (by decide)|exact .ptr (by decide)|exact okSl (by decide)|exact okF|exact okG|exact Xyg)):P:=h
theorem rn {P:Program} {T:Ty} {nt n0:Nat} {μ:Mu} {Q:Xp->St->Mu->Prop} {cf cf':Cf} {K K':List Kn} {L L':List (Nat×AV)} {G G':List (Nat×Obj)} {n n':Nat} {hs':List X21} {ps':List Prop} (hT:Xf0 P T/\P.follows .mixedOrders=true) (hs:List X21) (h:Xdf P T nt 4000 cf K L G n hs []=some (cf',K',L',G',n',hs',ps')) (hp':X4v ps') (k:X0 P nt n0 Q cf' K' ⟨fr L',hp G',n'⟩ μ):X0 P nt n0 Q cf K ⟨fr L,hp G,n⟩ μ:=Xtp hT 4000 hs h hp' k
abbrev cc:=@Cvs.cons
abbrev cn:=@Cvs.nil
abbrev pn:=@Xa7.none
abbrev Bt:X21:=.br true
abbrev Bf:X21:=.br false
abbrev Ob (e:List AV) (n:Nat):Obj:={ es:=e,esz:=n }
abbrev Lf:=AV.list false
abbrev Lt:=AV.list true
abbrev Gt:X21:=.go true
abbrev Gf:X21:=.go false
theorem Zn {α:Type} {m:Bool} {H:X0c} (f:α->AV):Cv m H .nils (.list m (List.map f ([]:List α))):=.nils
theorem wkT {P : Program} {nt n0 : Nat} {Q : Xp -> St -> Mu -> Prop} {cf : Cf} {K : List Kn} {μ : Mu} {L L' : List (Nat × AV)} {G G' : List (Nat × Obj)} {n n' : Nat} (θ : List (Nat × Nat)) (h : X0 P nt n0 Q cf K ⟨fr L', hp G', n'⟩ μ)
    (hb:(fixB θ n0&&injB θ (G'.map (·.1))&&Nat.ble n0 n')=true:=by rfl) (hL:wkL L θ n' L':=by repeat' first|refine And.intro ?_ ?_|exact wkA) (hG:wkG G θ n' G':=by repeat' first|refine And.intro ?_ ?_|exact wkB):X0 P nt n0 Q cf K ⟨fr L,hp G,n⟩ μ:=X0.weakTo θ h hb hL hG
end Go.Av
namespace Go.D
open Go.Av
def X94 (x y:X02):Bool:=((x.Kind==y.Kind)&&((x.N==y.N)&&((x.A==y.A)&&((x.B==y.B)&&((x.At==y.At)&&true)))))
def X6u (x y:GOp):Bool:=((x.Kind==y.Kind)&&((x.N==y.N)&&true))
def X20 (x y:X07):Bool:=((x.Key==y.Key)&&((x.Time==y.Time)&&((x.Value==y.Value)&&true)))
def Xdy (x y:X5w):Bool:=((x.Start==y.Start)&&((x.End==y.End)&&true))
def Xmm (x y:(V2 Int)):Bool:=((x.e0==y.e0)&&((x.e1==y.e1)&&true))
def Xi5 (x y:X9f):Bool:=((x.Key==y.Key)&&((Xdy x.Span y.Span)&&((Xmm x.Values y.Values)&&true)))
def X3y (x y:Xo):Bool:=((x.Kind==y.Kind)&&((X20 x.Record y.Record)&&((x.Time==y.Time)&&((Xi5 x.Row y.Row)&&true))))
def Xmn (x y:X3i):Bool:=((x.Out==y.Out)&&((X3y x.Message y.Message)&&true))
def Xa1 (x y:X4z):Bool:=((x.Count==y.Count)&&((x.Sum==y.Sum)&&((x.Min==y.Min)&&((x.Max==y.Max)&&true))))
def Xfu (x y:(V2 X4z)):Bool:=((Xa1 x.e0 y.e0)&&((Xa1 x.e1 y.e1)&&true))
def Xbe (x y:Xg):Bool:=((x.Key==y.Key)&&((Xdy x.Span y.Span)&&((Xfu x.Values y.Values)&&true)))
def Xjk (x y:X5m):Bool:=((x.Mark==y.Mark)&&((x.Time==y.Time)&&((X20 x.Record y.Record)&&true)))
def Xkt (x:X02):Prop:=wfI .u8 x.Kind/\wfI .i64 x.N/\wfI .i64 x.A/\wfI .i64 x.B/\wfI .i64 x.At
def Xnz (x:X5v):Prop:=wfI .u8 x.Kind/\wfI .i64 x.Size/\wfI .i64 x.Every
def Xle (x:X1t):Prop:=wfI .u8 x.Agg/\(List.length x.Arg<=maxLen/\∀ y∈x.Arg,Xkt y)/\(List.length x.Sources<=maxLen/\∀ y∈x.Sources,wfI .i64 y)/\True/\(List.length x.Where<=maxLen/\∀ y∈x.Where,Xkt y)/\Xnz x.Window/\True/\wfI .u8 x.Late
def Xte (x:GOp):Prop:=wfI .u8 x.Kind/\wfI .i64 x.N
def Xgq (x:Xk):Prop:=wfI .i64 x.From/\wfI .i64 x.Out/\wfI .i64 x.To/\wfI .i64 x.In/\wfI .i64 x.Room
def Xqd (x:Xt):Prop:=(List.length x.Ops<=maxLen/\∀ y∈x.Ops,Xte y)/\(List.length x.Channels<=maxLen/\∀ y∈x.Channels,Xgq y)
def Xd8 (x:X07):Prop:=wfI .i64 x.Key/\wfI .i64 x.Time/\wfI .i64 x.Value
def Xoy (x:X5w):Prop:=wfI .i64 x.Start/\wfI .i64 x.End
def Xtd (x:(V2 Int)):Prop:=wfI .i64 x.e0/\wfI .i64 x.e1
def Xp0 (x:X9f):Prop:=wfI .i64 x.Key/\Xoy x.Span/\Xtd x.Values
def Xe5 (x:Xo):Prop:=wfI .u8 x.Kind/\Xd8 x.Record/\wfI .i64 x.Time/\Xp0 x.Row
def Xoz (x:X3i):Prop:=wfI .i64 x.Out/\Xe5 x.Message
def Xli (x:X4z):Prop:=wfI .i64 x.Count/\wfI .i64 x.Sum/\wfI .i64 x.Min/\wfI .i64 x.Max
def Xlc (x:(V2 X4z)):Prop:=Xli x.e0/\Xli x.e1
def Xlh (x:Xg):Prop:=wfI .i64 x.Key/\Xoy x.Span/\Xlc x.Values
def Xlg (x:X5m):Prop:=True/\wfI .i64 x.Time/\Xd8 x.Record
def Xox (x:Xv):Prop:=Xte x.Op/\wfI .i64 x.Turn/\(List.length x.Pending<=maxLen/\∀ y∈x.Pending,Xoz y)/\(List.length x.Marks<=maxLen/\∀ y∈x.Marks,wfI .i64 y)/\(List.length x.Store<=maxLen/\∀ y∈x.Store,Xlh y)/\(List.length x.Events<=maxLen/\∀ y∈x.Events,Xlg y)/\(List.length x.Rows<=maxLen/\∀ y∈x.Rows,Xp0 y)/\(List.length x.Late<=maxLen/\∀ y∈x.Late,Xd8 y)
def Xld (x:X0e):Prop:=wfI .i64 x.Room/\(List.length x.List<=maxLen/\∀ y∈x.List,Xe5 y)
def Xlf (x:Xf):Prop:=Xle x.Query/\Xqd x.Graph/\(List.length x.Tasks<=maxLen/\∀ y∈x.Tasks,Xox y)/\(List.length x.Queues<=maxLen/\∀ y∈x.Queues,Xld y)
end Go.D
