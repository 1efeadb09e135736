/- Printed by decomp.py: the types of the Go program, as data; their encodings. -/
import Derived.Test.YtfdfgobnpnoomaaGreatAvc
set_option linter.all false

namespace Go.D
theorem Yo {α β:Type} {a:α} {f:α->Option β}:(some a).bind f=f a:=rfl
theorem Yf {p:Prop} [Decidable p] (h:¬ p):decide p=false:=decide_eq_false h
theorem Yt {p:Prop} [Decidable p] (h:p):decide p=true:=decide_eq_true h
theorem Ym {α β:Type} {f:α->β} {l:List α} {i:Nat}:List.map f (List.take i l)=List.take i (List.map f l):=List.map_take
theorem Yd {α β:Type} {f:α->β} {l:List α} {i:Nat}:List.map f (List.drop i l)=List.drop i (List.map f l):=List.map_drop
theorem Ya {a b:Prop} (x:a) (y:b):a/\b:=⟨x,y⟩
theorem Ye {α:Type} {l:List α} {i:Nat} (h:i<l.length):l[i]?=some l[i]:=List.getElem?_eq_getElem h
theorem Ys {α:Type} {l:List α} {i:Nat} {a:α}:l[i]?=some a↔∃ h:i<l.length,l[i]=a:=List.getElem?_eq_some_iff
theorem Yg {α:Type} {l:List α} {i:Nat} {a:α} (h:l[i]?=some a):a∈l:=List.mem_of_getElem? h
structure X0c where
  Kind:Int
  N:Int
  A:Int
  B:Int
  At:Int
  deriving DecidableEq,Inhabited
structure X0w where
  Kind:Int
  Size:Int
  Every:Int
  deriving DecidableEq,Inhabited
structure X03 where
  Agg:Int
  Arg:(List X0c)
  Sources:(List Int)
  Join:Bool
  Where:(List X0c)
  Window:X0w
  ByKey:Bool
  Late:Int
  deriving DecidableEq,Inhabited
structure Xm where
  Key:Int
  Time:Int
  Value:Int
  deriving DecidableEq,Inhabited
structure Xb where
  Mark:Bool
  Time:Int
  Record:Xm
  deriving DecidableEq,Inhabited
structure X13 where
  Start:Int
  End:Int
  deriving DecidableEq,Inhabited
structure X2u where
  Key:Int
  Span:X13
  Values:(V2 Int)
  deriving DecidableEq,Inhabited
structure Xq where
  at_:Int
  size:Int
  depth:Int
  deriving DecidableEq,Inhabited
structure X1k where
  Count:Int
  Sum:Int
  Min:Int
  Max:Int
  deriving DecidableEq,Inhabited
structure Xa where
  Key:Int
  Span:X13
  Values:(V2 X1k)
  deriving DecidableEq,Inhabited
end Go.D
namespace Go.Av
open Go.D
def X1 (x:X0c):AV:=.agg [(aI .u8 x.Kind),(aI .i64 x.N),(aI .i64 x.A),(aI .i64 x.B),(aI .i64 x.At)]
theorem Xdo (x:X0c):Xa6 (X1 x):=(X3k (X3k (X3k (X3k (X3k Xis)))))
theorem Xdn (x:X0c):Xca (X1 x):=X5b (Xdo x) rfl
instance X06o:Xde X1:=⟨Xdo,fun _=>rfl⟩
def X3n (x:X0w):AV:=.agg [(aI .u8 x.Kind),(aI .i64 x.Size),(aI .i64 x.Every)]
theorem Xgs (x:X0w):Xa6 (X3n x):=(X3k (X3k (X3k Xis)))
theorem Xah (x:X0w):Xca (X3n x):=X5b (Xgs x) rfl
instance X04x:Xde X3n:=⟨Xgs,fun _=>rfl⟩
def Xl (o:Bool) (x:X03):AV:=.agg [(aI .u8 x.Agg),(AV.list o (List.map X1 x.Arg)),(AV.list o (List.map (aI .i64) x.Sources)),(aB x.Join),(AV.list o (List.map X1 x.Where)),(aI .u8 x.Window.Kind),(aI .i64 x.Window.Size),(aI .i64 x.Window.Every),(aB x.ByKey),(aI .u8 x.Late)]
theorem X56 (o:Bool) (x:X03):Xca (Xl o x):=X00t (fun _=>(X27 .sc (X27 .list (X27 .list (X27 .sc (X27 .list (X27 .sc (X27 .sc (X27 .sc (X27 .sc (X27 .sc Xal)))))))))))
theorem Xuo {H:X0s} {o:Bool} {x:X03}:Cv false H (Xl o x) (Xl false x):=Xxw (Cvs.cons .sc (Cvs.cons (Xc7 (X04 Xdo _)) (Cvs.cons (Xc7 (X04 (fun _=>Xgu) _)) (Cvs.cons .sc (Cvs.cons (Xc7 (X04 Xdo _)) (Cvs.cons .sc (Cvs.cons .sc (Cvs.cons .sc (Cvs.cons .sc (Cvs.cons .sc Cvs.nil))))))))))
theorem Xun {H:X0s} {o:Bool} {x:X03}:Cv true H (Xl o x) (Xl o x):=Xxw (Cvs.cons .sc (Cvs.cons (.listS rfl) (Cvs.cons (.listS rfl) (Cvs.cons .sc (Cvs.cons (.listS rfl) (Cvs.cons .sc (Cvs.cons .sc (Cvs.cons .sc (Cvs.cons .sc (Cvs.cons .sc Cvs.nil))))))))))
instance X05l:X06e Xl:=⟨Xuo,Xun,fun _ _ _=>rfl,X56⟩
def X7 (x:Xm):AV:=.agg [(aI .i64 x.Key),(aI .i64 x.Time),(aI .i64 x.Value)]
theorem Xgt (x:Xm):Xa6 (X7 x):=(X3k (X3k (X3k Xis)))
theorem X1s (x:Xm):Xdd (X7 x):=fun _=>rfl
theorem Xai (x:Xm):Xca (X7 x):=X5b (Xgt x) rfl
instance X04y:Xde X7:=⟨Xgt,fun _=>rfl⟩
def X0 (x:Xb):AV:=.agg [(aB x.Mark),(aI .i64 x.Time),(aI .i64 x.Record.Key),(aI .i64 x.Record.Time),(aI .i64 x.Record.Value)]
theorem Xp (x:Xb):Xa6 (X0 x):=(X3k (X3k (X3k (X3k (X3k Xis)))))
theorem X28 (x:Xb):Xdd (X0 x):=fun _=>rfl
theorem Xc3 (x:Xb):Xca (X0 x):=X5b (Xp x) rfl
instance X064:Xde X0:=⟨Xp,fun _=>rfl⟩
def X0d (x:X13):AV:=.agg [(aI .i64 x.Start),(aI .i64 x.End)]
theorem Xkg (x:X13):Xa6 (X0d x):=(X3k (X3k Xis))
theorem X2l (x:X13):Xdd (X0d x):=fun _=>rfl
theorem Xdm (x:X13):Xca (X0d x):=X5b (Xkg x) rfl
instance X06n:Xde X0d:=⟨Xkg,fun _=>rfl⟩
def Xg (x:X2u):AV:=.agg [(aI .i64 x.Key),(aI .i64 x.Span.Start),(aI .i64 x.Span.End),(aI .i64 x.Values.e0),(aI .i64 x.Values.e1)]
theorem Xns (x:X2u):Xa6 (Xg x):=(X3k (X3k (X3k (X3k (X3k Xis)))))
theorem X3h (x:X2u):Xdd (Xg x):=fun _=>rfl
theorem Xf7 (x:X2u):Xca (Xg x):=X5b (Xns x) rfl
instance X08b:Xde Xg:=⟨Xns,fun _=>rfl⟩
def Xe (x:Xq):AV:=.agg [(aI .i64 x.at_),(aI .i64 x.size),(aI .i64 x.depth)]
theorem Xd7 (x:Xq):Xa6 (Xe x):=(X3k (X3k (X3k Xis)))
theorem X14 (x:Xq):Xdd (Xe x):=fun _=>rfl
theorem X7j (x:Xq):Xca (Xe x):=X5b (Xd7 x) rfl
instance X00x:Xde Xe:=⟨Xd7,fun _=>rfl⟩
def X93 (x:(V2 Bool)):AV:=.agg [(aB x.e0),(aB x.e1)]
theorem X00v (x:(V2 Bool)):Xa6 (X93 x):=(X3k (X3k Xis))
theorem Xhj (x:(V2 Bool)):Xca (X93 x):=X5b (X00v x) rfl
def X19 (x:X1k):AV:=.agg [(aI .i64 x.Count),(aI .i64 x.Sum),(aI .i64 x.Min),(aI .i64 x.Max)]
theorem Xir (x:X1k):Xa6 (X19 x):=(X3k (X3k (X3k (X3k Xis))))
theorem Xc5 (x:X1k):Xca (X19 x):=X5b (Xir x) rfl
instance X066:Xde X19:=⟨Xir,fun _=>rfl⟩
def X9 (x:Xa):AV:=.agg [(aI .i64 x.Key),(aI .i64 x.Span.Start),(aI .i64 x.Span.End),(aI .i64 x.Values.e0.Count),(aI .i64 x.Values.e0.Sum),(aI .i64 x.Values.e0.Min),(aI .i64 x.Values.e0.Max),(aI .i64 x.Values.e1.Count),(aI .i64 x.Values.e1.Sum),(aI .i64 x.Values.e1.Min),(aI .i64 x.Values.e1.Max)]
theorem X6x (x:Xa):Xa6 (X9 x):=(X3k (X3k (X3k (X3k (X3k (X3k (X3k (X3k (X3k (X3k (X3k Xis)))))))))))
theorem X29 (x:Xa):Xdd (X9 x):=fun _=>rfl
theorem Xc4 (x:Xa):Xca (X9 x):=X5b (X6x x) rfl
theorem X8f {m:Bool} {H:X0s} {x:Xa}:Cv m H (X9 x) (X9 x):=X04d (X6x x)
instance X065:Xde X9:=⟨X6x,fun _=>rfl⟩
def X9a (x:(V5 Int)):AV:=.agg [(aI .i64 x.e0),(aI .i64 x.e1),(aI .i64 x.e2),(aI .i64 x.e3),(aI .i64 x.e4)]
theorem Xuh (x:(V5 Int)):Xa6 (X9a x):=(X3k (X3k (X3k (X3k (X3k Xis)))))
theorem Xdl (x:(V5 Int)):Xca (X9a x):=X5b (Xuh x) rfl
theorem wkA {P:Prop} (h:P:=by
  first
    |exact trivial
    |rfl
    |exact .sc
    |exact .list
    |exact .nils
    |exact .ref (by decide)
    |exact .ptr (by decide)
    |exact X02t
    |(refine AV.Ok.tup ?_;repeat' first|exact Xal|refine X27 ?_ ?_|exact .sc|exact .nils|exact .list|exact .ref (by decide)|exact .ptr (by decide))
    |(refine congrArg AV.tup ?_;repeat' first|rfl|(refine congrArg (fun z=>AV.ref _ 0 z) ?_;first|rfl|omega|(simp;done)|(simp;omega))|(show AV.ref _ 0 _=AV.ref _ 0 _;congr 1;first|omega|(simp;done))|(refine congrArg (fun z=>AV.sc (Value.int IntKind.i64 z)) ?_;first|rfl|omega|assumption|(simp;done))|refine congr (congrArg List.cons ?_) ?_|(show(_::_:List AV)=_::_;refine congr (congrArg List.cons ?_) ?_))
    |exact .fn (X27 (.ptr (by decide)) Xal)
    |exact .fn (X27 (.ptr (by decide)) (X27 (.ptr (by decide)) Xal))
    |exact .fn (X27 (.ptr (by decide)) (X27 (.ptr (by decide)) (X27 (.ptr (by decide)) Xal)))
    |assumption
    |exact(Xdn _ _).1
    |exact(Xah _ _).1
    |exact(X56 true _ _).1
    |exact(X56 false _ _).1
    |exact(Xai _ _).1
    |exact(Xc3 _ _).1
    |exact(Xdm _ _).1
    |exact(free_V2i64 _ _).1
    |exact(Xf7 _ _).1
    |exact(X7j _ _).1
    |exact(Xhj _ _).1
    |exact(Xc5 _ _).1
    |exact(free_V2GAccum _ _).1
    |exact(Xc4 _ _).1
    |exact(Xdl _ _).1
    |exact(free_Gref21_Put _ _).1
    |(refine congrArg (fun z=>AV.sc (Value.int IntKind.i64 z)) ?_;first|rfl|omega|assumption|(simp;done)|(simp;omega))
    |(refine congrArg (fun z=>AV.sc (Value.bool z)) ?_;first|rfl|assumption|(simp;done))
    |(refine congrArg (fun z=>AV.ref _ 0 z) ?_;first|rfl|omega|(simp;done)|(simp;omega))
    |(show AV.ref _ 0 _=AV.ref _ 0 _;congr 1;(simp;done))
    |(simp[slE,opE,nbF,nbT,nbS,AV.ren,List.map_take,List.map_drop];done)
    |(simp[slE,opE,nbF,nbT,nbS,AV.ren,List.map_take,List.map_drop, *];done)
    |(simp[AV.ren, *];done)):P:=h
theorem wkR0 {P:Prop} (h:P:=by
  first
    |exact X3t Xdn _ _
    |exact X3s (Xdn _) _
    |exact free_cons Xdn _ _ _
    |exact X3t Xah _ _
    |exact X3s (Xah _) _
    |exact free_cons Xah _ _ _
    |exact X3t (X56 true) _ _
    |exact X3s ((X56 true) _) _
    |exact free_cons (X56 true) _ _ _
    |exact X3t (X56 false) _ _
    |exact X3s ((X56 false) _) _
    |exact free_cons (X56 false) _ _ _
    |exact X3t Xai _ _
    |exact X3s (Xai _) _
    |exact free_cons Xai _ _ _
    |exact X3t Xc3 _ _
    |exact X3s (Xc3 _) _
    |exact free_cons Xc3 _ _ _
    |exact X3t Xdm _ _
    |exact X3s (Xdm _) _
    |exact free_cons Xdm _ _ _
    |exact X3t free_V2i64 _ _
    |exact X3s (free_V2i64 _) _
    |exact free_cons free_V2i64 _ _ _
    |exact X3t Xf7 _ _
    |exact X3s (Xf7 _) _
    |exact free_cons Xf7 _ _ _
    |exact X3t X7j _ _
    |exact X3s (X7j _) _
    |exact free_cons X7j _ _ _
    |exact X3t Xhj _ _
    |exact X3s (Xhj _) _
    |exact free_cons Xhj _ _ _
    |exact X3t Xc5 _ _
    |exact X3s (Xc5 _) _
    |exact free_cons Xc5 _ _ _
    |exact X3t free_V2GAccum _ _
    |exact X3s (free_V2GAccum _) _
    |exact free_cons free_V2GAccum _ _ _
    |exact X3t Xc4 _ _
    |exact X3s (Xc4 _) _
    |exact free_cons Xc4 _ _ _
    |exact X3t Xdl _ _
    |exact X3s (Xdl _) _
    |exact free_cons Xdl _ _ _
    |exact X3t free_Gref21_Put _ _
    |exact X3s (free_Gref21_Put _) _
    |exact free_cons free_Gref21_Put _ _ _
    |exact X3t (fun _=>Xxf) _ _
    |exact X3s ((fun _=>Xxf) _) _
    |exact free_cons (fun _=>Xxf) _ _ _
    |exact X3t (fun _=>Xip) _ _
    |exact X3s ((fun _=>Xip) _) _
    |exact free_cons (fun _=>Xip) _ _ _
    |(refine⟨_,rfl,rfl,Eq.trans ?_ (X4 (Xd still_GNode _) _)⟩;rfl)
    |(refine⟨_,rfl,rfl,Eq.trans ?_ (X4 (still_cons still_GNode _ _) _)⟩;rfl)
    |(refine⟨_,rfl,rfl,Eq.trans ?_ (X4 (Xd still_GNode _) _)⟩;(simp;done))
    |(refine⟨_,rfl,rfl,Eq.trans ?_ (X4 (still_cons still_GNode _ _) _)⟩;(simp;done))
    |(refine⟨_,rfl,rfl,Eq.trans ?_ (X4 (Xd still_GNode _) _)⟩;(simp;rfl))
    |(refine⟨_,rfl,rfl,Eq.trans ?_ (X4 (still_cons still_GNode _ _) _)⟩;(simp;rfl))
    |(refine⟨_,rfl,rfl,Eq.trans ?_ (X4 (Xd still_GNode _) _)⟩;(exact Eq.symm (Eq.trans List.map_append rfl)))
    |(refine⟨_,rfl,rfl,Eq.trans ?_ (X4 (Xd still_GNode _) _)⟩;(rw[List.map_append];rfl))
    |(refine⟨_,rfl,rfl,Eq.trans ?_ (X4 (Xd still_GNode _) _)⟩;(rw[List.map_set];rfl))
    |(refine⟨_,rfl,rfl,Eq.trans ?_ (X4 (Xd still_GNode _) _)⟩;(simp[*];done))
    |(refine⟨_,rfl,rfl,Eq.trans ?_ (X4 (still_cons still_GNode _ _) _)⟩;(simp[*];done))
    |(refine⟨_,rfl,rfl,Eq.trans ?_ (X4 (Xd still_GNode _) _)⟩;(rw[List.map_replicate];rfl))
    |(refine⟨_,rfl,rfl,Eq.trans ?_ (X4 (Xd still_GWindow _) _)⟩;rfl)
    |(refine⟨_,rfl,rfl,Eq.trans ?_ (X4 (still_cons still_GWindow _ _) _)⟩;rfl)
    |(refine⟨_,rfl,rfl,Eq.trans ?_ (X4 (Xd still_GWindow _) _)⟩;(simp;done))
    |(refine⟨_,rfl,rfl,Eq.trans ?_ (X4 (still_cons still_GWindow _ _) _)⟩;(simp;done))
    |(refine⟨_,rfl,rfl,Eq.trans ?_ (X4 (Xd still_GWindow _) _)⟩;(simp;rfl))
    |(refine⟨_,rfl,rfl,Eq.trans ?_ (X4 (still_cons still_GWindow _ _) _)⟩;(simp;rfl))
    |(refine⟨_,rfl,rfl,Eq.trans ?_ (X4 (Xd still_GWindow _) _)⟩;(exact Eq.symm (Eq.trans List.map_append rfl)))
    |(refine⟨_,rfl,rfl,Eq.trans ?_ (X4 (Xd still_GWindow _) _)⟩;(rw[List.map_append];rfl))
    |(refine⟨_,rfl,rfl,Eq.trans ?_ (X4 (Xd still_GWindow _) _)⟩;(rw[List.map_set];rfl))
    |(refine⟨_,rfl,rfl,Eq.trans ?_ (X4 (Xd still_GWindow _) _)⟩;(simp[*];done))
    |(refine⟨_,rfl,rfl,Eq.trans ?_ (X4 (still_cons still_GWindow _ _) _)⟩;(simp[*];done))
    |(refine⟨_,rfl,rfl,Eq.trans ?_ (X4 (Xd still_GWindow _) _)⟩;(rw[List.map_replicate];rfl))
    |(refine⟨_,rfl,rfl,Eq.trans ?_ (X4 (Xd (still_GQuery true) _) _)⟩;rfl)
    |(refine⟨_,rfl,rfl,Eq.trans ?_ (X4 (still_cons (still_GQuery true) _ _) _)⟩;rfl)
    |(refine⟨_,rfl,rfl,Eq.trans ?_ (X4 (Xd (still_GQuery true) _) _)⟩;(simp;done))
    |(refine⟨_,rfl,rfl,Eq.trans ?_ (X4 (still_cons (still_GQuery true) _ _) _)⟩;(simp;done))
    |(refine⟨_,rfl,rfl,Eq.trans ?_ (X4 (Xd (still_GQuery true) _) _)⟩;(simp;rfl))
    |(refine⟨_,rfl,rfl,Eq.trans ?_ (X4 (still_cons (still_GQuery true) _ _) _)⟩;(simp;rfl))
    |(refine⟨_,rfl,rfl,Eq.trans ?_ (X4 (Xd (still_GQuery true) _) _)⟩;(exact Eq.symm (Eq.trans List.map_append rfl)))
    |(refine⟨_,rfl,rfl,Eq.trans ?_ (X4 (Xd (still_GQuery true) _) _)⟩;(rw[List.map_append];rfl))
    |(refine⟨_,rfl,rfl,Eq.trans ?_ (X4 (Xd (still_GQuery true) _) _)⟩;(rw[List.map_set];rfl))
    |(refine⟨_,rfl,rfl,Eq.trans ?_ (X4 (Xd (still_GQuery true) _) _)⟩;(simp[*];done))
    |(refine⟨_,rfl,rfl,Eq.trans ?_ (X4 (still_cons (still_GQuery true) _ _) _)⟩;(simp[*];done))
    |(refine⟨_,rfl,rfl,Eq.trans ?_ (X4 (Xd (still_GQuery true) _) _)⟩;(rw[List.map_replicate];rfl))
    |(refine⟨_,rfl,rfl,Eq.trans ?_ (X4 (Xd (still_GQuery false) _) _)⟩;rfl)
    |(refine⟨_,rfl,rfl,Eq.trans ?_ (X4 (still_cons (still_GQuery false) _ _) _)⟩;rfl)
    |(refine⟨_,rfl,rfl,Eq.trans ?_ (X4 (Xd (still_GQuery false) _) _)⟩;(simp;done))
    |(refine⟨_,rfl,rfl,Eq.trans ?_ (X4 (still_cons (still_GQuery false) _ _) _)⟩;(simp;done))
    |(refine⟨_,rfl,rfl,Eq.trans ?_ (X4 (Xd (still_GQuery false) _) _)⟩;(simp;rfl))
    |(refine⟨_,rfl,rfl,Eq.trans ?_ (X4 (still_cons (still_GQuery false) _ _) _)⟩;(simp;rfl))
    |(refine⟨_,rfl,rfl,Eq.trans ?_ (X4 (Xd (still_GQuery false) _) _)⟩;(exact Eq.symm (Eq.trans List.map_append rfl)))
    |(refine⟨_,rfl,rfl,Eq.trans ?_ (X4 (Xd (still_GQuery false) _) _)⟩;(rw[List.map_append];rfl))
    |(refine⟨_,rfl,rfl,Eq.trans ?_ (X4 (Xd (still_GQuery false) _) _)⟩;(rw[List.map_set];rfl))
    |(refine⟨_,rfl,rfl,Eq.trans ?_ (X4 (Xd (still_GQuery false) _) _)⟩;(simp[*];done))
    |(refine⟨_,rfl,rfl,Eq.trans ?_ (X4 (still_cons (still_GQuery false) _ _) _)⟩;(simp[*];done))
    |(refine⟨_,rfl,rfl,Eq.trans ?_ (X4 (Xd (still_GQuery false) _) _)⟩;(rw[List.map_replicate];rfl))
    |(refine⟨_,rfl,rfl,Eq.trans ?_ (X4 (Xd X1s _) _)⟩;rfl)
    |(refine⟨_,rfl,rfl,Eq.trans ?_ (X4 (still_cons X1s _ _) _)⟩;rfl)
    |(refine⟨_,rfl,rfl,Eq.trans ?_ (X4 (Xd X1s _) _)⟩;(simp;done))
    |(refine⟨_,rfl,rfl,Eq.trans ?_ (X4 (still_cons X1s _ _) _)⟩;(simp;done))
    |(refine⟨_,rfl,rfl,Eq.trans ?_ (X4 (Xd X1s _) _)⟩;(simp;rfl))
    |(refine⟨_,rfl,rfl,Eq.trans ?_ (X4 (still_cons X1s _ _) _)⟩;(simp;rfl))
    |(refine⟨_,rfl,rfl,Eq.trans ?_ (X4 (Xd X1s _) _)⟩;(exact Eq.symm (Eq.trans List.map_append rfl)))
    |(refine⟨_,rfl,rfl,Eq.trans ?_ (X4 (Xd X1s _) _)⟩;(rw[List.map_append];rfl))
    |(refine⟨_,rfl,rfl,Eq.trans ?_ (X4 (Xd X1s _) _)⟩;(rw[List.map_set];rfl))
    |(refine⟨_,rfl,rfl,Eq.trans ?_ (X4 (Xd X1s _) _)⟩;(simp[*];done))
    |(refine⟨_,rfl,rfl,Eq.trans ?_ (X4 (still_cons X1s _ _) _)⟩;(simp[*];done))
    |(refine⟨_,rfl,rfl,Eq.trans ?_ (X4 (Xd X1s _) _)⟩;(rw[List.map_replicate];rfl))
    |(refine⟨_,rfl,rfl,Eq.trans ?_ (X4 (Xd X28 _) _)⟩;rfl)
    |(refine⟨_,rfl,rfl,Eq.trans ?_ (X4 (still_cons X28 _ _) _)⟩;rfl)
    |(refine⟨_,rfl,rfl,Eq.trans ?_ (X4 (Xd X28 _) _)⟩;(simp;done))
    |(refine⟨_,rfl,rfl,Eq.trans ?_ (X4 (still_cons X28 _ _) _)⟩;(simp;done))
    |(refine⟨_,rfl,rfl,Eq.trans ?_ (X4 (Xd X28 _) _)⟩;(simp;rfl))
    |(refine⟨_,rfl,rfl,Eq.trans ?_ (X4 (still_cons X28 _ _) _)⟩;(simp;rfl))):P:=h
theorem wkR1 {P:Prop} (h:P:=by
  first
    |(refine⟨_,rfl,rfl,Eq.trans ?_ (X4 (Xd X28 _) _)⟩;(exact Eq.symm (Eq.trans List.map_append rfl)))
    |(refine⟨_,rfl,rfl,Eq.trans ?_ (X4 (Xd X28 _) _)⟩;(rw[List.map_append];rfl))
    |(refine⟨_,rfl,rfl,Eq.trans ?_ (X4 (Xd X28 _) _)⟩;(rw[List.map_set];rfl))
    |(refine⟨_,rfl,rfl,Eq.trans ?_ (X4 (Xd X28 _) _)⟩;(simp[*];done))
    |(refine⟨_,rfl,rfl,Eq.trans ?_ (X4 (still_cons X28 _ _) _)⟩;(simp[*];done))
    |(refine⟨_,rfl,rfl,Eq.trans ?_ (X4 (Xd X28 _) _)⟩;(rw[List.map_replicate];rfl))
    |(refine⟨_,rfl,rfl,Eq.trans ?_ (X4 (Xd X2l _) _)⟩;rfl)
    |(refine⟨_,rfl,rfl,Eq.trans ?_ (X4 (still_cons X2l _ _) _)⟩;rfl)
    |(refine⟨_,rfl,rfl,Eq.trans ?_ (X4 (Xd X2l _) _)⟩;(simp;done))
    |(refine⟨_,rfl,rfl,Eq.trans ?_ (X4 (still_cons X2l _ _) _)⟩;(simp;done))
    |(refine⟨_,rfl,rfl,Eq.trans ?_ (X4 (Xd X2l _) _)⟩;(simp;rfl))
    |(refine⟨_,rfl,rfl,Eq.trans ?_ (X4 (still_cons X2l _ _) _)⟩;(simp;rfl))
    |(refine⟨_,rfl,rfl,Eq.trans ?_ (X4 (Xd X2l _) _)⟩;(exact Eq.symm (Eq.trans List.map_append rfl)))
    |(refine⟨_,rfl,rfl,Eq.trans ?_ (X4 (Xd X2l _) _)⟩;(rw[List.map_append];rfl))
    |(refine⟨_,rfl,rfl,Eq.trans ?_ (X4 (Xd X2l _) _)⟩;(rw[List.map_set];rfl))
    |(refine⟨_,rfl,rfl,Eq.trans ?_ (X4 (Xd X2l _) _)⟩;(simp[*];done))
    |(refine⟨_,rfl,rfl,Eq.trans ?_ (X4 (still_cons X2l _ _) _)⟩;(simp[*];done))
    |(refine⟨_,rfl,rfl,Eq.trans ?_ (X4 (Xd X2l _) _)⟩;(rw[List.map_replicate];rfl))
    |(refine⟨_,rfl,rfl,Eq.trans ?_ (X4 (Xd still_V2i64 _) _)⟩;rfl)
    |(refine⟨_,rfl,rfl,Eq.trans ?_ (X4 (still_cons still_V2i64 _ _) _)⟩;rfl)
    |(refine⟨_,rfl,rfl,Eq.trans ?_ (X4 (Xd still_V2i64 _) _)⟩;(simp;done))
    |(refine⟨_,rfl,rfl,Eq.trans ?_ (X4 (still_cons still_V2i64 _ _) _)⟩;(simp;done))
    |(refine⟨_,rfl,rfl,Eq.trans ?_ (X4 (Xd still_V2i64 _) _)⟩;(simp;rfl))
    |(refine⟨_,rfl,rfl,Eq.trans ?_ (X4 (still_cons still_V2i64 _ _) _)⟩;(simp;rfl))
    |(refine⟨_,rfl,rfl,Eq.trans ?_ (X4 (Xd still_V2i64 _) _)⟩;(exact Eq.symm (Eq.trans List.map_append rfl)))
    |(refine⟨_,rfl,rfl,Eq.trans ?_ (X4 (Xd still_V2i64 _) _)⟩;(rw[List.map_append];rfl))
    |(refine⟨_,rfl,rfl,Eq.trans ?_ (X4 (Xd still_V2i64 _) _)⟩;(rw[List.map_set];rfl))
    |(refine⟨_,rfl,rfl,Eq.trans ?_ (X4 (Xd still_V2i64 _) _)⟩;(simp[*];done))
    |(refine⟨_,rfl,rfl,Eq.trans ?_ (X4 (still_cons still_V2i64 _ _) _)⟩;(simp[*];done))
    |(refine⟨_,rfl,rfl,Eq.trans ?_ (X4 (Xd still_V2i64 _) _)⟩;(rw[List.map_replicate];rfl))
    |(refine⟨_,rfl,rfl,Eq.trans ?_ (X4 (Xd X3h _) _)⟩;rfl)
    |(refine⟨_,rfl,rfl,Eq.trans ?_ (X4 (still_cons X3h _ _) _)⟩;rfl)
    |(refine⟨_,rfl,rfl,Eq.trans ?_ (X4 (Xd X3h _) _)⟩;(simp;done))
    |(refine⟨_,rfl,rfl,Eq.trans ?_ (X4 (still_cons X3h _ _) _)⟩;(simp;done))
    |(refine⟨_,rfl,rfl,Eq.trans ?_ (X4 (Xd X3h _) _)⟩;(simp;rfl))
    |(refine⟨_,rfl,rfl,Eq.trans ?_ (X4 (still_cons X3h _ _) _)⟩;(simp;rfl))
    |(refine⟨_,rfl,rfl,Eq.trans ?_ (X4 (Xd X3h _) _)⟩;(exact Eq.symm (Eq.trans List.map_append rfl)))
    |(refine⟨_,rfl,rfl,Eq.trans ?_ (X4 (Xd X3h _) _)⟩;(rw[List.map_append];rfl))
    |(refine⟨_,rfl,rfl,Eq.trans ?_ (X4 (Xd X3h _) _)⟩;(rw[List.map_set];rfl))
    |(refine⟨_,rfl,rfl,Eq.trans ?_ (X4 (Xd X3h _) _)⟩;(simp[*];done))
    |(refine⟨_,rfl,rfl,Eq.trans ?_ (X4 (still_cons X3h _ _) _)⟩;(simp[*];done))
    |(refine⟨_,rfl,rfl,Eq.trans ?_ (X4 (Xd X3h _) _)⟩;(rw[List.map_replicate];rfl))
    |(refine⟨_,rfl,rfl,Eq.trans ?_ (X4 (Xd X14 _) _)⟩;rfl)
    |(refine⟨_,rfl,rfl,Eq.trans ?_ (X4 (still_cons X14 _ _) _)⟩;rfl)
    |(refine⟨_,rfl,rfl,Eq.trans ?_ (X4 (Xd X14 _) _)⟩;(simp;done))
    |(refine⟨_,rfl,rfl,Eq.trans ?_ (X4 (still_cons X14 _ _) _)⟩;(simp;done))
    |(refine⟨_,rfl,rfl,Eq.trans ?_ (X4 (Xd X14 _) _)⟩;(simp;rfl))
    |(refine⟨_,rfl,rfl,Eq.trans ?_ (X4 (still_cons X14 _ _) _)⟩;(simp;rfl))
    |(refine⟨_,rfl,rfl,Eq.trans ?_ (X4 (Xd X14 _) _)⟩;(exact Eq.symm (Eq.trans List.map_append rfl)))
    |(refine⟨_,rfl,rfl,Eq.trans ?_ (X4 (Xd X14 _) _)⟩;(rw[List.map_append];rfl))
    |(refine⟨_,rfl,rfl,Eq.trans ?_ (X4 (Xd X14 _) _)⟩;(rw[List.map_set];rfl))
    |(refine⟨_,rfl,rfl,Eq.trans ?_ (X4 (Xd X14 _) _)⟩;(simp[*];done))
    |(refine⟨_,rfl,rfl,Eq.trans ?_ (X4 (still_cons X14 _ _) _)⟩;(simp[*];done))
    |(refine⟨_,rfl,rfl,Eq.trans ?_ (X4 (Xd X14 _) _)⟩;(rw[List.map_replicate];rfl))
    |(refine⟨_,rfl,rfl,Eq.trans ?_ (X4 (Xd still_V2b _) _)⟩;rfl)
    |(refine⟨_,rfl,rfl,Eq.trans ?_ (X4 (still_cons still_V2b _ _) _)⟩;rfl)
    |(refine⟨_,rfl,rfl,Eq.trans ?_ (X4 (Xd still_V2b _) _)⟩;(simp;done))
    |(refine⟨_,rfl,rfl,Eq.trans ?_ (X4 (still_cons still_V2b _ _) _)⟩;(simp;done))
    |(refine⟨_,rfl,rfl,Eq.trans ?_ (X4 (Xd still_V2b _) _)⟩;(simp;rfl))
    |(refine⟨_,rfl,rfl,Eq.trans ?_ (X4 (still_cons still_V2b _ _) _)⟩;(simp;rfl))
    |(refine⟨_,rfl,rfl,Eq.trans ?_ (X4 (Xd still_V2b _) _)⟩;(exact Eq.symm (Eq.trans List.map_append rfl)))
    |(refine⟨_,rfl,rfl,Eq.trans ?_ (X4 (Xd still_V2b _) _)⟩;(rw[List.map_append];rfl))
    |(refine⟨_,rfl,rfl,Eq.trans ?_ (X4 (Xd still_V2b _) _)⟩;(rw[List.map_set];rfl))
    |(refine⟨_,rfl,rfl,Eq.trans ?_ (X4 (Xd still_V2b _) _)⟩;(simp[*];done))
    |(refine⟨_,rfl,rfl,Eq.trans ?_ (X4 (still_cons still_V2b _ _) _)⟩;(simp[*];done))
    |(refine⟨_,rfl,rfl,Eq.trans ?_ (X4 (Xd still_V2b _) _)⟩;(rw[List.map_replicate];rfl))
    |(refine⟨_,rfl,rfl,Eq.trans ?_ (X4 (Xd still_GAccum _) _)⟩;rfl)
    |(refine⟨_,rfl,rfl,Eq.trans ?_ (X4 (still_cons still_GAccum _ _) _)⟩;rfl)
    |(refine⟨_,rfl,rfl,Eq.trans ?_ (X4 (Xd still_GAccum _) _)⟩;(simp;done))
    |(refine⟨_,rfl,rfl,Eq.trans ?_ (X4 (still_cons still_GAccum _ _) _)⟩;(simp;done))
    |(refine⟨_,rfl,rfl,Eq.trans ?_ (X4 (Xd still_GAccum _) _)⟩;(simp;rfl))
    |(refine⟨_,rfl,rfl,Eq.trans ?_ (X4 (still_cons still_GAccum _ _) _)⟩;(simp;rfl))
    |(refine⟨_,rfl,rfl,Eq.trans ?_ (X4 (Xd still_GAccum _) _)⟩;(exact Eq.symm (Eq.trans List.map_append rfl)))
    |(refine⟨_,rfl,rfl,Eq.trans ?_ (X4 (Xd still_GAccum _) _)⟩;(rw[List.map_append];rfl))
    |(refine⟨_,rfl,rfl,Eq.trans ?_ (X4 (Xd still_GAccum _) _)⟩;(rw[List.map_set];rfl))
    |(refine⟨_,rfl,rfl,Eq.trans ?_ (X4 (Xd still_GAccum _) _)⟩;(simp[*];done))
    |(refine⟨_,rfl,rfl,Eq.trans ?_ (X4 (still_cons still_GAccum _ _) _)⟩;(simp[*];done))
    |(refine⟨_,rfl,rfl,Eq.trans ?_ (X4 (Xd still_GAccum _) _)⟩;(rw[List.map_replicate];rfl))
    |(refine⟨_,rfl,rfl,Eq.trans ?_ (X4 (Xd still_V2GAccum _) _)⟩;rfl)
    |(refine⟨_,rfl,rfl,Eq.trans ?_ (X4 (still_cons still_V2GAccum _ _) _)⟩;rfl)
    |(refine⟨_,rfl,rfl,Eq.trans ?_ (X4 (Xd still_V2GAccum _) _)⟩;(simp;done))
    |(refine⟨_,rfl,rfl,Eq.trans ?_ (X4 (still_cons still_V2GAccum _ _) _)⟩;(simp;done))
    |(refine⟨_,rfl,rfl,Eq.trans ?_ (X4 (Xd still_V2GAccum _) _)⟩;(simp;rfl))
    |(refine⟨_,rfl,rfl,Eq.trans ?_ (X4 (still_cons still_V2GAccum _ _) _)⟩;(simp;rfl))
    |(refine⟨_,rfl,rfl,Eq.trans ?_ (X4 (Xd still_V2GAccum _) _)⟩;(exact Eq.symm (Eq.trans List.map_append rfl)))
    |(refine⟨_,rfl,rfl,Eq.trans ?_ (X4 (Xd still_V2GAccum _) _)⟩;(rw[List.map_append];rfl))
    |(refine⟨_,rfl,rfl,Eq.trans ?_ (X4 (Xd still_V2GAccum _) _)⟩;(rw[List.map_set];rfl))
    |(refine⟨_,rfl,rfl,Eq.trans ?_ (X4 (Xd still_V2GAccum _) _)⟩;(simp[*];done))
    |(refine⟨_,rfl,rfl,Eq.trans ?_ (X4 (still_cons still_V2GAccum _ _) _)⟩;(simp[*];done))
    |(refine⟨_,rfl,rfl,Eq.trans ?_ (X4 (Xd still_V2GAccum _) _)⟩;(rw[List.map_replicate];rfl))
    |(refine⟨_,rfl,rfl,Eq.trans ?_ (X4 (Xd X29 _) _)⟩;rfl)
    |(refine⟨_,rfl,rfl,Eq.trans ?_ (X4 (still_cons X29 _ _) _)⟩;rfl)
    |(refine⟨_,rfl,rfl,Eq.trans ?_ (X4 (Xd X29 _) _)⟩;(simp;done))
    |(refine⟨_,rfl,rfl,Eq.trans ?_ (X4 (still_cons X29 _ _) _)⟩;(simp;done))
    |(refine⟨_,rfl,rfl,Eq.trans ?_ (X4 (Xd X29 _) _)⟩;(simp;rfl))
    |(refine⟨_,rfl,rfl,Eq.trans ?_ (X4 (still_cons X29 _ _) _)⟩;(simp;rfl))
    |(refine⟨_,rfl,rfl,Eq.trans ?_ (X4 (Xd X29 _) _)⟩;(exact Eq.symm (Eq.trans List.map_append rfl)))
    |(refine⟨_,rfl,rfl,Eq.trans ?_ (X4 (Xd X29 _) _)⟩;(rw[List.map_append];rfl))
    |(refine⟨_,rfl,rfl,Eq.trans ?_ (X4 (Xd X29 _) _)⟩;(rw[List.map_set];rfl))
    |(refine⟨_,rfl,rfl,Eq.trans ?_ (X4 (Xd X29 _) _)⟩;(simp[*];done))
    |(refine⟨_,rfl,rfl,Eq.trans ?_ (X4 (still_cons X29 _ _) _)⟩;(simp[*];done))
    |(refine⟨_,rfl,rfl,Eq.trans ?_ (X4 (Xd X29 _) _)⟩;(rw[List.map_replicate];rfl))
    |(refine⟨_,rfl,rfl,Eq.trans ?_ (X4 (Xd still_V5i64 _) _)⟩;rfl)
    |(refine⟨_,rfl,rfl,Eq.trans ?_ (X4 (still_cons still_V5i64 _ _) _)⟩;rfl)
    |(refine⟨_,rfl,rfl,Eq.trans ?_ (X4 (Xd still_V5i64 _) _)⟩;(simp;done))
    |(refine⟨_,rfl,rfl,Eq.trans ?_ (X4 (still_cons still_V5i64 _ _) _)⟩;(simp;done))
    |(refine⟨_,rfl,rfl,Eq.trans ?_ (X4 (Xd still_V5i64 _) _)⟩;(simp;rfl))
    |(refine⟨_,rfl,rfl,Eq.trans ?_ (X4 (still_cons still_V5i64 _ _) _)⟩;(simp;rfl))
    |(refine⟨_,rfl,rfl,Eq.trans ?_ (X4 (Xd still_V5i64 _) _)⟩;(exact Eq.symm (Eq.trans List.map_append rfl)))
    |(refine⟨_,rfl,rfl,Eq.trans ?_ (X4 (Xd still_V5i64 _) _)⟩;(rw[List.map_append];rfl))
    |(refine⟨_,rfl,rfl,Eq.trans ?_ (X4 (Xd still_V5i64 _) _)⟩;(rw[List.map_set];rfl))
    |(refine⟨_,rfl,rfl,Eq.trans ?_ (X4 (Xd still_V5i64 _) _)⟩;(simp[*];done))
    |(refine⟨_,rfl,rfl,Eq.trans ?_ (X4 (still_cons still_V5i64 _ _) _)⟩;(simp[*];done))
    |(refine⟨_,rfl,rfl,Eq.trans ?_ (X4 (Xd still_V5i64 _) _)⟩;(rw[List.map_replicate];rfl))
    |(refine⟨_,rfl,rfl,Eq.trans ?_ (X4 (Xd still_Gref21_Put _) _)⟩;rfl)
    |(refine⟨_,rfl,rfl,Eq.trans ?_ (X4 (still_cons still_Gref21_Put _ _) _)⟩;rfl)
    |(refine⟨_,rfl,rfl,Eq.trans ?_ (X4 (Xd still_Gref21_Put _) _)⟩;(simp;done))
    |(refine⟨_,rfl,rfl,Eq.trans ?_ (X4 (still_cons still_Gref21_Put _ _) _)⟩;(simp;done))
    |(refine⟨_,rfl,rfl,Eq.trans ?_ (X4 (Xd still_Gref21_Put _) _)⟩;(simp;rfl))
    |(refine⟨_,rfl,rfl,Eq.trans ?_ (X4 (still_cons still_Gref21_Put _ _) _)⟩;(simp;rfl))):P:=h
theorem wkR2 {P:Prop} (h:P:=by
  first
    |(refine⟨_,rfl,rfl,Eq.trans ?_ (X4 (Xd still_Gref21_Put _) _)⟩;(exact Eq.symm (Eq.trans List.map_append rfl)))
    |(refine⟨_,rfl,rfl,Eq.trans ?_ (X4 (Xd still_Gref21_Put _) _)⟩;(rw[List.map_append];rfl))
    |(refine⟨_,rfl,rfl,Eq.trans ?_ (X4 (Xd still_Gref21_Put _) _)⟩;(rw[List.map_set];rfl))
    |(refine⟨_,rfl,rfl,Eq.trans ?_ (X4 (Xd still_Gref21_Put _) _)⟩;(simp[*];done))
    |(refine⟨_,rfl,rfl,Eq.trans ?_ (X4 (still_cons still_Gref21_Put _ _) _)⟩;(simp[*];done))
    |(refine⟨_,rfl,rfl,Eq.trans ?_ (X4 (Xd still_Gref21_Put _) _)⟩;(rw[List.map_replicate];rfl))
    |(refine⟨_,rfl,rfl,Eq.trans ?_ (X4 (Xd (fun _=>X84) _) _)⟩;rfl)
    |(refine⟨_,rfl,rfl,Eq.trans ?_ (X4 (still_cons (fun _=>X84) _ _) _)⟩;rfl)
    |(refine⟨_,rfl,rfl,Eq.trans ?_ (X4 (Xd (fun _=>X84) _) _)⟩;(simp;done))
    |(refine⟨_,rfl,rfl,Eq.trans ?_ (X4 (still_cons (fun _=>X84) _ _) _)⟩;(simp;done))
    |(refine⟨_,rfl,rfl,Eq.trans ?_ (X4 (Xd (fun _=>X84) _) _)⟩;(simp;rfl))
    |(refine⟨_,rfl,rfl,Eq.trans ?_ (X4 (still_cons (fun _=>X84) _ _) _)⟩;(simp;rfl))
    |(refine⟨_,rfl,rfl,Eq.trans ?_ (X4 (Xd (fun _=>X84) _) _)⟩;(exact Eq.symm (Eq.trans List.map_append rfl)))
    |(refine⟨_,rfl,rfl,Eq.trans ?_ (X4 (Xd (fun _=>X84) _) _)⟩;(rw[List.map_append];rfl))
    |(refine⟨_,rfl,rfl,Eq.trans ?_ (X4 (Xd (fun _=>X84) _) _)⟩;(rw[List.map_set];rfl))
    |(refine⟨_,rfl,rfl,Eq.trans ?_ (X4 (Xd (fun _=>X84) _) _)⟩;(simp[*];done))
    |(refine⟨_,rfl,rfl,Eq.trans ?_ (X4 (still_cons (fun _=>X84) _ _) _)⟩;(simp[*];done))
    |(refine⟨_,rfl,rfl,Eq.trans ?_ (X4 (Xd (fun _=>X84) _) _)⟩;(rw[List.map_replicate];rfl))
    |(refine⟨_,rfl,rfl,Eq.trans ?_ (X4 (Xd (fun _=>X3g) _) _)⟩;rfl)
    |(refine⟨_,rfl,rfl,Eq.trans ?_ (X4 (still_cons (fun _=>X3g) _ _) _)⟩;rfl)
    |(refine⟨_,rfl,rfl,Eq.trans ?_ (X4 (Xd (fun _=>X3g) _) _)⟩;(simp;done))
    |(refine⟨_,rfl,rfl,Eq.trans ?_ (X4 (still_cons (fun _=>X3g) _ _) _)⟩;(simp;done))
    |(refine⟨_,rfl,rfl,Eq.trans ?_ (X4 (Xd (fun _=>X3g) _) _)⟩;(simp;rfl))
    |(refine⟨_,rfl,rfl,Eq.trans ?_ (X4 (still_cons (fun _=>X3g) _ _) _)⟩;(simp;rfl))
    |(refine⟨_,rfl,rfl,Eq.trans ?_ (X4 (Xd (fun _=>X3g) _) _)⟩;(exact Eq.symm (Eq.trans List.map_append rfl)))
    |(refine⟨_,rfl,rfl,Eq.trans ?_ (X4 (Xd (fun _=>X3g) _) _)⟩;(rw[List.map_append];rfl))
    |(refine⟨_,rfl,rfl,Eq.trans ?_ (X4 (Xd (fun _=>X3g) _) _)⟩;(rw[List.map_set];rfl))
    |(refine⟨_,rfl,rfl,Eq.trans ?_ (X4 (Xd (fun _=>X3g) _) _)⟩;(simp[*];done))
    |(refine⟨_,rfl,rfl,Eq.trans ?_ (X4 (still_cons (fun _=>X3g) _ _) _)⟩;(simp[*];done))
    |(refine⟨_,rfl,rfl,Eq.trans ?_ (X4 (Xd (fun _=>X3g) _) _)⟩;(rw[List.map_replicate];rfl))
    |(refine⟨_,rfl,rfl,Eq.trans ?_ (X4 (still_one (still_GNode _)) _)⟩;simp only[List.length_cons,List.length_map];rfl)
    |(refine⟨_,rfl,rfl,Eq.trans ?_ (X4 (still_one (still_GWindow _)) _)⟩;simp only[List.length_cons,List.length_map];rfl)
    |(refine⟨_,rfl,rfl,Eq.trans ?_ (X4 (still_one ((still_GQuery true) _)) _)⟩;simp only[List.length_cons,List.length_map];rfl)
    |(refine⟨_,rfl,rfl,Eq.trans ?_ (X4 (still_one ((still_GQuery false) _)) _)⟩;simp only[List.length_cons,List.length_map];rfl)
    |(refine⟨_,rfl,rfl,Eq.trans ?_ (X4 (still_one (X1s _)) _)⟩;simp only[List.length_cons,List.length_map];rfl)
    |(refine⟨_,rfl,rfl,Eq.trans ?_ (X4 (still_one (X28 _)) _)⟩;simp only[List.length_cons,List.length_map];rfl)
    |(refine⟨_,rfl,rfl,Eq.trans ?_ (X4 (still_one (X2l _)) _)⟩;simp only[List.length_cons,List.length_map];rfl)
    |(refine⟨_,rfl,rfl,Eq.trans ?_ (X4 (still_one (still_V2i64 _)) _)⟩;simp only[List.length_cons,List.length_map];rfl)
    |(refine⟨_,rfl,rfl,Eq.trans ?_ (X4 (still_one (X3h _)) _)⟩;simp only[List.length_cons,List.length_map];rfl)
    |(refine⟨_,rfl,rfl,Eq.trans ?_ (X4 (still_one (X14 _)) _)⟩;simp only[List.length_cons,List.length_map];rfl)
    |(refine⟨_,rfl,rfl,Eq.trans ?_ (X4 (still_one (still_V2b _)) _)⟩;simp only[List.length_cons,List.length_map];rfl)
    |(refine⟨_,rfl,rfl,Eq.trans ?_ (X4 (still_one (still_GAccum _)) _)⟩;simp only[List.length_cons,List.length_map];rfl)
    |(refine⟨_,rfl,rfl,Eq.trans ?_ (X4 (still_one (still_V2GAccum _)) _)⟩;simp only[List.length_cons,List.length_map];rfl)
    |(refine⟨_,rfl,rfl,Eq.trans ?_ (X4 (still_one (X29 _)) _)⟩;simp only[List.length_cons,List.length_map];rfl)
    |(refine⟨_,rfl,rfl,Eq.trans ?_ (X4 (still_one (still_V5i64 _)) _)⟩;simp only[List.length_cons,List.length_map];rfl)
    |(refine⟨_,rfl,rfl,Eq.trans ?_ (X4 (still_one (still_Gref21_Put _)) _)⟩;simp only[List.length_cons,List.length_map];rfl)
    |(refine⟨_,rfl,rfl,Eq.trans ?_ (X4 (still_one ((fun _=>X84) _)) _)⟩;simp only[List.length_cons,List.length_map];rfl)
    |(refine⟨_,rfl,rfl,Eq.trans ?_ (X4 (still_one ((fun _=>X3g) _)) _)⟩;simp only[List.length_cons,List.length_map];rfl)):P:=h
theorem wkB {P:Prop} (h:P:=by
  first
    |exact trivial
    |rfl
    |decide
    |exact⟨_,rfl,rfl,rfl⟩
    |(refine⟨_,rfl,rfl,ref1 ?_⟩;first|rfl|omega|(simp;done)|(simp;omega))
    |exact wkR0
    |exact wkR1
    |exact wkR2
    |(intro e he a ha;rw[List.mem_singleton.1 he] at ha;rw[List.mem_singleton.1 ha];first|exact .sc|exact .list|exact .nils|exact .ref (by decide)|exact .ptr (by decide)|exact X02t|exact .fn (X27 (.ptr (by decide)) Xal)|exact .fn (X27 (.ptr (by decide)) (X27 (.ptr (by decide)) Xal)))
    |(intro e he a ha;simp at he;subst he;simp[AV.cells] at ha;first|(subst ha;exact .sc)|(rcases ha with rfl|rfl|rfl|rfl|rfl<;>exact .sc))):P:=h
theorem rn {P:Program} {T:Ty} {nt n0:Nat} {μ:Mu} {Q:X07->St->Mu->Prop} {cf cf':Cf} {K K':List Kn} {L L':List (Nat×AV)} {G G':List (Nat×Obj)} {n n':Nat} {hs':List X6g} {ps':List Prop} (hT:Xaw P T/\P.follows .mixedOrders=true) (hs:List X6g) (h:Xb4 P T nt 4000 cf K L G n hs []=some (cf',K',L',G',n',hs',ps')) (hp':X5n ps') (k:X3 P nt n0 Q cf' K' ⟨fr L',hp G',n'⟩ μ):X3 P nt n0 Q cf K ⟨fr L,hp G,n⟩ μ:=Xrs hT 4000 hs h hp' k
abbrev cc:=@Cvs.cons
abbrev cn:=@Cvs.nil
abbrev pn:=@X69.none
abbrev Bt:X6g:=.br true
abbrev Bf:X6g:=.br false
abbrev Ob (e:List AV) (n:Nat):Obj:={ es:=e,esz:=n }
abbrev Lf:=AV.list false
theorem Zn {α:Type} {m:Bool} {H:X0s} (f:α->AV):Cv m H .nils (.list m (List.map f ([]:List α))):=.nils
theorem wkT {P : Program} {nt n0 : Nat} {Q : X07 -> St -> Mu -> Prop} {cf : Cf} {K : List Kn} {μ : Mu} {L L' : List (Nat × AV)} {G G' : List (Nat × Obj)} {n n' : Nat} (θ : List (Nat × Nat)) (h : X3 P nt n0 Q cf K ⟨fr L', hp G', n'⟩ μ)
    (hb:(fixB θ n0&&injB θ (G'.map (·.1))&&Nat.ble n0 n')=true:=by rfl) (hL:wkL L θ n' L':=by repeat' first|refine And.intro ?_ ?_|exact wkA) (hG:wkG G θ n' G':=by repeat' first|refine And.intro ?_ ?_|exact wkB):X3 P nt n0 Q cf K ⟨fr L,hp G,n⟩ μ:=X3.weakTo θ h hb hL hG
end Go.Av
namespace Go.D
open Go.Av
def X7l (x y:X0c):Bool:=((x.Kind==y.Kind)&&((x.N==y.N)&&((x.A==y.A)&&((x.B==y.B)&&((x.At==y.At)&&true)))))
def X4g (x y:Xm):Bool:=((x.Key==y.Key)&&((x.Time==y.Time)&&((x.Value==y.Value)&&true)))
def Xnv (x y:X13):Bool:=((x.Start==y.Start)&&((x.End==y.End)&&true))
def Xnu (x y:(V2 Int)):Bool:=((x.e0==y.e0)&&((x.e1==y.e1)&&true))
def Xm8 (x y:X2u):Bool:=((x.Key==y.Key)&&((Xnv x.Span y.Span)&&((Xnu x.Values y.Values)&&true)))
def Xuj (x y:X1k):Bool:=((x.Count==y.Count)&&((x.Sum==y.Sum)&&((x.Min==y.Min)&&((x.Max==y.Max)&&true))))
def Xdg (x:X0c):Prop:=wfI .u8 x.Kind/\wfI .i64 x.N/\wfI .i64 x.A/\wfI .i64 x.B/\wfI .i64 x.At
def Xfg (x:X0w):Prop:=wfI .u8 x.Kind/\wfI .i64 x.Size/\wfI .i64 x.Every
def Xcq (x:X03):Prop:=wfI .u8 x.Agg/\(List.length x.Arg<=maxLen/\∀ y∈x.Arg,Xdg y)/\(List.length x.Sources<=maxLen/\∀ y∈x.Sources,wfI .i64 y)/\True/\(List.length x.Where<=maxLen/\∀ y∈x.Where,Xdg y)/\Xfg x.Window/\True/\wfI .u8 x.Late
def Xfh (x:Xm):Prop:=wfI .i64 x.Key/\wfI .i64 x.Time/\wfI .i64 x.Value
def Xb0 (x:Xb):Prop:=True/\wfI .i64 x.Time/\Xfh x.Record
end Go.D
