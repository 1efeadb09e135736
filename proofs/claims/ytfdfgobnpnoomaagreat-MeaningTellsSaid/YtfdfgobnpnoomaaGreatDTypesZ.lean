/- Printed by decomp.py: the types of the Go program, as data; their encodings. -/
import Derived.Test.YtfdfgobnpnoomaaGreatAvc
set_option linter.all false

namespace Go.D
theorem Yo {α β:Type} {a:α} {f:α->Option β}:(some a).bind f=f a:=rfl
theorem Yf {p:Prop} [Decidable p] (h:¬ p):decide p=false:=decide_eq_false h
theorem Yt {p:Prop} [Decidable p] (h:p):decide p=true:=decide_eq_true h
theorem Ym {α β:Type} {f:α->β} {l:List α} {i:Nat}:List.map f (List.take i l)=List.take i (List.map f l):=List.map_take
theorem Yd {α β:Type} {f:α->β} {l:List α} {i:Nat}:List.map f (List.drop i l)=List.drop i (List.map f l):=List.map_drop
theorem Ya {a b:Prop} (x:a) (y:b):a/\b:=⟨x,y⟩
theorem Ye {α:Type} {l:List α} {i:Nat} (h:i<l.length):l[i]?=some l[i]:=List.getElem?_eq_getElem h
theorem Ys {α:Type} {l:List α} {i:Nat} {a:α}:l[i]?=some a↔∃ h:i<l.length,l[i]=a:=List.getElem?_eq_some_iff
theorem Yg {α:Type} {l:List α} {i:Nat} {a:α} (h:l[i]?=some a):a∈l:=List.mem_of_getElem? h
structure X03 where
  Kind:Int
  N:Int
  A:Int
  B:Int
  At:Int
  deriving DecidableEq,Inhabited
structure X0h where
  Kind:Int
  Size:Int
  Every:Int
  deriving DecidableEq,Inhabited
structure Xw where
  Agg:Int
  Arg:(List X03)
  Sources:(List Int)
  Join:Bool
  Where:(List X03)
  Window:X0h
  ByKey:Bool
  Late:Int
  deriving DecidableEq,Inhabited
structure Xc where
  Key:Int
  Time:Int
  Value:Int
  deriving DecidableEq,Inhabited
structure Xk where
  Mark:Bool
  Time:Int
  Record:Xc
  deriving DecidableEq,Inhabited
structure Xr where
  Start:Int
  End:Int
  deriving DecidableEq,Inhabited
structure X1c where
  Key:Int
  Span:Xr
  Values:(V2 Int)
  deriving DecidableEq,Inhabited
structure Xo where
  at_:Int
  size:Int
  depth:Int
  deriving DecidableEq,Inhabited
structure X0a where
  Count:Int
  Sum:Int
  Min:Int
  Max:Int
  deriving DecidableEq,Inhabited
structure X6 where
  Key:Int
  Span:Xr
  Values:(V2 X0a)
  deriving DecidableEq,Inhabited
structure Xy where
  Record:Xc
  Side:Int
  deriving DecidableEq,Inhabited
end Go.D
namespace Go.Av
open Go.D
def X4 (x:X03):AV:=.agg [(aI .u8 x.Kind),(aI .i64 x.N),(aI .i64 x.A),(aI .i64 x.B),(aI .i64 x.At)]
theorem X8u (x:X03):Xc5 (X4 x):=(X28 (X28 (X28 (X28 (X28 Xi9)))))
theorem X2a (x:X03):X99 (X4 x):=fun _=>rfl
theorem Xfj (x:X03):Xcz (X4 x):=X48 (X8u x) rfl
instance X09z:Xfo X4:=⟨X8u,fun _=>rfl,X2a⟩
def X0s (x:X0h):AV:=.agg [(aI .u8 x.Kind),(aI .i64 x.Size),(aI .i64 x.Every)]
theorem Xiy (x:X0h):Xc5 (X0s x):=(X28 (X28 (X28 Xi9)))
theorem X1d (x:X0h):X99 (X0s x):=fun _=>rfl
theorem Xbl (x:X0h):Xcz (X0s x):=X48 (Xiy x) rfl
instance X089:Xfo X0s:=⟨Xiy,fun _=>rfl,X1d⟩
def Xn (o:Bool) (x:Xw):AV:=.agg [(aI .u8 x.Agg),(AV.list o (List.map X4 x.Arg)),(AV.list o (List.map (aI .i64) x.Sources)),(aB x.Join),(AV.list o (List.map X4 x.Where)),(aI .u8 x.Window.Kind),(aI .i64 x.Window.Size),(aI .i64 x.Window.Every),(aB x.ByKey),(aI .u8 x.Late)]
theorem X0f (o:Bool) (x:Xw):X99 (Xn o x):=fun _=>rfl
theorem X59 (o:Bool) (x:Xw):Xcz (Xn o x):=X03t (fun _=>(X1p .sc (X1p .list (X1p .list (X1p .sc (X1p .list (X1p .sc (X1p .sc (X1p .sc (X1p .sc (X1p .sc Xb1)))))))))))
theorem Xwz {H:X0p} {o:Bool} {x:Xw}:Cv false H (Xn o x) (Xn false x):=X00h (Cvs.cons .sc (Cvs.cons (X9f (X47 X8u _)) (Cvs.cons (X9f (X47 (fun _=>Xiz) _)) (Cvs.cons .sc (Cvs.cons (X9f (X47 X8u _)) (Cvs.cons .sc (Cvs.cons .sc (Cvs.cons .sc (Cvs.cons .sc (Cvs.cons .sc Cvs.nil))))))))))
theorem Xwy {H:X0p} {o:Bool} {x:Xw}:Cv true H (Xn o x) (Xn o x):=X00h (Cvs.cons .sc (Cvs.cons (.listS rfl) (Cvs.cons (.listS rfl) (Cvs.cons .sc (Cvs.cons (.listS rfl) (Cvs.cons .sc (Cvs.cons .sc (Cvs.cons .sc (Cvs.cons .sc (Cvs.cons .sc Cvs.nil))))))))))
instance X08x:X09s Xn:=⟨Xwz,Xwy,fun _ _ _=>rfl,X59,X0f⟩
def X0 (x:Xc):AV:=.agg [(aI .i64 x.Key),(aI .i64 x.Time),(aI .i64 x.Value)]
theorem Xey (x:Xc):Xc5 (X0 x):=(X28 (X28 (X28 Xi9)))
theorem X1e (x:Xc):X99 (X0 x):=fun _=>rfl
theorem X96 (x:Xc):Xcz (X0 x):=X48 (Xey x) rfl
theorem Xge {m:Bool} {H:X0p} {x:Xc}:Cv m H (X0 x) (X0 x):=X00g (Xey x)
instance X08a:Xfo X0:=⟨Xey,fun _=>rfl,X1e⟩
def Xa (x:Xk):AV:=.agg [(aB x.Mark),(aI .i64 x.Time),(aI .i64 x.Record.Key),(aI .i64 x.Record.Time),(aI .i64 x.Record.Value)]
theorem Xlf (x:Xk):Xc5 (Xa x):=(X28 (X28 (X28 (X28 (X28 Xi9)))))
theorem X1u (x:Xk):X99 (Xa x):=fun _=>rfl
theorem Xdl (x:Xk):Xcz (Xa x):=X48 (Xlf x) rfl
instance X09g:Xfo Xa:=⟨Xlf,fun _=>rfl,X1u⟩
def X3 (x:Xr):AV:=.agg [(aI .i64 x.Start),(aI .i64 x.End)]
theorem Xn5 (x:Xr):Xc5 (X3 x):=(X28 (X28 Xi9))
theorem X29 (x:Xr):X99 (X3 x):=fun _=>rfl
theorem Xfi (x:Xr):Xcz (X3 x):=X48 (Xn5 x) rfl
instance X09y:Xfo X3:=⟨Xn5,fun _=>rfl,X29⟩
def Xd (x:X1c):AV:=.agg [(aI .i64 x.Key),(aI .i64 x.Span.Start),(aI .i64 x.Span.End),(aI .i64 x.Values.e0),(aI .i64 x.Values.e1)]
theorem Xqo (x:X1c):Xc5 (Xd x):=(X28 (X28 (X28 (X28 (X28 Xi9)))))
theorem X31 (x:X1c):X99 (Xd x):=fun _=>rfl
theorem Xh9 (x:X1c):Xcz (Xd x):=X48 (Xqo x) rfl
instance X0c5:Xfo Xd:=⟨Xqo,fun _=>rfl,X31⟩
def Xb (x:Xo):AV:=.agg [(aI .i64 x.at_),(aI .i64 x.size),(aI .i64 x.depth)]
theorem Xex (x:Xo):Xc5 (Xb x):=(X28 (X28 (X28 Xi9)))
theorem X0v (x:Xo):X99 (Xb x):=fun _=>rfl
theorem X7z (x:Xo):Xcz (Xb x):=X48 (Xex x) rfl
instance X03y:Xfo Xb:=⟨Xex,fun _=>rfl,X0v⟩
def X9r (x:(V2 Bool)):AV:=.agg [(aB x.e0),(aB x.e1)]
theorem X03v (x:(V2 Bool)):Xc5 (X9r x):=(X28 (X28 Xi9))
theorem Xjy (x:(V2 Bool)):Xcz (X9r x):=X48 (X03v x) rfl
def X0c (x:X0a):AV:=.agg [(aI .i64 x.Count),(aI .i64 x.Sum),(aI .i64 x.Min),(aI .i64 x.Max)]
theorem Xlg (x:X0a):Xc5 (X0c x):=(X28 (X28 (X28 (X28 Xi9))))
theorem X1w (x:X0a):X99 (X0c x):=fun _=>rfl
theorem Xdn (x:X0a):Xcz (X0c x):=X48 (Xlg x) rfl
instance X09i:Xfo X0c:=⟨Xlg,fun _=>rfl,X1w⟩
def X5a (x:(V2 X0a)):AV:=.agg [(aI .i64 x.e0.Count),(aI .i64 x.e0.Sum),(aI .i64 x.e0.Min),(aI .i64 x.e0.Max),(aI .i64 x.e1.Count),(aI .i64 x.e1.Sum),(aI .i64 x.e1.Min),(aI .i64 x.e1.Max)]
theorem Xoj (x:(V2 X0a)):Xc5 (X5a x):=(X28 (X28 (X28 (X28 (X28 (X28 (X28 (X28 Xi9))))))))
theorem X9p (x:(V2 X0a)):Xcz (X5a x):=X48 (Xoj x) rfl
def X5 (x:X6):AV:=.agg [(aI .i64 x.Key),(aI .i64 x.Span.Start),(aI .i64 x.Span.End),(aI .i64 x.Values.e0.Count),(aI .i64 x.Values.e0.Sum),(aI .i64 x.Values.e0.Min),(aI .i64 x.Values.e0.Max),(aI .i64 x.Values.e1.Count),(aI .i64 x.Values.e1.Sum),(aI .i64 x.Values.e1.Min),(aI .i64 x.Values.e1.Max)]
theorem X75 (x:X6):Xc5 (X5 x):=(X28 (X28 (X28 (X28 (X28 (X28 (X28 (X28 (X28 (X28 (X28 Xi9)))))))))))
theorem X1v (x:X6):X99 (X5 x):=fun _=>rfl
theorem Xdm (x:X6):Xcz (X5 x):=X48 (X75 x) rfl
theorem X8v {m:Bool} {H:X0p} {x:X6}:Cv m H (X5 x) (X5 x):=X00g (X75 x)
instance X09h:Xfo X5:=⟨X75,fun _=>rfl,X1v⟩
def Xa1 (x:(V5 Int)):AV:=.agg [(aI .i64 x.e0),(aI .i64 x.e1),(aI .i64 x.e2),(aI .i64 x.e3),(aI .i64 x.e4)]
theorem Xwr (x:(V5 Int)):Xc5 (Xa1 x):=(X28 (X28 (X28 (X28 (X28 Xi9)))))
theorem Xfh (x:(V5 Int)):Xcz (Xa1 x):=X48 (Xwr x) rfl
def Xe (x:Xy):AV:=.agg [(aI .i64 x.Record.Key),(aI .i64 x.Record.Time),(aI .i64 x.Record.Value),(aI .i64 x.Side)]
theorem Xew (x:Xy):Xc5 (Xe x):=(X28 (X28 (X28 (X28 Xi9))))
theorem X0u (x:Xy):X99 (Xe x):=fun _=>rfl
theorem X7y (x:Xy):Xcz (Xe x):=X48 (Xew x) rfl
instance X03x:Xfo Xe:=⟨Xew,fun _=>rfl,X0u⟩
theorem wkA {P:Prop} (h:P:=by
  first
    |exact trivial
    |rfl
    |exact .sc
    |exact .list
    |exact .nils
    |exact .ref (by decide)
    |exact .ptr (by decide)
    |exact X06c
    |(refine AV.Ok.tup ?_;repeat' first|exact Xb1|refine X1p ?_ ?_|exact .sc|exact .nils|exact .list|exact .ref (by decide)|exact .ptr (by decide))
    |(refine congrArg AV.tup ?_;repeat' first|rfl|(refine congrArg (fun z=>AV.ref _ 0 z) ?_;first|rfl|omega|(simp;done)|(simp;omega))|(show AV.ref _ 0 _=AV.ref _ 0 _;congr 1;first|omega|(simp;done))|(refine congrArg (fun z=>AV.sc (Value.int IntKind.i64 z)) ?_;first|rfl|omega|assumption|(simp;done))|refine congr (congrArg List.cons ?_) ?_|(show(_::_:List AV)=_::_;refine congr (congrArg List.cons ?_) ?_))
    |exact .fn (X1p (.ptr (by decide)) Xb1)
    |exact .fn (X1p (.ptr (by decide)) (X1p (.ptr (by decide)) Xb1))
    |exact .fn (X1p (.ptr (by decide)) (X1p (.ptr (by decide)) (X1p (.ptr (by decide)) Xb1)))
    |assumption
    |exact(Xfj _ _).1
    |exact(Xbl _ _).1
    |exact(X59 true _ _).1
    |exact(X59 false _ _).1
    |exact(X96 _ _).1
    |exact(Xdl _ _).1
    |exact(Xfi _ _).1
    |exact(free_V2i64 _ _).1
    |exact(Xh9 _ _).1
    |exact(X7z _ _).1
    |exact(Xjy _ _).1
    |exact(Xdn _ _).1
    |exact(X9p _ _).1
    |exact(Xdm _ _).1
    |exact(Xfh _ _).1
    |exact(X7y _ _).1
    |(refine congrArg (fun z=>AV.sc (Value.int IntKind.i64 z)) ?_;first|rfl|omega|assumption|(simp;done)|(simp;omega))
    |(refine congrArg (fun z=>AV.sc (Value.bool z)) ?_;first|rfl|assumption|(simp;done))
    |(refine congrArg (fun z=>AV.ref _ 0 z) ?_;first|rfl|omega|(simp;done)|(simp;omega))
    |(show AV.ref _ 0 _=AV.ref _ 0 _;congr 1;first|(simp;done)|(simp;omega))
    |(simp[slE,opE,nbF,nbT,nbS,AV.ren,List.map_take,List.map_drop];done)
    |(simp[slE,opE,nbF,nbT,nbS,AV.ren,List.map_take,List.map_drop, *];done)
    |(simp[AV.ren, *];done)):P:=h
theorem wkR0 {P:Prop} (h:P:=by
  first
    |exact X3x Xfj _ _
    |exact X3w (Xfj _) _
    |exact free_cons Xfj _ _ _
    |exact X3x Xbl _ _
    |exact X3w (Xbl _) _
    |exact free_cons Xbl _ _ _
    |exact X3x (X59 true) _ _
    |exact X3w ((X59 true) _) _
    |exact free_cons (X59 true) _ _ _
    |exact X3x (X59 false) _ _
    |exact X3w ((X59 false) _) _
    |exact free_cons (X59 false) _ _ _
    |exact X3x X96 _ _
    |exact X3w (X96 _) _
    |exact free_cons X96 _ _ _
    |exact X3x Xdl _ _
    |exact X3w (Xdl _) _
    |exact free_cons Xdl _ _ _
    |exact X3x Xfi _ _
    |exact X3w (Xfi _) _
    |exact free_cons Xfi _ _ _
    |exact X3x free_V2i64 _ _
    |exact X3w (free_V2i64 _) _
    |exact free_cons free_V2i64 _ _ _
    |exact X3x Xh9 _ _
    |exact X3w (Xh9 _) _
    |exact free_cons Xh9 _ _ _
    |exact X3x X7z _ _
    |exact X3w (X7z _) _
    |exact free_cons X7z _ _ _
    |exact X3x Xjy _ _
    |exact X3w (Xjy _) _
    |exact free_cons Xjy _ _ _
    |exact X3x Xdn _ _
    |exact X3w (Xdn _) _
    |exact free_cons Xdn _ _ _
    |exact X3x X9p _ _
    |exact X3w (X9p _) _
    |exact free_cons X9p _ _ _
    |exact X3x Xdm _ _
    |exact X3w (Xdm _) _
    |exact free_cons Xdm _ _ _
    |exact X3x Xfh _ _
    |exact X3w (Xfh _) _
    |exact free_cons Xfh _ _ _
    |exact X3x X7y _ _
    |exact X3w (X7y _) _
    |exact free_cons X7y _ _ _
    |exact X3x (fun _=>X003) _ _
    |exact X3w ((fun _=>X003) _) _
    |exact free_cons (fun _=>X003) _ _ _
    |exact X3x (fun _=>free_encl) _ _
    |exact X3w ((fun _=>free_encl) _) _
    |exact free_cons (fun _=>free_encl) _ _ _
    |(refine⟨_,rfl,rfl,Eq.trans ?_ (X1 (X8 X2a _) _)⟩;rfl)
    |(refine⟨_,rfl,rfl,Eq.trans ?_ (X1 (still_cons X2a _ _) _)⟩;rfl)
    |(refine⟨_,rfl,rfl,Eq.trans ?_ (X1 (X8 X2a _) _)⟩;(simp;done))
    |(refine⟨_,rfl,rfl,Eq.trans ?_ (X1 (still_cons X2a _ _) _)⟩;(simp;done))
    |(refine⟨_,rfl,rfl,Eq.trans ?_ (X1 (X8 X2a _) _)⟩;(simp;rfl))
    |(refine⟨_,rfl,rfl,Eq.trans ?_ (X1 (still_cons X2a _ _) _)⟩;(simp;rfl))
    |(refine⟨_,rfl,rfl,Eq.trans ?_ (X1 (X8 X2a _) _)⟩;(exact Eq.symm (Eq.trans List.map_append rfl)))
    |(refine⟨_,rfl,rfl,Eq.trans ?_ (X1 (X8 X2a _) _)⟩;(rw[List.map_append];rfl))
    |(refine⟨_,rfl,rfl,Eq.trans ?_ (X1 (X8 X2a _) _)⟩;(rw[List.map_set];rfl))
    |(refine⟨_,rfl,rfl,Eq.trans ?_ (X1 (X8 X2a _) _)⟩;(simp[*];done))
    |(refine⟨_,rfl,rfl,Eq.trans ?_ (X1 (still_cons X2a _ _) _)⟩;(simp[*];done))
    |(refine⟨_,rfl,rfl,Eq.trans ?_ (X1 (X8 X2a _) _)⟩;(rw[List.map_replicate];rfl))
    |(refine⟨_,rfl,rfl,Eq.trans ?_ (X1 (X8 X1d _) _)⟩;rfl)
    |(refine⟨_,rfl,rfl,Eq.trans ?_ (X1 (still_cons X1d _ _) _)⟩;rfl)
    |(refine⟨_,rfl,rfl,Eq.trans ?_ (X1 (X8 X1d _) _)⟩;(simp;done))
    |(refine⟨_,rfl,rfl,Eq.trans ?_ (X1 (still_cons X1d _ _) _)⟩;(simp;done))
    |(refine⟨_,rfl,rfl,Eq.trans ?_ (X1 (X8 X1d _) _)⟩;(simp;rfl))
    |(refine⟨_,rfl,rfl,Eq.trans ?_ (X1 (still_cons X1d _ _) _)⟩;(simp;rfl))
    |(refine⟨_,rfl,rfl,Eq.trans ?_ (X1 (X8 X1d _) _)⟩;(exact Eq.symm (Eq.trans List.map_append rfl)))
    |(refine⟨_,rfl,rfl,Eq.trans ?_ (X1 (X8 X1d _) _)⟩;(rw[List.map_append];rfl))
    |(refine⟨_,rfl,rfl,Eq.trans ?_ (X1 (X8 X1d _) _)⟩;(rw[List.map_set];rfl))
    |(refine⟨_,rfl,rfl,Eq.trans ?_ (X1 (X8 X1d _) _)⟩;(simp[*];done))
    |(refine⟨_,rfl,rfl,Eq.trans ?_ (X1 (still_cons X1d _ _) _)⟩;(simp[*];done))
    |(refine⟨_,rfl,rfl,Eq.trans ?_ (X1 (X8 X1d _) _)⟩;(rw[List.map_replicate];rfl))
    |(refine⟨_,rfl,rfl,Eq.trans ?_ (X1 (X8 (X0f true) _) _)⟩;rfl)
    |(refine⟨_,rfl,rfl,Eq.trans ?_ (X1 (still_cons (X0f true) _ _) _)⟩;rfl)
    |(refine⟨_,rfl,rfl,Eq.trans ?_ (X1 (X8 (X0f true) _) _)⟩;(simp;done))
    |(refine⟨_,rfl,rfl,Eq.trans ?_ (X1 (still_cons (X0f true) _ _) _)⟩;(simp;done))
    |(refine⟨_,rfl,rfl,Eq.trans ?_ (X1 (X8 (X0f true) _) _)⟩;(simp;rfl))
    |(refine⟨_,rfl,rfl,Eq.trans ?_ (X1 (still_cons (X0f true) _ _) _)⟩;(simp;rfl))
    |(refine⟨_,rfl,rfl,Eq.trans ?_ (X1 (X8 (X0f true) _) _)⟩;(exact Eq.symm (Eq.trans List.map_append rfl)))
    |(refine⟨_,rfl,rfl,Eq.trans ?_ (X1 (X8 (X0f true) _) _)⟩;(rw[List.map_append];rfl))
    |(refine⟨_,rfl,rfl,Eq.trans ?_ (X1 (X8 (X0f true) _) _)⟩;(rw[List.map_set];rfl))
    |(refine⟨_,rfl,rfl,Eq.trans ?_ (X1 (X8 (X0f true) _) _)⟩;(simp[*];done))
    |(refine⟨_,rfl,rfl,Eq.trans ?_ (X1 (still_cons (X0f true) _ _) _)⟩;(simp[*];done))
    |(refine⟨_,rfl,rfl,Eq.trans ?_ (X1 (X8 (X0f true) _) _)⟩;(rw[List.map_replicate];rfl))
    |(refine⟨_,rfl,rfl,Eq.trans ?_ (X1 (X8 (X0f false) _) _)⟩;rfl)
    |(refine⟨_,rfl,rfl,Eq.trans ?_ (X1 (still_cons (X0f false) _ _) _)⟩;rfl)
    |(refine⟨_,rfl,rfl,Eq.trans ?_ (X1 (X8 (X0f false) _) _)⟩;(simp;done))
    |(refine⟨_,rfl,rfl,Eq.trans ?_ (X1 (still_cons (X0f false) _ _) _)⟩;(simp;done))
    |(refine⟨_,rfl,rfl,Eq.trans ?_ (X1 (X8 (X0f false) _) _)⟩;(simp;rfl))
    |(refine⟨_,rfl,rfl,Eq.trans ?_ (X1 (still_cons (X0f false) _ _) _)⟩;(simp;rfl))
    |(refine⟨_,rfl,rfl,Eq.trans ?_ (X1 (X8 (X0f false) _) _)⟩;(exact Eq.symm (Eq.trans List.map_append rfl)))
    |(refine⟨_,rfl,rfl,Eq.trans ?_ (X1 (X8 (X0f false) _) _)⟩;(rw[List.map_append];rfl))
    |(refine⟨_,rfl,rfl,Eq.trans ?_ (X1 (X8 (X0f false) _) _)⟩;(rw[List.map_set];rfl))
    |(refine⟨_,rfl,rfl,Eq.trans ?_ (X1 (X8 (X0f false) _) _)⟩;(simp[*];done))
    |(refine⟨_,rfl,rfl,Eq.trans ?_ (X1 (still_cons (X0f false) _ _) _)⟩;(simp[*];done))
    |(refine⟨_,rfl,rfl,Eq.trans ?_ (X1 (X8 (X0f false) _) _)⟩;(rw[List.map_replicate];rfl))
    |(refine⟨_,rfl,rfl,Eq.trans ?_ (X1 (X8 X1e _) _)⟩;rfl)
    |(refine⟨_,rfl,rfl,Eq.trans ?_ (X1 (still_cons X1e _ _) _)⟩;rfl)
    |(refine⟨_,rfl,rfl,Eq.trans ?_ (X1 (X8 X1e _) _)⟩;(simp;done))
    |(refine⟨_,rfl,rfl,Eq.trans ?_ (X1 (still_cons X1e _ _) _)⟩;(simp;done))
    |(refine⟨_,rfl,rfl,Eq.trans ?_ (X1 (X8 X1e _) _)⟩;(simp;rfl))
    |(refine⟨_,rfl,rfl,Eq.trans ?_ (X1 (still_cons X1e _ _) _)⟩;(simp;rfl))
    |(refine⟨_,rfl,rfl,Eq.trans ?_ (X1 (X8 X1e _) _)⟩;(exact Eq.symm (Eq.trans List.map_append rfl)))
    |(refine⟨_,rfl,rfl,Eq.trans ?_ (X1 (X8 X1e _) _)⟩;(rw[List.map_append];rfl))
    |(refine⟨_,rfl,rfl,Eq.trans ?_ (X1 (X8 X1e _) _)⟩;(rw[List.map_set];rfl))
    |(refine⟨_,rfl,rfl,Eq.trans ?_ (X1 (X8 X1e _) _)⟩;(simp[*];done))
    |(refine⟨_,rfl,rfl,Eq.trans ?_ (X1 (still_cons X1e _ _) _)⟩;(simp[*];done))
    |(refine⟨_,rfl,rfl,Eq.trans ?_ (X1 (X8 X1e _) _)⟩;(rw[List.map_replicate];rfl))
    |(refine⟨_,rfl,rfl,Eq.trans ?_ (X1 (X8 X1u _) _)⟩;rfl)
    |(refine⟨_,rfl,rfl,Eq.trans ?_ (X1 (still_cons X1u _ _) _)⟩;rfl)
    |(refine⟨_,rfl,rfl,Eq.trans ?_ (X1 (X8 X1u _) _)⟩;(simp;done))
    |(refine⟨_,rfl,rfl,Eq.trans ?_ (X1 (still_cons X1u _ _) _)⟩;(simp;done))
    |(refine⟨_,rfl,rfl,Eq.trans ?_ (X1 (X8 X1u _) _)⟩;(simp;rfl))
    |(refine⟨_,rfl,rfl,Eq.trans ?_ (X1 (still_cons X1u _ _) _)⟩;(simp;rfl))):P:=h
theorem wkR1 {P:Prop} (h:P:=by
  first
    |(refine⟨_,rfl,rfl,Eq.trans ?_ (X1 (X8 X1u _) _)⟩;(exact Eq.symm (Eq.trans List.map_append rfl)))
    |(refine⟨_,rfl,rfl,Eq.trans ?_ (X1 (X8 X1u _) _)⟩;(rw[List.map_append];rfl))
    |(refine⟨_,rfl,rfl,Eq.trans ?_ (X1 (X8 X1u _) _)⟩;(rw[List.map_set];rfl))
    |(refine⟨_,rfl,rfl,Eq.trans ?_ (X1 (X8 X1u _) _)⟩;(simp[*];done))
    |(refine⟨_,rfl,rfl,Eq.trans ?_ (X1 (still_cons X1u _ _) _)⟩;(simp[*];done))
    |(refine⟨_,rfl,rfl,Eq.trans ?_ (X1 (X8 X1u _) _)⟩;(rw[List.map_replicate];rfl))
    |(refine⟨_,rfl,rfl,Eq.trans ?_ (X1 (X8 X29 _) _)⟩;rfl)
    |(refine⟨_,rfl,rfl,Eq.trans ?_ (X1 (still_cons X29 _ _) _)⟩;rfl)
    |(refine⟨_,rfl,rfl,Eq.trans ?_ (X1 (X8 X29 _) _)⟩;(simp;done))
    |(refine⟨_,rfl,rfl,Eq.trans ?_ (X1 (still_cons X29 _ _) _)⟩;(simp;done))
    |(refine⟨_,rfl,rfl,Eq.trans ?_ (X1 (X8 X29 _) _)⟩;(simp;rfl))
    |(refine⟨_,rfl,rfl,Eq.trans ?_ (X1 (still_cons X29 _ _) _)⟩;(simp;rfl))
    |(refine⟨_,rfl,rfl,Eq.trans ?_ (X1 (X8 X29 _) _)⟩;(exact Eq.symm (Eq.trans List.map_append rfl)))
    |(refine⟨_,rfl,rfl,Eq.trans ?_ (X1 (X8 X29 _) _)⟩;(rw[List.map_append];rfl))
    |(refine⟨_,rfl,rfl,Eq.trans ?_ (X1 (X8 X29 _) _)⟩;(rw[List.map_set];rfl))
    |(refine⟨_,rfl,rfl,Eq.trans ?_ (X1 (X8 X29 _) _)⟩;(simp[*];done))
    |(refine⟨_,rfl,rfl,Eq.trans ?_ (X1 (still_cons X29 _ _) _)⟩;(simp[*];done))
    |(refine⟨_,rfl,rfl,Eq.trans ?_ (X1 (X8 X29 _) _)⟩;(rw[List.map_replicate];rfl))
    |(refine⟨_,rfl,rfl,Eq.trans ?_ (X1 (X8 still_V2i64 _) _)⟩;rfl)
    |(refine⟨_,rfl,rfl,Eq.trans ?_ (X1 (still_cons still_V2i64 _ _) _)⟩;rfl)
    |(refine⟨_,rfl,rfl,Eq.trans ?_ (X1 (X8 still_V2i64 _) _)⟩;(simp;done))
    |(refine⟨_,rfl,rfl,Eq.trans ?_ (X1 (still_cons still_V2i64 _ _) _)⟩;(simp;done))
    |(refine⟨_,rfl,rfl,Eq.trans ?_ (X1 (X8 still_V2i64 _) _)⟩;(simp;rfl))
    |(refine⟨_,rfl,rfl,Eq.trans ?_ (X1 (still_cons still_V2i64 _ _) _)⟩;(simp;rfl))
    |(refine⟨_,rfl,rfl,Eq.trans ?_ (X1 (X8 still_V2i64 _) _)⟩;(exact Eq.symm (Eq.trans List.map_append rfl)))
    |(refine⟨_,rfl,rfl,Eq.trans ?_ (X1 (X8 still_V2i64 _) _)⟩;(rw[List.map_append];rfl))
    |(refine⟨_,rfl,rfl,Eq.trans ?_ (X1 (X8 still_V2i64 _) _)⟩;(rw[List.map_set];rfl))
    |(refine⟨_,rfl,rfl,Eq.trans ?_ (X1 (X8 still_V2i64 _) _)⟩;(simp[*];done))
    |(refine⟨_,rfl,rfl,Eq.trans ?_ (X1 (still_cons still_V2i64 _ _) _)⟩;(simp[*];done))
    |(refine⟨_,rfl,rfl,Eq.trans ?_ (X1 (X8 still_V2i64 _) _)⟩;(rw[List.map_replicate];rfl))
    |(refine⟨_,rfl,rfl,Eq.trans ?_ (X1 (X8 X31 _) _)⟩;rfl)
    |(refine⟨_,rfl,rfl,Eq.trans ?_ (X1 (still_cons X31 _ _) _)⟩;rfl)
    |(refine⟨_,rfl,rfl,Eq.trans ?_ (X1 (X8 X31 _) _)⟩;(simp;done))
    |(refine⟨_,rfl,rfl,Eq.trans ?_ (X1 (still_cons X31 _ _) _)⟩;(simp;done))
    |(refine⟨_,rfl,rfl,Eq.trans ?_ (X1 (X8 X31 _) _)⟩;(simp;rfl))
    |(refine⟨_,rfl,rfl,Eq.trans ?_ (X1 (still_cons X31 _ _) _)⟩;(simp;rfl))
    |(refine⟨_,rfl,rfl,Eq.trans ?_ (X1 (X8 X31 _) _)⟩;(exact Eq.symm (Eq.trans List.map_append rfl)))
    |(refine⟨_,rfl,rfl,Eq.trans ?_ (X1 (X8 X31 _) _)⟩;(rw[List.map_append];rfl))
    |(refine⟨_,rfl,rfl,Eq.trans ?_ (X1 (X8 X31 _) _)⟩;(rw[List.map_set];rfl))
    |(refine⟨_,rfl,rfl,Eq.trans ?_ (X1 (X8 X31 _) _)⟩;(simp[*];done))
    |(refine⟨_,rfl,rfl,Eq.trans ?_ (X1 (still_cons X31 _ _) _)⟩;(simp[*];done))
    |(refine⟨_,rfl,rfl,Eq.trans ?_ (X1 (X8 X31 _) _)⟩;(rw[List.map_replicate];rfl))
    |(refine⟨_,rfl,rfl,Eq.trans ?_ (X1 (X8 X0v _) _)⟩;rfl)
    |(refine⟨_,rfl,rfl,Eq.trans ?_ (X1 (still_cons X0v _ _) _)⟩;rfl)
    |(refine⟨_,rfl,rfl,Eq.trans ?_ (X1 (X8 X0v _) _)⟩;(simp;done))
    |(refine⟨_,rfl,rfl,Eq.trans ?_ (X1 (still_cons X0v _ _) _)⟩;(simp;done))
    |(refine⟨_,rfl,rfl,Eq.trans ?_ (X1 (X8 X0v _) _)⟩;(simp;rfl))
    |(refine⟨_,rfl,rfl,Eq.trans ?_ (X1 (still_cons X0v _ _) _)⟩;(simp;rfl))
    |(refine⟨_,rfl,rfl,Eq.trans ?_ (X1 (X8 X0v _) _)⟩;(exact Eq.symm (Eq.trans List.map_append rfl)))
    |(refine⟨_,rfl,rfl,Eq.trans ?_ (X1 (X8 X0v _) _)⟩;(rw[List.map_append];rfl))
    |(refine⟨_,rfl,rfl,Eq.trans ?_ (X1 (X8 X0v _) _)⟩;(rw[List.map_set];rfl))
    |(refine⟨_,rfl,rfl,Eq.trans ?_ (X1 (X8 X0v _) _)⟩;(simp[*];done))
    |(refine⟨_,rfl,rfl,Eq.trans ?_ (X1 (still_cons X0v _ _) _)⟩;(simp[*];done))
    |(refine⟨_,rfl,rfl,Eq.trans ?_ (X1 (X8 X0v _) _)⟩;(rw[List.map_replicate];rfl))
    |(refine⟨_,rfl,rfl,Eq.trans ?_ (X1 (X8 still_V2b _) _)⟩;rfl)
    |(refine⟨_,rfl,rfl,Eq.trans ?_ (X1 (still_cons still_V2b _ _) _)⟩;rfl)
    |(refine⟨_,rfl,rfl,Eq.trans ?_ (X1 (X8 still_V2b _) _)⟩;(simp;done))
    |(refine⟨_,rfl,rfl,Eq.trans ?_ (X1 (still_cons still_V2b _ _) _)⟩;(simp;done))
    |(refine⟨_,rfl,rfl,Eq.trans ?_ (X1 (X8 still_V2b _) _)⟩;(simp;rfl))
    |(refine⟨_,rfl,rfl,Eq.trans ?_ (X1 (still_cons still_V2b _ _) _)⟩;(simp;rfl))
    |(refine⟨_,rfl,rfl,Eq.trans ?_ (X1 (X8 still_V2b _) _)⟩;(exact Eq.symm (Eq.trans List.map_append rfl)))
    |(refine⟨_,rfl,rfl,Eq.trans ?_ (X1 (X8 still_V2b _) _)⟩;(rw[List.map_append];rfl))
    |(refine⟨_,rfl,rfl,Eq.trans ?_ (X1 (X8 still_V2b _) _)⟩;(rw[List.map_set];rfl))
    |(refine⟨_,rfl,rfl,Eq.trans ?_ (X1 (X8 still_V2b _) _)⟩;(simp[*];done))
    |(refine⟨_,rfl,rfl,Eq.trans ?_ (X1 (still_cons still_V2b _ _) _)⟩;(simp[*];done))
    |(refine⟨_,rfl,rfl,Eq.trans ?_ (X1 (X8 still_V2b _) _)⟩;(rw[List.map_replicate];rfl))
    |(refine⟨_,rfl,rfl,Eq.trans ?_ (X1 (X8 X1w _) _)⟩;rfl)
    |(refine⟨_,rfl,rfl,Eq.trans ?_ (X1 (still_cons X1w _ _) _)⟩;rfl)
    |(refine⟨_,rfl,rfl,Eq.trans ?_ (X1 (X8 X1w _) _)⟩;(simp;done))
    |(refine⟨_,rfl,rfl,Eq.trans ?_ (X1 (still_cons X1w _ _) _)⟩;(simp;done))
    |(refine⟨_,rfl,rfl,Eq.trans ?_ (X1 (X8 X1w _) _)⟩;(simp;rfl))
    |(refine⟨_,rfl,rfl,Eq.trans ?_ (X1 (still_cons X1w _ _) _)⟩;(simp;rfl))
    |(refine⟨_,rfl,rfl,Eq.trans ?_ (X1 (X8 X1w _) _)⟩;(exact Eq.symm (Eq.trans List.map_append rfl)))
    |(refine⟨_,rfl,rfl,Eq.trans ?_ (X1 (X8 X1w _) _)⟩;(rw[List.map_append];rfl))
    |(refine⟨_,rfl,rfl,Eq.trans ?_ (X1 (X8 X1w _) _)⟩;(rw[List.map_set];rfl))
    |(refine⟨_,rfl,rfl,Eq.trans ?_ (X1 (X8 X1w _) _)⟩;(simp[*];done))
    |(refine⟨_,rfl,rfl,Eq.trans ?_ (X1 (still_cons X1w _ _) _)⟩;(simp[*];done))
    |(refine⟨_,rfl,rfl,Eq.trans ?_ (X1 (X8 X1w _) _)⟩;(rw[List.map_replicate];rfl))
    |(refine⟨_,rfl,rfl,Eq.trans ?_ (X1 (X8 still_V2GAccum _) _)⟩;rfl)
    |(refine⟨_,rfl,rfl,Eq.trans ?_ (X1 (still_cons still_V2GAccum _ _) _)⟩;rfl)
    |(refine⟨_,rfl,rfl,Eq.trans ?_ (X1 (X8 still_V2GAccum _) _)⟩;(simp;done))
    |(refine⟨_,rfl,rfl,Eq.trans ?_ (X1 (still_cons still_V2GAccum _ _) _)⟩;(simp;done))
    |(refine⟨_,rfl,rfl,Eq.trans ?_ (X1 (X8 still_V2GAccum _) _)⟩;(simp;rfl))
    |(refine⟨_,rfl,rfl,Eq.trans ?_ (X1 (still_cons still_V2GAccum _ _) _)⟩;(simp;rfl))
    |(refine⟨_,rfl,rfl,Eq.trans ?_ (X1 (X8 still_V2GAccum _) _)⟩;(exact Eq.symm (Eq.trans List.map_append rfl)))
    |(refine⟨_,rfl,rfl,Eq.trans ?_ (X1 (X8 still_V2GAccum _) _)⟩;(rw[List.map_append];rfl))
    |(refine⟨_,rfl,rfl,Eq.trans ?_ (X1 (X8 still_V2GAccum _) _)⟩;(rw[List.map_set];rfl))
    |(refine⟨_,rfl,rfl,Eq.trans ?_ (X1 (X8 still_V2GAccum _) _)⟩;(simp[*];done))
    |(refine⟨_,rfl,rfl,Eq.trans ?_ (X1 (still_cons still_V2GAccum _ _) _)⟩;(simp[*];done))
    |(refine⟨_,rfl,rfl,Eq.trans ?_ (X1 (X8 still_V2GAccum _) _)⟩;(rw[List.map_replicate];rfl))
    |(refine⟨_,rfl,rfl,Eq.trans ?_ (X1 (X8 X1v _) _)⟩;rfl)
    |(refine⟨_,rfl,rfl,Eq.trans ?_ (X1 (still_cons X1v _ _) _)⟩;rfl)
    |(refine⟨_,rfl,rfl,Eq.trans ?_ (X1 (X8 X1v _) _)⟩;(simp;done))
    |(refine⟨_,rfl,rfl,Eq.trans ?_ (X1 (still_cons X1v _ _) _)⟩;(simp;done))
    |(refine⟨_,rfl,rfl,Eq.trans ?_ (X1 (X8 X1v _) _)⟩;(simp;rfl))
    |(refine⟨_,rfl,rfl,Eq.trans ?_ (X1 (still_cons X1v _ _) _)⟩;(simp;rfl))
    |(refine⟨_,rfl,rfl,Eq.trans ?_ (X1 (X8 X1v _) _)⟩;(exact Eq.symm (Eq.trans List.map_append rfl)))
    |(refine⟨_,rfl,rfl,Eq.trans ?_ (X1 (X8 X1v _) _)⟩;(rw[List.map_append];rfl))
    |(refine⟨_,rfl,rfl,Eq.trans ?_ (X1 (X8 X1v _) _)⟩;(rw[List.map_set];rfl))
    |(refine⟨_,rfl,rfl,Eq.trans ?_ (X1 (X8 X1v _) _)⟩;(simp[*];done))
    |(refine⟨_,rfl,rfl,Eq.trans ?_ (X1 (still_cons X1v _ _) _)⟩;(simp[*];done))
    |(refine⟨_,rfl,rfl,Eq.trans ?_ (X1 (X8 X1v _) _)⟩;(rw[List.map_replicate];rfl))
    |(refine⟨_,rfl,rfl,Eq.trans ?_ (X1 (X8 still_V5i64 _) _)⟩;rfl)
    |(refine⟨_,rfl,rfl,Eq.trans ?_ (X1 (still_cons still_V5i64 _ _) _)⟩;rfl)
    |(refine⟨_,rfl,rfl,Eq.trans ?_ (X1 (X8 still_V5i64 _) _)⟩;(simp;done))
    |(refine⟨_,rfl,rfl,Eq.trans ?_ (X1 (still_cons still_V5i64 _ _) _)⟩;(simp;done))
    |(refine⟨_,rfl,rfl,Eq.trans ?_ (X1 (X8 still_V5i64 _) _)⟩;(simp;rfl))
    |(refine⟨_,rfl,rfl,Eq.trans ?_ (X1 (still_cons still_V5i64 _ _) _)⟩;(simp;rfl))
    |(refine⟨_,rfl,rfl,Eq.trans ?_ (X1 (X8 still_V5i64 _) _)⟩;(exact Eq.symm (Eq.trans List.map_append rfl)))
    |(refine⟨_,rfl,rfl,Eq.trans ?_ (X1 (X8 still_V5i64 _) _)⟩;(rw[List.map_append];rfl))
    |(refine⟨_,rfl,rfl,Eq.trans ?_ (X1 (X8 still_V5i64 _) _)⟩;(rw[List.map_set];rfl))
    |(refine⟨_,rfl,rfl,Eq.trans ?_ (X1 (X8 still_V5i64 _) _)⟩;(simp[*];done))
    |(refine⟨_,rfl,rfl,Eq.trans ?_ (X1 (still_cons still_V5i64 _ _) _)⟩;(simp[*];done))
    |(refine⟨_,rfl,rfl,Eq.trans ?_ (X1 (X8 still_V5i64 _) _)⟩;(rw[List.map_replicate];rfl))
    |(refine⟨_,rfl,rfl,Eq.trans ?_ (X1 (X8 X0u _) _)⟩;rfl)
    |(refine⟨_,rfl,rfl,Eq.trans ?_ (X1 (still_cons X0u _ _) _)⟩;rfl)
    |(refine⟨_,rfl,rfl,Eq.trans ?_ (X1 (X8 X0u _) _)⟩;(simp;done))
    |(refine⟨_,rfl,rfl,Eq.trans ?_ (X1 (still_cons X0u _ _) _)⟩;(simp;done))
    |(refine⟨_,rfl,rfl,Eq.trans ?_ (X1 (X8 X0u _) _)⟩;(simp;rfl))
    |(refine⟨_,rfl,rfl,Eq.trans ?_ (X1 (still_cons X0u _ _) _)⟩;(simp;rfl))):P:=h
theorem wkR2 {P:Prop} (h:P:=by
  first
    |(refine⟨_,rfl,rfl,Eq.trans ?_ (X1 (X8 X0u _) _)⟩;(exact Eq.symm (Eq.trans List.map_append rfl)))
    |(refine⟨_,rfl,rfl,Eq.trans ?_ (X1 (X8 X0u _) _)⟩;(rw[List.map_append];rfl))
    |(refine⟨_,rfl,rfl,Eq.trans ?_ (X1 (X8 X0u _) _)⟩;(rw[List.map_set];rfl))
    |(refine⟨_,rfl,rfl,Eq.trans ?_ (X1 (X8 X0u _) _)⟩;(simp[*];done))
    |(refine⟨_,rfl,rfl,Eq.trans ?_ (X1 (still_cons X0u _ _) _)⟩;(simp[*];done))
    |(refine⟨_,rfl,rfl,Eq.trans ?_ (X1 (X8 X0u _) _)⟩;(rw[List.map_replicate];rfl))
    |(refine⟨_,rfl,rfl,Eq.trans ?_ (X1 (X8 (fun _=>X6y) _) _)⟩;rfl)
    |(refine⟨_,rfl,rfl,Eq.trans ?_ (X1 (still_cons (fun _=>X6y) _ _) _)⟩;rfl)
    |(refine⟨_,rfl,rfl,Eq.trans ?_ (X1 (X8 (fun _=>X6y) _) _)⟩;(simp;done))
    |(refine⟨_,rfl,rfl,Eq.trans ?_ (X1 (still_cons (fun _=>X6y) _ _) _)⟩;(simp;done))
    |(refine⟨_,rfl,rfl,Eq.trans ?_ (X1 (X8 (fun _=>X6y) _) _)⟩;(simp;rfl))
    |(refine⟨_,rfl,rfl,Eq.trans ?_ (X1 (still_cons (fun _=>X6y) _ _) _)⟩;(simp;rfl))
    |(refine⟨_,rfl,rfl,Eq.trans ?_ (X1 (X8 (fun _=>X6y) _) _)⟩;(exact Eq.symm (Eq.trans List.map_append rfl)))
    |(refine⟨_,rfl,rfl,Eq.trans ?_ (X1 (X8 (fun _=>X6y) _) _)⟩;(rw[List.map_append];rfl))
    |(refine⟨_,rfl,rfl,Eq.trans ?_ (X1 (X8 (fun _=>X6y) _) _)⟩;(rw[List.map_set];rfl))
    |(refine⟨_,rfl,rfl,Eq.trans ?_ (X1 (X8 (fun _=>X6y) _) _)⟩;(simp[*];done))
    |(refine⟨_,rfl,rfl,Eq.trans ?_ (X1 (still_cons (fun _=>X6y) _ _) _)⟩;(simp[*];done))
    |(refine⟨_,rfl,rfl,Eq.trans ?_ (X1 (X8 (fun _=>X6y) _) _)⟩;(rw[List.map_replicate];rfl))
    |(refine⟨_,rfl,rfl,Eq.trans ?_ (X1 (X8 (fun _=>still_encl) _) _)⟩;rfl)
    |(refine⟨_,rfl,rfl,Eq.trans ?_ (X1 (still_cons (fun _=>still_encl) _ _) _)⟩;rfl)
    |(refine⟨_,rfl,rfl,Eq.trans ?_ (X1 (X8 (fun _=>still_encl) _) _)⟩;(simp;done))
    |(refine⟨_,rfl,rfl,Eq.trans ?_ (X1 (still_cons (fun _=>still_encl) _ _) _)⟩;(simp;done))
    |(refine⟨_,rfl,rfl,Eq.trans ?_ (X1 (X8 (fun _=>still_encl) _) _)⟩;(simp;rfl))
    |(refine⟨_,rfl,rfl,Eq.trans ?_ (X1 (still_cons (fun _=>still_encl) _ _) _)⟩;(simp;rfl))
    |(refine⟨_,rfl,rfl,Eq.trans ?_ (X1 (X8 (fun _=>still_encl) _) _)⟩;(exact Eq.symm (Eq.trans List.map_append rfl)))
    |(refine⟨_,rfl,rfl,Eq.trans ?_ (X1 (X8 (fun _=>still_encl) _) _)⟩;(rw[List.map_append];rfl))
    |(refine⟨_,rfl,rfl,Eq.trans ?_ (X1 (X8 (fun _=>still_encl) _) _)⟩;(rw[List.map_set];rfl))
    |(refine⟨_,rfl,rfl,Eq.trans ?_ (X1 (X8 (fun _=>still_encl) _) _)⟩;(simp[*];done))
    |(refine⟨_,rfl,rfl,Eq.trans ?_ (X1 (still_cons (fun _=>still_encl) _ _) _)⟩;(simp[*];done))
    |(refine⟨_,rfl,rfl,Eq.trans ?_ (X1 (X8 (fun _=>still_encl) _) _)⟩;(rw[List.map_replicate];rfl))
    |(refine⟨_,rfl,rfl,Eq.trans ?_ (X1 (still_one (X2a _)) _)⟩;simp only[List.length_cons,List.length_map];rfl)
    |(refine⟨_,rfl,rfl,Eq.trans ?_ (X1 (still_one (X1d _)) _)⟩;simp only[List.length_cons,List.length_map];rfl)
    |(refine⟨_,rfl,rfl,Eq.trans ?_ (X1 (still_one ((X0f true) _)) _)⟩;simp only[List.length_cons,List.length_map];rfl)
    |(refine⟨_,rfl,rfl,Eq.trans ?_ (X1 (still_one ((X0f false) _)) _)⟩;simp only[List.length_cons,List.length_map];rfl)
    |(refine⟨_,rfl,rfl,Eq.trans ?_ (X1 (still_one (X1e _)) _)⟩;simp only[List.length_cons,List.length_map];rfl)
    |(refine⟨_,rfl,rfl,Eq.trans ?_ (X1 (still_one (X1u _)) _)⟩;simp only[List.length_cons,List.length_map];rfl)
    |(refine⟨_,rfl,rfl,Eq.trans ?_ (X1 (still_one (X29 _)) _)⟩;simp only[List.length_cons,List.length_map];rfl)
    |(refine⟨_,rfl,rfl,Eq.trans ?_ (X1 (still_one (still_V2i64 _)) _)⟩;simp only[List.length_cons,List.length_map];rfl)
    |(refine⟨_,rfl,rfl,Eq.trans ?_ (X1 (still_one (X31 _)) _)⟩;simp only[List.length_cons,List.length_map];rfl)
    |(refine⟨_,rfl,rfl,Eq.trans ?_ (X1 (still_one (X0v _)) _)⟩;simp only[List.length_cons,List.length_map];rfl)
    |(refine⟨_,rfl,rfl,Eq.trans ?_ (X1 (still_one (still_V2b _)) _)⟩;simp only[List.length_cons,List.length_map];rfl)
    |(refine⟨_,rfl,rfl,Eq.trans ?_ (X1 (still_one (X1w _)) _)⟩;simp only[List.length_cons,List.length_map];rfl)
    |(refine⟨_,rfl,rfl,Eq.trans ?_ (X1 (still_one (still_V2GAccum _)) _)⟩;simp only[List.length_cons,List.length_map];rfl)
    |(refine⟨_,rfl,rfl,Eq.trans ?_ (X1 (still_one (X1v _)) _)⟩;simp only[List.length_cons,List.length_map];rfl)
    |(refine⟨_,rfl,rfl,Eq.trans ?_ (X1 (still_one (still_V5i64 _)) _)⟩;simp only[List.length_cons,List.length_map];rfl)
    |(refine⟨_,rfl,rfl,Eq.trans ?_ (X1 (still_one (X0u _)) _)⟩;simp only[List.length_cons,List.length_map];rfl)
    |(refine⟨_,rfl,rfl,Eq.trans ?_ (X1 (still_one ((fun _=>X6y) _)) _)⟩;simp only[List.length_cons,List.length_map];rfl)
    |(refine⟨_,rfl,rfl,Eq.trans ?_ (X1 (still_one ((fun _=>still_encl) _)) _)⟩;simp only[List.length_cons,List.length_map];rfl)):P:=h
theorem wkB {P:Prop} (h:P:=by
  first
    |exact trivial
    |rfl
    |decide
    |exact⟨_,rfl,rfl,rfl⟩
    |(refine⟨_,rfl,rfl,ref1 ?_⟩;first|rfl|omega|(simp;done)|(simp;omega))
    |exact wkR0
    |exact wkR1
    |exact wkR2
    |(intro e he a ha;rw[List.mem_singleton.1 he] at ha;rw[List.mem_singleton.1 ha];first|exact .sc|exact .list|exact .nils|exact .ref (by decide)|exact .ptr (by decide)|exact X06c|exact .fn (X1p (.ptr (by decide)) Xb1)|exact .fn (X1p (.ptr (by decide)) (X1p (.ptr (by decide)) Xb1)))
    |(intro e he a ha;simp at he;subst he;simp[AV.cells] at ha;first|(subst ha;exact .sc)|(rcases ha with rfl|rfl|rfl|rfl|rfl<;>exact .sc))):P:=h
theorem rn {P:Program} {T:Ty} {nt n0:Nat} {μ:Mu} {Q:X01->St->Mu->Prop} {cf cf':Cf} {K K':List Kn} {L L':List (Nat×AV)} {G G':List (Nat×Obj)} {n n':Nat} {hs':List X6f} {ps':List Prop} (hT:Xc4 P T/\P.follows .mixedOrders=true) (hs:List X6f) (h:Xcd P T nt 4000 cf K L G n hs []=some (cf',K',L',G',n',hs',ps')) (hp':X5p ps') (k:X2 P nt n0 Q cf' K' ⟨fr L',hp G',n'⟩ μ):X2 P nt n0 Q cf K ⟨fr L,hp G,n⟩ μ:=Xty hT 4000 hs h hp' k
abbrev cc:=@Cvs.cons
abbrev cn:=@Cvs.nil
abbrev pn:=@X6d.none
abbrev Bt:X6f:=.br true
abbrev Bf:X6f:=.br false
abbrev Ob (e:List AV) (n:Nat):Obj:={ es:=e,esz:=n }
abbrev Lf:=AV.list false
theorem Zn {α:Type} {m:Bool} {H:X0p} (f:α->AV):Cv m H .nils (.list m (List.map f ([]:List α))):=.nils
theorem wkT {P : Program} {nt n0 : Nat} {Q : X01 -> St -> Mu -> Prop} {cf : Cf} {K : List Kn} {μ : Mu} {L L' : List (Nat × AV)} {G G' : List (Nat × Obj)} {n n' : Nat} (θ : List (Nat × Nat)) (h : X2 P nt n0 Q cf K ⟨fr L', hp G', n'⟩ μ)
    (hb:(fixB θ n0&&injB θ (G'.map (·.1))&&Nat.ble n0 n')=true:=by rfl) (hL:wkL L θ n' L':=by repeat' first|refine And.intro ?_ ?_|exact wkA) (hG:wkG G θ n' G':=by repeat' first|refine And.intro ?_ ?_|exact wkB):X2 P nt n0 Q cf K ⟨fr L,hp G,n⟩ μ:=X2.weakTo θ h hb hL hG
end Go.Av
namespace Go.D
open Go.Av
def X81 (x y:X03):Bool:=((x.Kind==y.Kind)&&((x.N==y.N)&&((x.A==y.A)&&((x.B==y.B)&&((x.At==y.At)&&true)))))
def X3s (x y:Xc):Bool:=((x.Key==y.Key)&&((x.Time==y.Time)&&((x.Value==y.Value)&&true)))
def Xct (x y:Xr):Bool:=((x.Start==y.Start)&&((x.End==y.End)&&true))
def Xqq (x y:(V2 Int)):Bool:=((x.e0==y.e0)&&((x.e1==y.e1)&&true))
def Xol (x y:X1c):Bool:=((x.Key==y.Key)&&((Xct x.Span y.Span)&&((Xqq x.Values y.Values)&&true)))
def Xwt (x y:X0a):Bool:=((x.Count==y.Count)&&((x.Sum==y.Sum)&&((x.Min==y.Min)&&((x.Max==y.Max)&&true))))
def Xjm (x:X03):Prop:=wfI .u8 x.Kind/\wfI .i64 x.N/\wfI .i64 x.A/\wfI .i64 x.B/\wfI .i64 x.At
def Xmo (x:X0h):Prop:=wfI .u8 x.Kind/\wfI .i64 x.Size/\wfI .i64 x.Every
def Xgj (x:Xw):Prop:=wfI .u8 x.Agg/\(List.length x.Arg<=maxLen/\∀ y∈x.Arg,Xjm y)/\(List.length x.Sources<=maxLen/\∀ y∈x.Sources,wfI .i64 y)/\True/\(List.length x.Where<=maxLen/\∀ y∈x.Where,Xjm y)/\Xmo x.Window/\True/\wfI .u8 x.Late
def Xmp (x:Xc):Prop:=wfI .i64 x.Key/\wfI .i64 x.Time/\wfI .i64 x.Value
def Xgk (x:Xk):Prop:=True/\wfI .i64 x.Time/\Xmp x.Record
end Go.D
