/- Printed by decomp.py: the types of the Go program, as data; their encodings. -/
import Derived.Test.YtfdfgobnpnoomaaGreatAvc
set_option linter.all false

namespace Go.D
theorem Yo {α β:Type} {a:α} {f:α->Option β}:(some a).bind f=f a:=rfl
theorem Yf {p:Prop} [Decidable p] (h:¬ p):decide p=false:=decide_eq_false h
theorem Yt {p:Prop} [Decidable p] (h:p):decide p=true:=decide_eq_true h
theorem Ym {α β:Type} {f:α->β} {l:List α} {i:Nat}:List.map f (List.take i l)=List.take i (List.map f l):=List.map_take
theorem Yd {α β:Type} {f:α->β} {l:List α} {i:Nat}:List.map f (List.drop i l)=List.drop i (List.map f l):=List.map_drop
theorem Ya {a b:Prop} (x:a) (y:b):a/\b:=⟨x,y⟩
theorem Ye {α:Type} {l:List α} {i:Nat} (h:i<l.length):l[i]?=some l[i]:=List.getElem?_eq_getElem h
theorem Ys {α:Type} {l:List α} {i:Nat} {a:α}:l[i]?=some a↔∃ h:i<l.length,l[i]=a:=List.getElem?_eq_some_iff
theorem Yg {α:Type} {l:List α} {i:Nat} {a:α} (h:l[i]?=some a):a∈l:=List.mem_of_getElem? h
structure X05 where
  Kind:Int
  N:Int
  A:Int
  B:Int
  At:Int
  deriving DecidableEq,Inhabited
structure X0l where
  Kind:Int
  Size:Int
  Every:Int
  deriving DecidableEq,Inhabited
structure Xu where
  Agg:Int
  Arg:(List X05)
  Sources:(List Int)
  Join:Bool
  Where:(List X05)
  Window:X0l
  ByKey:Bool
  Late:Int
  deriving DecidableEq,Inhabited
structure X7 where
  Key:Int
  Time:Int
  Value:Int
  deriving DecidableEq,Inhabited
structure Xk where
  Mark:Bool
  Time:Int
  Record:X7
  deriving DecidableEq,Inhabited
structure Xr where
  Start:Int
  End:Int
  deriving DecidableEq,Inhabited
structure X0t where
  Key:Int
  Span:Xr
  Values:(V2 Int)
  deriving DecidableEq,Inhabited
structure X2c where
  Rows:(List X0t)
  Late:(List X7)
  deriving DecidableEq,Inhabited
structure Xo where
  at_:Int
  size:Int
  depth:Int
  deriving DecidableEq,Inhabited
structure X0b where
  Count:Int
  Sum:Int
  Min:Int
  Max:Int
  deriving DecidableEq,Inhabited
structure X8 where
  Key:Int
  Span:Xr
  Values:(V2 X0b)
  deriving DecidableEq,Inhabited
structure X8x where
  Key:Int
  Span:Xr
  Values:(V2 Int)
  deriving DecidableEq,Inhabited
structure Xv where
  Record:X7
  Side:Int
  deriving DecidableEq,Inhabited
end Go.D
namespace Go.Av
open Go.D
def X4 (x:X05):AV:=.agg [(aI .u8 x.Kind),(aI .i64 x.N),(aI .i64 x.A),(aI .i64 x.B),(aI .i64 x.At)]
theorem X9q (x:X05):Xc3 (X4 x):=(X28 (X28 (X28 (X28 (X28 Xin)))))
theorem X2j (x:X05):X83 (X4 x):=fun _=>rfl
theorem Xgn (x:X05):Xc5 (X4 x):=X4o (X9q x) rfl
instance X0ce:Xat X4:=⟨X9q,fun _=>rfl,X2j⟩
def X0u (x:X0l):AV:=.agg [(aI .u8 x.Kind),(aI .i64 x.Size),(aI .i64 x.Every)]
theorem Xkb (x:X0l):Xc3 (X0u x):=(X28 (X28 (X28 Xin)))
theorem X1n (x:X0l):X83 (X0u x):=fun _=>rfl
theorem Xcl (x:X0l):Xc5 (X0u x):=X4o (Xkb x) rfl
instance X0aq:Xat X0u:=⟨Xkb,fun _=>rfl,X1n⟩
def Xm (o:Bool) (x:Xu):AV:=.agg [(aI .u8 x.Agg),(AV.list o (List.map X4 x.Arg)),(AV.list o (List.map (aI .i64) x.Sources)),(aB x.Join),(AV.list o (List.map X4 x.Where)),(aI .u8 x.Window.Kind),(aI .i64 x.Window.Size),(aI .i64 x.Window.Every),(aB x.ByKey),(aI .u8 x.Late)]
theorem X0i (o:Bool) (x:Xu):X83 (Xm o x):=fun _=>rfl
theorem X5o (o:Bool) (x:Xu):Xc5 (Xm o x):=Xwi (fun _=>(X1d .sc (X1d .list (X1d .list (X1d .sc (X1d .list (X1d .sc (X1d .sc (X1d .sc (X1d .sc (X1d .sc X8w)))))))))))
theorem Xz2 {H:X0r} {o:Bool} {x:Xu}:Cv false H (Xm o x) (Xm false x):=Xst (Cvs.cons .sc (Cvs.cons (X5q (X1x X9q _)) (Cvs.cons (X5q (X1x (fun _=>Xcm) _)) (Cvs.cons .sc (Cvs.cons (X5q (X1x X9q _)) (Cvs.cons .sc (Cvs.cons .sc (Cvs.cons .sc (Cvs.cons .sc (Cvs.cons .sc Cvs.nil))))))))))
theorem Xz1 {H:X0r} {o:Bool} {x:Xu}:Cv true H (Xm o x) (Xm o x):=Xst (Cvs.cons .sc (Cvs.cons (.listS rfl) (Cvs.cons (.listS rfl) (Cvs.cons .sc (Cvs.cons (.listS rfl) (Cvs.cons .sc (Cvs.cons .sc (Cvs.cons .sc (Cvs.cons .sc (Cvs.cons .sc Cvs.nil))))))))))
instance X0ba:X0ah Xm:=⟨Xz2,Xz1,fun _ _ _=>rfl,X5o,X0i⟩
def X0 (x:X7):AV:=.agg [(aI .i64 x.Key),(aI .i64 x.Time),(aI .i64 x.Value)]
theorem Xa7 (x:X7):Xc3 (X0 x):=(X28 (X28 (X28 Xin)))
theorem X1o (x:X7):X83 (X0 x):=fun _=>rfl
theorem Xa6 (x:X7):Xc5 (X0 x):=X4o (Xa7 x) rfl
theorem Xhp {m:Bool} {H:X0r} {x:X7}:Cv m H (X0 x) (X0 x):=X033 (Xa7 x)
instance X0ar:Xat X0:=⟨Xa7,fun _=>rfl,X1o⟩
def Xd (x:Xk):AV:=.agg [(aB x.Mark),(aI .i64 x.Time),(aI .i64 x.Record.Key),(aI .i64 x.Record.Time),(aI .i64 x.Record.Value)]
theorem Xmw (x:Xk):Xc3 (Xd x):=(X28 (X28 (X28 (X28 (X28 Xin)))))
theorem X22 (x:Xk):X83 (Xd x):=fun _=>rfl
theorem Xee (x:Xk):Xc5 (Xd x):=X4o (Xmw x) rfl
instance X0bw:Xat Xd:=⟨Xmw,fun _=>rfl,X22⟩
def X3 (x:Xr):AV:=.agg [(aI .i64 x.Start),(aI .i64 x.End)]
theorem Xon (x:Xr):Xc3 (X3 x):=(X28 (X28 Xin))
theorem X2i (x:Xr):X83 (X3 x):=fun _=>rfl
theorem Xgm (x:Xr):Xc5 (X3 x):=X4o (Xon x) rfl
instance X0cd:Xat X3:=⟨Xon,fun _=>rfl,X2i⟩
def Xb (x:X0t):AV:=.agg [(aI .i64 x.Key),(aI .i64 x.Span.Start),(aI .i64 x.Span.End),(aI .i64 x.Values.e0),(aI .i64 x.Values.e1)]
theorem Xmv (x:X0t):Xc3 (Xb x):=(X28 (X28 (X28 (X28 (X28 Xin)))))
theorem X3g (x:X0t):X83 (Xb x):=fun _=>rfl
theorem Xil (x:X0t):Xc5 (Xb x):=X4o (Xmv x) rfl
instance X0es:Xat Xb:=⟨Xmv,fun _=>rfl,X3g⟩
def X14 (o:Bool) (x:X2c):AV:=.agg [(AV.list o (List.map Xb x.Rows)),(AV.list o (List.map X0 x.Late))]
theorem X06 (o:Bool) (x:X2c):X83 (X14 o x):=fun _=>rfl
theorem X3t (o:Bool) (x:X2c):Xc5 (X14 o x):=Xwi (fun _=>(X1d .list (X1d .list X8w)))
theorem Xsr {H:X0r} {o:Bool} {x:X2c}:Cv false H (X14 o x) (X14 false x):=Xst (Cvs.cons (X5q (X1x Xmv _)) (Cvs.cons (X5q (X1x Xa7 _)) Cvs.nil))
theorem Xsq {H:X0r} {o:Bool} {x:X2c}:Cv true H (X14 o x) (X14 o x):=Xst (Cvs.cons (.listS rfl) (Cvs.cons (.listS rfl) Cvs.nil))
instance X08y:X0ah X14:=⟨Xsr,Xsq,fun _ _ _=>rfl,X3t,X06⟩
def Xc (x:Xo):AV:=.agg [(aI .i64 x.at_),(aI .i64 x.size),(aI .i64 x.depth)]
theorem Xfz (x:Xo):Xc3 (Xc x):=(X28 (X28 (X28 Xin)))
theorem X0x (x:Xo):X83 (Xc x):=fun _=>rfl
theorem X8p (x:Xo):Xc5 (Xc x):=X4o (Xfz x) rfl
instance X06j:Xat Xc:=⟨Xfz,fun _=>rfl,X0x⟩
def Xar (x:(V2 Bool)):AV:=.agg [(aB x.e0),(aB x.e1)]
theorem X06g (x:(V2 Bool)):Xc3 (Xar x):=(X28 (X28 Xin))
theorem Xlb (x:(V2 Bool)):Xc5 (Xar x):=X4o (X06g x) rfl
def X0d (x:X0b):AV:=.agg [(aI .i64 x.Count),(aI .i64 x.Sum),(aI .i64 x.Min),(aI .i64 x.Max)]
theorem Xmx (x:X0b):Xc3 (X0d x):=(X28 (X28 (X28 (X28 Xin))))
theorem X24 (x:X0b):X83 (X0d x):=fun _=>rfl
theorem Xeg (x:X0b):Xc5 (X0d x):=X4o (Xmx x) rfl
instance X0by:Xat X0d:=⟨Xmx,fun _=>rfl,X24⟩
def X5p (x:(V2 X0b)):AV:=.agg [(aI .i64 x.e0.Count),(aI .i64 x.e0.Sum),(aI .i64 x.e0.Min),(aI .i64 x.e0.Max),(aI .i64 x.e1.Count),(aI .i64 x.e1.Sum),(aI .i64 x.e1.Min),(aI .i64 x.e1.Max)]
theorem Xq5 (x:(V2 X0b)):Xc3 (X5p x):=(X28 (X28 (X28 (X28 (X28 (X28 (X28 (X28 Xin))))))))
theorem Xap (x:(V2 X0b)):Xc5 (X5p x):=X4o (Xq5 x) rfl
def X5 (x:X8):AV:=.agg [(aI .i64 x.Key),(aI .i64 x.Span.Start),(aI .i64 x.Span.End),(aI .i64 x.Values.e0.Count),(aI .i64 x.Values.e0.Sum),(aI .i64 x.Values.e0.Min),(aI .i64 x.Values.e0.Max),(aI .i64 x.Values.e1.Count),(aI .i64 x.Values.e1.Sum),(aI .i64 x.Values.e1.Min),(aI .i64 x.Values.e1.Max)]
theorem X7s (x:X8):Xc3 (X5 x):=(X28 (X28 (X28 (X28 (X28 (X28 (X28 (X28 (X28 (X28 (X28 Xin)))))))))))
theorem X23 (x:X8):X83 (X5 x):=fun _=>rfl
theorem Xef (x:X8):Xc5 (X5 x):=X4o (X7s x) rfl
theorem X9r {m:Bool} {H:X0r} {x:X8}:Cv m H (X5 x) (X5 x):=X033 (X7s x)
instance X0bx:Xat X5:=⟨X7s,fun _=>rfl,X23⟩
def Xaz (x:(V5 Int)):AV:=.agg [(aI .i64 x.e0),(aI .i64 x.e1),(aI .i64 x.e2),(aI .i64 x.e3),(aI .i64 x.e4)]
theorem Xyv (x:(V5 Int)):Xc3 (Xaz x):=(X28 (X28 (X28 (X28 (X28 Xin)))))
theorem Xgl (x:(V5 Int)):Xc5 (Xaz x):=X4o (Xyv x) rfl
def X8s (x:X8x):AV:=.agg [(aI .i64 x.Key),(aI .i64 x.Span.Start),(aI .i64 x.Span.End),(aI .i64 x.Values.e0),(aI .i64 x.Values.e1)]
theorem Xnx (x:X8x):Xc3 (X8s x):=(X28 (X28 (X28 (X28 (X28 Xin)))))
theorem X12 (x:X8x):X83 (X8s x):=fun _=>rfl
instance X07l:Xat X8s:=⟨Xnx,fun _=>rfl,X12⟩
def Xg (x:Xv):AV:=.agg [(aI .i64 x.Record.Key),(aI .i64 x.Record.Time),(aI .i64 x.Record.Value),(aI .i64 x.Side)]
theorem Xfy (x:Xv):Xc3 (Xg x):=(X28 (X28 (X28 (X28 Xin))))
theorem X0w (x:Xv):X83 (Xg x):=fun _=>rfl
theorem X8o (x:Xv):Xc5 (Xg x):=X4o (Xfy x) rfl
instance X06i:Xat Xg:=⟨Xfy,fun _=>rfl,X0w⟩
theorem wkA {P:Prop} (h:P:=by
  first
    |exact trivial
    |rfl
    |exact .sc
    |exact .list
    |exact .nils
    |exact .ref (by decide)
    |exact .ptr (by decide)
    |exact X00n
    |(refine AV.Ok.tup ?_;repeat' first|exact X8w|refine X1d ?_ ?_|exact .sc|exact .nils|exact .list|exact .ref (by decide)|exact .ptr (by decide))
    |(refine congrArg AV.tup ?_;repeat' first|rfl|(refine congrArg (fun z=>AV.ref _ 0 z) ?_;first|rfl|omega|(simp;done)|(simp;omega))|(show AV.ref _ 0 _=AV.ref _ 0 _;congr 1;first|omega|(simp;done))|(refine congrArg (fun z=>AV.sc (Value.int IntKind.i64 z)) ?_;first|rfl|omega|assumption|(simp;done))|refine congr (congrArg List.cons ?_) ?_|(show(_::_:List AV)=_::_;refine congr (congrArg List.cons ?_) ?_))
    |exact .fn (X1d (.ptr (by decide)) X8w)
    |exact .fn (X1d (.ptr (by decide)) (X1d (.ptr (by decide)) X8w))
    |exact .fn (X1d (.ptr (by decide)) (X1d (.ptr (by decide)) (X1d (.ptr (by decide)) X8w)))
    |assumption
    |exact(Xgn _ _).1
    |exact(Xcl _ _).1
    |exact(X5o true _ _).1
    |exact(X5o false _ _).1
    |exact(Xa6 _ _).1
    |exact(Xee _ _).1
    |exact(Xgm _ _).1
    |exact(free_V2i64 _ _).1
    |exact(Xil _ _).1
    |exact(X3t true _ _).1
    |exact(X3t false _ _).1
    |exact(X8p _ _).1
    |exact(Xlb _ _).1
    |exact(Xeg _ _).1
    |exact(Xap _ _).1
    |exact(Xef _ _).1
    |exact(Xgl _ _).1
    |exact(free_Gsink_row _ _).1
    |exact(X8o _ _).1
    |(refine congrArg (fun z=>AV.sc (Value.int IntKind.i64 z)) ?_;first|rfl|omega|assumption|(simp;done)|(simp;omega))
    |(refine congrArg (fun z=>AV.sc (Value.bool z)) ?_;first|rfl|assumption|(simp;done))
    |(refine congrArg (fun z=>AV.ref _ 0 z) ?_;first|rfl|omega|(simp;done)|(simp;omega))
    |(show AV.ref _ 0 _=AV.ref _ 0 _;congr 1;first|(simp;done)|(simp;omega))
    |(simp[slE,opE,nbF,nbT,nbS,AV.ren,List.map_take,List.map_drop];done)
    |(simp[slE,opE,nbF,nbT,nbS,AV.ren,List.map_take,List.map_drop, *];done)
    |(simp[AV.ren, *];done)
    |exact wkSl rfl
    |exact okSl (by decide)
    |(refine aggV ?_;repeat' first|exact trivial|refine And.intro ?_ ?_|rfl|exact wkSl rfl|(refine refR rfl ?_;first|rfl|(simp;done)|(simp;omega)))
    |(refine aggOk ?_;repeat' first|exact X8w|refine X1d ?_ ?_|exact .sc|exact .list|exact .nils|exact .ref (by decide)|exact .ptr (by decide)|exact okSl (by decide)|exact okF|exact okG|exact X00n)):P:=h
theorem wkR0 {P:Prop} (h:P:=by
  first
    |exact X3b Xgn _ _
    |exact X3a (Xgn _) _
    |exact free_cons Xgn _ _ _
    |exact X3b Xcl _ _
    |exact X3a (Xcl _) _
    |exact free_cons Xcl _ _ _
    |exact X3b (X5o true) _ _
    |exact X3a ((X5o true) _) _
    |exact free_cons (X5o true) _ _ _
    |exact X3b (X5o false) _ _
    |exact X3a ((X5o false) _) _
    |exact free_cons (X5o false) _ _ _
    |exact X3b Xa6 _ _
    |exact X3a (Xa6 _) _
    |exact free_cons Xa6 _ _ _
    |exact X3b Xee _ _
    |exact X3a (Xee _) _
    |exact free_cons Xee _ _ _
    |exact X3b Xgm _ _
    |exact X3a (Xgm _) _
    |exact free_cons Xgm _ _ _
    |exact X3b free_V2i64 _ _
    |exact X3a (free_V2i64 _) _
    |exact free_cons free_V2i64 _ _ _
    |exact X3b Xil _ _
    |exact X3a (Xil _) _
    |exact free_cons Xil _ _ _
    |exact X3b (X3t true) _ _
    |exact X3a ((X3t true) _) _
    |exact free_cons (X3t true) _ _ _
    |exact X3b (X3t false) _ _
    |exact X3a ((X3t false) _) _
    |exact free_cons (X3t false) _ _ _
    |exact X3b X8p _ _
    |exact X3a (X8p _) _
    |exact free_cons X8p _ _ _
    |exact X3b Xlb _ _
    |exact X3a (Xlb _) _
    |exact free_cons Xlb _ _ _
    |exact X3b Xeg _ _
    |exact X3a (Xeg _) _
    |exact free_cons Xeg _ _ _
    |exact X3b Xap _ _
    |exact X3a (Xap _) _
    |exact free_cons Xap _ _ _
    |exact X3b Xef _ _
    |exact X3a (Xef _) _
    |exact free_cons Xef _ _ _
    |exact X3b Xgl _ _
    |exact X3a (Xgl _) _
    |exact free_cons Xgl _ _ _
    |exact X3b free_Gsink_row _ _
    |exact X3a (free_Gsink_row _) _
    |exact free_cons free_Gsink_row _ _ _
    |exact X3b X8o _ _
    |exact X3a (X8o _) _
    |exact free_cons X8o _ _ _
    |exact X3b (fun _=>X02m) _ _
    |exact X3a ((fun _=>X02m) _) _
    |exact free_cons (fun _=>X02m) _ _ _
    |exact X3b (fun _=>Xmt) _ _
    |exact X3a ((fun _=>Xmt) _) _
    |exact free_cons (fun _=>Xmt) _ _ _
    |(refine⟨_,rfl,rfl,Eq.trans ?_ (X1 (X6 X2j _) _)⟩;rfl)
    |(refine⟨_,rfl,rfl,Eq.trans ?_ (X1 (still_cons X2j _ _) _)⟩;rfl)
    |(refine⟨_,rfl,rfl,Eq.trans ?_ (X1 (X6 X2j _) _)⟩;(simp;done))
    |(refine⟨_,rfl,rfl,Eq.trans ?_ (X1 (still_cons X2j _ _) _)⟩;(simp;done))
    |(refine⟨_,rfl,rfl,Eq.trans ?_ (X1 (X6 X2j _) _)⟩;(simp;rfl))
    |(refine⟨_,rfl,rfl,Eq.trans ?_ (X1 (still_cons X2j _ _) _)⟩;(simp;rfl))
    |(refine⟨_,rfl,rfl,Eq.trans ?_ (X1 (X6 X2j _) _)⟩;(exact Eq.symm (Eq.trans List.map_append rfl)))
    |(refine⟨_,rfl,rfl,Eq.trans ?_ (X1 (X6 X2j _) _)⟩;(rw[List.map_append];rfl))
    |(refine⟨_,rfl,rfl,Eq.trans ?_ (X1 (X6 X2j _) _)⟩;(rw[List.map_set];rfl))
    |(refine⟨_,rfl,rfl,Eq.trans ?_ (X1 (X6 X2j _) _)⟩;(simp[*];done))
    |(refine⟨_,rfl,rfl,Eq.trans ?_ (X1 (still_cons X2j _ _) _)⟩;(simp[*];done))
    |(refine⟨_,rfl,rfl,Eq.trans ?_ (X1 (X6 X2j _) _)⟩;(rw[List.map_replicate];rfl))
    |(refine⟨_,rfl,rfl,Eq.trans ?_ (X1 (X6 X1n _) _)⟩;rfl)
    |(refine⟨_,rfl,rfl,Eq.trans ?_ (X1 (still_cons X1n _ _) _)⟩;rfl)
    |(refine⟨_,rfl,rfl,Eq.trans ?_ (X1 (X6 X1n _) _)⟩;(simp;done))
    |(refine⟨_,rfl,rfl,Eq.trans ?_ (X1 (still_cons X1n _ _) _)⟩;(simp;done))
    |(refine⟨_,rfl,rfl,Eq.trans ?_ (X1 (X6 X1n _) _)⟩;(simp;rfl))
    |(refine⟨_,rfl,rfl,Eq.trans ?_ (X1 (still_cons X1n _ _) _)⟩;(simp;rfl))
    |(refine⟨_,rfl,rfl,Eq.trans ?_ (X1 (X6 X1n _) _)⟩;(exact Eq.symm (Eq.trans List.map_append rfl)))
    |(refine⟨_,rfl,rfl,Eq.trans ?_ (X1 (X6 X1n _) _)⟩;(rw[List.map_append];rfl))
    |(refine⟨_,rfl,rfl,Eq.trans ?_ (X1 (X6 X1n _) _)⟩;(rw[List.map_set];rfl))
    |(refine⟨_,rfl,rfl,Eq.trans ?_ (X1 (X6 X1n _) _)⟩;(simp[*];done))
    |(refine⟨_,rfl,rfl,Eq.trans ?_ (X1 (still_cons X1n _ _) _)⟩;(simp[*];done))
    |(refine⟨_,rfl,rfl,Eq.trans ?_ (X1 (X6 X1n _) _)⟩;(rw[List.map_replicate];rfl))
    |(refine⟨_,rfl,rfl,Eq.trans ?_ (X1 (X6 (X0i true) _) _)⟩;rfl)
    |(refine⟨_,rfl,rfl,Eq.trans ?_ (X1 (still_cons (X0i true) _ _) _)⟩;rfl)
    |(refine⟨_,rfl,rfl,Eq.trans ?_ (X1 (X6 (X0i true) _) _)⟩;(simp;done))
    |(refine⟨_,rfl,rfl,Eq.trans ?_ (X1 (still_cons (X0i true) _ _) _)⟩;(simp;done))
    |(refine⟨_,rfl,rfl,Eq.trans ?_ (X1 (X6 (X0i true) _) _)⟩;(simp;rfl))
    |(refine⟨_,rfl,rfl,Eq.trans ?_ (X1 (still_cons (X0i true) _ _) _)⟩;(simp;rfl))
    |(refine⟨_,rfl,rfl,Eq.trans ?_ (X1 (X6 (X0i true) _) _)⟩;(exact Eq.symm (Eq.trans List.map_append rfl)))
    |(refine⟨_,rfl,rfl,Eq.trans ?_ (X1 (X6 (X0i true) _) _)⟩;(rw[List.map_append];rfl))
    |(refine⟨_,rfl,rfl,Eq.trans ?_ (X1 (X6 (X0i true) _) _)⟩;(rw[List.map_set];rfl))
    |(refine⟨_,rfl,rfl,Eq.trans ?_ (X1 (X6 (X0i true) _) _)⟩;(simp[*];done))
    |(refine⟨_,rfl,rfl,Eq.trans ?_ (X1 (still_cons (X0i true) _ _) _)⟩;(simp[*];done))
    |(refine⟨_,rfl,rfl,Eq.trans ?_ (X1 (X6 (X0i true) _) _)⟩;(rw[List.map_replicate];rfl))
    |(refine⟨_,rfl,rfl,Eq.trans ?_ (X1 (X6 (X0i false) _) _)⟩;rfl)
    |(refine⟨_,rfl,rfl,Eq.trans ?_ (X1 (still_cons (X0i false) _ _) _)⟩;rfl)
    |(refine⟨_,rfl,rfl,Eq.trans ?_ (X1 (X6 (X0i false) _) _)⟩;(simp;done))
    |(refine⟨_,rfl,rfl,Eq.trans ?_ (X1 (still_cons (X0i false) _ _) _)⟩;(simp;done))
    |(refine⟨_,rfl,rfl,Eq.trans ?_ (X1 (X6 (X0i false) _) _)⟩;(simp;rfl))
    |(refine⟨_,rfl,rfl,Eq.trans ?_ (X1 (still_cons (X0i false) _ _) _)⟩;(simp;rfl))
    |(refine⟨_,rfl,rfl,Eq.trans ?_ (X1 (X6 (X0i false) _) _)⟩;(exact Eq.symm (Eq.trans List.map_append rfl)))
    |(refine⟨_,rfl,rfl,Eq.trans ?_ (X1 (X6 (X0i false) _) _)⟩;(rw[List.map_append];rfl))
    |(refine⟨_,rfl,rfl,Eq.trans ?_ (X1 (X6 (X0i false) _) _)⟩;(rw[List.map_set];rfl))
    |(refine⟨_,rfl,rfl,Eq.trans ?_ (X1 (X6 (X0i false) _) _)⟩;(simp[*];done))
    |(refine⟨_,rfl,rfl,Eq.trans ?_ (X1 (still_cons (X0i false) _ _) _)⟩;(simp[*];done))
    |(refine⟨_,rfl,rfl,Eq.trans ?_ (X1 (X6 (X0i false) _) _)⟩;(rw[List.map_replicate];rfl))
    |(refine⟨_,rfl,rfl,Eq.trans ?_ (X1 (X6 X1o _) _)⟩;rfl)
    |(refine⟨_,rfl,rfl,Eq.trans ?_ (X1 (still_cons X1o _ _) _)⟩;rfl)
    |(refine⟨_,rfl,rfl,Eq.trans ?_ (X1 (X6 X1o _) _)⟩;(simp;done))
    |(refine⟨_,rfl,rfl,Eq.trans ?_ (X1 (still_cons X1o _ _) _)⟩;(simp;done))
    |(refine⟨_,rfl,rfl,Eq.trans ?_ (X1 (X6 X1o _) _)⟩;(simp;rfl))
    |(refine⟨_,rfl,rfl,Eq.trans ?_ (X1 (still_cons X1o _ _) _)⟩;(simp;rfl))
    |(refine⟨_,rfl,rfl,Eq.trans ?_ (X1 (X6 X1o _) _)⟩;(exact Eq.symm (Eq.trans List.map_append rfl)))
    |(refine⟨_,rfl,rfl,Eq.trans ?_ (X1 (X6 X1o _) _)⟩;(rw[List.map_append];rfl))
    |(refine⟨_,rfl,rfl,Eq.trans ?_ (X1 (X6 X1o _) _)⟩;(rw[List.map_set];rfl))):P:=h
theorem wkR1 {P:Prop} (h:P:=by
  first
    |(refine⟨_,rfl,rfl,Eq.trans ?_ (X1 (X6 X1o _) _)⟩;(simp[*];done))
    |(refine⟨_,rfl,rfl,Eq.trans ?_ (X1 (still_cons X1o _ _) _)⟩;(simp[*];done))
    |(refine⟨_,rfl,rfl,Eq.trans ?_ (X1 (X6 X1o _) _)⟩;(rw[List.map_replicate];rfl))
    |(refine⟨_,rfl,rfl,Eq.trans ?_ (X1 (X6 X22 _) _)⟩;rfl)
    |(refine⟨_,rfl,rfl,Eq.trans ?_ (X1 (still_cons X22 _ _) _)⟩;rfl)
    |(refine⟨_,rfl,rfl,Eq.trans ?_ (X1 (X6 X22 _) _)⟩;(simp;done))
    |(refine⟨_,rfl,rfl,Eq.trans ?_ (X1 (still_cons X22 _ _) _)⟩;(simp;done))
    |(refine⟨_,rfl,rfl,Eq.trans ?_ (X1 (X6 X22 _) _)⟩;(simp;rfl))
    |(refine⟨_,rfl,rfl,Eq.trans ?_ (X1 (still_cons X22 _ _) _)⟩;(simp;rfl))
    |(refine⟨_,rfl,rfl,Eq.trans ?_ (X1 (X6 X22 _) _)⟩;(exact Eq.symm (Eq.trans List.map_append rfl)))
    |(refine⟨_,rfl,rfl,Eq.trans ?_ (X1 (X6 X22 _) _)⟩;(rw[List.map_append];rfl))
    |(refine⟨_,rfl,rfl,Eq.trans ?_ (X1 (X6 X22 _) _)⟩;(rw[List.map_set];rfl))
    |(refine⟨_,rfl,rfl,Eq.trans ?_ (X1 (X6 X22 _) _)⟩;(simp[*];done))
    |(refine⟨_,rfl,rfl,Eq.trans ?_ (X1 (still_cons X22 _ _) _)⟩;(simp[*];done))
    |(refine⟨_,rfl,rfl,Eq.trans ?_ (X1 (X6 X22 _) _)⟩;(rw[List.map_replicate];rfl))
    |(refine⟨_,rfl,rfl,Eq.trans ?_ (X1 (X6 X2i _) _)⟩;rfl)
    |(refine⟨_,rfl,rfl,Eq.trans ?_ (X1 (still_cons X2i _ _) _)⟩;rfl)
    |(refine⟨_,rfl,rfl,Eq.trans ?_ (X1 (X6 X2i _) _)⟩;(simp;done))
    |(refine⟨_,rfl,rfl,Eq.trans ?_ (X1 (still_cons X2i _ _) _)⟩;(simp;done))
    |(refine⟨_,rfl,rfl,Eq.trans ?_ (X1 (X6 X2i _) _)⟩;(simp;rfl))
    |(refine⟨_,rfl,rfl,Eq.trans ?_ (X1 (still_cons X2i _ _) _)⟩;(simp;rfl))
    |(refine⟨_,rfl,rfl,Eq.trans ?_ (X1 (X6 X2i _) _)⟩;(exact Eq.symm (Eq.trans List.map_append rfl)))
    |(refine⟨_,rfl,rfl,Eq.trans ?_ (X1 (X6 X2i _) _)⟩;(rw[List.map_append];rfl))
    |(refine⟨_,rfl,rfl,Eq.trans ?_ (X1 (X6 X2i _) _)⟩;(rw[List.map_set];rfl))
    |(refine⟨_,rfl,rfl,Eq.trans ?_ (X1 (X6 X2i _) _)⟩;(simp[*];done))
    |(refine⟨_,rfl,rfl,Eq.trans ?_ (X1 (still_cons X2i _ _) _)⟩;(simp[*];done))
    |(refine⟨_,rfl,rfl,Eq.trans ?_ (X1 (X6 X2i _) _)⟩;(rw[List.map_replicate];rfl))
    |(refine⟨_,rfl,rfl,Eq.trans ?_ (X1 (X6 still_V2i64 _) _)⟩;rfl)
    |(refine⟨_,rfl,rfl,Eq.trans ?_ (X1 (still_cons still_V2i64 _ _) _)⟩;rfl)
    |(refine⟨_,rfl,rfl,Eq.trans ?_ (X1 (X6 still_V2i64 _) _)⟩;(simp;done))
    |(refine⟨_,rfl,rfl,Eq.trans ?_ (X1 (still_cons still_V2i64 _ _) _)⟩;(simp;done))
    |(refine⟨_,rfl,rfl,Eq.trans ?_ (X1 (X6 still_V2i64 _) _)⟩;(simp;rfl))
    |(refine⟨_,rfl,rfl,Eq.trans ?_ (X1 (still_cons still_V2i64 _ _) _)⟩;(simp;rfl))
    |(refine⟨_,rfl,rfl,Eq.trans ?_ (X1 (X6 still_V2i64 _) _)⟩;(exact Eq.symm (Eq.trans List.map_append rfl)))
    |(refine⟨_,rfl,rfl,Eq.trans ?_ (X1 (X6 still_V2i64 _) _)⟩;(rw[List.map_append];rfl))
    |(refine⟨_,rfl,rfl,Eq.trans ?_ (X1 (X6 still_V2i64 _) _)⟩;(rw[List.map_set];rfl))
    |(refine⟨_,rfl,rfl,Eq.trans ?_ (X1 (X6 still_V2i64 _) _)⟩;(simp[*];done))
    |(refine⟨_,rfl,rfl,Eq.trans ?_ (X1 (still_cons still_V2i64 _ _) _)⟩;(simp[*];done))
    |(refine⟨_,rfl,rfl,Eq.trans ?_ (X1 (X6 still_V2i64 _) _)⟩;(rw[List.map_replicate];rfl))
    |(refine⟨_,rfl,rfl,Eq.trans ?_ (X1 (X6 X3g _) _)⟩;rfl)
    |(refine⟨_,rfl,rfl,Eq.trans ?_ (X1 (still_cons X3g _ _) _)⟩;rfl)
    |(refine⟨_,rfl,rfl,Eq.trans ?_ (X1 (X6 X3g _) _)⟩;(simp;done))
    |(refine⟨_,rfl,rfl,Eq.trans ?_ (X1 (still_cons X3g _ _) _)⟩;(simp;done))
    |(refine⟨_,rfl,rfl,Eq.trans ?_ (X1 (X6 X3g _) _)⟩;(simp;rfl))
    |(refine⟨_,rfl,rfl,Eq.trans ?_ (X1 (still_cons X3g _ _) _)⟩;(simp;rfl))
    |(refine⟨_,rfl,rfl,Eq.trans ?_ (X1 (X6 X3g _) _)⟩;(exact Eq.symm (Eq.trans List.map_append rfl)))
    |(refine⟨_,rfl,rfl,Eq.trans ?_ (X1 (X6 X3g _) _)⟩;(rw[List.map_append];rfl))
    |(refine⟨_,rfl,rfl,Eq.trans ?_ (X1 (X6 X3g _) _)⟩;(rw[List.map_set];rfl))
    |(refine⟨_,rfl,rfl,Eq.trans ?_ (X1 (X6 X3g _) _)⟩;(simp[*];done))
    |(refine⟨_,rfl,rfl,Eq.trans ?_ (X1 (still_cons X3g _ _) _)⟩;(simp[*];done))
    |(refine⟨_,rfl,rfl,Eq.trans ?_ (X1 (X6 X3g _) _)⟩;(rw[List.map_replicate];rfl))
    |(refine⟨_,rfl,rfl,Eq.trans ?_ (X1 (X6 (X06 true) _) _)⟩;rfl)
    |(refine⟨_,rfl,rfl,Eq.trans ?_ (X1 (still_cons (X06 true) _ _) _)⟩;rfl)
    |(refine⟨_,rfl,rfl,Eq.trans ?_ (X1 (X6 (X06 true) _) _)⟩;(simp;done))
    |(refine⟨_,rfl,rfl,Eq.trans ?_ (X1 (still_cons (X06 true) _ _) _)⟩;(simp;done))
    |(refine⟨_,rfl,rfl,Eq.trans ?_ (X1 (X6 (X06 true) _) _)⟩;(simp;rfl))
    |(refine⟨_,rfl,rfl,Eq.trans ?_ (X1 (still_cons (X06 true) _ _) _)⟩;(simp;rfl))
    |(refine⟨_,rfl,rfl,Eq.trans ?_ (X1 (X6 (X06 true) _) _)⟩;(exact Eq.symm (Eq.trans List.map_append rfl)))
    |(refine⟨_,rfl,rfl,Eq.trans ?_ (X1 (X6 (X06 true) _) _)⟩;(rw[List.map_append];rfl))
    |(refine⟨_,rfl,rfl,Eq.trans ?_ (X1 (X6 (X06 true) _) _)⟩;(rw[List.map_set];rfl))
    |(refine⟨_,rfl,rfl,Eq.trans ?_ (X1 (X6 (X06 true) _) _)⟩;(simp[*];done))
    |(refine⟨_,rfl,rfl,Eq.trans ?_ (X1 (still_cons (X06 true) _ _) _)⟩;(simp[*];done))
    |(refine⟨_,rfl,rfl,Eq.trans ?_ (X1 (X6 (X06 true) _) _)⟩;(rw[List.map_replicate];rfl))
    |(refine⟨_,rfl,rfl,Eq.trans ?_ (X1 (X6 (X06 false) _) _)⟩;rfl)
    |(refine⟨_,rfl,rfl,Eq.trans ?_ (X1 (still_cons (X06 false) _ _) _)⟩;rfl)
    |(refine⟨_,rfl,rfl,Eq.trans ?_ (X1 (X6 (X06 false) _) _)⟩;(simp;done))
    |(refine⟨_,rfl,rfl,Eq.trans ?_ (X1 (still_cons (X06 false) _ _) _)⟩;(simp;done))
    |(refine⟨_,rfl,rfl,Eq.trans ?_ (X1 (X6 (X06 false) _) _)⟩;(simp;rfl))
    |(refine⟨_,rfl,rfl,Eq.trans ?_ (X1 (still_cons (X06 false) _ _) _)⟩;(simp;rfl))
    |(refine⟨_,rfl,rfl,Eq.trans ?_ (X1 (X6 (X06 false) _) _)⟩;(exact Eq.symm (Eq.trans List.map_append rfl)))
    |(refine⟨_,rfl,rfl,Eq.trans ?_ (X1 (X6 (X06 false) _) _)⟩;(rw[List.map_append];rfl))
    |(refine⟨_,rfl,rfl,Eq.trans ?_ (X1 (X6 (X06 false) _) _)⟩;(rw[List.map_set];rfl))
    |(refine⟨_,rfl,rfl,Eq.trans ?_ (X1 (X6 (X06 false) _) _)⟩;(simp[*];done))
    |(refine⟨_,rfl,rfl,Eq.trans ?_ (X1 (still_cons (X06 false) _ _) _)⟩;(simp[*];done))
    |(refine⟨_,rfl,rfl,Eq.trans ?_ (X1 (X6 (X06 false) _) _)⟩;(rw[List.map_replicate];rfl))
    |(refine⟨_,rfl,rfl,Eq.trans ?_ (X1 (X6 X0x _) _)⟩;rfl)
    |(refine⟨_,rfl,rfl,Eq.trans ?_ (X1 (still_cons X0x _ _) _)⟩;rfl)
    |(refine⟨_,rfl,rfl,Eq.trans ?_ (X1 (X6 X0x _) _)⟩;(simp;done))
    |(refine⟨_,rfl,rfl,Eq.trans ?_ (X1 (still_cons X0x _ _) _)⟩;(simp;done))
    |(refine⟨_,rfl,rfl,Eq.trans ?_ (X1 (X6 X0x _) _)⟩;(simp;rfl))
    |(refine⟨_,rfl,rfl,Eq.trans ?_ (X1 (still_cons X0x _ _) _)⟩;(simp;rfl))
    |(refine⟨_,rfl,rfl,Eq.trans ?_ (X1 (X6 X0x _) _)⟩;(exact Eq.symm (Eq.trans List.map_append rfl)))
    |(refine⟨_,rfl,rfl,Eq.trans ?_ (X1 (X6 X0x _) _)⟩;(rw[List.map_append];rfl))
    |(refine⟨_,rfl,rfl,Eq.trans ?_ (X1 (X6 X0x _) _)⟩;(rw[List.map_set];rfl))
    |(refine⟨_,rfl,rfl,Eq.trans ?_ (X1 (X6 X0x _) _)⟩;(simp[*];done))
    |(refine⟨_,rfl,rfl,Eq.trans ?_ (X1 (still_cons X0x _ _) _)⟩;(simp[*];done))
    |(refine⟨_,rfl,rfl,Eq.trans ?_ (X1 (X6 X0x _) _)⟩;(rw[List.map_replicate];rfl))
    |(refine⟨_,rfl,rfl,Eq.trans ?_ (X1 (X6 still_V2b _) _)⟩;rfl)
    |(refine⟨_,rfl,rfl,Eq.trans ?_ (X1 (still_cons still_V2b _ _) _)⟩;rfl)
    |(refine⟨_,rfl,rfl,Eq.trans ?_ (X1 (X6 still_V2b _) _)⟩;(simp;done))
    |(refine⟨_,rfl,rfl,Eq.trans ?_ (X1 (still_cons still_V2b _ _) _)⟩;(simp;done))
    |(refine⟨_,rfl,rfl,Eq.trans ?_ (X1 (X6 still_V2b _) _)⟩;(simp;rfl))
    |(refine⟨_,rfl,rfl,Eq.trans ?_ (X1 (still_cons still_V2b _ _) _)⟩;(simp;rfl))
    |(refine⟨_,rfl,rfl,Eq.trans ?_ (X1 (X6 still_V2b _) _)⟩;(exact Eq.symm (Eq.trans List.map_append rfl)))
    |(refine⟨_,rfl,rfl,Eq.trans ?_ (X1 (X6 still_V2b _) _)⟩;(rw[List.map_append];rfl))
    |(refine⟨_,rfl,rfl,Eq.trans ?_ (X1 (X6 still_V2b _) _)⟩;(rw[List.map_set];rfl))
    |(refine⟨_,rfl,rfl,Eq.trans ?_ (X1 (X6 still_V2b _) _)⟩;(simp[*];done))
    |(refine⟨_,rfl,rfl,Eq.trans ?_ (X1 (still_cons still_V2b _ _) _)⟩;(simp[*];done))
    |(refine⟨_,rfl,rfl,Eq.trans ?_ (X1 (X6 still_V2b _) _)⟩;(rw[List.map_replicate];rfl))
    |(refine⟨_,rfl,rfl,Eq.trans ?_ (X1 (X6 X24 _) _)⟩;rfl)
    |(refine⟨_,rfl,rfl,Eq.trans ?_ (X1 (still_cons X24 _ _) _)⟩;rfl)
    |(refine⟨_,rfl,rfl,Eq.trans ?_ (X1 (X6 X24 _) _)⟩;(simp;done))
    |(refine⟨_,rfl,rfl,Eq.trans ?_ (X1 (still_cons X24 _ _) _)⟩;(simp;done))
    |(refine⟨_,rfl,rfl,Eq.trans ?_ (X1 (X6 X24 _) _)⟩;(simp;rfl))
    |(refine⟨_,rfl,rfl,Eq.trans ?_ (X1 (still_cons X24 _ _) _)⟩;(simp;rfl))
    |(refine⟨_,rfl,rfl,Eq.trans ?_ (X1 (X6 X24 _) _)⟩;(exact Eq.symm (Eq.trans List.map_append rfl)))
    |(refine⟨_,rfl,rfl,Eq.trans ?_ (X1 (X6 X24 _) _)⟩;(rw[List.map_append];rfl))
    |(refine⟨_,rfl,rfl,Eq.trans ?_ (X1 (X6 X24 _) _)⟩;(rw[List.map_set];rfl))
    |(refine⟨_,rfl,rfl,Eq.trans ?_ (X1 (X6 X24 _) _)⟩;(simp[*];done))
    |(refine⟨_,rfl,rfl,Eq.trans ?_ (X1 (still_cons X24 _ _) _)⟩;(simp[*];done))
    |(refine⟨_,rfl,rfl,Eq.trans ?_ (X1 (X6 X24 _) _)⟩;(rw[List.map_replicate];rfl))
    |(refine⟨_,rfl,rfl,Eq.trans ?_ (X1 (X6 still_V2GAccum _) _)⟩;rfl)
    |(refine⟨_,rfl,rfl,Eq.trans ?_ (X1 (still_cons still_V2GAccum _ _) _)⟩;rfl)
    |(refine⟨_,rfl,rfl,Eq.trans ?_ (X1 (X6 still_V2GAccum _) _)⟩;(simp;done))
    |(refine⟨_,rfl,rfl,Eq.trans ?_ (X1 (still_cons still_V2GAccum _ _) _)⟩;(simp;done))
    |(refine⟨_,rfl,rfl,Eq.trans ?_ (X1 (X6 still_V2GAccum _) _)⟩;(simp;rfl))
    |(refine⟨_,rfl,rfl,Eq.trans ?_ (X1 (still_cons still_V2GAccum _ _) _)⟩;(simp;rfl))
    |(refine⟨_,rfl,rfl,Eq.trans ?_ (X1 (X6 still_V2GAccum _) _)⟩;(exact Eq.symm (Eq.trans List.map_append rfl)))
    |(refine⟨_,rfl,rfl,Eq.trans ?_ (X1 (X6 still_V2GAccum _) _)⟩;(rw[List.map_append];rfl))
    |(refine⟨_,rfl,rfl,Eq.trans ?_ (X1 (X6 still_V2GAccum _) _)⟩;(rw[List.map_set];rfl))):P:=h
theorem wkR2 {P:Prop} (h:P:=by
  first
    |(refine⟨_,rfl,rfl,Eq.trans ?_ (X1 (X6 still_V2GAccum _) _)⟩;(simp[*];done))
    |(refine⟨_,rfl,rfl,Eq.trans ?_ (X1 (still_cons still_V2GAccum _ _) _)⟩;(simp[*];done))
    |(refine⟨_,rfl,rfl,Eq.trans ?_ (X1 (X6 still_V2GAccum _) _)⟩;(rw[List.map_replicate];rfl))
    |(refine⟨_,rfl,rfl,Eq.trans ?_ (X1 (X6 X23 _) _)⟩;rfl)
    |(refine⟨_,rfl,rfl,Eq.trans ?_ (X1 (still_cons X23 _ _) _)⟩;rfl)
    |(refine⟨_,rfl,rfl,Eq.trans ?_ (X1 (X6 X23 _) _)⟩;(simp;done))
    |(refine⟨_,rfl,rfl,Eq.trans ?_ (X1 (still_cons X23 _ _) _)⟩;(simp;done))
    |(refine⟨_,rfl,rfl,Eq.trans ?_ (X1 (X6 X23 _) _)⟩;(simp;rfl))
    |(refine⟨_,rfl,rfl,Eq.trans ?_ (X1 (still_cons X23 _ _) _)⟩;(simp;rfl))
    |(refine⟨_,rfl,rfl,Eq.trans ?_ (X1 (X6 X23 _) _)⟩;(exact Eq.symm (Eq.trans List.map_append rfl)))
    |(refine⟨_,rfl,rfl,Eq.trans ?_ (X1 (X6 X23 _) _)⟩;(rw[List.map_append];rfl))
    |(refine⟨_,rfl,rfl,Eq.trans ?_ (X1 (X6 X23 _) _)⟩;(rw[List.map_set];rfl))
    |(refine⟨_,rfl,rfl,Eq.trans ?_ (X1 (X6 X23 _) _)⟩;(simp[*];done))
    |(refine⟨_,rfl,rfl,Eq.trans ?_ (X1 (still_cons X23 _ _) _)⟩;(simp[*];done))
    |(refine⟨_,rfl,rfl,Eq.trans ?_ (X1 (X6 X23 _) _)⟩;(rw[List.map_replicate];rfl))
    |(refine⟨_,rfl,rfl,Eq.trans ?_ (X1 (X6 still_V5i64 _) _)⟩;rfl)
    |(refine⟨_,rfl,rfl,Eq.trans ?_ (X1 (still_cons still_V5i64 _ _) _)⟩;rfl)
    |(refine⟨_,rfl,rfl,Eq.trans ?_ (X1 (X6 still_V5i64 _) _)⟩;(simp;done))
    |(refine⟨_,rfl,rfl,Eq.trans ?_ (X1 (still_cons still_V5i64 _ _) _)⟩;(simp;done))
    |(refine⟨_,rfl,rfl,Eq.trans ?_ (X1 (X6 still_V5i64 _) _)⟩;(simp;rfl))
    |(refine⟨_,rfl,rfl,Eq.trans ?_ (X1 (still_cons still_V5i64 _ _) _)⟩;(simp;rfl))
    |(refine⟨_,rfl,rfl,Eq.trans ?_ (X1 (X6 still_V5i64 _) _)⟩;(exact Eq.symm (Eq.trans List.map_append rfl)))
    |(refine⟨_,rfl,rfl,Eq.trans ?_ (X1 (X6 still_V5i64 _) _)⟩;(rw[List.map_append];rfl))
    |(refine⟨_,rfl,rfl,Eq.trans ?_ (X1 (X6 still_V5i64 _) _)⟩;(rw[List.map_set];rfl))
    |(refine⟨_,rfl,rfl,Eq.trans ?_ (X1 (X6 still_V5i64 _) _)⟩;(simp[*];done))
    |(refine⟨_,rfl,rfl,Eq.trans ?_ (X1 (still_cons still_V5i64 _ _) _)⟩;(simp[*];done))
    |(refine⟨_,rfl,rfl,Eq.trans ?_ (X1 (X6 still_V5i64 _) _)⟩;(rw[List.map_replicate];rfl))
    |(refine⟨_,rfl,rfl,Eq.trans ?_ (X1 (X6 X12 _) _)⟩;rfl)
    |(refine⟨_,rfl,rfl,Eq.trans ?_ (X1 (still_cons X12 _ _) _)⟩;rfl)
    |(refine⟨_,rfl,rfl,Eq.trans ?_ (X1 (X6 X12 _) _)⟩;(simp;done))
    |(refine⟨_,rfl,rfl,Eq.trans ?_ (X1 (still_cons X12 _ _) _)⟩;(simp;done))
    |(refine⟨_,rfl,rfl,Eq.trans ?_ (X1 (X6 X12 _) _)⟩;(simp;rfl))
    |(refine⟨_,rfl,rfl,Eq.trans ?_ (X1 (still_cons X12 _ _) _)⟩;(simp;rfl))
    |(refine⟨_,rfl,rfl,Eq.trans ?_ (X1 (X6 X12 _) _)⟩;(exact Eq.symm (Eq.trans List.map_append rfl)))
    |(refine⟨_,rfl,rfl,Eq.trans ?_ (X1 (X6 X12 _) _)⟩;(rw[List.map_append];rfl))
    |(refine⟨_,rfl,rfl,Eq.trans ?_ (X1 (X6 X12 _) _)⟩;(rw[List.map_set];rfl))
    |(refine⟨_,rfl,rfl,Eq.trans ?_ (X1 (X6 X12 _) _)⟩;(simp[*];done))
    |(refine⟨_,rfl,rfl,Eq.trans ?_ (X1 (still_cons X12 _ _) _)⟩;(simp[*];done))
    |(refine⟨_,rfl,rfl,Eq.trans ?_ (X1 (X6 X12 _) _)⟩;(rw[List.map_replicate];rfl))
    |(refine⟨_,rfl,rfl,Eq.trans ?_ (X1 (X6 X0w _) _)⟩;rfl)
    |(refine⟨_,rfl,rfl,Eq.trans ?_ (X1 (still_cons X0w _ _) _)⟩;rfl)
    |(refine⟨_,rfl,rfl,Eq.trans ?_ (X1 (X6 X0w _) _)⟩;(simp;done))
    |(refine⟨_,rfl,rfl,Eq.trans ?_ (X1 (still_cons X0w _ _) _)⟩;(simp;done))
    |(refine⟨_,rfl,rfl,Eq.trans ?_ (X1 (X6 X0w _) _)⟩;(simp;rfl))
    |(refine⟨_,rfl,rfl,Eq.trans ?_ (X1 (still_cons X0w _ _) _)⟩;(simp;rfl))
    |(refine⟨_,rfl,rfl,Eq.trans ?_ (X1 (X6 X0w _) _)⟩;(exact Eq.symm (Eq.trans List.map_append rfl)))
    |(refine⟨_,rfl,rfl,Eq.trans ?_ (X1 (X6 X0w _) _)⟩;(rw[List.map_append];rfl))
    |(refine⟨_,rfl,rfl,Eq.trans ?_ (X1 (X6 X0w _) _)⟩;(rw[List.map_set];rfl))
    |(refine⟨_,rfl,rfl,Eq.trans ?_ (X1 (X6 X0w _) _)⟩;(simp[*];done))
    |(refine⟨_,rfl,rfl,Eq.trans ?_ (X1 (still_cons X0w _ _) _)⟩;(simp[*];done))
    |(refine⟨_,rfl,rfl,Eq.trans ?_ (X1 (X6 X0w _) _)⟩;(rw[List.map_replicate];rfl))
    |(refine⟨_,rfl,rfl,Eq.trans ?_ (X1 (X6 (fun _=>X7k) _) _)⟩;rfl)
    |(refine⟨_,rfl,rfl,Eq.trans ?_ (X1 (still_cons (fun _=>X7k) _ _) _)⟩;rfl)
    |(refine⟨_,rfl,rfl,Eq.trans ?_ (X1 (X6 (fun _=>X7k) _) _)⟩;(simp;done))
    |(refine⟨_,rfl,rfl,Eq.trans ?_ (X1 (still_cons (fun _=>X7k) _ _) _)⟩;(simp;done))
    |(refine⟨_,rfl,rfl,Eq.trans ?_ (X1 (X6 (fun _=>X7k) _) _)⟩;(simp;rfl))
    |(refine⟨_,rfl,rfl,Eq.trans ?_ (X1 (still_cons (fun _=>X7k) _ _) _)⟩;(simp;rfl))
    |(refine⟨_,rfl,rfl,Eq.trans ?_ (X1 (X6 (fun _=>X7k) _) _)⟩;(exact Eq.symm (Eq.trans List.map_append rfl)))
    |(refine⟨_,rfl,rfl,Eq.trans ?_ (X1 (X6 (fun _=>X7k) _) _)⟩;(rw[List.map_append];rfl))
    |(refine⟨_,rfl,rfl,Eq.trans ?_ (X1 (X6 (fun _=>X7k) _) _)⟩;(rw[List.map_set];rfl))
    |(refine⟨_,rfl,rfl,Eq.trans ?_ (X1 (X6 (fun _=>X7k) _) _)⟩;(simp[*];done))
    |(refine⟨_,rfl,rfl,Eq.trans ?_ (X1 (still_cons (fun _=>X7k) _ _) _)⟩;(simp[*];done))
    |(refine⟨_,rfl,rfl,Eq.trans ?_ (X1 (X6 (fun _=>X7k) _) _)⟩;(rw[List.map_replicate];rfl))
    |(refine⟨_,rfl,rfl,Eq.trans ?_ (X1 (X6 (fun _=>X41) _) _)⟩;rfl)
    |(refine⟨_,rfl,rfl,Eq.trans ?_ (X1 (still_cons (fun _=>X41) _ _) _)⟩;rfl)
    |(refine⟨_,rfl,rfl,Eq.trans ?_ (X1 (X6 (fun _=>X41) _) _)⟩;(simp;done))
    |(refine⟨_,rfl,rfl,Eq.trans ?_ (X1 (still_cons (fun _=>X41) _ _) _)⟩;(simp;done))
    |(refine⟨_,rfl,rfl,Eq.trans ?_ (X1 (X6 (fun _=>X41) _) _)⟩;(simp;rfl))
    |(refine⟨_,rfl,rfl,Eq.trans ?_ (X1 (still_cons (fun _=>X41) _ _) _)⟩;(simp;rfl))
    |(refine⟨_,rfl,rfl,Eq.trans ?_ (X1 (X6 (fun _=>X41) _) _)⟩;(exact Eq.symm (Eq.trans List.map_append rfl)))
    |(refine⟨_,rfl,rfl,Eq.trans ?_ (X1 (X6 (fun _=>X41) _) _)⟩;(rw[List.map_append];rfl))
    |(refine⟨_,rfl,rfl,Eq.trans ?_ (X1 (X6 (fun _=>X41) _) _)⟩;(rw[List.map_set];rfl))
    |(refine⟨_,rfl,rfl,Eq.trans ?_ (X1 (X6 (fun _=>X41) _) _)⟩;(simp[*];done))
    |(refine⟨_,rfl,rfl,Eq.trans ?_ (X1 (still_cons (fun _=>X41) _ _) _)⟩;(simp[*];done))
    |(refine⟨_,rfl,rfl,Eq.trans ?_ (X1 (X6 (fun _=>X41) _) _)⟩;(rw[List.map_replicate];rfl))
    |(refine⟨_,rfl,rfl,Eq.trans ?_ (X1 (still_one (X2j _)) _)⟩;simp only[List.length_cons,List.length_map];rfl)
    |(refine⟨_,rfl,rfl,Eq.trans ?_ (X1 (still_one (X1n _)) _)⟩;simp only[List.length_cons,List.length_map];rfl)
    |(refine⟨_,rfl,rfl,Eq.trans ?_ (X1 (still_one ((X0i true) _)) _)⟩;simp only[List.length_cons,List.length_map];rfl)
    |(refine⟨_,rfl,rfl,Eq.trans ?_ (X1 (still_one ((X0i false) _)) _)⟩;simp only[List.length_cons,List.length_map];rfl)
    |(refine⟨_,rfl,rfl,Eq.trans ?_ (X1 (still_one (X1o _)) _)⟩;simp only[List.length_cons,List.length_map];rfl)
    |(refine⟨_,rfl,rfl,Eq.trans ?_ (X1 (still_one (X22 _)) _)⟩;simp only[List.length_cons,List.length_map];rfl)
    |(refine⟨_,rfl,rfl,Eq.trans ?_ (X1 (still_one (X2i _)) _)⟩;simp only[List.length_cons,List.length_map];rfl)
    |(refine⟨_,rfl,rfl,Eq.trans ?_ (X1 (still_one (still_V2i64 _)) _)⟩;simp only[List.length_cons,List.length_map];rfl)
    |(refine⟨_,rfl,rfl,Eq.trans ?_ (X1 (still_one (X3g _)) _)⟩;simp only[List.length_cons,List.length_map];rfl)
    |(refine⟨_,rfl,rfl,Eq.trans ?_ (X1 (still_one ((X06 true) _)) _)⟩;simp only[List.length_cons,List.length_map];rfl)
    |(refine⟨_,rfl,rfl,Eq.trans ?_ (X1 (still_one ((X06 false) _)) _)⟩;simp only[List.length_cons,List.length_map];rfl)
    |(refine⟨_,rfl,rfl,Eq.trans ?_ (X1 (still_one (X0x _)) _)⟩;simp only[List.length_cons,List.length_map];rfl)
    |(refine⟨_,rfl,rfl,Eq.trans ?_ (X1 (still_one (still_V2b _)) _)⟩;simp only[List.length_cons,List.length_map];rfl)
    |(refine⟨_,rfl,rfl,Eq.trans ?_ (X1 (still_one (X24 _)) _)⟩;simp only[List.length_cons,List.length_map];rfl)
    |(refine⟨_,rfl,rfl,Eq.trans ?_ (X1 (still_one (still_V2GAccum _)) _)⟩;simp only[List.length_cons,List.length_map];rfl)
    |(refine⟨_,rfl,rfl,Eq.trans ?_ (X1 (still_one (X23 _)) _)⟩;simp only[List.length_cons,List.length_map];rfl)
    |(refine⟨_,rfl,rfl,Eq.trans ?_ (X1 (still_one (still_V5i64 _)) _)⟩;simp only[List.length_cons,List.length_map];rfl)
    |(refine⟨_,rfl,rfl,Eq.trans ?_ (X1 (still_one (X12 _)) _)⟩;simp only[List.length_cons,List.length_map];rfl)
    |(refine⟨_,rfl,rfl,Eq.trans ?_ (X1 (still_one (X0w _)) _)⟩;simp only[List.length_cons,List.length_map];rfl)
    |(refine⟨_,rfl,rfl,Eq.trans ?_ (X1 (still_one ((fun _=>X7k) _)) _)⟩;simp only[List.length_cons,List.length_map];rfl)
    |(refine⟨_,rfl,rfl,Eq.trans ?_ (X1 (still_one ((fun _=>X41) _)) _)⟩;simp only[List.length_cons,List.length_map];rfl)):P:=h
theorem wkB {P:Prop} (h:P:=by
  first
    |exact trivial
    |rfl
    |decide
    |exact⟨_,rfl,rfl,rfl⟩
    |(refine⟨_,rfl,rfl,ref1 ?_⟩;first|rfl|omega|(simp;done)|(simp;omega))
    |exact wkR0
    |exact wkR1
    |exact wkR2
    |(intro e he a ha;rw[List.mem_singleton.1 he] at ha;rw[List.mem_singleton.1 ha];first|exact .sc|exact .list|exact .nils|exact .ref (by decide)|exact .ptr (by decide)|exact X00n|exact .fn (X1d (.ptr (by decide)) X8w)|exact .fn (X1d (.ptr (by decide)) (X1d (.ptr (by decide)) X8w)))
    |(intro e he a ha;simp at he;subst he;simp[AV.cells] at ha;first|(subst ha;exact .sc)|(rcases ha with rfl|rfl|rfl|rfl|rfl<;>exact .sc))
    |(refine⟨_,rfl,rfl,aggR ?_⟩;repeat' first|exact trivial|refine And.intro ?_ ?_|rfl|exact wkSl rfl|(refine refR rfl ?_;first|rfl|(simp;done)|(simp;omega)))
    |(refine X0cu ?_;repeat' first|exact X8w|refine X1d ?_ ?_|exact .sc|exact .list|exact .nils|exact .ref (by decide)|exact .ptr (by decide)|exact okSl (by decide)|exact okF|exact okG|exact X00n)):P:=h
theorem rn {P:Program} {T:Ty} {nt n0:Nat} {μ:Mu} {Q:X02->St->Mu->Prop} {cf cf':Cf} {K K':List Kn} {L L':List (Nat×AV)} {G G':List (Nat×Obj)} {n n':Nat} {hs':List X6v} {ps':List Prop} (hT:Xf1 P T/\P.follows .mixedOrders=true) (hs:List X6v) (h:Xd9 P T nt 4000 cf K L G n hs []=some (cf',K',L',G',n',hs',ps')) (hp':X68 ps') (k:X2 P nt n0 Q cf' K' ⟨fr L',hp G',n'⟩ μ):X2 P nt n0 Q cf K ⟨fr L,hp G,n⟩ μ:=Xw2 hT 4000 hs h hp' k
abbrev cc:=@Cvs.cons
abbrev cn:=@Cvs.nil
abbrev pn:=@X5s.none
abbrev Bt:X6v:=.br true
abbrev Bf:X6v:=.br false
abbrev Ob (e:List AV) (n:Nat):Obj:={ es:=e,esz:=n }
abbrev Lf:=AV.list false
theorem Zn {α:Type} {m:Bool} {H:X0r} (f:α->AV):Cv m H .nils (.list m (List.map f ([]:List α))):=.nils
theorem wkT {P : Program} {nt n0 : Nat} {Q : X02 -> St -> Mu -> Prop} {cf : Cf} {K : List Kn} {μ : Mu} {L L' : List (Nat × AV)} {G G' : List (Nat × Obj)} {n n' : Nat} (θ : List (Nat × Nat)) (h : X2 P nt n0 Q cf K ⟨fr L', hp G', n'⟩ μ)
    (hb:(fixB θ n0&&injB θ (G'.map (·.1))&&Nat.ble n0 n')=true:=by rfl) (hL:wkL L θ n' L':=by repeat' first|refine And.intro ?_ ?_|exact wkA) (hG:wkG G θ n' G':=by repeat' first|refine And.intro ?_ ?_|exact wkB):X2 P nt n0 Q cf K ⟨fr L,hp G,n⟩ μ:=X2.weakTo θ h hb hL hG
end Go.Av
namespace Go.D
open Go.Av
def X8r (x y:X05):Bool:=((x.Kind==y.Kind)&&((x.N==y.N)&&((x.A==y.A)&&((x.B==y.B)&&((x.At==y.At)&&true)))))
def X4b (x y:X7):Bool:=((x.Key==y.Key)&&((x.Time==y.Time)&&((x.Value==y.Value)&&true)))
def Xdp (x y:Xr):Bool:=((x.Start==y.Start)&&((x.End==y.End)&&true))
def Xsl (x y:(V2 Int)):Bool:=((x.e0==y.e0)&&((x.e1==y.e1)&&true))
def Xq7 (x y:X0t):Bool:=((x.Key==y.Key)&&((Xdp x.Span y.Span)&&((Xsl x.Values y.Values)&&true)))
def Xyx (x y:X0b):Bool:=((x.Count==y.Count)&&((x.Sum==y.Sum)&&((x.Min==y.Min)&&((x.Max==y.Max)&&true))))
def Xkz (x:X05):Prop:=wfI .u8 x.Kind/\wfI .i64 x.N/\wfI .i64 x.A/\wfI .i64 x.B/\wfI .i64 x.At
def Xo7 (x:X0l):Prop:=wfI .u8 x.Kind/\wfI .i64 x.Size/\wfI .i64 x.Every
def Xhu (x:Xu):Prop:=wfI .u8 x.Agg/\(List.length x.Arg<=maxLen/\∀ y∈x.Arg,Xkz y)/\(List.length x.Sources<=maxLen/\∀ y∈x.Sources,wfI .i64 y)/\True/\(List.length x.Where<=maxLen/\∀ y∈x.Where,Xkz y)/\Xo7 x.Window/\True/\wfI .u8 x.Late
def Xo8 (x:X7):Prop:=wfI .i64 x.Key/\wfI .i64 x.Time/\wfI .i64 x.Value
def Xhv (x:Xk):Prop:=True/\wfI .i64 x.Time/\Xo8 x.Record
end Go.D
