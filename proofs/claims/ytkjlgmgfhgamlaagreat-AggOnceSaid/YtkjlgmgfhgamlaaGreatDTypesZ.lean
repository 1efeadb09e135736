/- Printed by decomp.py: the types of the Go program, as data; their encodings. -/
import Derived.Test.YtkjlgmgfhgamlaaGreatAvc
set_option linter.all false

namespace Go.D
theorem Yo {α β:Type} {a:α} {f:α->Option β}:(some a).bind f=f a:=rfl
theorem Yf {p:Prop} [Decidable p] (h:¬ p):decide p=false:=decide_eq_false h
theorem Yt {p:Prop} [Decidable p] (h:p):decide p=true:=decide_eq_true h
theorem Ym {α β:Type} {f:α->β} {l:List α} {i:Nat}:List.map f (List.take i l)=List.take i (List.map f l):=List.map_take
theorem Yd {α β:Type} {f:α->β} {l:List α} {i:Nat}:List.map f (List.drop i l)=List.drop i (List.map f l):=List.map_drop
theorem Ya {a b:Prop} (x:a) (y:b):a/\b:=⟨x,y⟩
theorem Ye {α:Type} {l:List α} {i:Nat} (h:i<l.length):l[i]?=some l[i]:=List.getElem?_eq_getElem h
theorem Ys {α:Type} {l:List α} {i:Nat} {a:α}:l[i]?=some a↔∃ h:i<l.length,l[i]=a:=List.getElem?_eq_some_iff
theorem Yg {α:Type} {l:List α} {i:Nat} {a:α} (h:l[i]?=some a):a∈l:=List.mem_of_getElem? h
structure X05 where
  Kind:Int
  N:Int
  A:Int
  B:Int
  At:Int
  deriving DecidableEq,Inhabited
structure X0s where
  Kind:Int
  Size:Int
  Every:Int
  deriving DecidableEq,Inhabited
structure X07 where
  Agg:Int
  Arg:(List X05)
  Sources:(List Int)
  Join:Bool
  Where:(List X05)
  Window:X0s
  ByKey:Bool
  Late:Int
  deriving DecidableEq,Inhabited
structure Xe where
  Key:Int
  Time:Int
  Value:Int
  deriving DecidableEq,Inhabited
structure Xz where
  Start:Int
  End:Int
  deriving DecidableEq,Inhabited
structure X1n where
  Key:Int
  Span:Xz
  Values:(V2 Int)
  deriving DecidableEq,Inhabited
structure Xg where
  Kind:Int
  Record:Xe
  Time:Int
  Row:X1n
  deriving DecidableEq,Inhabited
structure GOp where
  Kind:Int
  N:Int
  deriving DecidableEq,Inhabited
structure X0g where
  Out:Int
  Message:Xg
  deriving DecidableEq,Inhabited
structure X0r where
  Count:Int
  Sum:Int
  Min:Int
  Max:Int
  deriving DecidableEq,Inhabited
structure X2 where
  Key:Int
  Span:Xz
  Values:(V2 X0r)
  deriving DecidableEq,Inhabited
structure X0e where
  Mark:Bool
  Time:Int
  Record:Xe
  deriving DecidableEq,Inhabited
structure X00 where
  Op:GOp
  Turn:Int
  Pending:(List X0g)
  Marks:(List Int)
  Store:(List X2)
  Events:(List X0e)
  Rows:(List X1n)
  Late:(List Xe)
  deriving DecidableEq,Inhabited
structure Xc where
  at_:Int
  size:Int
  depth:Int
  deriving DecidableEq,Inhabited
end Go.D
namespace Go.Av
open Go.D
def X6 (x:X05):AV:=.agg [(aI .u8 x.Kind),(aI .i64 x.N),(aI .i64 x.A),(aI .i64 x.B),(aI .i64 x.At)]
theorem Xcs (x:X05):Xa7 (X6 x):=(X2a (X2a (X2a (X2a (X2a Xgf)))))
theorem X2f (x:X05):X77 (X6 x):=fun _=>rfl
theorem Xcq (x:X05):Xa6 (X6 x):=X4b (Xcs x) rfl
instance X02b:Xcb X6:=⟨Xcs,fun _=>rfl,X2f⟩
def X3i (x:X0s):AV:=.agg [(aI .u8 x.Kind),(aI .i64 x.Size),(aI .i64 x.Every)]
theorem Xfs (x:X0s):Xa7 (X3i x):=(X2a (X2a (X2a Xgf)))
theorem X1f (x:X0s):X77 (X3i x):=fun _=>rfl
theorem X9u (x:X0s):Xa6 (X3i x):=X4b (Xfs x) rfl
instance X00i:Xcb X3i:=⟨Xfs,fun _=>rfl,X1f⟩
def Xy (o:Bool) (x:X07):AV:=.agg [(aI .u8 x.Agg),(AV.list o (List.map X6 x.Arg)),(AV.list o (List.map (aI .i64) x.Sources)),(aB x.Join),(AV.list o (List.map X6 x.Where)),(aI .u8 x.Window.Kind),(aI .i64 x.Window.Size),(aI .i64 x.Window.Every),(aB x.ByKey),(aI .u8 x.Late)]
theorem X03 (o:Bool) (x:X07):X77 (Xy o x):=fun _=>rfl
theorem X4j (o:Bool) (x:X07):Xa6 (Xy o x):=Xpi (fun _=>(X10 .sc (X10 .list (X10 .list (X10 .sc (X10 .list (X10 .sc (X10 .sc (X10 .sc (X10 .sc (X10 .sc X7b)))))))))))
theorem Xr2 {H:X0f} {o:Bool} {x:X07}:Cv false H (Xy o x) (Xy false x):=Xmd (Cvs.cons .sc (Cvs.cons (X5o (X2p Xcs _)) (Cvs.cons (X5o (X2p (fun _=>Xe9) _)) (Cvs.cons .sc (Cvs.cons (X5o (X2p Xcs _)) (Cvs.cons .sc (Cvs.cons .sc (Cvs.cons .sc (Cvs.cons .sc (Cvs.cons .sc Cvs.nil))))))))))
theorem Xr1 {H:X0f} {o:Bool} {x:X07}:Cv true H (Xy o x) (Xy o x):=Xmd (Cvs.cons .sc (Cvs.cons (.listS rfl) (Cvs.cons (.listS rfl) (Cvs.cons .sc (Cvs.cons (.listS rfl) (Cvs.cons .sc (Cvs.cons .sc (Cvs.cons .sc (Cvs.cons .sc (Cvs.cons .sc Cvs.nil))))))))))
instance X018:X009 Xy:=⟨Xr2,Xr1,fun _ _ _=>rfl,X4j,X03⟩
def Xx (x:Xe):AV:=.agg [(aI .i64 x.Key),(aI .i64 x.Time),(aI .i64 x.Value)]
theorem Xc5 (x:Xe):Xa7 (Xx x):=(X2a (X2a (X2a Xgf)))
theorem X1g (x:Xe):X77 (Xx x):=fun _=>rfl
theorem X9v (x:Xe):Xa6 (Xx x):=X4b (Xc5 x) rfl
instance X00j:Xcb Xx:=⟨Xc5,fun _=>rfl,X1g⟩
def Xw (x:Xz):AV:=.agg [(aI .i64 x.Start),(aI .i64 x.End)]
theorem Xjq (x:Xz):Xa7 (Xw x):=(X2a (X2a Xgf))
theorem X2d (x:Xz):X77 (Xw x):=fun _=>rfl
theorem Xco (x:Xz):Xa6 (Xw x):=X4b (Xjq x) rfl
instance X029:Xcb Xw:=⟨Xjq,fun _=>rfl,X2d⟩
def Xqz (x:(V2 Int)):AV:=.agg [(aI .i64 x.e0),(aI .i64 x.e1)]
def Xu (x:X1n):AV:=.agg [(aI .i64 x.Key),(aI .i64 x.Span.Start),(aI .i64 x.Span.End),(aI .i64 x.Values.e0),(aI .i64 x.Values.e1)]
theorem Xhy (x:X1n):Xa7 (Xu x):=(X2a (X2a (X2a (X2a (X2a Xgf)))))
theorem X31 (x:X1n):X77 (Xu x):=fun _=>rfl
theorem Xe5 (x:X1n):Xa6 (Xu x):=X4b (Xhy x) rfl
instance X04f:Xcb Xu:=⟨Xhy,fun _=>rfl,X31⟩
def Xo (x:Xg):AV:=.agg [(aI .u8 x.Kind),(aI .i64 x.Record.Key),(aI .i64 x.Record.Time),(aI .i64 x.Record.Value),(aI .i64 x.Time),(aI .i64 x.Row.Key),(aI .i64 x.Row.Span.Start),(aI .i64 x.Row.Span.End),(aI .i64 x.Row.Values.e0),(aI .i64 x.Row.Values.e1)]
theorem Xe8 (x:Xg):Xa7 (Xo x):=(X2a (X2a (X2a (X2a (X2a (X2a (X2a (X2a (X2a (X2a Xgf))))))))))
theorem X17 (x:Xg):X77 (Xo x):=fun _=>rfl
theorem X8e (x:Xg):Xa6 (Xo x):=X4b (Xe8 x) rfl
instance Xzk:Xcb Xo:=⟨Xe8,fun _=>rfl,X17⟩
def X01 (x:X0g):AV:=.agg [(aI .i64 x.Out),(aI .u8 x.Message.Kind),(aI .i64 x.Message.Record.Key),(aI .i64 x.Message.Record.Time),(aI .i64 x.Message.Record.Value),(aI .i64 x.Message.Time),(aI .i64 x.Message.Row.Key),(aI .i64 x.Message.Row.Span.Start),(aI .i64 x.Message.Row.Span.End),(aI .i64 x.Message.Row.Values.e0),(aI .i64 x.Message.Row.Values.e1)]
theorem Xcr (x:X0g):Xa7 (X01 x):=(X2a (X2a (X2a (X2a (X2a (X2a (X2a (X2a (X2a (X2a (X2a Xgf)))))))))))
theorem X2e (x:X0g):X77 (X01 x):=fun _=>rfl
theorem Xcp (x:X0g):Xa6 (X01 x):=X4b (Xcr x) rfl
instance X02a:Xcb X01:=⟨Xcr,fun _=>rfl,X2e⟩
def X0t (x:X0r):AV:=.agg [(aI .i64 x.Count),(aI .i64 x.Sum),(aI .i64 x.Min),(aI .i64 x.Max)]
theorem Xhz (x:X0r):Xa7 (X0t x):=(X2a (X2a (X2a (X2a Xgf))))
theorem X1y (x:X0r):X77 (X0t x):=fun _=>rfl
theorem Xb6 (x:X0r):Xa6 (X0t x):=X4b (Xhz x) rfl
instance X01u:Xcb X0t:=⟨Xhz,fun _=>rfl,X1y⟩
def X1 (x:X2):AV:=.agg [(aI .i64 x.Key),(aI .i64 x.Span.Start),(aI .i64 x.Span.End),(aI .i64 x.Values.e0.Count),(aI .i64 x.Values.e0.Sum),(aI .i64 x.Values.e0.Min),(aI .i64 x.Values.e0.Max),(aI .i64 x.Values.e1.Count),(aI .i64 x.Values.e1.Sum),(aI .i64 x.Values.e1.Min),(aI .i64 x.Values.e1.Max)]
theorem X58 (x:X2):Xa7 (X1 x):=(X2a (X2a (X2a (X2a (X2a (X2a (X2a (X2a (X2a (X2a (X2a Xgf)))))))))))
theorem X1x (x:X2):X77 (X1 x):=fun _=>rfl
theorem Xb5 (x:X2):Xa6 (X1 x):=X4b (X58 x) rfl
theorem X7p {m:Bool} {H:X0f} {x:X2}:Cv m H (X1 x) (X1 x):=Xzs (X58 x)
instance X01t:Xcb X1:=⟨X58,fun _=>rfl,X1x⟩
def X06 (x:X0e):AV:=.agg [(aB x.Mark),(aI .i64 x.Time),(aI .i64 x.Record.Key),(aI .i64 x.Record.Time),(aI .i64 x.Record.Value)]
theorem Xdf (x:X0e):Xa7 (X06 x):=(X2a (X2a (X2a (X2a (X2a Xgf)))))
theorem X1w (x:X0e):X77 (X06 x):=fun _=>rfl
theorem Xb4 (x:X0e):Xa6 (X06 x):=X4b (Xdf x) rfl
instance X01s:Xcb X06:=⟨Xdf,fun _=>rfl,X1w⟩
def Xj (o:Bool) (x:X00):AV:=.agg [(aI .u8 x.Op.Kind),(aI .i64 x.Op.N),(aI .i64 x.Turn),(AV.list o (List.map X01 x.Pending)),(AV.list o (List.map (aI .i64) x.Marks)),(AV.list o (List.map X1 x.Store)),(AV.list o (List.map X06 x.Events)),(AV.list o (List.map Xu x.Rows)),(AV.list o (List.map Xx x.Late))]
theorem X0c (o:Bool) (x:X00):X77 (Xj o x):=fun _=>rfl
theorem X5h (o:Bool) (x:X00):Xa6 (Xj o x):=Xpi (fun _=>(X10 .sc (X10 .sc (X10 .sc (X10 .list (X10 .list (X10 .list (X10 .list (X10 .list (X10 .list X7b))))))))))
theorem Xu0 {H:X0f} {o:Bool} {x:X00}:Cv false H (Xj o x) (Xj false x):=Xmd (Cvs.cons .sc (Cvs.cons .sc (Cvs.cons .sc (Cvs.cons (X5o (X2p Xcr _)) (Cvs.cons (X5o (X2p (fun _=>Xe9) _)) (Cvs.cons (X5o (X2p X58 _)) (Cvs.cons (X5o (X2p Xdf _)) (Cvs.cons (X5o (X2p Xhy _)) (Cvs.cons (X5o (X2p Xc5 _)) Cvs.nil)))))))))
theorem Xtz {H:X0f} {o:Bool} {x:X00}:Cv true H (Xj o x) (Xj o x):=Xmd (Cvs.cons .sc (Cvs.cons .sc (Cvs.cons .sc (Cvs.cons (.listS rfl) (Cvs.cons (.listS rfl) (Cvs.cons (.listS rfl) (Cvs.cons (.listS rfl) (Cvs.cons (.listS rfl) (Cvs.cons (.listS rfl) Cvs.nil)))))))))
instance X027:X009 Xj:=⟨Xu0,Xtz,fun _ _ _=>rfl,X5h,X0c⟩
def X7 (x:Xc):AV:=.agg [(aI .i64 x.at_),(aI .i64 x.size),(aI .i64 x.depth)]
theorem Xc4 (x:Xc):Xa7 (X7 x):=(X2a (X2a (X2a Xgf)))
theorem X0m (x:Xc):X77 (X7 x):=fun _=>rfl
theorem X71 (x:Xc):Xa6 (X7 x):=X4b (Xc4 x) rfl
instance Xws:Xcb X7:=⟨Xc4,fun _=>rfl,X0m⟩
def X8f (x:(V2 Bool)):AV:=.agg [(aB x.e0),(aB x.e1)]
theorem Xwq (x:(V2 Bool)):Xa7 (X8f x):=(X2a (X2a Xgf))
theorem Xgt (x:(V2 Bool)):Xa6 (X8f x):=X4b (Xwq x) rfl
theorem wkA {P:Prop} (h:P:=by
  first
    |exact trivial
    |rfl
    |exact .sc
    |exact .list
    |exact .nils
    |exact .ref (by decide)
    |exact .ptr (by decide)
    |exact Xsl
    |(refine AV.Ok.tup ?_;repeat' first|exact X7b|refine X10 ?_ ?_|exact .sc|exact .nils|exact .list|exact .ref (by decide)|exact .ptr (by decide))
    |(refine congrArg AV.tup ?_;repeat' first|rfl|(refine congrArg (fun z=>AV.ref _ 0 z) ?_;first|rfl|omega|(simp;done)|(simp;omega))|(show AV.ref _ 0 _=AV.ref _ 0 _;congr 1;first|omega|(simp;done))|(refine congrArg (fun z=>AV.sc (Value.int IntKind.i64 z)) ?_;first|rfl|omega|assumption|(simp;done))|refine congr (congrArg List.cons ?_) ?_|(show(_::_:List AV)=_::_;refine congr (congrArg List.cons ?_) ?_))
    |exact .fn (X10 (.ptr (by decide)) X7b)
    |exact .fn (X10 (.ptr (by decide)) (X10 (.ptr (by decide)) X7b))
    |exact .fn (X10 (.ptr (by decide)) (X10 (.ptr (by decide)) (X10 (.ptr (by decide)) X7b)))
    |assumption
    |exact(Xcq _ _).1
    |exact(X9u _ _).1
    |exact(X4j true _ _).1
    |exact(X4j false _ _).1
    |exact(X9v _ _).1
    |exact(Xco _ _).1
    |exact(free_V2i64 _ _).1
    |exact(Xe5 _ _).1
    |exact(X8e _ _).1
    |exact(free_GOp _ _).1
    |exact(Xcp _ _).1
    |exact(Xb6 _ _).1
    |exact(free_V2GAccum _ _).1
    |exact(Xb5 _ _).1
    |exact(Xb4 _ _).1
    |exact(X5h true _ _).1
    |exact(X5h false _ _).1
    |exact(X71 _ _).1
    |exact(Xgt _ _).1
    |(refine congrArg (fun z=>AV.sc (Value.int IntKind.i64 z)) ?_;first|rfl|omega|assumption|(simp;done)|(simp;omega))
    |(refine congrArg (fun z=>AV.sc (Value.bool z)) ?_;first|rfl|assumption|(simp;done))
    |(refine congrArg (fun z=>AV.ref _ 0 z) ?_;first|rfl|omega|(simp;done)|(simp;omega))
    |(show AV.ref _ 0 _=AV.ref _ 0 _;congr 1;first|(simp;done)|(simp;omega))
    |(simp[slE,opE,nbF,nbT,nbS,AV.ren,List.map_take,List.map_drop];done)
    |(simp[slE,opE,nbF,nbT,nbS,AV.ren,List.map_take,List.map_drop, *];done)
    |(simp[AV.ren, *];done)
    |exact wkSl rfl
    |exact okSl (by decide)
    |(refine aggV ?_;repeat' first|exact trivial|refine And.intro ?_ ?_|rfl|exact wkSl rfl|(refine refR rfl ?_;first|rfl|(simp;done)|(simp;omega)))
    |(refine aggOk ?_;repeat' first|exact X7b|refine X10 ?_ ?_|exact .sc|exact .list|exact .nils|exact .ref (by decide)|exact .ptr (by decide)|exact okSl (by decide)|exact okF|exact okG|exact Xsl)):P:=h
theorem wkR0 {P:Prop} (h:P:=by
  first
    |exact X2y Xcq _ _
    |exact X2x (Xcq _) _
    |exact free_cons Xcq _ _ _
    |exact X2y X9u _ _
    |exact X2x (X9u _) _
    |exact free_cons X9u _ _ _
    |exact X2y (X4j true) _ _
    |exact X2x ((X4j true) _) _
    |exact free_cons (X4j true) _ _ _
    |exact X2y (X4j false) _ _
    |exact X2x ((X4j false) _) _
    |exact free_cons (X4j false) _ _ _
    |exact X2y X9v _ _
    |exact X2x (X9v _) _
    |exact free_cons X9v _ _ _
    |exact X2y Xco _ _
    |exact X2x (Xco _) _
    |exact free_cons Xco _ _ _
    |exact X2y free_V2i64 _ _
    |exact X2x (free_V2i64 _) _
    |exact free_cons free_V2i64 _ _ _
    |exact X2y Xe5 _ _
    |exact X2x (Xe5 _) _
    |exact free_cons Xe5 _ _ _
    |exact X2y X8e _ _
    |exact X2x (X8e _) _
    |exact free_cons X8e _ _ _
    |exact X2y free_GOp _ _
    |exact X2x (free_GOp _) _
    |exact free_cons free_GOp _ _ _
    |exact X2y Xcp _ _
    |exact X2x (Xcp _) _
    |exact free_cons Xcp _ _ _
    |exact X2y Xb6 _ _
    |exact X2x (Xb6 _) _
    |exact free_cons Xb6 _ _ _
    |exact X2y free_V2GAccum _ _
    |exact X2x (free_V2GAccum _) _
    |exact free_cons free_V2GAccum _ _ _
    |exact X2y Xb5 _ _
    |exact X2x (Xb5 _) _
    |exact free_cons Xb5 _ _ _
    |exact X2y Xb4 _ _
    |exact X2x (Xb4 _) _
    |exact free_cons Xb4 _ _ _
    |exact X2y (X5h true) _ _
    |exact X2x ((X5h true) _) _
    |exact free_cons (X5h true) _ _ _
    |exact X2y (X5h false) _ _
    |exact X2x ((X5h false) _) _
    |exact free_cons (X5h false) _ _ _
    |exact X2y X71 _ _
    |exact X2x (X71 _) _
    |exact free_cons X71 _ _ _
    |exact X2y Xgt _ _
    |exact X2x (Xgt _) _
    |exact free_cons Xgt _ _ _
    |exact X2y (fun _=>Xtk) _ _
    |exact X2x ((fun _=>Xtk) _) _
    |exact free_cons (fun _=>Xtk) _ _ _
    |exact X2y (fun _=>Xhw) _ _
    |exact X2x ((fun _=>Xhw) _) _
    |exact free_cons (fun _=>Xhw) _ _ _
    |(refine⟨_,rfl,rfl,Eq.trans ?_ (X0 (X4 X2f _) _)⟩;rfl)
    |(refine⟨_,rfl,rfl,Eq.trans ?_ (X0 (still_cons X2f _ _) _)⟩;rfl)
    |(refine⟨_,rfl,rfl,Eq.trans ?_ (X0 (X4 X2f _) _)⟩;(simp;done))
    |(refine⟨_,rfl,rfl,Eq.trans ?_ (X0 (still_cons X2f _ _) _)⟩;(simp;done))
    |(refine⟨_,rfl,rfl,Eq.trans ?_ (X0 (X4 X2f _) _)⟩;(simp;rfl))
    |(refine⟨_,rfl,rfl,Eq.trans ?_ (X0 (still_cons X2f _ _) _)⟩;(simp;rfl))
    |(refine⟨_,rfl,rfl,Eq.trans ?_ (X0 (X4 X2f _) _)⟩;(exact Eq.symm (Eq.trans List.map_append rfl)))
    |(refine⟨_,rfl,rfl,Eq.trans ?_ (X0 (X4 X2f _) _)⟩;(rw[List.map_append];rfl))
    |(refine⟨_,rfl,rfl,Eq.trans ?_ (X0 (X4 X2f _) _)⟩;(rw[List.map_set];rfl))
    |(refine⟨_,rfl,rfl,Eq.trans ?_ (X0 (X4 X2f _) _)⟩;(simp[*];done))
    |(refine⟨_,rfl,rfl,Eq.trans ?_ (X0 (still_cons X2f _ _) _)⟩;(simp[*];done))
    |(refine⟨_,rfl,rfl,Eq.trans ?_ (X0 (X4 X2f _) _)⟩;(rw[List.map_replicate];rfl))
    |(refine⟨_,rfl,rfl,Eq.trans ?_ (X0 (X4 X1f _) _)⟩;rfl)
    |(refine⟨_,rfl,rfl,Eq.trans ?_ (X0 (still_cons X1f _ _) _)⟩;rfl)
    |(refine⟨_,rfl,rfl,Eq.trans ?_ (X0 (X4 X1f _) _)⟩;(simp;done))
    |(refine⟨_,rfl,rfl,Eq.trans ?_ (X0 (still_cons X1f _ _) _)⟩;(simp;done))
    |(refine⟨_,rfl,rfl,Eq.trans ?_ (X0 (X4 X1f _) _)⟩;(simp;rfl))
    |(refine⟨_,rfl,rfl,Eq.trans ?_ (X0 (still_cons X1f _ _) _)⟩;(simp;rfl))
    |(refine⟨_,rfl,rfl,Eq.trans ?_ (X0 (X4 X1f _) _)⟩;(exact Eq.symm (Eq.trans List.map_append rfl)))
    |(refine⟨_,rfl,rfl,Eq.trans ?_ (X0 (X4 X1f _) _)⟩;(rw[List.map_append];rfl))
    |(refine⟨_,rfl,rfl,Eq.trans ?_ (X0 (X4 X1f _) _)⟩;(rw[List.map_set];rfl))
    |(refine⟨_,rfl,rfl,Eq.trans ?_ (X0 (X4 X1f _) _)⟩;(simp[*];done))
    |(refine⟨_,rfl,rfl,Eq.trans ?_ (X0 (still_cons X1f _ _) _)⟩;(simp[*];done))
    |(refine⟨_,rfl,rfl,Eq.trans ?_ (X0 (X4 X1f _) _)⟩;(rw[List.map_replicate];rfl))
    |(refine⟨_,rfl,rfl,Eq.trans ?_ (X0 (X4 (X03 true) _) _)⟩;rfl)
    |(refine⟨_,rfl,rfl,Eq.trans ?_ (X0 (still_cons (X03 true) _ _) _)⟩;rfl)
    |(refine⟨_,rfl,rfl,Eq.trans ?_ (X0 (X4 (X03 true) _) _)⟩;(simp;done))
    |(refine⟨_,rfl,rfl,Eq.trans ?_ (X0 (still_cons (X03 true) _ _) _)⟩;(simp;done))
    |(refine⟨_,rfl,rfl,Eq.trans ?_ (X0 (X4 (X03 true) _) _)⟩;(simp;rfl))
    |(refine⟨_,rfl,rfl,Eq.trans ?_ (X0 (still_cons (X03 true) _ _) _)⟩;(simp;rfl))
    |(refine⟨_,rfl,rfl,Eq.trans ?_ (X0 (X4 (X03 true) _) _)⟩;(exact Eq.symm (Eq.trans List.map_append rfl)))
    |(refine⟨_,rfl,rfl,Eq.trans ?_ (X0 (X4 (X03 true) _) _)⟩;(rw[List.map_append];rfl))
    |(refine⟨_,rfl,rfl,Eq.trans ?_ (X0 (X4 (X03 true) _) _)⟩;(rw[List.map_set];rfl))
    |(refine⟨_,rfl,rfl,Eq.trans ?_ (X0 (X4 (X03 true) _) _)⟩;(simp[*];done))
    |(refine⟨_,rfl,rfl,Eq.trans ?_ (X0 (still_cons (X03 true) _ _) _)⟩;(simp[*];done))
    |(refine⟨_,rfl,rfl,Eq.trans ?_ (X0 (X4 (X03 true) _) _)⟩;(rw[List.map_replicate];rfl))
    |(refine⟨_,rfl,rfl,Eq.trans ?_ (X0 (X4 (X03 false) _) _)⟩;rfl)
    |(refine⟨_,rfl,rfl,Eq.trans ?_ (X0 (still_cons (X03 false) _ _) _)⟩;rfl)
    |(refine⟨_,rfl,rfl,Eq.trans ?_ (X0 (X4 (X03 false) _) _)⟩;(simp;done))
    |(refine⟨_,rfl,rfl,Eq.trans ?_ (X0 (still_cons (X03 false) _ _) _)⟩;(simp;done))
    |(refine⟨_,rfl,rfl,Eq.trans ?_ (X0 (X4 (X03 false) _) _)⟩;(simp;rfl))
    |(refine⟨_,rfl,rfl,Eq.trans ?_ (X0 (still_cons (X03 false) _ _) _)⟩;(simp;rfl))
    |(refine⟨_,rfl,rfl,Eq.trans ?_ (X0 (X4 (X03 false) _) _)⟩;(exact Eq.symm (Eq.trans List.map_append rfl)))
    |(refine⟨_,rfl,rfl,Eq.trans ?_ (X0 (X4 (X03 false) _) _)⟩;(rw[List.map_append];rfl))
    |(refine⟨_,rfl,rfl,Eq.trans ?_ (X0 (X4 (X03 false) _) _)⟩;(rw[List.map_set];rfl))
    |(refine⟨_,rfl,rfl,Eq.trans ?_ (X0 (X4 (X03 false) _) _)⟩;(simp[*];done))
    |(refine⟨_,rfl,rfl,Eq.trans ?_ (X0 (still_cons (X03 false) _ _) _)⟩;(simp[*];done))
    |(refine⟨_,rfl,rfl,Eq.trans ?_ (X0 (X4 (X03 false) _) _)⟩;(rw[List.map_replicate];rfl))
    |(refine⟨_,rfl,rfl,Eq.trans ?_ (X0 (X4 X1g _) _)⟩;rfl)
    |(refine⟨_,rfl,rfl,Eq.trans ?_ (X0 (still_cons X1g _ _) _)⟩;rfl)
    |(refine⟨_,rfl,rfl,Eq.trans ?_ (X0 (X4 X1g _) _)⟩;(simp;done))
    |(refine⟨_,rfl,rfl,Eq.trans ?_ (X0 (still_cons X1g _ _) _)⟩;(simp;done))
    |(refine⟨_,rfl,rfl,Eq.trans ?_ (X0 (X4 X1g _) _)⟩;(simp;rfl))
    |(refine⟨_,rfl,rfl,Eq.trans ?_ (X0 (still_cons X1g _ _) _)⟩;(simp;rfl))
    |(refine⟨_,rfl,rfl,Eq.trans ?_ (X0 (X4 X1g _) _)⟩;(exact Eq.symm (Eq.trans List.map_append rfl)))
    |(refine⟨_,rfl,rfl,Eq.trans ?_ (X0 (X4 X1g _) _)⟩;(rw[List.map_append];rfl))
    |(refine⟨_,rfl,rfl,Eq.trans ?_ (X0 (X4 X1g _) _)⟩;(rw[List.map_set];rfl))):P:=h
theorem wkR1 {P:Prop} (h:P:=by
  first
    |(refine⟨_,rfl,rfl,Eq.trans ?_ (X0 (X4 X1g _) _)⟩;(simp[*];done))
    |(refine⟨_,rfl,rfl,Eq.trans ?_ (X0 (still_cons X1g _ _) _)⟩;(simp[*];done))
    |(refine⟨_,rfl,rfl,Eq.trans ?_ (X0 (X4 X1g _) _)⟩;(rw[List.map_replicate];rfl))
    |(refine⟨_,rfl,rfl,Eq.trans ?_ (X0 (X4 X2d _) _)⟩;rfl)
    |(refine⟨_,rfl,rfl,Eq.trans ?_ (X0 (still_cons X2d _ _) _)⟩;rfl)
    |(refine⟨_,rfl,rfl,Eq.trans ?_ (X0 (X4 X2d _) _)⟩;(simp;done))
    |(refine⟨_,rfl,rfl,Eq.trans ?_ (X0 (still_cons X2d _ _) _)⟩;(simp;done))
    |(refine⟨_,rfl,rfl,Eq.trans ?_ (X0 (X4 X2d _) _)⟩;(simp;rfl))
    |(refine⟨_,rfl,rfl,Eq.trans ?_ (X0 (still_cons X2d _ _) _)⟩;(simp;rfl))
    |(refine⟨_,rfl,rfl,Eq.trans ?_ (X0 (X4 X2d _) _)⟩;(exact Eq.symm (Eq.trans List.map_append rfl)))
    |(refine⟨_,rfl,rfl,Eq.trans ?_ (X0 (X4 X2d _) _)⟩;(rw[List.map_append];rfl))
    |(refine⟨_,rfl,rfl,Eq.trans ?_ (X0 (X4 X2d _) _)⟩;(rw[List.map_set];rfl))
    |(refine⟨_,rfl,rfl,Eq.trans ?_ (X0 (X4 X2d _) _)⟩;(simp[*];done))
    |(refine⟨_,rfl,rfl,Eq.trans ?_ (X0 (still_cons X2d _ _) _)⟩;(simp[*];done))
    |(refine⟨_,rfl,rfl,Eq.trans ?_ (X0 (X4 X2d _) _)⟩;(rw[List.map_replicate];rfl))
    |(refine⟨_,rfl,rfl,Eq.trans ?_ (X0 (X4 still_V2i64 _) _)⟩;rfl)
    |(refine⟨_,rfl,rfl,Eq.trans ?_ (X0 (still_cons still_V2i64 _ _) _)⟩;rfl)
    |(refine⟨_,rfl,rfl,Eq.trans ?_ (X0 (X4 still_V2i64 _) _)⟩;(simp;done))
    |(refine⟨_,rfl,rfl,Eq.trans ?_ (X0 (still_cons still_V2i64 _ _) _)⟩;(simp;done))
    |(refine⟨_,rfl,rfl,Eq.trans ?_ (X0 (X4 still_V2i64 _) _)⟩;(simp;rfl))
    |(refine⟨_,rfl,rfl,Eq.trans ?_ (X0 (still_cons still_V2i64 _ _) _)⟩;(simp;rfl))
    |(refine⟨_,rfl,rfl,Eq.trans ?_ (X0 (X4 still_V2i64 _) _)⟩;(exact Eq.symm (Eq.trans List.map_append rfl)))
    |(refine⟨_,rfl,rfl,Eq.trans ?_ (X0 (X4 still_V2i64 _) _)⟩;(rw[List.map_append];rfl))
    |(refine⟨_,rfl,rfl,Eq.trans ?_ (X0 (X4 still_V2i64 _) _)⟩;(rw[List.map_set];rfl))
    |(refine⟨_,rfl,rfl,Eq.trans ?_ (X0 (X4 still_V2i64 _) _)⟩;(simp[*];done))
    |(refine⟨_,rfl,rfl,Eq.trans ?_ (X0 (still_cons still_V2i64 _ _) _)⟩;(simp[*];done))
    |(refine⟨_,rfl,rfl,Eq.trans ?_ (X0 (X4 still_V2i64 _) _)⟩;(rw[List.map_replicate];rfl))
    |(refine⟨_,rfl,rfl,Eq.trans ?_ (X0 (X4 X31 _) _)⟩;rfl)
    |(refine⟨_,rfl,rfl,Eq.trans ?_ (X0 (still_cons X31 _ _) _)⟩;rfl)
    |(refine⟨_,rfl,rfl,Eq.trans ?_ (X0 (X4 X31 _) _)⟩;(simp;done))
    |(refine⟨_,rfl,rfl,Eq.trans ?_ (X0 (still_cons X31 _ _) _)⟩;(simp;done))
    |(refine⟨_,rfl,rfl,Eq.trans ?_ (X0 (X4 X31 _) _)⟩;(simp;rfl))
    |(refine⟨_,rfl,rfl,Eq.trans ?_ (X0 (still_cons X31 _ _) _)⟩;(simp;rfl))
    |(refine⟨_,rfl,rfl,Eq.trans ?_ (X0 (X4 X31 _) _)⟩;(exact Eq.symm (Eq.trans List.map_append rfl)))
    |(refine⟨_,rfl,rfl,Eq.trans ?_ (X0 (X4 X31 _) _)⟩;(rw[List.map_append];rfl))
    |(refine⟨_,rfl,rfl,Eq.trans ?_ (X0 (X4 X31 _) _)⟩;(rw[List.map_set];rfl))
    |(refine⟨_,rfl,rfl,Eq.trans ?_ (X0 (X4 X31 _) _)⟩;(simp[*];done))
    |(refine⟨_,rfl,rfl,Eq.trans ?_ (X0 (still_cons X31 _ _) _)⟩;(simp[*];done))
    |(refine⟨_,rfl,rfl,Eq.trans ?_ (X0 (X4 X31 _) _)⟩;(rw[List.map_replicate];rfl))
    |(refine⟨_,rfl,rfl,Eq.trans ?_ (X0 (X4 X17 _) _)⟩;rfl)
    |(refine⟨_,rfl,rfl,Eq.trans ?_ (X0 (still_cons X17 _ _) _)⟩;rfl)
    |(refine⟨_,rfl,rfl,Eq.trans ?_ (X0 (X4 X17 _) _)⟩;(simp;done))
    |(refine⟨_,rfl,rfl,Eq.trans ?_ (X0 (still_cons X17 _ _) _)⟩;(simp;done))
    |(refine⟨_,rfl,rfl,Eq.trans ?_ (X0 (X4 X17 _) _)⟩;(simp;rfl))
    |(refine⟨_,rfl,rfl,Eq.trans ?_ (X0 (still_cons X17 _ _) _)⟩;(simp;rfl))
    |(refine⟨_,rfl,rfl,Eq.trans ?_ (X0 (X4 X17 _) _)⟩;(exact Eq.symm (Eq.trans List.map_append rfl)))
    |(refine⟨_,rfl,rfl,Eq.trans ?_ (X0 (X4 X17 _) _)⟩;(rw[List.map_append];rfl))
    |(refine⟨_,rfl,rfl,Eq.trans ?_ (X0 (X4 X17 _) _)⟩;(rw[List.map_set];rfl))
    |(refine⟨_,rfl,rfl,Eq.trans ?_ (X0 (X4 X17 _) _)⟩;(simp[*];done))
    |(refine⟨_,rfl,rfl,Eq.trans ?_ (X0 (still_cons X17 _ _) _)⟩;(simp[*];done))
    |(refine⟨_,rfl,rfl,Eq.trans ?_ (X0 (X4 X17 _) _)⟩;(rw[List.map_replicate];rfl))
    |(refine⟨_,rfl,rfl,Eq.trans ?_ (X0 (X4 still_GOp _) _)⟩;rfl)
    |(refine⟨_,rfl,rfl,Eq.trans ?_ (X0 (still_cons still_GOp _ _) _)⟩;rfl)
    |(refine⟨_,rfl,rfl,Eq.trans ?_ (X0 (X4 still_GOp _) _)⟩;(simp;done))
    |(refine⟨_,rfl,rfl,Eq.trans ?_ (X0 (still_cons still_GOp _ _) _)⟩;(simp;done))
    |(refine⟨_,rfl,rfl,Eq.trans ?_ (X0 (X4 still_GOp _) _)⟩;(simp;rfl))
    |(refine⟨_,rfl,rfl,Eq.trans ?_ (X0 (still_cons still_GOp _ _) _)⟩;(simp;rfl))
    |(refine⟨_,rfl,rfl,Eq.trans ?_ (X0 (X4 still_GOp _) _)⟩;(exact Eq.symm (Eq.trans List.map_append rfl)))
    |(refine⟨_,rfl,rfl,Eq.trans ?_ (X0 (X4 still_GOp _) _)⟩;(rw[List.map_append];rfl))
    |(refine⟨_,rfl,rfl,Eq.trans ?_ (X0 (X4 still_GOp _) _)⟩;(rw[List.map_set];rfl))
    |(refine⟨_,rfl,rfl,Eq.trans ?_ (X0 (X4 still_GOp _) _)⟩;(simp[*];done))
    |(refine⟨_,rfl,rfl,Eq.trans ?_ (X0 (still_cons still_GOp _ _) _)⟩;(simp[*];done))
    |(refine⟨_,rfl,rfl,Eq.trans ?_ (X0 (X4 still_GOp _) _)⟩;(rw[List.map_replicate];rfl))
    |(refine⟨_,rfl,rfl,Eq.trans ?_ (X0 (X4 X2e _) _)⟩;rfl)
    |(refine⟨_,rfl,rfl,Eq.trans ?_ (X0 (still_cons X2e _ _) _)⟩;rfl)
    |(refine⟨_,rfl,rfl,Eq.trans ?_ (X0 (X4 X2e _) _)⟩;(simp;done))
    |(refine⟨_,rfl,rfl,Eq.trans ?_ (X0 (still_cons X2e _ _) _)⟩;(simp;done))
    |(refine⟨_,rfl,rfl,Eq.trans ?_ (X0 (X4 X2e _) _)⟩;(simp;rfl))
    |(refine⟨_,rfl,rfl,Eq.trans ?_ (X0 (still_cons X2e _ _) _)⟩;(simp;rfl))
    |(refine⟨_,rfl,rfl,Eq.trans ?_ (X0 (X4 X2e _) _)⟩;(exact Eq.symm (Eq.trans List.map_append rfl)))
    |(refine⟨_,rfl,rfl,Eq.trans ?_ (X0 (X4 X2e _) _)⟩;(rw[List.map_append];rfl))
    |(refine⟨_,rfl,rfl,Eq.trans ?_ (X0 (X4 X2e _) _)⟩;(rw[List.map_set];rfl))
    |(refine⟨_,rfl,rfl,Eq.trans ?_ (X0 (X4 X2e _) _)⟩;(simp[*];done))
    |(refine⟨_,rfl,rfl,Eq.trans ?_ (X0 (still_cons X2e _ _) _)⟩;(simp[*];done))
    |(refine⟨_,rfl,rfl,Eq.trans ?_ (X0 (X4 X2e _) _)⟩;(rw[List.map_replicate];rfl))
    |(refine⟨_,rfl,rfl,Eq.trans ?_ (X0 (X4 X1y _) _)⟩;rfl)
    |(refine⟨_,rfl,rfl,Eq.trans ?_ (X0 (still_cons X1y _ _) _)⟩;rfl)
    |(refine⟨_,rfl,rfl,Eq.trans ?_ (X0 (X4 X1y _) _)⟩;(simp;done))
    |(refine⟨_,rfl,rfl,Eq.trans ?_ (X0 (still_cons X1y _ _) _)⟩;(simp;done))
    |(refine⟨_,rfl,rfl,Eq.trans ?_ (X0 (X4 X1y _) _)⟩;(simp;rfl))
    |(refine⟨_,rfl,rfl,Eq.trans ?_ (X0 (still_cons X1y _ _) _)⟩;(simp;rfl))
    |(refine⟨_,rfl,rfl,Eq.trans ?_ (X0 (X4 X1y _) _)⟩;(exact Eq.symm (Eq.trans List.map_append rfl)))
    |(refine⟨_,rfl,rfl,Eq.trans ?_ (X0 (X4 X1y _) _)⟩;(rw[List.map_append];rfl))
    |(refine⟨_,rfl,rfl,Eq.trans ?_ (X0 (X4 X1y _) _)⟩;(rw[List.map_set];rfl))
    |(refine⟨_,rfl,rfl,Eq.trans ?_ (X0 (X4 X1y _) _)⟩;(simp[*];done))
    |(refine⟨_,rfl,rfl,Eq.trans ?_ (X0 (still_cons X1y _ _) _)⟩;(simp[*];done))
    |(refine⟨_,rfl,rfl,Eq.trans ?_ (X0 (X4 X1y _) _)⟩;(rw[List.map_replicate];rfl))
    |(refine⟨_,rfl,rfl,Eq.trans ?_ (X0 (X4 still_V2GAccum _) _)⟩;rfl)
    |(refine⟨_,rfl,rfl,Eq.trans ?_ (X0 (still_cons still_V2GAccum _ _) _)⟩;rfl)
    |(refine⟨_,rfl,rfl,Eq.trans ?_ (X0 (X4 still_V2GAccum _) _)⟩;(simp;done))
    |(refine⟨_,rfl,rfl,Eq.trans ?_ (X0 (still_cons still_V2GAccum _ _) _)⟩;(simp;done))
    |(refine⟨_,rfl,rfl,Eq.trans ?_ (X0 (X4 still_V2GAccum _) _)⟩;(simp;rfl))
    |(refine⟨_,rfl,rfl,Eq.trans ?_ (X0 (still_cons still_V2GAccum _ _) _)⟩;(simp;rfl))
    |(refine⟨_,rfl,rfl,Eq.trans ?_ (X0 (X4 still_V2GAccum _) _)⟩;(exact Eq.symm (Eq.trans List.map_append rfl)))
    |(refine⟨_,rfl,rfl,Eq.trans ?_ (X0 (X4 still_V2GAccum _) _)⟩;(rw[List.map_append];rfl))
    |(refine⟨_,rfl,rfl,Eq.trans ?_ (X0 (X4 still_V2GAccum _) _)⟩;(rw[List.map_set];rfl))
    |(refine⟨_,rfl,rfl,Eq.trans ?_ (X0 (X4 still_V2GAccum _) _)⟩;(simp[*];done))
    |(refine⟨_,rfl,rfl,Eq.trans ?_ (X0 (still_cons still_V2GAccum _ _) _)⟩;(simp[*];done))
    |(refine⟨_,rfl,rfl,Eq.trans ?_ (X0 (X4 still_V2GAccum _) _)⟩;(rw[List.map_replicate];rfl))
    |(refine⟨_,rfl,rfl,Eq.trans ?_ (X0 (X4 X1x _) _)⟩;rfl)
    |(refine⟨_,rfl,rfl,Eq.trans ?_ (X0 (still_cons X1x _ _) _)⟩;rfl)
    |(refine⟨_,rfl,rfl,Eq.trans ?_ (X0 (X4 X1x _) _)⟩;(simp;done))
    |(refine⟨_,rfl,rfl,Eq.trans ?_ (X0 (still_cons X1x _ _) _)⟩;(simp;done))
    |(refine⟨_,rfl,rfl,Eq.trans ?_ (X0 (X4 X1x _) _)⟩;(simp;rfl))
    |(refine⟨_,rfl,rfl,Eq.trans ?_ (X0 (still_cons X1x _ _) _)⟩;(simp;rfl))
    |(refine⟨_,rfl,rfl,Eq.trans ?_ (X0 (X4 X1x _) _)⟩;(exact Eq.symm (Eq.trans List.map_append rfl)))
    |(refine⟨_,rfl,rfl,Eq.trans ?_ (X0 (X4 X1x _) _)⟩;(rw[List.map_append];rfl))
    |(refine⟨_,rfl,rfl,Eq.trans ?_ (X0 (X4 X1x _) _)⟩;(rw[List.map_set];rfl))
    |(refine⟨_,rfl,rfl,Eq.trans ?_ (X0 (X4 X1x _) _)⟩;(simp[*];done))
    |(refine⟨_,rfl,rfl,Eq.trans ?_ (X0 (still_cons X1x _ _) _)⟩;(simp[*];done))
    |(refine⟨_,rfl,rfl,Eq.trans ?_ (X0 (X4 X1x _) _)⟩;(rw[List.map_replicate];rfl))
    |(refine⟨_,rfl,rfl,Eq.trans ?_ (X0 (X4 X1w _) _)⟩;rfl)
    |(refine⟨_,rfl,rfl,Eq.trans ?_ (X0 (still_cons X1w _ _) _)⟩;rfl)
    |(refine⟨_,rfl,rfl,Eq.trans ?_ (X0 (X4 X1w _) _)⟩;(simp;done))
    |(refine⟨_,rfl,rfl,Eq.trans ?_ (X0 (still_cons X1w _ _) _)⟩;(simp;done))
    |(refine⟨_,rfl,rfl,Eq.trans ?_ (X0 (X4 X1w _) _)⟩;(simp;rfl))
    |(refine⟨_,rfl,rfl,Eq.trans ?_ (X0 (still_cons X1w _ _) _)⟩;(simp;rfl))
    |(refine⟨_,rfl,rfl,Eq.trans ?_ (X0 (X4 X1w _) _)⟩;(exact Eq.symm (Eq.trans List.map_append rfl)))
    |(refine⟨_,rfl,rfl,Eq.trans ?_ (X0 (X4 X1w _) _)⟩;(rw[List.map_append];rfl))
    |(refine⟨_,rfl,rfl,Eq.trans ?_ (X0 (X4 X1w _) _)⟩;(rw[List.map_set];rfl))):P:=h
theorem wkR2 {P:Prop} (h:P:=by
  first
    |(refine⟨_,rfl,rfl,Eq.trans ?_ (X0 (X4 X1w _) _)⟩;(simp[*];done))
    |(refine⟨_,rfl,rfl,Eq.trans ?_ (X0 (still_cons X1w _ _) _)⟩;(simp[*];done))
    |(refine⟨_,rfl,rfl,Eq.trans ?_ (X0 (X4 X1w _) _)⟩;(rw[List.map_replicate];rfl))
    |(refine⟨_,rfl,rfl,Eq.trans ?_ (X0 (X4 (X0c true) _) _)⟩;rfl)
    |(refine⟨_,rfl,rfl,Eq.trans ?_ (X0 (still_cons (X0c true) _ _) _)⟩;rfl)
    |(refine⟨_,rfl,rfl,Eq.trans ?_ (X0 (X4 (X0c true) _) _)⟩;(simp;done))
    |(refine⟨_,rfl,rfl,Eq.trans ?_ (X0 (still_cons (X0c true) _ _) _)⟩;(simp;done))
    |(refine⟨_,rfl,rfl,Eq.trans ?_ (X0 (X4 (X0c true) _) _)⟩;(simp;rfl))
    |(refine⟨_,rfl,rfl,Eq.trans ?_ (X0 (still_cons (X0c true) _ _) _)⟩;(simp;rfl))
    |(refine⟨_,rfl,rfl,Eq.trans ?_ (X0 (X4 (X0c true) _) _)⟩;(exact Eq.symm (Eq.trans List.map_append rfl)))
    |(refine⟨_,rfl,rfl,Eq.trans ?_ (X0 (X4 (X0c true) _) _)⟩;(rw[List.map_append];rfl))
    |(refine⟨_,rfl,rfl,Eq.trans ?_ (X0 (X4 (X0c true) _) _)⟩;(rw[List.map_set];rfl))
    |(refine⟨_,rfl,rfl,Eq.trans ?_ (X0 (X4 (X0c true) _) _)⟩;(simp[*];done))
    |(refine⟨_,rfl,rfl,Eq.trans ?_ (X0 (still_cons (X0c true) _ _) _)⟩;(simp[*];done))
    |(refine⟨_,rfl,rfl,Eq.trans ?_ (X0 (X4 (X0c true) _) _)⟩;(rw[List.map_replicate];rfl))
    |(refine⟨_,rfl,rfl,Eq.trans ?_ (X0 (X4 (X0c false) _) _)⟩;rfl)
    |(refine⟨_,rfl,rfl,Eq.trans ?_ (X0 (still_cons (X0c false) _ _) _)⟩;rfl)
    |(refine⟨_,rfl,rfl,Eq.trans ?_ (X0 (X4 (X0c false) _) _)⟩;(simp;done))
    |(refine⟨_,rfl,rfl,Eq.trans ?_ (X0 (still_cons (X0c false) _ _) _)⟩;(simp;done))
    |(refine⟨_,rfl,rfl,Eq.trans ?_ (X0 (X4 (X0c false) _) _)⟩;(simp;rfl))
    |(refine⟨_,rfl,rfl,Eq.trans ?_ (X0 (still_cons (X0c false) _ _) _)⟩;(simp;rfl))
    |(refine⟨_,rfl,rfl,Eq.trans ?_ (X0 (X4 (X0c false) _) _)⟩;(exact Eq.symm (Eq.trans List.map_append rfl)))
    |(refine⟨_,rfl,rfl,Eq.trans ?_ (X0 (X4 (X0c false) _) _)⟩;(rw[List.map_append];rfl))
    |(refine⟨_,rfl,rfl,Eq.trans ?_ (X0 (X4 (X0c false) _) _)⟩;(rw[List.map_set];rfl))
    |(refine⟨_,rfl,rfl,Eq.trans ?_ (X0 (X4 (X0c false) _) _)⟩;(simp[*];done))
    |(refine⟨_,rfl,rfl,Eq.trans ?_ (X0 (still_cons (X0c false) _ _) _)⟩;(simp[*];done))
    |(refine⟨_,rfl,rfl,Eq.trans ?_ (X0 (X4 (X0c false) _) _)⟩;(rw[List.map_replicate];rfl))
    |(refine⟨_,rfl,rfl,Eq.trans ?_ (X0 (X4 X0m _) _)⟩;rfl)
    |(refine⟨_,rfl,rfl,Eq.trans ?_ (X0 (still_cons X0m _ _) _)⟩;rfl)
    |(refine⟨_,rfl,rfl,Eq.trans ?_ (X0 (X4 X0m _) _)⟩;(simp;done))
    |(refine⟨_,rfl,rfl,Eq.trans ?_ (X0 (still_cons X0m _ _) _)⟩;(simp;done))
    |(refine⟨_,rfl,rfl,Eq.trans ?_ (X0 (X4 X0m _) _)⟩;(simp;rfl))
    |(refine⟨_,rfl,rfl,Eq.trans ?_ (X0 (still_cons X0m _ _) _)⟩;(simp;rfl))
    |(refine⟨_,rfl,rfl,Eq.trans ?_ (X0 (X4 X0m _) _)⟩;(exact Eq.symm (Eq.trans List.map_append rfl)))
    |(refine⟨_,rfl,rfl,Eq.trans ?_ (X0 (X4 X0m _) _)⟩;(rw[List.map_append];rfl))
    |(refine⟨_,rfl,rfl,Eq.trans ?_ (X0 (X4 X0m _) _)⟩;(rw[List.map_set];rfl))
    |(refine⟨_,rfl,rfl,Eq.trans ?_ (X0 (X4 X0m _) _)⟩;(simp[*];done))
    |(refine⟨_,rfl,rfl,Eq.trans ?_ (X0 (still_cons X0m _ _) _)⟩;(simp[*];done))
    |(refine⟨_,rfl,rfl,Eq.trans ?_ (X0 (X4 X0m _) _)⟩;(rw[List.map_replicate];rfl))
    |(refine⟨_,rfl,rfl,Eq.trans ?_ (X0 (X4 still_V2b _) _)⟩;rfl)
    |(refine⟨_,rfl,rfl,Eq.trans ?_ (X0 (still_cons still_V2b _ _) _)⟩;rfl)
    |(refine⟨_,rfl,rfl,Eq.trans ?_ (X0 (X4 still_V2b _) _)⟩;(simp;done))
    |(refine⟨_,rfl,rfl,Eq.trans ?_ (X0 (still_cons still_V2b _ _) _)⟩;(simp;done))
    |(refine⟨_,rfl,rfl,Eq.trans ?_ (X0 (X4 still_V2b _) _)⟩;(simp;rfl))
    |(refine⟨_,rfl,rfl,Eq.trans ?_ (X0 (still_cons still_V2b _ _) _)⟩;(simp;rfl))
    |(refine⟨_,rfl,rfl,Eq.trans ?_ (X0 (X4 still_V2b _) _)⟩;(exact Eq.symm (Eq.trans List.map_append rfl)))
    |(refine⟨_,rfl,rfl,Eq.trans ?_ (X0 (X4 still_V2b _) _)⟩;(rw[List.map_append];rfl))
    |(refine⟨_,rfl,rfl,Eq.trans ?_ (X0 (X4 still_V2b _) _)⟩;(rw[List.map_set];rfl))
    |(refine⟨_,rfl,rfl,Eq.trans ?_ (X0 (X4 still_V2b _) _)⟩;(simp[*];done))
    |(refine⟨_,rfl,rfl,Eq.trans ?_ (X0 (still_cons still_V2b _ _) _)⟩;(simp[*];done))
    |(refine⟨_,rfl,rfl,Eq.trans ?_ (X0 (X4 still_V2b _) _)⟩;(rw[List.map_replicate];rfl))
    |(refine⟨_,rfl,rfl,Eq.trans ?_ (X0 (X4 (fun _=>X67) _) _)⟩;rfl)
    |(refine⟨_,rfl,rfl,Eq.trans ?_ (X0 (still_cons (fun _=>X67) _ _) _)⟩;rfl)
    |(refine⟨_,rfl,rfl,Eq.trans ?_ (X0 (X4 (fun _=>X67) _) _)⟩;(simp;done))
    |(refine⟨_,rfl,rfl,Eq.trans ?_ (X0 (still_cons (fun _=>X67) _ _) _)⟩;(simp;done))
    |(refine⟨_,rfl,rfl,Eq.trans ?_ (X0 (X4 (fun _=>X67) _) _)⟩;(simp;rfl))
    |(refine⟨_,rfl,rfl,Eq.trans ?_ (X0 (still_cons (fun _=>X67) _ _) _)⟩;(simp;rfl))
    |(refine⟨_,rfl,rfl,Eq.trans ?_ (X0 (X4 (fun _=>X67) _) _)⟩;(exact Eq.symm (Eq.trans List.map_append rfl)))
    |(refine⟨_,rfl,rfl,Eq.trans ?_ (X0 (X4 (fun _=>X67) _) _)⟩;(rw[List.map_append];rfl))
    |(refine⟨_,rfl,rfl,Eq.trans ?_ (X0 (X4 (fun _=>X67) _) _)⟩;(rw[List.map_set];rfl))
    |(refine⟨_,rfl,rfl,Eq.trans ?_ (X0 (X4 (fun _=>X67) _) _)⟩;(simp[*];done))
    |(refine⟨_,rfl,rfl,Eq.trans ?_ (X0 (still_cons (fun _=>X67) _ _) _)⟩;(simp[*];done))
    |(refine⟨_,rfl,rfl,Eq.trans ?_ (X0 (X4 (fun _=>X67) _) _)⟩;(rw[List.map_replicate];rfl))
    |(refine⟨_,rfl,rfl,Eq.trans ?_ (X0 (X4 (fun _=>still_encl) _) _)⟩;rfl)
    |(refine⟨_,rfl,rfl,Eq.trans ?_ (X0 (still_cons (fun _=>still_encl) _ _) _)⟩;rfl)
    |(refine⟨_,rfl,rfl,Eq.trans ?_ (X0 (X4 (fun _=>still_encl) _) _)⟩;(simp;done))
    |(refine⟨_,rfl,rfl,Eq.trans ?_ (X0 (still_cons (fun _=>still_encl) _ _) _)⟩;(simp;done))
    |(refine⟨_,rfl,rfl,Eq.trans ?_ (X0 (X4 (fun _=>still_encl) _) _)⟩;(simp;rfl))
    |(refine⟨_,rfl,rfl,Eq.trans ?_ (X0 (still_cons (fun _=>still_encl) _ _) _)⟩;(simp;rfl))
    |(refine⟨_,rfl,rfl,Eq.trans ?_ (X0 (X4 (fun _=>still_encl) _) _)⟩;(exact Eq.symm (Eq.trans List.map_append rfl)))
    |(refine⟨_,rfl,rfl,Eq.trans ?_ (X0 (X4 (fun _=>still_encl) _) _)⟩;(rw[List.map_append];rfl))
    |(refine⟨_,rfl,rfl,Eq.trans ?_ (X0 (X4 (fun _=>still_encl) _) _)⟩;(rw[List.map_set];rfl))
    |(refine⟨_,rfl,rfl,Eq.trans ?_ (X0 (X4 (fun _=>still_encl) _) _)⟩;(simp[*];done))
    |(refine⟨_,rfl,rfl,Eq.trans ?_ (X0 (still_cons (fun _=>still_encl) _ _) _)⟩;(simp[*];done))
    |(refine⟨_,rfl,rfl,Eq.trans ?_ (X0 (X4 (fun _=>still_encl) _) _)⟩;(rw[List.map_replicate];rfl))
    |(refine⟨_,rfl,rfl,Eq.trans ?_ (X0 (still_one (X2f _)) _)⟩;simp only[List.length_cons,List.length_map];rfl)
    |(refine⟨_,rfl,rfl,Eq.trans ?_ (X0 (still_one (X1f _)) _)⟩;simp only[List.length_cons,List.length_map];rfl)
    |(refine⟨_,rfl,rfl,Eq.trans ?_ (X0 (still_one ((X03 true) _)) _)⟩;simp only[List.length_cons,List.length_map];rfl)
    |(refine⟨_,rfl,rfl,Eq.trans ?_ (X0 (still_one ((X03 false) _)) _)⟩;simp only[List.length_cons,List.length_map];rfl)
    |(refine⟨_,rfl,rfl,Eq.trans ?_ (X0 (still_one (X1g _)) _)⟩;simp only[List.length_cons,List.length_map];rfl)
    |(refine⟨_,rfl,rfl,Eq.trans ?_ (X0 (still_one (X2d _)) _)⟩;simp only[List.length_cons,List.length_map];rfl)
    |(refine⟨_,rfl,rfl,Eq.trans ?_ (X0 (still_one (still_V2i64 _)) _)⟩;simp only[List.length_cons,List.length_map];rfl)
    |(refine⟨_,rfl,rfl,Eq.trans ?_ (X0 (still_one (X31 _)) _)⟩;simp only[List.length_cons,List.length_map];rfl)
    |(refine⟨_,rfl,rfl,Eq.trans ?_ (X0 (still_one (X17 _)) _)⟩;simp only[List.length_cons,List.length_map];rfl)
    |(refine⟨_,rfl,rfl,Eq.trans ?_ (X0 (still_one (still_GOp _)) _)⟩;simp only[List.length_cons,List.length_map];rfl)
    |(refine⟨_,rfl,rfl,Eq.trans ?_ (X0 (still_one (X2e _)) _)⟩;simp only[List.length_cons,List.length_map];rfl)
    |(refine⟨_,rfl,rfl,Eq.trans ?_ (X0 (still_one (X1y _)) _)⟩;simp only[List.length_cons,List.length_map];rfl)
    |(refine⟨_,rfl,rfl,Eq.trans ?_ (X0 (still_one (still_V2GAccum _)) _)⟩;simp only[List.length_cons,List.length_map];rfl)
    |(refine⟨_,rfl,rfl,Eq.trans ?_ (X0 (still_one (X1x _)) _)⟩;simp only[List.length_cons,List.length_map];rfl)
    |(refine⟨_,rfl,rfl,Eq.trans ?_ (X0 (still_one (X1w _)) _)⟩;simp only[List.length_cons,List.length_map];rfl)
    |(refine⟨_,rfl,rfl,Eq.trans ?_ (X0 (still_one ((X0c true) _)) _)⟩;simp only[List.length_cons,List.length_map];rfl)
    |(refine⟨_,rfl,rfl,Eq.trans ?_ (X0 (still_one ((X0c false) _)) _)⟩;simp only[List.length_cons,List.length_map];rfl)
    |(refine⟨_,rfl,rfl,Eq.trans ?_ (X0 (still_one (X0m _)) _)⟩;simp only[List.length_cons,List.length_map];rfl)
    |(refine⟨_,rfl,rfl,Eq.trans ?_ (X0 (still_one (still_V2b _)) _)⟩;simp only[List.length_cons,List.length_map];rfl)
    |(refine⟨_,rfl,rfl,Eq.trans ?_ (X0 (still_one ((fun _=>X67) _)) _)⟩;simp only[List.length_cons,List.length_map];rfl)
    |(refine⟨_,rfl,rfl,Eq.trans ?_ (X0 (still_one ((fun _=>still_encl) _)) _)⟩;simp only[List.length_cons,List.length_map];rfl)):P:=h
theorem wkB {P:Prop} (h:P:=by
  first
    |exact trivial
    |rfl
    |decide
    |exact⟨_,rfl,rfl,rfl⟩
    |(refine⟨_,rfl,rfl,ref1 ?_⟩;first|rfl|omega|(simp;done)|(simp;omega))
    |exact wkR0
    |exact wkR1
    |exact wkR2
    |(intro e he a ha;rw[List.mem_singleton.1 he] at ha;rw[List.mem_singleton.1 ha];first|exact .sc|exact .list|exact .nils|exact .ref (by decide)|exact .ptr (by decide)|exact Xsl|exact .fn (X10 (.ptr (by decide)) X7b)|exact .fn (X10 (.ptr (by decide)) (X10 (.ptr (by decide)) X7b)))
    |(intro e he a ha;simp at he;subst he;simp[AV.cells] at ha;first|(subst ha;exact .sc)|(rcases ha with rfl|rfl|rfl|rfl|rfl<;>exact .sc))
    |(refine⟨_,rfl,rfl,aggR ?_⟩;repeat' first|exact trivial|refine And.intro ?_ ?_|rfl|exact wkSl rfl|(refine refR rfl ?_;first|rfl|(simp;done)|(simp;omega)))
    |(refine okAgg ?_;repeat' first|exact X7b|refine X10 ?_ ?_|exact .sc|exact .list|exact .nils|exact .ref (by decide)|exact .ptr (by decide)|exact okSl (by decide)|exact okF|exact okG|exact Xsl)):P:=h
theorem rn {P:Program} {T:Ty} {nt n0:Nat} {μ:Mu} {Q:Xv->St->Mu->Prop} {cf cf':Cf} {K K':List Kn} {L L':List (Nat×AV)} {G G':List (Nat×Obj)} {n n':Nat} {hs':List X2r} {ps':List Prop} (hT:Xar P T/\P.follows .mixedOrders=true) (hs:List X2r) (h:Xaf P T nt 4000 cf K L G n hs []=some (cf',K',L',G',n',hs',ps')) (hp':X4k ps') (k:X3 P nt n0 Q cf' K' ⟨fr L',hp G',n'⟩ μ):X3 P nt n0 Q cf K ⟨fr L,hp G,n⟩ μ:=Xp3 hT 4000 hs h hp' k
abbrev cc:=@Cvs.cons
abbrev cn:=@Cvs.nil
abbrev pn:=@X5l.none
abbrev Bt:X2r:=.br true
abbrev Bf:X2r:=.br false
abbrev Ob (e:List AV) (n:Nat):Obj:={ es:=e,esz:=n }
abbrev Lf:=AV.list false
theorem Zn {α:Type} {m:Bool} {H:X0f} (f:α->AV):Cv m H .nils (.list m (List.map f ([]:List α))):=.nils
theorem wkT {P : Program} {nt n0 : Nat} {Q : Xv -> St -> Mu -> Prop} {cf : Cf} {K : List Kn} {μ : Mu} {L L' : List (Nat × AV)} {G G' : List (Nat × Obj)} {n n' : Nat} (θ : List (Nat × Nat)) (h : X3 P nt n0 Q cf K ⟨fr L', hp G', n'⟩ μ)
    (hb:(fixB θ n0&&injB θ (G'.map (·.1))&&Nat.ble n0 n')=true:=by rfl) (hL:wkL L θ n' L':=by repeat' first|refine And.intro ?_ ?_|exact wkA) (hG:wkG G θ n' G':=by repeat' first|refine And.intro ?_ ?_|exact wkB):X3 P nt n0 Q cf K ⟨fr L,hp G,n⟩ μ:=X3.weakTo θ h hb hL hG
end Go.Av
namespace Go.D
open Go.Av
def X73 (x y:X05):Bool:=((x.Kind==y.Kind)&&((x.N==y.N)&&((x.A==y.A)&&((x.B==y.B)&&((x.At==y.At)&&true)))))
def X9i (x y:Xe):Bool:=((x.Key==y.Key)&&((x.Time==y.Time)&&((x.Value==y.Value)&&true)))
def Xeb (x y:Xz):Bool:=((x.Start==y.Start)&&((x.End==y.End)&&true))
def Xma (x y:(V2 Int)):Bool:=((x.e0==y.e0)&&((x.e1==y.e1)&&true))
def Xkt (x y:X1n):Bool:=((x.Key==y.Key)&&((Xeb x.Span y.Span)&&((Xma x.Values y.Values)&&true)))
def X7y (x y:Xg):Bool:=((x.Kind==y.Kind)&&((X9i x.Record y.Record)&&((x.Time==y.Time)&&((Xkt x.Row y.Row)&&true))))
def Xec (x y:X0g):Bool:=((x.Out==y.Out)&&((X7y x.Message y.Message)&&true))
def X8r (x y:X0r):Bool:=((x.Count==y.Count)&&((x.Sum==y.Sum)&&((x.Min==y.Min)&&((x.Max==y.Max)&&true))))
def Xft (x y:(V2 X0r)):Bool:=((X8r x.e0 y.e0)&&((X8r x.e1 y.e1)&&true))
def Xfb (x y:X2):Bool:=((x.Key==y.Key)&&((Xeb x.Span y.Span)&&((Xft x.Values y.Values)&&true)))
def Xgj (x:X05):Prop:=wfI .u8 x.Kind/\wfI .i64 x.N/\wfI .i64 x.A/\wfI .i64 x.B/\wfI .i64 x.At
def Xjc (x:X0s):Prop:=wfI .u8 x.Kind/\wfI .i64 x.Size/\wfI .i64 x.Every
def Xh6 (x:X07):Prop:=wfI .u8 x.Agg/\(List.length x.Arg<=maxLen/\∀ y∈x.Arg,Xgj y)/\(List.length x.Sources<=maxLen/\∀ y∈x.Sources,wfI .i64 y)/\True/\(List.length x.Where<=maxLen/\∀ y∈x.Where,Xgj y)/\Xjc x.Window/\True/\wfI .u8 x.Late
def Xjd (x:Xe):Prop:=wfI .i64 x.Key/\wfI .i64 x.Time/\wfI .i64 x.Value
def Xox (x:Xz):Prop:=wfI .i64 x.Start/\wfI .i64 x.End
def Xow (x:(V2 Int)):Prop:=wfI .i64 x.e0/\wfI .i64 x.e1
def Xrr (x:X1n):Prop:=wfI .i64 x.Key/\Xox x.Span/\Xow x.Values
def Xh7 (x:Xg):Prop:=wfI .u8 x.Kind/\Xjd x.Record/\wfI .i64 x.Time/\Xrr x.Row
end Go.D
