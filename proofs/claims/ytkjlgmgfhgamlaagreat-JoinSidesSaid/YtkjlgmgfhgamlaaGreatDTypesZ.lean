/- Printed by decomp.py: the types of the Go program, as data; their encodings. -/
import Derived.Test.YtkjlgmgfhgamlaaGreatAvc
set_option linter.all false

namespace Go.D
theorem Yo {α β:Type} {a:α} {f:α->Option β}:(some a).bind f=f a:=rfl
theorem Yf {p:Prop} [Decidable p] (h:¬ p):decide p=false:=decide_eq_false h
theorem Yt {p:Prop} [Decidable p] (h:p):decide p=true:=decide_eq_true h
theorem Ym {α β:Type} {f:α->β} {l:List α} {i:Nat}:List.map f (List.take i l)=List.take i (List.map f l):=List.map_take
theorem Yd {α β:Type} {f:α->β} {l:List α} {i:Nat}:List.map f (List.drop i l)=List.drop i (List.map f l):=List.map_drop
theorem Ya {a b:Prop} (x:a) (y:b):a/\b:=⟨x,y⟩
theorem Ye {α:Type} {l:List α} {i:Nat} (h:i<l.length):l[i]?=some l[i]:=List.getElem?_eq_getElem h
theorem Ys {α:Type} {l:List α} {i:Nat} {a:α}:l[i]?=some a↔∃ h:i<l.length,l[i]=a:=List.getElem?_eq_some_iff
theorem Yg {α:Type} {l:List α} {i:Nat} {a:α} (h:l[i]?=some a):a∈l:=List.mem_of_getElem? h
structure X07 where
  Kind:Int
  N:Int
  A:Int
  B:Int
  At:Int
  deriving DecidableEq,Inhabited
structure X0n where
  Kind:Int
  Size:Int
  Every:Int
  deriving DecidableEq,Inhabited
structure X06 where
  Agg:Int
  Arg:(List X07)
  Sources:(List Int)
  Join:Bool
  Where:(List X07)
  Window:X0n
  ByKey:Bool
  Late:Int
  deriving DecidableEq,Inhabited
structure Xm where
  Key:Int
  Time:Int
  Value:Int
  deriving DecidableEq,Inhabited
structure X05 where
  Start:Int
  End:Int
  deriving DecidableEq,Inhabited
structure X1r where
  Key:Int
  Span:X05
  Values:(V2 Int)
  deriving DecidableEq,Inhabited
structure Xn where
  Kind:Int
  Record:Xm
  Time:Int
  Row:X1r
  deriving DecidableEq,Inhabited
structure GOp where
  Kind:Int
  N:Int
  deriving DecidableEq,Inhabited
structure X13 where
  Out:Int
  Message:Xn
  deriving DecidableEq,Inhabited
structure X12 where
  Count:Int
  Sum:Int
  Min:Int
  Max:Int
  deriving DecidableEq,Inhabited
structure X2 where
  Key:Int
  Span:X05
  Values:(V2 X12)
  deriving DecidableEq,Inhabited
structure X1e where
  Mark:Bool
  Time:Int
  Record:Xm
  deriving DecidableEq,Inhabited
structure X0b where
  Op:GOp
  Turn:Int
  Pending:(List X13)
  Marks:(List Int)
  Store:(List X2)
  Events:(List X1e)
  Rows:(List X1r)
  Late:(List Xm)
  deriving DecidableEq,Inhabited
structure Xg where
  at_:Int
  size:Int
  depth:Int
  deriving DecidableEq,Inhabited
end Go.D
namespace Go.Av
open Go.D
def X5 (x:X07):AV:=.agg [(aI .u8 x.Kind),(aI .i64 x.N),(aI .i64 x.A),(aI .i64 x.B),(aI .i64 x.At)]
theorem Xcl (x:X07):X9z (X5 x):=(X29 (X29 (X29 (X29 (X29 Xg1)))))
theorem X2g (x:X07):X70 (X5 x):=fun _=>rfl
theorem Xcj (x:X07):Xam (X5 x):=X4c (Xcl x) rfl
instance X02a:Xc9 X5:=⟨Xcl,fun _=>rfl,X2g⟩
def X3i (x:X0n):AV:=.agg [(aI .u8 x.Kind),(aI .i64 x.Size),(aI .i64 x.Every)]
theorem Xfi (x:X0n):X9z (X3i x):=(X29 (X29 (X29 Xg1)))
theorem X1j (x:X0n):X70 (X3i x):=fun _=>rfl
theorem X9m (x:X0n):Xam (X3i x):=X4c (Xfi x) rfl
instance X00h:Xc9 X3i:=⟨Xfi,fun _=>rfl,X1j⟩
def Xx (o:Bool) (x:X06):AV:=.agg [(aI .u8 x.Agg),(AV.list o (List.map X5 x.Arg)),(AV.list o (List.map (aI .i64) x.Sources)),(aB x.Join),(AV.list o (List.map X5 x.Where)),(aI .u8 x.Window.Kind),(aI .i64 x.Window.Size),(aI .i64 x.Window.Every),(aB x.ByKey),(aI .u8 x.Late)]
theorem X04 (o:Bool) (x:X06):X70 (Xx o x):=fun _=>rfl
theorem X4l (o:Bool) (x:X06):Xam (Xx o x):=Xp5 (fun _=>(X0y .sc (X0y .list (X0y .list (X0y .sc (X0y .list (X0y .sc (X0y .sc (X0y .sc (X0y .sc (X0y .sc X76)))))))))))
theorem Xql {H:X0j} {o:Bool} {x:X06}:Cv false H (Xx o x) (Xx false x):=Xly (Cvs.cons .sc (Cvs.cons (X5o (X2o Xcl _)) (Cvs.cons (X5o (X2o (fun _=>Xe1) _)) (Cvs.cons .sc (Cvs.cons (X5o (X2o Xcl _)) (Cvs.cons .sc (Cvs.cons .sc (Cvs.cons .sc (Cvs.cons .sc (Cvs.cons .sc Cvs.nil))))))))))
theorem Xqk {H:X0j} {o:Bool} {x:X06}:Cv true H (Xx o x) (Xx o x):=Xly (Cvs.cons .sc (Cvs.cons (.listS rfl) (Cvs.cons (.listS rfl) (Cvs.cons .sc (Cvs.cons (.listS rfl) (Cvs.cons .sc (Cvs.cons .sc (Cvs.cons .sc (Cvs.cons .sc (Cvs.cons .sc Cvs.nil))))))))))
instance X016:X005 Xx:=⟨Xql,Xqk,fun _ _ _=>rfl,X4l,X04⟩
def Xc (x:Xm):AV:=.agg [(aI .i64 x.Key),(aI .i64 x.Time),(aI .i64 x.Value)]
theorem Xc4 (x:Xm):X9z (Xc x):=(X29 (X29 (X29 Xg1)))
theorem X1k (x:Xm):X70 (Xc x):=fun _=>rfl
theorem X9n (x:Xm):Xam (Xc x):=X4c (Xc4 x) rfl
instance X00i:Xc9 Xc:=⟨Xc4,fun _=>rfl,X1k⟩
def X01 (x:X05):AV:=.agg [(aI .i64 x.Start),(aI .i64 x.End)]
theorem Xj8 (x:X05):X9z (X01 x):=(X29 (X29 Xg1))
theorem X2e (x:X05):X70 (X01 x):=fun _=>rfl
theorem Xch (x:X05):Xam (X01 x):=X4c (Xj8 x) rfl
instance X028:Xc9 X01:=⟨Xj8,fun _=>rfl,X2e⟩
def Xe (x:X1r):AV:=.agg [(aI .i64 x.Key),(aI .i64 x.Span.Start),(aI .i64 x.Span.End),(aI .i64 x.Values.e0),(aI .i64 x.Values.e1)]
theorem Xhj (x:X1r):X9z (Xe x):=(X29 (X29 (X29 (X29 (X29 Xg1)))))
theorem X31 (x:X1r):X70 (Xe x):=fun _=>rfl
theorem Xdx (x:X1r):Xam (Xe x):=X4c (Xhj x) rfl
instance X04d:Xc9 Xe:=⟨Xhj,fun _=>rfl,X31⟩
def Xh (x:Xn):AV:=.agg [(aI .u8 x.Kind),(aI .i64 x.Record.Key),(aI .i64 x.Record.Time),(aI .i64 x.Record.Value),(aI .i64 x.Time),(aI .i64 x.Row.Key),(aI .i64 x.Row.Span.Start),(aI .i64 x.Row.Span.End),(aI .i64 x.Row.Values.e0),(aI .i64 x.Row.Values.e1)]
theorem Xe0 (x:Xn):X9z (Xh x):=(X29 (X29 (X29 (X29 (X29 (X29 (X29 (X29 (X29 (X29 Xg1))))))))))
theorem X18 (x:Xn):X70 (Xh x):=fun _=>rfl
theorem X86 (x:Xn):Xam (Xh x):=X4c (Xe0 x) rfl
instance Xzh:Xc9 Xh:=⟨Xe0,fun _=>rfl,X18⟩
def X08 (x:X13):AV:=.agg [(aI .i64 x.Out),(aI .u8 x.Message.Kind),(aI .i64 x.Message.Record.Key),(aI .i64 x.Message.Record.Time),(aI .i64 x.Message.Record.Value),(aI .i64 x.Message.Time),(aI .i64 x.Message.Row.Key),(aI .i64 x.Message.Row.Span.Start),(aI .i64 x.Message.Row.Span.End),(aI .i64 x.Message.Row.Values.e0),(aI .i64 x.Message.Row.Values.e1)]
theorem Xck (x:X13):X9z (X08 x):=(X29 (X29 (X29 (X29 (X29 (X29 (X29 (X29 (X29 (X29 (X29 Xg1)))))))))))
theorem X2f (x:X13):X70 (X08 x):=fun _=>rfl
theorem Xci (x:X13):Xam (X08 x):=X4c (Xck x) rfl
instance X029:Xc9 X08:=⟨Xck,fun _=>rfl,X2f⟩
def X0u (x:X12):AV:=.agg [(aI .i64 x.Count),(aI .i64 x.Sum),(aI .i64 x.Min),(aI .i64 x.Max)]
theorem Xhk (x:X12):X9z (X0u x):=(X29 (X29 (X29 (X29 Xg1))))
theorem X20 (x:X12):X70 (X0u x):=fun _=>rfl
theorem Xb4 (x:X12):Xam (X0u x):=X4c (Xhk x) rfl
instance X01s:Xc9 X0u:=⟨Xhk,fun _=>rfl,X20⟩
def X1 (x:X2):AV:=.agg [(aI .i64 x.Key),(aI .i64 x.Span.Start),(aI .i64 x.Span.End),(aI .i64 x.Values.e0.Count),(aI .i64 x.Values.e0.Sum),(aI .i64 x.Values.e0.Min),(aI .i64 x.Values.e0.Max),(aI .i64 x.Values.e1.Count),(aI .i64 x.Values.e1.Sum),(aI .i64 x.Values.e1.Min),(aI .i64 x.Values.e1.Max)]
theorem X5c (x:X2):X9z (X1 x):=(X29 (X29 (X29 (X29 (X29 (X29 (X29 (X29 (X29 (X29 (X29 Xg1)))))))))))
theorem X1z (x:X2):X70 (X1 x):=fun _=>rfl
theorem Xb3 (x:X2):Xam (X1 x):=X4c (X5c x) rfl
theorem X7i {m:Bool} {H:X0j} {x:X2}:Cv m H (X1 x) (X1 x):=Xzp (X5c x)
instance X01r:Xc9 X1:=⟨X5c,fun _=>rfl,X1z⟩
def X0i (x:X1e):AV:=.agg [(aB x.Mark),(aI .i64 x.Time),(aI .i64 x.Record.Key),(aI .i64 x.Record.Time),(aI .i64 x.Record.Value)]
theorem Xd7 (x:X1e):X9z (X0i x):=(X29 (X29 (X29 (X29 (X29 Xg1)))))
theorem X1y (x:X1e):X70 (X0i x):=fun _=>rfl
theorem Xb2 (x:X1e):Xam (X0i x):=X4c (Xd7 x) rfl
instance X01q:Xc9 X0i:=⟨Xd7,fun _=>rfl,X1y⟩
def Xk (o:Bool) (x:X0b):AV:=.agg [(aI .u8 x.Op.Kind),(aI .i64 x.Op.N),(aI .i64 x.Turn),(AV.list o (List.map X08 x.Pending)),(AV.list o (List.map (aI .i64) x.Marks)),(AV.list o (List.map X1 x.Store)),(AV.list o (List.map X0i x.Events)),(AV.list o (List.map Xe x.Rows)),(AV.list o (List.map Xc x.Late))]
theorem X0f (o:Bool) (x:X0b):X70 (Xk o x):=fun _=>rfl
theorem X5j (o:Bool) (x:X0b):Xam (Xk o x):=Xp5 (fun _=>(X0y .sc (X0y .sc (X0y .sc (X0y .list (X0y .list (X0y .list (X0y .list (X0y .list (X0y .list X76))))))))))
theorem Xth {H:X0j} {o:Bool} {x:X0b}:Cv false H (Xk o x) (Xk false x):=Xly (Cvs.cons .sc (Cvs.cons .sc (Cvs.cons .sc (Cvs.cons (X5o (X2o Xck _)) (Cvs.cons (X5o (X2o (fun _=>Xe1) _)) (Cvs.cons (X5o (X2o X5c _)) (Cvs.cons (X5o (X2o Xd7 _)) (Cvs.cons (X5o (X2o Xhj _)) (Cvs.cons (X5o (X2o Xc4 _)) Cvs.nil)))))))))
theorem Xtg {H:X0j} {o:Bool} {x:X0b}:Cv true H (Xk o x) (Xk o x):=Xly (Cvs.cons .sc (Cvs.cons .sc (Cvs.cons .sc (Cvs.cons (.listS rfl) (Cvs.cons (.listS rfl) (Cvs.cons (.listS rfl) (Cvs.cons (.listS rfl) (Cvs.cons (.listS rfl) (Cvs.cons (.listS rfl) Cvs.nil)))))))))
instance X026:X005 Xk:=⟨Xth,Xtg,fun _ _ _=>rfl,X5j,X0f⟩
def X8 (x:Xg):AV:=.agg [(aI .i64 x.at_),(aI .i64 x.size),(aI .i64 x.depth)]
theorem Xc3 (x:Xg):X9z (X8 x):=(X29 (X29 (X29 Xg1)))
theorem X0o (x:Xg):X70 (X8 x):=fun _=>rfl
theorem X6u (x:Xg):Xam (X8 x):=X4c (Xc3 x) rfl
instance Xwj:Xc9 X8:=⟨Xc3,fun _=>rfl,X0o⟩
def X87 (x:(V2 Bool)):AV:=.agg [(aB x.e0),(aB x.e1)]
theorem Xwh (x:(V2 Bool)):X9z (X87 x):=(X29 (X29 Xg1))
theorem Xge (x:(V2 Bool)):Xam (X87 x):=X4c (Xwh x) rfl
theorem wkA {P:Prop} (h:P:=by
  first
    |exact trivial
    |rfl
    |exact .sc
    |exact .list
    |exact .nils
    |exact .ref (by decide)
    |exact .ptr (by decide)
    |exact Xrz
    |(refine AV.Ok.tup ?_;repeat' first|exact X76|refine X0y ?_ ?_|exact .sc|exact .nils|exact .list|exact .ref (by decide)|exact .ptr (by decide))
    |(refine congrArg AV.tup ?_;repeat' first|rfl|(refine congrArg (fun z=>AV.ref _ 0 z) ?_;first|rfl|omega|(simp;done)|(simp;omega))|(show AV.ref _ 0 _=AV.ref _ 0 _;congr 1;first|omega|(simp;done))|(refine congrArg (fun z=>AV.sc (Value.int IntKind.i64 z)) ?_;first|rfl|omega|assumption|(simp;done))|refine congr (congrArg List.cons ?_) ?_|(show(_::_:List AV)=_::_;refine congr (congrArg List.cons ?_) ?_))
    |exact .fn (X0y (.ptr (by decide)) X76)
    |exact .fn (X0y (.ptr (by decide)) (X0y (.ptr (by decide)) X76))
    |exact .fn (X0y (.ptr (by decide)) (X0y (.ptr (by decide)) (X0y (.ptr (by decide)) X76)))
    |assumption
    |exact(Xcj _ _).1
    |exact(X9m _ _).1
    |exact(X4l true _ _).1
    |exact(X4l false _ _).1
    |exact(X9n _ _).1
    |exact(Xch _ _).1
    |exact(free_V2i64 _ _).1
    |exact(Xdx _ _).1
    |exact(X86 _ _).1
    |exact(free_GOp _ _).1
    |exact(Xci _ _).1
    |exact(Xb4 _ _).1
    |exact(free_V2GAccum _ _).1
    |exact(Xb3 _ _).1
    |exact(Xb2 _ _).1
    |exact(X5j true _ _).1
    |exact(X5j false _ _).1
    |exact(X6u _ _).1
    |exact(Xge _ _).1
    |(refine congrArg (fun z=>AV.sc (Value.int IntKind.i64 z)) ?_;first|rfl|omega|assumption|(simp;done)|(simp;omega))
    |(refine congrArg (fun z=>AV.sc (Value.bool z)) ?_;first|rfl|assumption|(simp;done))
    |(refine congrArg (fun z=>AV.ref _ 0 z) ?_;first|rfl|omega|(simp;done)|(simp;omega))
    |(show AV.ref _ 0 _=AV.ref _ 0 _;congr 1;first|(simp;done)|(simp;omega))
    |(simp[slE,opE,nbF,nbT,nbS,AV.ren,List.map_take,List.map_drop];done)
    |(simp[slE,opE,nbF,nbT,nbS,AV.ren,List.map_take,List.map_drop, *];done)
    |(simp[AV.ren, *];done)
    |exact wkSl rfl
    |exact okSl (by decide)
    |(refine aggV ?_;repeat' first|exact trivial|refine And.intro ?_ ?_|rfl|exact wkSl rfl|(refine refR rfl ?_;first|rfl|(simp;done)|(simp;omega)))
    |(refine aggOk ?_;repeat' first|exact X76|refine X0y ?_ ?_|exact .sc|exact .list|exact .nils|exact .ref (by decide)|exact .ptr (by decide)|exact okSl (by decide)|exact okF|exact okG|exact Xrz)):P:=h
theorem wkR0 {P:Prop} (h:P:=by
  first
    |exact X2x Xcj _ _
    |exact X2w (Xcj _) _
    |exact free_cons Xcj _ _ _
    |exact X2x X9m _ _
    |exact X2w (X9m _) _
    |exact free_cons X9m _ _ _
    |exact X2x (X4l true) _ _
    |exact X2w ((X4l true) _) _
    |exact free_cons (X4l true) _ _ _
    |exact X2x (X4l false) _ _
    |exact X2w ((X4l false) _) _
    |exact free_cons (X4l false) _ _ _
    |exact X2x X9n _ _
    |exact X2w (X9n _) _
    |exact free_cons X9n _ _ _
    |exact X2x Xch _ _
    |exact X2w (Xch _) _
    |exact free_cons Xch _ _ _
    |exact X2x free_V2i64 _ _
    |exact X2w (free_V2i64 _) _
    |exact free_cons free_V2i64 _ _ _
    |exact X2x Xdx _ _
    |exact X2w (Xdx _) _
    |exact free_cons Xdx _ _ _
    |exact X2x X86 _ _
    |exact X2w (X86 _) _
    |exact free_cons X86 _ _ _
    |exact X2x free_GOp _ _
    |exact X2w (free_GOp _) _
    |exact free_cons free_GOp _ _ _
    |exact X2x Xci _ _
    |exact X2w (Xci _) _
    |exact free_cons Xci _ _ _
    |exact X2x Xb4 _ _
    |exact X2w (Xb4 _) _
    |exact free_cons Xb4 _ _ _
    |exact X2x free_V2GAccum _ _
    |exact X2w (free_V2GAccum _) _
    |exact free_cons free_V2GAccum _ _ _
    |exact X2x Xb3 _ _
    |exact X2w (Xb3 _) _
    |exact free_cons Xb3 _ _ _
    |exact X2x Xb2 _ _
    |exact X2w (Xb2 _) _
    |exact free_cons Xb2 _ _ _
    |exact X2x (X5j true) _ _
    |exact X2w ((X5j true) _) _
    |exact free_cons (X5j true) _ _ _
    |exact X2x (X5j false) _ _
    |exact X2w ((X5j false) _) _
    |exact free_cons (X5j false) _ _ _
    |exact X2x X6u _ _
    |exact X2w (X6u _) _
    |exact free_cons X6u _ _ _
    |exact X2x Xge _ _
    |exact X2w (Xge _) _
    |exact free_cons Xge _ _ _
    |exact X2x (fun _=>Xt1) _ _
    |exact X2w ((fun _=>Xt1) _) _
    |exact free_cons (fun _=>Xt1) _ _ _
    |exact X2x (fun _=>free_encl) _ _
    |exact X2w ((fun _=>free_encl) _) _
    |exact free_cons (fun _=>free_encl) _ _ _
    |(refine⟨_,rfl,rfl,Eq.trans ?_ (X0 (X4 X2g _) _)⟩;rfl)
    |(refine⟨_,rfl,rfl,Eq.trans ?_ (X0 (still_cons X2g _ _) _)⟩;rfl)
    |(refine⟨_,rfl,rfl,Eq.trans ?_ (X0 (X4 X2g _) _)⟩;(simp;done))
    |(refine⟨_,rfl,rfl,Eq.trans ?_ (X0 (still_cons X2g _ _) _)⟩;(simp;done))
    |(refine⟨_,rfl,rfl,Eq.trans ?_ (X0 (X4 X2g _) _)⟩;(simp;rfl))
    |(refine⟨_,rfl,rfl,Eq.trans ?_ (X0 (still_cons X2g _ _) _)⟩;(simp;rfl))
    |(refine⟨_,rfl,rfl,Eq.trans ?_ (X0 (X4 X2g _) _)⟩;(exact Eq.symm (Eq.trans List.map_append rfl)))
    |(refine⟨_,rfl,rfl,Eq.trans ?_ (X0 (X4 X2g _) _)⟩;(rw[List.map_append];rfl))
    |(refine⟨_,rfl,rfl,Eq.trans ?_ (X0 (X4 X2g _) _)⟩;(rw[List.map_set];rfl))
    |(refine⟨_,rfl,rfl,Eq.trans ?_ (X0 (X4 X2g _) _)⟩;(simp[*];done))
    |(refine⟨_,rfl,rfl,Eq.trans ?_ (X0 (still_cons X2g _ _) _)⟩;(simp[*];done))
    |(refine⟨_,rfl,rfl,Eq.trans ?_ (X0 (X4 X2g _) _)⟩;(rw[List.map_replicate];rfl))
    |(refine⟨_,rfl,rfl,Eq.trans ?_ (X0 (X4 X1j _) _)⟩;rfl)
    |(refine⟨_,rfl,rfl,Eq.trans ?_ (X0 (still_cons X1j _ _) _)⟩;rfl)
    |(refine⟨_,rfl,rfl,Eq.trans ?_ (X0 (X4 X1j _) _)⟩;(simp;done))
    |(refine⟨_,rfl,rfl,Eq.trans ?_ (X0 (still_cons X1j _ _) _)⟩;(simp;done))
    |(refine⟨_,rfl,rfl,Eq.trans ?_ (X0 (X4 X1j _) _)⟩;(simp;rfl))
    |(refine⟨_,rfl,rfl,Eq.trans ?_ (X0 (still_cons X1j _ _) _)⟩;(simp;rfl))
    |(refine⟨_,rfl,rfl,Eq.trans ?_ (X0 (X4 X1j _) _)⟩;(exact Eq.symm (Eq.trans List.map_append rfl)))
    |(refine⟨_,rfl,rfl,Eq.trans ?_ (X0 (X4 X1j _) _)⟩;(rw[List.map_append];rfl))
    |(refine⟨_,rfl,rfl,Eq.trans ?_ (X0 (X4 X1j _) _)⟩;(rw[List.map_set];rfl))
    |(refine⟨_,rfl,rfl,Eq.trans ?_ (X0 (X4 X1j _) _)⟩;(simp[*];done))
    |(refine⟨_,rfl,rfl,Eq.trans ?_ (X0 (still_cons X1j _ _) _)⟩;(simp[*];done))
    |(refine⟨_,rfl,rfl,Eq.trans ?_ (X0 (X4 X1j _) _)⟩;(rw[List.map_replicate];rfl))
    |(refine⟨_,rfl,rfl,Eq.trans ?_ (X0 (X4 (X04 true) _) _)⟩;rfl)
    |(refine⟨_,rfl,rfl,Eq.trans ?_ (X0 (still_cons (X04 true) _ _) _)⟩;rfl)
    |(refine⟨_,rfl,rfl,Eq.trans ?_ (X0 (X4 (X04 true) _) _)⟩;(simp;done))
    |(refine⟨_,rfl,rfl,Eq.trans ?_ (X0 (still_cons (X04 true) _ _) _)⟩;(simp;done))
    |(refine⟨_,rfl,rfl,Eq.trans ?_ (X0 (X4 (X04 true) _) _)⟩;(simp;rfl))
    |(refine⟨_,rfl,rfl,Eq.trans ?_ (X0 (still_cons (X04 true) _ _) _)⟩;(simp;rfl))
    |(refine⟨_,rfl,rfl,Eq.trans ?_ (X0 (X4 (X04 true) _) _)⟩;(exact Eq.symm (Eq.trans List.map_append rfl)))
    |(refine⟨_,rfl,rfl,Eq.trans ?_ (X0 (X4 (X04 true) _) _)⟩;(rw[List.map_append];rfl))
    |(refine⟨_,rfl,rfl,Eq.trans ?_ (X0 (X4 (X04 true) _) _)⟩;(rw[List.map_set];rfl))
    |(refine⟨_,rfl,rfl,Eq.trans ?_ (X0 (X4 (X04 true) _) _)⟩;(simp[*];done))
    |(refine⟨_,rfl,rfl,Eq.trans ?_ (X0 (still_cons (X04 true) _ _) _)⟩;(simp[*];done))
    |(refine⟨_,rfl,rfl,Eq.trans ?_ (X0 (X4 (X04 true) _) _)⟩;(rw[List.map_replicate];rfl))
    |(refine⟨_,rfl,rfl,Eq.trans ?_ (X0 (X4 (X04 false) _) _)⟩;rfl)
    |(refine⟨_,rfl,rfl,Eq.trans ?_ (X0 (still_cons (X04 false) _ _) _)⟩;rfl)
    |(refine⟨_,rfl,rfl,Eq.trans ?_ (X0 (X4 (X04 false) _) _)⟩;(simp;done))
    |(refine⟨_,rfl,rfl,Eq.trans ?_ (X0 (still_cons (X04 false) _ _) _)⟩;(simp;done))
    |(refine⟨_,rfl,rfl,Eq.trans ?_ (X0 (X4 (X04 false) _) _)⟩;(simp;rfl))
    |(refine⟨_,rfl,rfl,Eq.trans ?_ (X0 (still_cons (X04 false) _ _) _)⟩;(simp;rfl))
    |(refine⟨_,rfl,rfl,Eq.trans ?_ (X0 (X4 (X04 false) _) _)⟩;(exact Eq.symm (Eq.trans List.map_append rfl)))
    |(refine⟨_,rfl,rfl,Eq.trans ?_ (X0 (X4 (X04 false) _) _)⟩;(rw[List.map_append];rfl))
    |(refine⟨_,rfl,rfl,Eq.trans ?_ (X0 (X4 (X04 false) _) _)⟩;(rw[List.map_set];rfl))
    |(refine⟨_,rfl,rfl,Eq.trans ?_ (X0 (X4 (X04 false) _) _)⟩;(simp[*];done))
    |(refine⟨_,rfl,rfl,Eq.trans ?_ (X0 (still_cons (X04 false) _ _) _)⟩;(simp[*];done))
    |(refine⟨_,rfl,rfl,Eq.trans ?_ (X0 (X4 (X04 false) _) _)⟩;(rw[List.map_replicate];rfl))
    |(refine⟨_,rfl,rfl,Eq.trans ?_ (X0 (X4 X1k _) _)⟩;rfl)
    |(refine⟨_,rfl,rfl,Eq.trans ?_ (X0 (still_cons X1k _ _) _)⟩;rfl)
    |(refine⟨_,rfl,rfl,Eq.trans ?_ (X0 (X4 X1k _) _)⟩;(simp;done))
    |(refine⟨_,rfl,rfl,Eq.trans ?_ (X0 (still_cons X1k _ _) _)⟩;(simp;done))
    |(refine⟨_,rfl,rfl,Eq.trans ?_ (X0 (X4 X1k _) _)⟩;(simp;rfl))
    |(refine⟨_,rfl,rfl,Eq.trans ?_ (X0 (still_cons X1k _ _) _)⟩;(simp;rfl))
    |(refine⟨_,rfl,rfl,Eq.trans ?_ (X0 (X4 X1k _) _)⟩;(exact Eq.symm (Eq.trans List.map_append rfl)))
    |(refine⟨_,rfl,rfl,Eq.trans ?_ (X0 (X4 X1k _) _)⟩;(rw[List.map_append];rfl))
    |(refine⟨_,rfl,rfl,Eq.trans ?_ (X0 (X4 X1k _) _)⟩;(rw[List.map_set];rfl))):P:=h
theorem wkR1 {P:Prop} (h:P:=by
  first
    |(refine⟨_,rfl,rfl,Eq.trans ?_ (X0 (X4 X1k _) _)⟩;(simp[*];done))
    |(refine⟨_,rfl,rfl,Eq.trans ?_ (X0 (still_cons X1k _ _) _)⟩;(simp[*];done))
    |(refine⟨_,rfl,rfl,Eq.trans ?_ (X0 (X4 X1k _) _)⟩;(rw[List.map_replicate];rfl))
    |(refine⟨_,rfl,rfl,Eq.trans ?_ (X0 (X4 X2e _) _)⟩;rfl)
    |(refine⟨_,rfl,rfl,Eq.trans ?_ (X0 (still_cons X2e _ _) _)⟩;rfl)
    |(refine⟨_,rfl,rfl,Eq.trans ?_ (X0 (X4 X2e _) _)⟩;(simp;done))
    |(refine⟨_,rfl,rfl,Eq.trans ?_ (X0 (still_cons X2e _ _) _)⟩;(simp;done))
    |(refine⟨_,rfl,rfl,Eq.trans ?_ (X0 (X4 X2e _) _)⟩;(simp;rfl))
    |(refine⟨_,rfl,rfl,Eq.trans ?_ (X0 (still_cons X2e _ _) _)⟩;(simp;rfl))
    |(refine⟨_,rfl,rfl,Eq.trans ?_ (X0 (X4 X2e _) _)⟩;(exact Eq.symm (Eq.trans List.map_append rfl)))
    |(refine⟨_,rfl,rfl,Eq.trans ?_ (X0 (X4 X2e _) _)⟩;(rw[List.map_append];rfl))
    |(refine⟨_,rfl,rfl,Eq.trans ?_ (X0 (X4 X2e _) _)⟩;(rw[List.map_set];rfl))
    |(refine⟨_,rfl,rfl,Eq.trans ?_ (X0 (X4 X2e _) _)⟩;(simp[*];done))
    |(refine⟨_,rfl,rfl,Eq.trans ?_ (X0 (still_cons X2e _ _) _)⟩;(simp[*];done))
    |(refine⟨_,rfl,rfl,Eq.trans ?_ (X0 (X4 X2e _) _)⟩;(rw[List.map_replicate];rfl))
    |(refine⟨_,rfl,rfl,Eq.trans ?_ (X0 (X4 still_V2i64 _) _)⟩;rfl)
    |(refine⟨_,rfl,rfl,Eq.trans ?_ (X0 (still_cons still_V2i64 _ _) _)⟩;rfl)
    |(refine⟨_,rfl,rfl,Eq.trans ?_ (X0 (X4 still_V2i64 _) _)⟩;(simp;done))
    |(refine⟨_,rfl,rfl,Eq.trans ?_ (X0 (still_cons still_V2i64 _ _) _)⟩;(simp;done))
    |(refine⟨_,rfl,rfl,Eq.trans ?_ (X0 (X4 still_V2i64 _) _)⟩;(simp;rfl))
    |(refine⟨_,rfl,rfl,Eq.trans ?_ (X0 (still_cons still_V2i64 _ _) _)⟩;(simp;rfl))
    |(refine⟨_,rfl,rfl,Eq.trans ?_ (X0 (X4 still_V2i64 _) _)⟩;(exact Eq.symm (Eq.trans List.map_append rfl)))
    |(refine⟨_,rfl,rfl,Eq.trans ?_ (X0 (X4 still_V2i64 _) _)⟩;(rw[List.map_append];rfl))
    |(refine⟨_,rfl,rfl,Eq.trans ?_ (X0 (X4 still_V2i64 _) _)⟩;(rw[List.map_set];rfl))
    |(refine⟨_,rfl,rfl,Eq.trans ?_ (X0 (X4 still_V2i64 _) _)⟩;(simp[*];done))
    |(refine⟨_,rfl,rfl,Eq.trans ?_ (X0 (still_cons still_V2i64 _ _) _)⟩;(simp[*];done))
    |(refine⟨_,rfl,rfl,Eq.trans ?_ (X0 (X4 still_V2i64 _) _)⟩;(rw[List.map_replicate];rfl))
    |(refine⟨_,rfl,rfl,Eq.trans ?_ (X0 (X4 X31 _) _)⟩;rfl)
    |(refine⟨_,rfl,rfl,Eq.trans ?_ (X0 (still_cons X31 _ _) _)⟩;rfl)
    |(refine⟨_,rfl,rfl,Eq.trans ?_ (X0 (X4 X31 _) _)⟩;(simp;done))
    |(refine⟨_,rfl,rfl,Eq.trans ?_ (X0 (still_cons X31 _ _) _)⟩;(simp;done))
    |(refine⟨_,rfl,rfl,Eq.trans ?_ (X0 (X4 X31 _) _)⟩;(simp;rfl))
    |(refine⟨_,rfl,rfl,Eq.trans ?_ (X0 (still_cons X31 _ _) _)⟩;(simp;rfl))
    |(refine⟨_,rfl,rfl,Eq.trans ?_ (X0 (X4 X31 _) _)⟩;(exact Eq.symm (Eq.trans List.map_append rfl)))
    |(refine⟨_,rfl,rfl,Eq.trans ?_ (X0 (X4 X31 _) _)⟩;(rw[List.map_append];rfl))
    |(refine⟨_,rfl,rfl,Eq.trans ?_ (X0 (X4 X31 _) _)⟩;(rw[List.map_set];rfl))
    |(refine⟨_,rfl,rfl,Eq.trans ?_ (X0 (X4 X31 _) _)⟩;(simp[*];done))
    |(refine⟨_,rfl,rfl,Eq.trans ?_ (X0 (still_cons X31 _ _) _)⟩;(simp[*];done))
    |(refine⟨_,rfl,rfl,Eq.trans ?_ (X0 (X4 X31 _) _)⟩;(rw[List.map_replicate];rfl))
    |(refine⟨_,rfl,rfl,Eq.trans ?_ (X0 (X4 X18 _) _)⟩;rfl)
    |(refine⟨_,rfl,rfl,Eq.trans ?_ (X0 (still_cons X18 _ _) _)⟩;rfl)
    |(refine⟨_,rfl,rfl,Eq.trans ?_ (X0 (X4 X18 _) _)⟩;(simp;done))
    |(refine⟨_,rfl,rfl,Eq.trans ?_ (X0 (still_cons X18 _ _) _)⟩;(simp;done))
    |(refine⟨_,rfl,rfl,Eq.trans ?_ (X0 (X4 X18 _) _)⟩;(simp;rfl))
    |(refine⟨_,rfl,rfl,Eq.trans ?_ (X0 (still_cons X18 _ _) _)⟩;(simp;rfl))
    |(refine⟨_,rfl,rfl,Eq.trans ?_ (X0 (X4 X18 _) _)⟩;(exact Eq.symm (Eq.trans List.map_append rfl)))
    |(refine⟨_,rfl,rfl,Eq.trans ?_ (X0 (X4 X18 _) _)⟩;(rw[List.map_append];rfl))
    |(refine⟨_,rfl,rfl,Eq.trans ?_ (X0 (X4 X18 _) _)⟩;(rw[List.map_set];rfl))
    |(refine⟨_,rfl,rfl,Eq.trans ?_ (X0 (X4 X18 _) _)⟩;(simp[*];done))
    |(refine⟨_,rfl,rfl,Eq.trans ?_ (X0 (still_cons X18 _ _) _)⟩;(simp[*];done))
    |(refine⟨_,rfl,rfl,Eq.trans ?_ (X0 (X4 X18 _) _)⟩;(rw[List.map_replicate];rfl))
    |(refine⟨_,rfl,rfl,Eq.trans ?_ (X0 (X4 still_GOp _) _)⟩;rfl)
    |(refine⟨_,rfl,rfl,Eq.trans ?_ (X0 (still_cons still_GOp _ _) _)⟩;rfl)
    |(refine⟨_,rfl,rfl,Eq.trans ?_ (X0 (X4 still_GOp _) _)⟩;(simp;done))
    |(refine⟨_,rfl,rfl,Eq.trans ?_ (X0 (still_cons still_GOp _ _) _)⟩;(simp;done))
    |(refine⟨_,rfl,rfl,Eq.trans ?_ (X0 (X4 still_GOp _) _)⟩;(simp;rfl))
    |(refine⟨_,rfl,rfl,Eq.trans ?_ (X0 (still_cons still_GOp _ _) _)⟩;(simp;rfl))
    |(refine⟨_,rfl,rfl,Eq.trans ?_ (X0 (X4 still_GOp _) _)⟩;(exact Eq.symm (Eq.trans List.map_append rfl)))
    |(refine⟨_,rfl,rfl,Eq.trans ?_ (X0 (X4 still_GOp _) _)⟩;(rw[List.map_append];rfl))
    |(refine⟨_,rfl,rfl,Eq.trans ?_ (X0 (X4 still_GOp _) _)⟩;(rw[List.map_set];rfl))
    |(refine⟨_,rfl,rfl,Eq.trans ?_ (X0 (X4 still_GOp _) _)⟩;(simp[*];done))
    |(refine⟨_,rfl,rfl,Eq.trans ?_ (X0 (still_cons still_GOp _ _) _)⟩;(simp[*];done))
    |(refine⟨_,rfl,rfl,Eq.trans ?_ (X0 (X4 still_GOp _) _)⟩;(rw[List.map_replicate];rfl))
    |(refine⟨_,rfl,rfl,Eq.trans ?_ (X0 (X4 X2f _) _)⟩;rfl)
    |(refine⟨_,rfl,rfl,Eq.trans ?_ (X0 (still_cons X2f _ _) _)⟩;rfl)
    |(refine⟨_,rfl,rfl,Eq.trans ?_ (X0 (X4 X2f _) _)⟩;(simp;done))
    |(refine⟨_,rfl,rfl,Eq.trans ?_ (X0 (still_cons X2f _ _) _)⟩;(simp;done))
    |(refine⟨_,rfl,rfl,Eq.trans ?_ (X0 (X4 X2f _) _)⟩;(simp;rfl))
    |(refine⟨_,rfl,rfl,Eq.trans ?_ (X0 (still_cons X2f _ _) _)⟩;(simp;rfl))
    |(refine⟨_,rfl,rfl,Eq.trans ?_ (X0 (X4 X2f _) _)⟩;(exact Eq.symm (Eq.trans List.map_append rfl)))
    |(refine⟨_,rfl,rfl,Eq.trans ?_ (X0 (X4 X2f _) _)⟩;(rw[List.map_append];rfl))
    |(refine⟨_,rfl,rfl,Eq.trans ?_ (X0 (X4 X2f _) _)⟩;(rw[List.map_set];rfl))
    |(refine⟨_,rfl,rfl,Eq.trans ?_ (X0 (X4 X2f _) _)⟩;(simp[*];done))
    |(refine⟨_,rfl,rfl,Eq.trans ?_ (X0 (still_cons X2f _ _) _)⟩;(simp[*];done))
    |(refine⟨_,rfl,rfl,Eq.trans ?_ (X0 (X4 X2f _) _)⟩;(rw[List.map_replicate];rfl))
    |(refine⟨_,rfl,rfl,Eq.trans ?_ (X0 (X4 X20 _) _)⟩;rfl)
    |(refine⟨_,rfl,rfl,Eq.trans ?_ (X0 (still_cons X20 _ _) _)⟩;rfl)
    |(refine⟨_,rfl,rfl,Eq.trans ?_ (X0 (X4 X20 _) _)⟩;(simp;done))
    |(refine⟨_,rfl,rfl,Eq.trans ?_ (X0 (still_cons X20 _ _) _)⟩;(simp;done))
    |(refine⟨_,rfl,rfl,Eq.trans ?_ (X0 (X4 X20 _) _)⟩;(simp;rfl))
    |(refine⟨_,rfl,rfl,Eq.trans ?_ (X0 (still_cons X20 _ _) _)⟩;(simp;rfl))
    |(refine⟨_,rfl,rfl,Eq.trans ?_ (X0 (X4 X20 _) _)⟩;(exact Eq.symm (Eq.trans List.map_append rfl)))
    |(refine⟨_,rfl,rfl,Eq.trans ?_ (X0 (X4 X20 _) _)⟩;(rw[List.map_append];rfl))
    |(refine⟨_,rfl,rfl,Eq.trans ?_ (X0 (X4 X20 _) _)⟩;(rw[List.map_set];rfl))
    |(refine⟨_,rfl,rfl,Eq.trans ?_ (X0 (X4 X20 _) _)⟩;(simp[*];done))
    |(refine⟨_,rfl,rfl,Eq.trans ?_ (X0 (still_cons X20 _ _) _)⟩;(simp[*];done))
    |(refine⟨_,rfl,rfl,Eq.trans ?_ (X0 (X4 X20 _) _)⟩;(rw[List.map_replicate];rfl))
    |(refine⟨_,rfl,rfl,Eq.trans ?_ (X0 (X4 still_V2GAccum _) _)⟩;rfl)
    |(refine⟨_,rfl,rfl,Eq.trans ?_ (X0 (still_cons still_V2GAccum _ _) _)⟩;rfl)
    |(refine⟨_,rfl,rfl,Eq.trans ?_ (X0 (X4 still_V2GAccum _) _)⟩;(simp;done))
    |(refine⟨_,rfl,rfl,Eq.trans ?_ (X0 (still_cons still_V2GAccum _ _) _)⟩;(simp;done))
    |(refine⟨_,rfl,rfl,Eq.trans ?_ (X0 (X4 still_V2GAccum _) _)⟩;(simp;rfl))
    |(refine⟨_,rfl,rfl,Eq.trans ?_ (X0 (still_cons still_V2GAccum _ _) _)⟩;(simp;rfl))
    |(refine⟨_,rfl,rfl,Eq.trans ?_ (X0 (X4 still_V2GAccum _) _)⟩;(exact Eq.symm (Eq.trans List.map_append rfl)))
    |(refine⟨_,rfl,rfl,Eq.trans ?_ (X0 (X4 still_V2GAccum _) _)⟩;(rw[List.map_append];rfl))
    |(refine⟨_,rfl,rfl,Eq.trans ?_ (X0 (X4 still_V2GAccum _) _)⟩;(rw[List.map_set];rfl))
    |(refine⟨_,rfl,rfl,Eq.trans ?_ (X0 (X4 still_V2GAccum _) _)⟩;(simp[*];done))
    |(refine⟨_,rfl,rfl,Eq.trans ?_ (X0 (still_cons still_V2GAccum _ _) _)⟩;(simp[*];done))
    |(refine⟨_,rfl,rfl,Eq.trans ?_ (X0 (X4 still_V2GAccum _) _)⟩;(rw[List.map_replicate];rfl))
    |(refine⟨_,rfl,rfl,Eq.trans ?_ (X0 (X4 X1z _) _)⟩;rfl)
    |(refine⟨_,rfl,rfl,Eq.trans ?_ (X0 (still_cons X1z _ _) _)⟩;rfl)
    |(refine⟨_,rfl,rfl,Eq.trans ?_ (X0 (X4 X1z _) _)⟩;(simp;done))
    |(refine⟨_,rfl,rfl,Eq.trans ?_ (X0 (still_cons X1z _ _) _)⟩;(simp;done))
    |(refine⟨_,rfl,rfl,Eq.trans ?_ (X0 (X4 X1z _) _)⟩;(simp;rfl))
    |(refine⟨_,rfl,rfl,Eq.trans ?_ (X0 (still_cons X1z _ _) _)⟩;(simp;rfl))
    |(refine⟨_,rfl,rfl,Eq.trans ?_ (X0 (X4 X1z _) _)⟩;(exact Eq.symm (Eq.trans List.map_append rfl)))
    |(refine⟨_,rfl,rfl,Eq.trans ?_ (X0 (X4 X1z _) _)⟩;(rw[List.map_append];rfl))
    |(refine⟨_,rfl,rfl,Eq.trans ?_ (X0 (X4 X1z _) _)⟩;(rw[List.map_set];rfl))
    |(refine⟨_,rfl,rfl,Eq.trans ?_ (X0 (X4 X1z _) _)⟩;(simp[*];done))
    |(refine⟨_,rfl,rfl,Eq.trans ?_ (X0 (still_cons X1z _ _) _)⟩;(simp[*];done))
    |(refine⟨_,rfl,rfl,Eq.trans ?_ (X0 (X4 X1z _) _)⟩;(rw[List.map_replicate];rfl))
    |(refine⟨_,rfl,rfl,Eq.trans ?_ (X0 (X4 X1y _) _)⟩;rfl)
    |(refine⟨_,rfl,rfl,Eq.trans ?_ (X0 (still_cons X1y _ _) _)⟩;rfl)
    |(refine⟨_,rfl,rfl,Eq.trans ?_ (X0 (X4 X1y _) _)⟩;(simp;done))
    |(refine⟨_,rfl,rfl,Eq.trans ?_ (X0 (still_cons X1y _ _) _)⟩;(simp;done))
    |(refine⟨_,rfl,rfl,Eq.trans ?_ (X0 (X4 X1y _) _)⟩;(simp;rfl))
    |(refine⟨_,rfl,rfl,Eq.trans ?_ (X0 (still_cons X1y _ _) _)⟩;(simp;rfl))
    |(refine⟨_,rfl,rfl,Eq.trans ?_ (X0 (X4 X1y _) _)⟩;(exact Eq.symm (Eq.trans List.map_append rfl)))
    |(refine⟨_,rfl,rfl,Eq.trans ?_ (X0 (X4 X1y _) _)⟩;(rw[List.map_append];rfl))
    |(refine⟨_,rfl,rfl,Eq.trans ?_ (X0 (X4 X1y _) _)⟩;(rw[List.map_set];rfl))):P:=h
theorem wkR2 {P:Prop} (h:P:=by
  first
    |(refine⟨_,rfl,rfl,Eq.trans ?_ (X0 (X4 X1y _) _)⟩;(simp[*];done))
    |(refine⟨_,rfl,rfl,Eq.trans ?_ (X0 (still_cons X1y _ _) _)⟩;(simp[*];done))
    |(refine⟨_,rfl,rfl,Eq.trans ?_ (X0 (X4 X1y _) _)⟩;(rw[List.map_replicate];rfl))
    |(refine⟨_,rfl,rfl,Eq.trans ?_ (X0 (X4 (X0f true) _) _)⟩;rfl)
    |(refine⟨_,rfl,rfl,Eq.trans ?_ (X0 (still_cons (X0f true) _ _) _)⟩;rfl)
    |(refine⟨_,rfl,rfl,Eq.trans ?_ (X0 (X4 (X0f true) _) _)⟩;(simp;done))
    |(refine⟨_,rfl,rfl,Eq.trans ?_ (X0 (still_cons (X0f true) _ _) _)⟩;(simp;done))
    |(refine⟨_,rfl,rfl,Eq.trans ?_ (X0 (X4 (X0f true) _) _)⟩;(simp;rfl))
    |(refine⟨_,rfl,rfl,Eq.trans ?_ (X0 (still_cons (X0f true) _ _) _)⟩;(simp;rfl))
    |(refine⟨_,rfl,rfl,Eq.trans ?_ (X0 (X4 (X0f true) _) _)⟩;(exact Eq.symm (Eq.trans List.map_append rfl)))
    |(refine⟨_,rfl,rfl,Eq.trans ?_ (X0 (X4 (X0f true) _) _)⟩;(rw[List.map_append];rfl))
    |(refine⟨_,rfl,rfl,Eq.trans ?_ (X0 (X4 (X0f true) _) _)⟩;(rw[List.map_set];rfl))
    |(refine⟨_,rfl,rfl,Eq.trans ?_ (X0 (X4 (X0f true) _) _)⟩;(simp[*];done))
    |(refine⟨_,rfl,rfl,Eq.trans ?_ (X0 (still_cons (X0f true) _ _) _)⟩;(simp[*];done))
    |(refine⟨_,rfl,rfl,Eq.trans ?_ (X0 (X4 (X0f true) _) _)⟩;(rw[List.map_replicate];rfl))
    |(refine⟨_,rfl,rfl,Eq.trans ?_ (X0 (X4 (X0f false) _) _)⟩;rfl)
    |(refine⟨_,rfl,rfl,Eq.trans ?_ (X0 (still_cons (X0f false) _ _) _)⟩;rfl)
    |(refine⟨_,rfl,rfl,Eq.trans ?_ (X0 (X4 (X0f false) _) _)⟩;(simp;done))
    |(refine⟨_,rfl,rfl,Eq.trans ?_ (X0 (still_cons (X0f false) _ _) _)⟩;(simp;done))
    |(refine⟨_,rfl,rfl,Eq.trans ?_ (X0 (X4 (X0f false) _) _)⟩;(simp;rfl))
    |(refine⟨_,rfl,rfl,Eq.trans ?_ (X0 (still_cons (X0f false) _ _) _)⟩;(simp;rfl))
    |(refine⟨_,rfl,rfl,Eq.trans ?_ (X0 (X4 (X0f false) _) _)⟩;(exact Eq.symm (Eq.trans List.map_append rfl)))
    |(refine⟨_,rfl,rfl,Eq.trans ?_ (X0 (X4 (X0f false) _) _)⟩;(rw[List.map_append];rfl))
    |(refine⟨_,rfl,rfl,Eq.trans ?_ (X0 (X4 (X0f false) _) _)⟩;(rw[List.map_set];rfl))
    |(refine⟨_,rfl,rfl,Eq.trans ?_ (X0 (X4 (X0f false) _) _)⟩;(simp[*];done))
    |(refine⟨_,rfl,rfl,Eq.trans ?_ (X0 (still_cons (X0f false) _ _) _)⟩;(simp[*];done))
    |(refine⟨_,rfl,rfl,Eq.trans ?_ (X0 (X4 (X0f false) _) _)⟩;(rw[List.map_replicate];rfl))
    |(refine⟨_,rfl,rfl,Eq.trans ?_ (X0 (X4 X0o _) _)⟩;rfl)
    |(refine⟨_,rfl,rfl,Eq.trans ?_ (X0 (still_cons X0o _ _) _)⟩;rfl)
    |(refine⟨_,rfl,rfl,Eq.trans ?_ (X0 (X4 X0o _) _)⟩;(simp;done))
    |(refine⟨_,rfl,rfl,Eq.trans ?_ (X0 (still_cons X0o _ _) _)⟩;(simp;done))
    |(refine⟨_,rfl,rfl,Eq.trans ?_ (X0 (X4 X0o _) _)⟩;(simp;rfl))
    |(refine⟨_,rfl,rfl,Eq.trans ?_ (X0 (still_cons X0o _ _) _)⟩;(simp;rfl))
    |(refine⟨_,rfl,rfl,Eq.trans ?_ (X0 (X4 X0o _) _)⟩;(exact Eq.symm (Eq.trans List.map_append rfl)))
    |(refine⟨_,rfl,rfl,Eq.trans ?_ (X0 (X4 X0o _) _)⟩;(rw[List.map_append];rfl))
    |(refine⟨_,rfl,rfl,Eq.trans ?_ (X0 (X4 X0o _) _)⟩;(rw[List.map_set];rfl))
    |(refine⟨_,rfl,rfl,Eq.trans ?_ (X0 (X4 X0o _) _)⟩;(simp[*];done))
    |(refine⟨_,rfl,rfl,Eq.trans ?_ (X0 (still_cons X0o _ _) _)⟩;(simp[*];done))
    |(refine⟨_,rfl,rfl,Eq.trans ?_ (X0 (X4 X0o _) _)⟩;(rw[List.map_replicate];rfl))
    |(refine⟨_,rfl,rfl,Eq.trans ?_ (X0 (X4 still_V2b _) _)⟩;rfl)
    |(refine⟨_,rfl,rfl,Eq.trans ?_ (X0 (still_cons still_V2b _ _) _)⟩;rfl)
    |(refine⟨_,rfl,rfl,Eq.trans ?_ (X0 (X4 still_V2b _) _)⟩;(simp;done))
    |(refine⟨_,rfl,rfl,Eq.trans ?_ (X0 (still_cons still_V2b _ _) _)⟩;(simp;done))
    |(refine⟨_,rfl,rfl,Eq.trans ?_ (X0 (X4 still_V2b _) _)⟩;(simp;rfl))
    |(refine⟨_,rfl,rfl,Eq.trans ?_ (X0 (still_cons still_V2b _ _) _)⟩;(simp;rfl))
    |(refine⟨_,rfl,rfl,Eq.trans ?_ (X0 (X4 still_V2b _) _)⟩;(exact Eq.symm (Eq.trans List.map_append rfl)))
    |(refine⟨_,rfl,rfl,Eq.trans ?_ (X0 (X4 still_V2b _) _)⟩;(rw[List.map_append];rfl))
    |(refine⟨_,rfl,rfl,Eq.trans ?_ (X0 (X4 still_V2b _) _)⟩;(rw[List.map_set];rfl))
    |(refine⟨_,rfl,rfl,Eq.trans ?_ (X0 (X4 still_V2b _) _)⟩;(simp[*];done))
    |(refine⟨_,rfl,rfl,Eq.trans ?_ (X0 (still_cons still_V2b _ _) _)⟩;(simp[*];done))
    |(refine⟨_,rfl,rfl,Eq.trans ?_ (X0 (X4 still_V2b _) _)⟩;(rw[List.map_replicate];rfl))
    |(refine⟨_,rfl,rfl,Eq.trans ?_ (X0 (X4 (fun _=>X63) _) _)⟩;rfl)
    |(refine⟨_,rfl,rfl,Eq.trans ?_ (X0 (still_cons (fun _=>X63) _ _) _)⟩;rfl)
    |(refine⟨_,rfl,rfl,Eq.trans ?_ (X0 (X4 (fun _=>X63) _) _)⟩;(simp;done))
    |(refine⟨_,rfl,rfl,Eq.trans ?_ (X0 (still_cons (fun _=>X63) _ _) _)⟩;(simp;done))
    |(refine⟨_,rfl,rfl,Eq.trans ?_ (X0 (X4 (fun _=>X63) _) _)⟩;(simp;rfl))
    |(refine⟨_,rfl,rfl,Eq.trans ?_ (X0 (still_cons (fun _=>X63) _ _) _)⟩;(simp;rfl))
    |(refine⟨_,rfl,rfl,Eq.trans ?_ (X0 (X4 (fun _=>X63) _) _)⟩;(exact Eq.symm (Eq.trans List.map_append rfl)))
    |(refine⟨_,rfl,rfl,Eq.trans ?_ (X0 (X4 (fun _=>X63) _) _)⟩;(rw[List.map_append];rfl))
    |(refine⟨_,rfl,rfl,Eq.trans ?_ (X0 (X4 (fun _=>X63) _) _)⟩;(rw[List.map_set];rfl))
    |(refine⟨_,rfl,rfl,Eq.trans ?_ (X0 (X4 (fun _=>X63) _) _)⟩;(simp[*];done))
    |(refine⟨_,rfl,rfl,Eq.trans ?_ (X0 (still_cons (fun _=>X63) _ _) _)⟩;(simp[*];done))
    |(refine⟨_,rfl,rfl,Eq.trans ?_ (X0 (X4 (fun _=>X63) _) _)⟩;(rw[List.map_replicate];rfl))
    |(refine⟨_,rfl,rfl,Eq.trans ?_ (X0 (X4 (fun _=>still_encl) _) _)⟩;rfl)
    |(refine⟨_,rfl,rfl,Eq.trans ?_ (X0 (still_cons (fun _=>still_encl) _ _) _)⟩;rfl)
    |(refine⟨_,rfl,rfl,Eq.trans ?_ (X0 (X4 (fun _=>still_encl) _) _)⟩;(simp;done))
    |(refine⟨_,rfl,rfl,Eq.trans ?_ (X0 (still_cons (fun _=>still_encl) _ _) _)⟩;(simp;done))
    |(refine⟨_,rfl,rfl,Eq.trans ?_ (X0 (X4 (fun _=>still_encl) _) _)⟩;(simp;rfl))
    |(refine⟨_,rfl,rfl,Eq.trans ?_ (X0 (still_cons (fun _=>still_encl) _ _) _)⟩;(simp;rfl))
    |(refine⟨_,rfl,rfl,Eq.trans ?_ (X0 (X4 (fun _=>still_encl) _) _)⟩;(exact Eq.symm (Eq.trans List.map_append rfl)))
    |(refine⟨_,rfl,rfl,Eq.trans ?_ (X0 (X4 (fun _=>still_encl) _) _)⟩;(rw[List.map_append];rfl))
    |(refine⟨_,rfl,rfl,Eq.trans ?_ (X0 (X4 (fun _=>still_encl) _) _)⟩;(rw[List.map_set];rfl))
    |(refine⟨_,rfl,rfl,Eq.trans ?_ (X0 (X4 (fun _=>still_encl) _) _)⟩;(simp[*];done))
    |(refine⟨_,rfl,rfl,Eq.trans ?_ (X0 (still_cons (fun _=>still_encl) _ _) _)⟩;(simp[*];done))
    |(refine⟨_,rfl,rfl,Eq.trans ?_ (X0 (X4 (fun _=>still_encl) _) _)⟩;(rw[List.map_replicate];rfl))
    |(refine⟨_,rfl,rfl,Eq.trans ?_ (X0 (still_one (X2g _)) _)⟩;simp only[List.length_cons,List.length_map];rfl)
    |(refine⟨_,rfl,rfl,Eq.trans ?_ (X0 (still_one (X1j _)) _)⟩;simp only[List.length_cons,List.length_map];rfl)
    |(refine⟨_,rfl,rfl,Eq.trans ?_ (X0 (still_one ((X04 true) _)) _)⟩;simp only[List.length_cons,List.length_map];rfl)
    |(refine⟨_,rfl,rfl,Eq.trans ?_ (X0 (still_one ((X04 false) _)) _)⟩;simp only[List.length_cons,List.length_map];rfl)
    |(refine⟨_,rfl,rfl,Eq.trans ?_ (X0 (still_one (X1k _)) _)⟩;simp only[List.length_cons,List.length_map];rfl)
    |(refine⟨_,rfl,rfl,Eq.trans ?_ (X0 (still_one (X2e _)) _)⟩;simp only[List.length_cons,List.length_map];rfl)
    |(refine⟨_,rfl,rfl,Eq.trans ?_ (X0 (still_one (still_V2i64 _)) _)⟩;simp only[List.length_cons,List.length_map];rfl)
    |(refine⟨_,rfl,rfl,Eq.trans ?_ (X0 (still_one (X31 _)) _)⟩;simp only[List.length_cons,List.length_map];rfl)
    |(refine⟨_,rfl,rfl,Eq.trans ?_ (X0 (still_one (X18 _)) _)⟩;simp only[List.length_cons,List.length_map];rfl)
    |(refine⟨_,rfl,rfl,Eq.trans ?_ (X0 (still_one (still_GOp _)) _)⟩;simp only[List.length_cons,List.length_map];rfl)
    |(refine⟨_,rfl,rfl,Eq.trans ?_ (X0 (still_one (X2f _)) _)⟩;simp only[List.length_cons,List.length_map];rfl)
    |(refine⟨_,rfl,rfl,Eq.trans ?_ (X0 (still_one (X20 _)) _)⟩;simp only[List.length_cons,List.length_map];rfl)
    |(refine⟨_,rfl,rfl,Eq.trans ?_ (X0 (still_one (still_V2GAccum _)) _)⟩;simp only[List.length_cons,List.length_map];rfl)
    |(refine⟨_,rfl,rfl,Eq.trans ?_ (X0 (still_one (X1z _)) _)⟩;simp only[List.length_cons,List.length_map];rfl)
    |(refine⟨_,rfl,rfl,Eq.trans ?_ (X0 (still_one (X1y _)) _)⟩;simp only[List.length_cons,List.length_map];rfl)
    |(refine⟨_,rfl,rfl,Eq.trans ?_ (X0 (still_one ((X0f true) _)) _)⟩;simp only[List.length_cons,List.length_map];rfl)
    |(refine⟨_,rfl,rfl,Eq.trans ?_ (X0 (still_one ((X0f false) _)) _)⟩;simp only[List.length_cons,List.length_map];rfl)
    |(refine⟨_,rfl,rfl,Eq.trans ?_ (X0 (still_one (X0o _)) _)⟩;simp only[List.length_cons,List.length_map];rfl)
    |(refine⟨_,rfl,rfl,Eq.trans ?_ (X0 (still_one (still_V2b _)) _)⟩;simp only[List.length_cons,List.length_map];rfl)
    |(refine⟨_,rfl,rfl,Eq.trans ?_ (X0 (still_one ((fun _=>X63) _)) _)⟩;simp only[List.length_cons,List.length_map];rfl)
    |(refine⟨_,rfl,rfl,Eq.trans ?_ (X0 (still_one ((fun _=>still_encl) _)) _)⟩;simp only[List.length_cons,List.length_map];rfl)):P:=h
theorem wkB {P:Prop} (h:P:=by
  first
    |exact trivial
    |rfl
    |decide
    |exact⟨_,rfl,rfl,rfl⟩
    |(refine⟨_,rfl,rfl,ref1 ?_⟩;first|rfl|omega|(simp;done)|(simp;omega))
    |exact wkR0
    |exact wkR1
    |exact wkR2
    |(intro e he a ha;rw[List.mem_singleton.1 he] at ha;rw[List.mem_singleton.1 ha];first|exact .sc|exact .list|exact .nils|exact .ref (by decide)|exact .ptr (by decide)|exact Xrz|exact .fn (X0y (.ptr (by decide)) X76)|exact .fn (X0y (.ptr (by decide)) (X0y (.ptr (by decide)) X76)))
    |(intro e he a ha;simp at he;subst he;simp[AV.cells] at ha;first|(subst ha;exact .sc)|(rcases ha with rfl|rfl|rfl|rfl|rfl<;>exact .sc))
    |(refine⟨_,rfl,rfl,aggR ?_⟩;repeat' first|exact trivial|refine And.intro ?_ ?_|rfl|exact wkSl rfl|(refine refR rfl ?_;first|rfl|(simp;done)|(simp;omega)))
    |(refine okAgg ?_;repeat' first|exact X76|refine X0y ?_ ?_|exact .sc|exact .list|exact .nils|exact .ref (by decide)|exact .ptr (by decide)|exact okSl (by decide)|exact okF|exact okG|exact Xrz)):P:=h
theorem rn {P:Program} {T:Ty} {nt n0:Nat} {μ:Mu} {Q:X00->St->Mu->Prop} {cf cf':Cf} {K K':List Kn} {L L':List (Nat×AV)} {G G':List (Nat×Obj)} {n n':Nat} {hs':List X25} {ps':List Prop} (hT:Xan P T/\P.follows .mixedOrders=true) (hs:List X25) (h:Xa9 P T nt 4000 cf K L G n hs []=some (cf',K',L',G',n',hs',ps')) (hp':X4m ps') (k:X3 P nt n0 Q cf' K' ⟨fr L',hp G',n'⟩ μ):X3 P nt n0 Q cf K ⟨fr L,hp G,n⟩ μ:=Xor hT 4000 hs h hp' k
abbrev cc:=@Cvs.cons
abbrev cn:=@Cvs.nil
abbrev pn:=@X5m.none
abbrev Bt:X25:=.br true
abbrev Bf:X25:=.br false
abbrev Ob (e:List AV) (n:Nat):Obj:={ es:=e,esz:=n }
abbrev Lf:=AV.list false
theorem Zn {α:Type} {m:Bool} {H:X0j} (f:α->AV):Cv m H .nils (.list m (List.map f ([]:List α))):=.nils
theorem wkT {P : Program} {nt n0 : Nat} {Q : X00 -> St -> Mu -> Prop} {cf : Cf} {K : List Kn} {μ : Mu} {L L' : List (Nat × AV)} {G G' : List (Nat × Obj)} {n n' : Nat} (θ : List (Nat × Nat)) (h : X3 P nt n0 Q cf K ⟨fr L', hp G', n'⟩ μ)
    (hb:(fixB θ n0&&injB θ (G'.map (·.1))&&Nat.ble n0 n')=true:=by rfl) (hL:wkL L θ n' L':=by repeat' first|refine And.intro ?_ ?_|exact wkA) (hG:wkG G θ n' G':=by repeat' first|refine And.intro ?_ ?_|exact wkB):X3 P nt n0 Q cf K ⟨fr L,hp G,n⟩ μ:=X3.weakTo θ h hb hL hG
end Go.Av
namespace Go.D
open Go.Av
def X6w (x y:X07):Bool:=((x.Kind==y.Kind)&&((x.N==y.N)&&((x.A==y.A)&&((x.B==y.B)&&((x.At==y.At)&&true)))))
def X98 (x y:Xm):Bool:=((x.Key==y.Key)&&((x.Time==y.Time)&&((x.Value==y.Value)&&true)))
def Xai (x y:X05):Bool:=((x.Start==y.Start)&&((x.End==y.End)&&true))
def Xlv (x y:(V2 Int)):Bool:=((x.e0==y.e0)&&((x.e1==y.e1)&&true))
def Xki (x y:X1r):Bool:=((x.Key==y.Key)&&((Xai x.Span y.Span)&&((Xlv x.Values y.Values)&&true)))
def X9o (x y:Xn):Bool:=((x.Kind==y.Kind)&&((X98 x.Record y.Record)&&((x.Time==y.Time)&&((Xki x.Row y.Row)&&true))))
def Xf1 (x y:X12):Bool:=((x.Count==y.Count)&&((x.Sum==y.Sum)&&((x.Min==y.Min)&&((x.Max==y.Max)&&true))))
def Xg5 (x:X07):Prop:=wfI .u8 x.Kind/\wfI .i64 x.N/\wfI .i64 x.A/\wfI .i64 x.B/\wfI .i64 x.At
def Xit (x:X0n):Prop:=wfI .u8 x.Kind/\wfI .i64 x.Size/\wfI .i64 x.Every
def Xgn (x:X06):Prop:=wfI .u8 x.Agg/\(List.length x.Arg<=maxLen/\∀ y∈x.Arg,Xg5 y)/\(List.length x.Sources<=maxLen/\∀ y∈x.Sources,wfI .i64 y)/\True/\(List.length x.Where<=maxLen/\∀ y∈x.Where,Xg5 y)/\Xit x.Window/\True/\wfI .u8 x.Late
def Xiu (x:Xm):Prop:=wfI .i64 x.Key/\wfI .i64 x.Time/\wfI .i64 x.Value
end Go.D
