/- Printed by decomp.py: the types of the Go program, as data; their encodings. -/
import Derived.Test.YtkjlgmgfhgamlaaGreatAvc
set_option linter.all false

namespace Go.D
theorem Yo {α β:Type} {a:α} {f:α->Option β}:(some a).bind f=f a:=rfl
theorem Yf {p:Prop} [Decidable p] (h:¬ p):decide p=false:=decide_eq_false h
theorem Yt {p:Prop} [Decidable p] (h:p):decide p=true:=decide_eq_true h
theorem Ym {α β:Type} {f:α->β} {l:List α} {i:Nat}:List.map f (List.take i l)=List.take i (List.map f l):=List.map_take
theorem Yd {α β:Type} {f:α->β} {l:List α} {i:Nat}:List.map f (List.drop i l)=List.drop i (List.map f l):=List.map_drop
theorem Ya {a b:Prop} (x:a) (y:b):a/\b:=⟨x,y⟩
theorem Ye {α:Type} {l:List α} {i:Nat} (h:i<l.length):l[i]?=some l[i]:=List.getElem?_eq_getElem h
theorem Ys {α:Type} {l:List α} {i:Nat} {a:α}:l[i]?=some a↔∃ h:i<l.length,l[i]=a:=List.getElem?_eq_some_iff
theorem Yg {α:Type} {l:List α} {i:Nat} {a:α} (h:l[i]?=some a):a∈l:=List.mem_of_getElem? h
structure X07 where
  Kind:Int
  N:Int
  A:Int
  B:Int
  At:Int
  deriving DecidableEq,Inhabited
structure X0y where
  Kind:Int
  Size:Int
  Every:Int
  deriving DecidableEq,Inhabited
structure X0b where
  Agg:Int
  Arg:(List X07)
  Sources:(List Int)
  Join:Bool
  Where:(List X07)
  Window:X0y
  ByKey:Bool
  Late:Int
  deriving DecidableEq,Inhabited
structure GOp where
  Kind:Int
  N:Int
  deriving DecidableEq,Inhabited
structure Xe where
  Key:Int
  Time:Int
  Value:Int
  deriving DecidableEq,Inhabited
structure X06 where
  Start:Int
  End:Int
  deriving DecidableEq,Inhabited
structure X1g where
  Key:Int
  Span:X06
  Values:(V2 Int)
  deriving DecidableEq,Inhabited
structure Xj where
  Kind:Int
  Record:Xe
  Time:Int
  Row:X1g
  deriving DecidableEq,Inhabited
structure X0g where
  Out:Int
  Message:Xj
  deriving DecidableEq,Inhabited
structure X0q where
  Count:Int
  Sum:Int
  Min:Int
  Max:Int
  deriving DecidableEq,Inhabited
structure X4 where
  Key:Int
  Span:X06
  Values:(V2 X0q)
  deriving DecidableEq,Inhabited
structure X0c where
  Mark:Bool
  Time:Int
  Record:Xe
  deriving DecidableEq,Inhabited
structure Xo where
  Op:GOp
  Turn:Int
  Pending:(List X0g)
  Marks:(List Int)
  Store:(List X4)
  Events:(List X0c)
  Rows:(List X1g)
  Late:(List Xe)
  deriving DecidableEq,Inhabited
structure Xf where
  at_:Int
  size:Int
  depth:Int
  deriving DecidableEq,Inhabited
end Go.D
namespace Go.Av
open Go.D
def X9 (x:X07):AV:=.agg [(aI .u8 x.Kind),(aI .i64 x.N),(aI .i64 x.A),(aI .i64 x.B),(aI .i64 x.At)]
theorem Xdd (x:X07):Xaq (X9 x):=(X28 (X28 (X28 (X28 (X28 Xh3)))))
theorem X2d (x:X07):X7c (X9 x):=fun _=>rfl
theorem Xdb (x:X07):Xap (X9 x):=X4e (Xdd x) rfl
instance X04t:Xcy X9:=⟨Xdd,fun _=>rfl,X2d⟩
def X3f (x:X0y):AV:=.agg [(aI .u8 x.Kind),(aI .i64 x.Size),(aI .i64 x.Every)]
theorem Xgk (x:X0y):Xaq (X3f x):=(X28 (X28 (X28 Xh3)))
theorem X1d (x:X0y):X7c (X3f x):=fun _=>rfl
theorem Xaa (x:X0y):Xap (X3f x):=X4e (Xgk x) rfl
instance X02x:Xcy X3f:=⟨Xgk,fun _=>rfl,X1d⟩
def X05 (o:Bool) (x:X0b):AV:=.agg [(aI .u8 x.Agg),(AV.list o (List.map X9 x.Arg)),(AV.list o (List.map (aI .i64) x.Sources)),(aB x.Join),(AV.list o (List.map X9 x.Where)),(aI .u8 x.Window.Kind),(aI .i64 x.Window.Size),(aI .i64 x.Window.Every),(aB x.ByKey),(aI .u8 x.Late)]
theorem X04 (o:Bool) (x:X0b):X7c (X05 o x):=fun _=>rfl
theorem X4n (o:Bool) (x:X0b):Xap (X05 o x):=Xqn (fun _=>(X0x .sc (X0x .list (X0x .list (X0x .sc (X0x .list (X0x .sc (X0x .sc (X0x .sc (X0x .sc (X0x .sc X7k)))))))))))
theorem Xsa {H:X0j} {o:Bool} {x:X0b}:Cv false H (X05 o x) (X05 false x):=Xnd (Cvs.cons .sc (Cvs.cons (X5r (X2l Xdd _)) (Cvs.cons (X5r (X2l (fun _=>Xew) _)) (Cvs.cons .sc (Cvs.cons (X5r (X2l Xdd _)) (Cvs.cons .sc (Cvs.cons .sc (Cvs.cons .sc (Cvs.cons .sc (Cvs.cons .sc Cvs.nil))))))))))
theorem Xs9 {H:X0j} {o:Bool} {x:X0b}:Cv true H (X05 o x) (X05 o x):=Xnd (Cvs.cons .sc (Cvs.cons (.listS rfl) (Cvs.cons (.listS rfl) (Cvs.cons .sc (Cvs.cons (.listS rfl) (Cvs.cons .sc (Cvs.cons .sc (Cvs.cons .sc (Cvs.cons .sc (Cvs.cons .sc Cvs.nil))))))))))
instance X03o:X02o X05:=⟨Xsa,Xs9,fun _ _ _=>rfl,X4n,X04⟩
def X01z (x:GOp):AV:=.agg [(aI .u8 x.Kind),(aI .i64 x.N)]
def Xt (x:Xe):AV:=.agg [(aI .i64 x.Key),(aI .i64 x.Time),(aI .i64 x.Value)]
theorem Xct (x:Xe):Xaq (Xt x):=(X28 (X28 (X28 Xh3)))
theorem X1e (x:Xe):X7c (Xt x):=fun _=>rfl
theorem Xab (x:Xe):Xap (Xt x):=X4e (Xct x) rfl
instance X02y:Xcy Xt:=⟨Xct,fun _=>rfl,X1e⟩
def X02 (x:X06):AV:=.agg [(aI .i64 x.Start),(aI .i64 x.End)]
theorem Xkk (x:X06):Xaq (X02 x):=(X28 (X28 Xh3))
theorem X2b (x:X06):X7c (X02 x):=fun _=>rfl
theorem Xd9 (x:X06):Xap (X02 x):=X4e (Xkk x) rfl
instance X04r:Xcy X02:=⟨Xkk,fun _=>rfl,X2b⟩
def Xs7 (x:(V2 Int)):AV:=.agg [(aI .i64 x.e0),(aI .i64 x.e1)]
def Xw (x:X1g):AV:=.agg [(aI .i64 x.Key),(aI .i64 x.Span.Start),(aI .i64 x.Span.End),(aI .i64 x.Values.e0),(aI .i64 x.Values.e1)]
theorem Xiv (x:X1g):Xaq (Xw x):=(X28 (X28 (X28 (X28 (X28 Xh3)))))
theorem X2x (x:X1g):X7c (Xw x):=fun _=>rfl
theorem Xes (x:X1g):Xap (Xw x):=X4e (Xiv x) rfl
instance X06z:Xcy Xw:=⟨Xiv,fun _=>rfl,X2x⟩
def X00 (x:Xj):AV:=.agg [(aI .u8 x.Kind),(aI .i64 x.Record.Key),(aI .i64 x.Record.Time),(aI .i64 x.Record.Value),(aI .i64 x.Time),(aI .i64 x.Row.Key),(aI .i64 x.Row.Span.Start),(aI .i64 x.Row.Span.End),(aI .i64 x.Row.Values.e0),(aI .i64 x.Row.Values.e1)]
theorem Xev (x:Xj):Xaq (X00 x):=(X28 (X28 (X28 (X28 (X28 (X28 (X28 (X28 (X28 (X28 Xh3))))))))))
theorem X15 (x:Xj):X7c (X00 x):=fun _=>rfl
theorem X8m (x:Xj):Xap (X00 x):=X4e (Xev x) rfl
instance X01x:Xcy X00:=⟨Xev,fun _=>rfl,X15⟩
def Xs (x:X0g):AV:=.agg [(aI .i64 x.Out),(aI .u8 x.Message.Kind),(aI .i64 x.Message.Record.Key),(aI .i64 x.Message.Record.Time),(aI .i64 x.Message.Record.Value),(aI .i64 x.Message.Time),(aI .i64 x.Message.Row.Key),(aI .i64 x.Message.Row.Span.Start),(aI .i64 x.Message.Row.Span.End),(aI .i64 x.Message.Row.Values.e0),(aI .i64 x.Message.Row.Values.e1)]
theorem Xdc (x:X0g):Xaq (Xs x):=(X28 (X28 (X28 (X28 (X28 (X28 (X28 (X28 (X28 (X28 (X28 Xh3)))))))))))
theorem X2c (x:X0g):X7c (Xs x):=fun _=>rfl
theorem Xda (x:X0g):Xap (Xs x):=X4e (Xdc x) rfl
instance X04s:Xcy Xs:=⟨Xdc,fun _=>rfl,X2c⟩
def X0l (x:X0q):AV:=.agg [(aI .i64 x.Count),(aI .i64 x.Sum),(aI .i64 x.Min),(aI .i64 x.Max)]
theorem Xiw (x:X0q):Xaq (X0l x):=(X28 (X28 (X28 (X28 Xh3))))
theorem X1z (x:X0q):X7c (X0l x):=fun _=>rfl
theorem Xbs (x:X0q):Xap (X0l x):=X4e (Xiw x) rfl
instance X04b:Xcy X0l:=⟨Xiw,fun _=>rfl,X1z⟩
def Xlz (x:(V2 X0q)):AV:=.agg [(aI .i64 x.e0.Count),(aI .i64 x.e0.Sum),(aI .i64 x.e0.Min),(aI .i64 x.e0.Max),(aI .i64 x.e1.Count),(aI .i64 x.e1.Sum),(aI .i64 x.e1.Min),(aI .i64 x.e1.Max)]
def X3 (x:X4):AV:=.agg [(aI .i64 x.Key),(aI .i64 x.Span.Start),(aI .i64 x.Span.End),(aI .i64 x.Values.e0.Count),(aI .i64 x.Values.e0.Sum),(aI .i64 x.Values.e0.Min),(aI .i64 x.Values.e0.Max),(aI .i64 x.Values.e1.Count),(aI .i64 x.Values.e1.Sum),(aI .i64 x.Values.e1.Min),(aI .i64 x.Values.e1.Max)]
theorem X5e (x:X4):Xaq (X3 x):=(X28 (X28 (X28 (X28 (X28 (X28 (X28 (X28 (X28 (X28 (X28 Xh3)))))))))))
theorem X1y (x:X4):X7c (X3 x):=fun _=>rfl
theorem Xbr (x:X4):Xap (X3 x):=X4e (X5e x) rfl
theorem X7x {m:Bool} {H:X0j} {x:X4}:Cv m H (X3 x) (X3 x):=X026 (X5e x)
instance X04a:Xcy X3:=⟨X5e,fun _=>rfl,X1y⟩
def X01 (x:X0c):AV:=.agg [(aB x.Mark),(aI .i64 x.Time),(aI .i64 x.Record.Key),(aI .i64 x.Record.Time),(aI .i64 x.Record.Value)]
theorem Xe5 (x:X0c):Xaq (X01 x):=(X28 (X28 (X28 (X28 (X28 Xh3)))))
theorem X1x (x:X0c):X7c (X01 x):=fun _=>rfl
theorem Xbq (x:X0c):Xap (X01 x):=X4e (Xe5 x) rfl
instance X049:Xcy X01:=⟨Xe5,fun _=>rfl,X1x⟩
def Xc (o:Bool) (x:Xo):AV:=.agg [(aI .u8 x.Op.Kind),(aI .i64 x.Op.N),(aI .i64 x.Turn),(AV.list o (List.map Xs x.Pending)),(AV.list o (List.map (aI .i64) x.Marks)),(AV.list o (List.map X3 x.Store)),(AV.list o (List.map X01 x.Events)),(AV.list o (List.map Xw x.Rows)),(AV.list o (List.map Xt x.Late))]
theorem X0f (o:Bool) (x:Xo):X7c (Xc o x):=fun _=>rfl
theorem X5l (o:Bool) (x:Xo):Xap (Xc o x):=Xqn (fun _=>(X0x .sc (X0x .sc (X0x .sc (X0x .list (X0x .list (X0x .list (X0x .list (X0x .list (X0x .list X7k))))))))))
theorem Xv8 {H:X0j} {o:Bool} {x:Xo}:Cv false H (Xc o x) (Xc false x):=Xnd (Cvs.cons .sc (Cvs.cons .sc (Cvs.cons .sc (Cvs.cons (X5r (X2l Xdc _)) (Cvs.cons (X5r (X2l (fun _=>Xew) _)) (Cvs.cons (X5r (X2l X5e _)) (Cvs.cons (X5r (X2l Xe5 _)) (Cvs.cons (X5r (X2l Xiv _)) (Cvs.cons (X5r (X2l Xct _)) Cvs.nil)))))))))
theorem Xv7 {H:X0j} {o:Bool} {x:Xo}:Cv true H (Xc o x) (Xc o x):=Xnd (Cvs.cons .sc (Cvs.cons .sc (Cvs.cons .sc (Cvs.cons (.listS rfl) (Cvs.cons (.listS rfl) (Cvs.cons (.listS rfl) (Cvs.cons (.listS rfl) (Cvs.cons (.listS rfl) (Cvs.cons (.listS rfl) Cvs.nil)))))))))
instance X04p:X02o Xc:=⟨Xv8,Xv7,fun _ _ _=>rfl,X5l,X0f⟩
def Xa (x:Xf):AV:=.agg [(aI .i64 x.at_),(aI .i64 x.size),(aI .i64 x.depth)]
theorem Xcs (x:Xf):Xaq (Xa x):=(X28 (X28 (X28 Xh3)))
theorem X0o (x:Xf):X7c (Xa x):=fun _=>rfl
theorem X76 (x:Xf):Xap (Xa x):=X4e (Xcs x) rfl
instance Xyj:Xcy Xa:=⟨Xcs,fun _=>rfl,X0o⟩
def X8n (x:(V2 Bool)):AV:=.agg [(aB x.e0),(aB x.e1)]
theorem Xyg (x:(V2 Bool)):Xaq (X8n x):=(X28 (X28 Xh3))
theorem Xhh (x:(V2 Bool)):Xap (X8n x):=X4e (Xyg x) rfl
theorem wkA {P:Prop} (h:P:=by
  first
    |exact trivial
    |rfl
    |exact .sc
    |exact .list
    |exact .nils
    |exact .ref (by decide)
    |exact .ptr (by decide)
    |exact Xtp
    |(refine AV.Ok.tup ?_;repeat' first|exact X7k|refine X0x ?_ ?_|exact .sc|exact .nils|exact .list|exact .ref (by decide)|exact .ptr (by decide))
    |(refine congrArg AV.tup ?_;repeat' first|rfl|(refine congrArg (fun z=>AV.ref _ 0 z) ?_;first|rfl|omega|(simp;done)|(simp;omega))|(show AV.ref _ 0 _=AV.ref _ 0 _;congr 1;first|omega|(simp;done))|(refine congrArg (fun z=>AV.sc (Value.int IntKind.i64 z)) ?_;first|rfl|omega|assumption|(simp;done))|refine congr (congrArg List.cons ?_) ?_|(show(_::_:List AV)=_::_;refine congr (congrArg List.cons ?_) ?_))
    |exact .fn (X0x (.ptr (by decide)) X7k)
    |exact .fn (X0x (.ptr (by decide)) (X0x (.ptr (by decide)) X7k))
    |exact .fn (X0x (.ptr (by decide)) (X0x (.ptr (by decide)) (X0x (.ptr (by decide)) X7k)))
    |assumption
    |exact(Xdb _ _).1
    |exact(Xaa _ _).1
    |exact(X4n true _ _).1
    |exact(X4n false _ _).1
    |exact(free_GOp _ _).1
    |exact(Xab _ _).1
    |exact(Xd9 _ _).1
    |exact(free_V2i64 _ _).1
    |exact(Xes _ _).1
    |exact(X8m _ _).1
    |exact(Xda _ _).1
    |exact(Xbs _ _).1
    |exact(free_V2GAccum _ _).1
    |exact(Xbr _ _).1
    |exact(Xbq _ _).1
    |exact(X5l true _ _).1
    |exact(X5l false _ _).1
    |exact(X76 _ _).1
    |exact(Xhh _ _).1
    |(refine congrArg (fun z=>AV.sc (Value.int IntKind.i64 z)) ?_;first|rfl|omega|assumption|(simp;done)|(simp;omega))
    |(refine congrArg (fun z=>AV.sc (Value.bool z)) ?_;first|rfl|assumption|(simp;done))
    |(refine congrArg (fun z=>AV.ref _ 0 z) ?_;first|rfl|omega|(simp;done)|(simp;omega))
    |(show AV.ref _ 0 _=AV.ref _ 0 _;congr 1;first|(simp;done)|(simp;omega))
    |(simp[slE,opE,nbF,nbT,nbS,AV.ren,List.map_take,List.map_drop];done)
    |(simp[slE,opE,nbF,nbT,nbS,AV.ren,List.map_take,List.map_drop, *];done)
    |(simp[AV.ren, *];done)
    |exact wkSl rfl
    |exact okSl (by decide)
    |(refine aggV ?_;repeat' first|exact trivial|refine And.intro ?_ ?_|rfl|exact wkSl rfl|(refine refR rfl ?_;first|rfl|(simp;done)|(simp;omega)))
    |(refine aggOk ?_;repeat' first|exact X7k|refine X0x ?_ ?_|exact .sc|exact .list|exact .nils|exact .ref (by decide)|exact .ptr (by decide)|exact okSl (by decide)|exact okF|exact okG|exact Xtp)):P:=h
theorem wkR0 {P:Prop} (h:P:=by
  first
    |exact X2u Xdb _ _
    |exact X2t (Xdb _) _
    |exact free_cons Xdb _ _ _
    |exact X2u Xaa _ _
    |exact X2t (Xaa _) _
    |exact free_cons Xaa _ _ _
    |exact X2u (X4n true) _ _
    |exact X2t ((X4n true) _) _
    |exact free_cons (X4n true) _ _ _
    |exact X2u (X4n false) _ _
    |exact X2t ((X4n false) _) _
    |exact free_cons (X4n false) _ _ _
    |exact X2u free_GOp _ _
    |exact X2t (free_GOp _) _
    |exact free_cons free_GOp _ _ _
    |exact X2u Xab _ _
    |exact X2t (Xab _) _
    |exact free_cons Xab _ _ _
    |exact X2u Xd9 _ _
    |exact X2t (Xd9 _) _
    |exact free_cons Xd9 _ _ _
    |exact X2u free_V2i64 _ _
    |exact X2t (free_V2i64 _) _
    |exact free_cons free_V2i64 _ _ _
    |exact X2u Xes _ _
    |exact X2t (Xes _) _
    |exact free_cons Xes _ _ _
    |exact X2u X8m _ _
    |exact X2t (X8m _) _
    |exact free_cons X8m _ _ _
    |exact X2u Xda _ _
    |exact X2t (Xda _) _
    |exact free_cons Xda _ _ _
    |exact X2u Xbs _ _
    |exact X2t (Xbs _) _
    |exact free_cons Xbs _ _ _
    |exact X2u free_V2GAccum _ _
    |exact X2t (free_V2GAccum _) _
    |exact free_cons free_V2GAccum _ _ _
    |exact X2u Xbr _ _
    |exact X2t (Xbr _) _
    |exact free_cons Xbr _ _ _
    |exact X2u Xbq _ _
    |exact X2t (Xbq _) _
    |exact free_cons Xbq _ _ _
    |exact X2u (X5l true) _ _
    |exact X2t ((X5l true) _) _
    |exact free_cons (X5l true) _ _ _
    |exact X2u (X5l false) _ _
    |exact X2t ((X5l false) _) _
    |exact free_cons (X5l false) _ _ _
    |exact X2u X76 _ _
    |exact X2t (X76 _) _
    |exact free_cons X76 _ _ _
    |exact X2u Xhh _ _
    |exact X2t (Xhh _) _
    |exact free_cons Xhh _ _ _
    |exact X2u (fun _=>Xus) _ _
    |exact X2t ((fun _=>Xus) _) _
    |exact free_cons (fun _=>Xus) _ _ _
    |exact X2u (fun _=>Xit) _ _
    |exact X2t ((fun _=>Xit) _) _
    |exact free_cons (fun _=>Xit) _ _ _
    |(refine⟨_,rfl,rfl,Eq.trans ?_ (X2 (X7 X2d _) _)⟩;rfl)
    |(refine⟨_,rfl,rfl,Eq.trans ?_ (X2 (still_cons X2d _ _) _)⟩;rfl)
    |(refine⟨_,rfl,rfl,Eq.trans ?_ (X2 (X7 X2d _) _)⟩;(simp;done))
    |(refine⟨_,rfl,rfl,Eq.trans ?_ (X2 (still_cons X2d _ _) _)⟩;(simp;done))
    |(refine⟨_,rfl,rfl,Eq.trans ?_ (X2 (X7 X2d _) _)⟩;(simp;rfl))
    |(refine⟨_,rfl,rfl,Eq.trans ?_ (X2 (still_cons X2d _ _) _)⟩;(simp;rfl))
    |(refine⟨_,rfl,rfl,Eq.trans ?_ (X2 (X7 X2d _) _)⟩;(exact Eq.symm (Eq.trans List.map_append rfl)))
    |(refine⟨_,rfl,rfl,Eq.trans ?_ (X2 (X7 X2d _) _)⟩;(rw[List.map_append];rfl))
    |(refine⟨_,rfl,rfl,Eq.trans ?_ (X2 (X7 X2d _) _)⟩;(rw[List.map_set];rfl))
    |(refine⟨_,rfl,rfl,Eq.trans ?_ (X2 (X7 X2d _) _)⟩;(simp[*];done))
    |(refine⟨_,rfl,rfl,Eq.trans ?_ (X2 (still_cons X2d _ _) _)⟩;(simp[*];done))
    |(refine⟨_,rfl,rfl,Eq.trans ?_ (X2 (X7 X2d _) _)⟩;(rw[List.map_replicate];rfl))
    |(refine⟨_,rfl,rfl,Eq.trans ?_ (X2 (X7 X1d _) _)⟩;rfl)
    |(refine⟨_,rfl,rfl,Eq.trans ?_ (X2 (still_cons X1d _ _) _)⟩;rfl)
    |(refine⟨_,rfl,rfl,Eq.trans ?_ (X2 (X7 X1d _) _)⟩;(simp;done))
    |(refine⟨_,rfl,rfl,Eq.trans ?_ (X2 (still_cons X1d _ _) _)⟩;(simp;done))
    |(refine⟨_,rfl,rfl,Eq.trans ?_ (X2 (X7 X1d _) _)⟩;(simp;rfl))
    |(refine⟨_,rfl,rfl,Eq.trans ?_ (X2 (still_cons X1d _ _) _)⟩;(simp;rfl))
    |(refine⟨_,rfl,rfl,Eq.trans ?_ (X2 (X7 X1d _) _)⟩;(exact Eq.symm (Eq.trans List.map_append rfl)))
    |(refine⟨_,rfl,rfl,Eq.trans ?_ (X2 (X7 X1d _) _)⟩;(rw[List.map_append];rfl))
    |(refine⟨_,rfl,rfl,Eq.trans ?_ (X2 (X7 X1d _) _)⟩;(rw[List.map_set];rfl))
    |(refine⟨_,rfl,rfl,Eq.trans ?_ (X2 (X7 X1d _) _)⟩;(simp[*];done))
    |(refine⟨_,rfl,rfl,Eq.trans ?_ (X2 (still_cons X1d _ _) _)⟩;(simp[*];done))
    |(refine⟨_,rfl,rfl,Eq.trans ?_ (X2 (X7 X1d _) _)⟩;(rw[List.map_replicate];rfl))
    |(refine⟨_,rfl,rfl,Eq.trans ?_ (X2 (X7 (X04 true) _) _)⟩;rfl)
    |(refine⟨_,rfl,rfl,Eq.trans ?_ (X2 (still_cons (X04 true) _ _) _)⟩;rfl)
    |(refine⟨_,rfl,rfl,Eq.trans ?_ (X2 (X7 (X04 true) _) _)⟩;(simp;done))
    |(refine⟨_,rfl,rfl,Eq.trans ?_ (X2 (still_cons (X04 true) _ _) _)⟩;(simp;done))
    |(refine⟨_,rfl,rfl,Eq.trans ?_ (X2 (X7 (X04 true) _) _)⟩;(simp;rfl))
    |(refine⟨_,rfl,rfl,Eq.trans ?_ (X2 (still_cons (X04 true) _ _) _)⟩;(simp;rfl))
    |(refine⟨_,rfl,rfl,Eq.trans ?_ (X2 (X7 (X04 true) _) _)⟩;(exact Eq.symm (Eq.trans List.map_append rfl)))
    |(refine⟨_,rfl,rfl,Eq.trans ?_ (X2 (X7 (X04 true) _) _)⟩;(rw[List.map_append];rfl))
    |(refine⟨_,rfl,rfl,Eq.trans ?_ (X2 (X7 (X04 true) _) _)⟩;(rw[List.map_set];rfl))
    |(refine⟨_,rfl,rfl,Eq.trans ?_ (X2 (X7 (X04 true) _) _)⟩;(simp[*];done))
    |(refine⟨_,rfl,rfl,Eq.trans ?_ (X2 (still_cons (X04 true) _ _) _)⟩;(simp[*];done))
    |(refine⟨_,rfl,rfl,Eq.trans ?_ (X2 (X7 (X04 true) _) _)⟩;(rw[List.map_replicate];rfl))
    |(refine⟨_,rfl,rfl,Eq.trans ?_ (X2 (X7 (X04 false) _) _)⟩;rfl)
    |(refine⟨_,rfl,rfl,Eq.trans ?_ (X2 (still_cons (X04 false) _ _) _)⟩;rfl)
    |(refine⟨_,rfl,rfl,Eq.trans ?_ (X2 (X7 (X04 false) _) _)⟩;(simp;done))
    |(refine⟨_,rfl,rfl,Eq.trans ?_ (X2 (still_cons (X04 false) _ _) _)⟩;(simp;done))
    |(refine⟨_,rfl,rfl,Eq.trans ?_ (X2 (X7 (X04 false) _) _)⟩;(simp;rfl))
    |(refine⟨_,rfl,rfl,Eq.trans ?_ (X2 (still_cons (X04 false) _ _) _)⟩;(simp;rfl))
    |(refine⟨_,rfl,rfl,Eq.trans ?_ (X2 (X7 (X04 false) _) _)⟩;(exact Eq.symm (Eq.trans List.map_append rfl)))
    |(refine⟨_,rfl,rfl,Eq.trans ?_ (X2 (X7 (X04 false) _) _)⟩;(rw[List.map_append];rfl))
    |(refine⟨_,rfl,rfl,Eq.trans ?_ (X2 (X7 (X04 false) _) _)⟩;(rw[List.map_set];rfl))
    |(refine⟨_,rfl,rfl,Eq.trans ?_ (X2 (X7 (X04 false) _) _)⟩;(simp[*];done))
    |(refine⟨_,rfl,rfl,Eq.trans ?_ (X2 (still_cons (X04 false) _ _) _)⟩;(simp[*];done))
    |(refine⟨_,rfl,rfl,Eq.trans ?_ (X2 (X7 (X04 false) _) _)⟩;(rw[List.map_replicate];rfl))
    |(refine⟨_,rfl,rfl,Eq.trans ?_ (X2 (X7 still_GOp _) _)⟩;rfl)
    |(refine⟨_,rfl,rfl,Eq.trans ?_ (X2 (still_cons still_GOp _ _) _)⟩;rfl)
    |(refine⟨_,rfl,rfl,Eq.trans ?_ (X2 (X7 still_GOp _) _)⟩;(simp;done))
    |(refine⟨_,rfl,rfl,Eq.trans ?_ (X2 (still_cons still_GOp _ _) _)⟩;(simp;done))
    |(refine⟨_,rfl,rfl,Eq.trans ?_ (X2 (X7 still_GOp _) _)⟩;(simp;rfl))
    |(refine⟨_,rfl,rfl,Eq.trans ?_ (X2 (still_cons still_GOp _ _) _)⟩;(simp;rfl))
    |(refine⟨_,rfl,rfl,Eq.trans ?_ (X2 (X7 still_GOp _) _)⟩;(exact Eq.symm (Eq.trans List.map_append rfl)))
    |(refine⟨_,rfl,rfl,Eq.trans ?_ (X2 (X7 still_GOp _) _)⟩;(rw[List.map_append];rfl))
    |(refine⟨_,rfl,rfl,Eq.trans ?_ (X2 (X7 still_GOp _) _)⟩;(rw[List.map_set];rfl))):P:=h
theorem wkR1 {P:Prop} (h:P:=by
  first
    |(refine⟨_,rfl,rfl,Eq.trans ?_ (X2 (X7 still_GOp _) _)⟩;(simp[*];done))
    |(refine⟨_,rfl,rfl,Eq.trans ?_ (X2 (still_cons still_GOp _ _) _)⟩;(simp[*];done))
    |(refine⟨_,rfl,rfl,Eq.trans ?_ (X2 (X7 still_GOp _) _)⟩;(rw[List.map_replicate];rfl))
    |(refine⟨_,rfl,rfl,Eq.trans ?_ (X2 (X7 X1e _) _)⟩;rfl)
    |(refine⟨_,rfl,rfl,Eq.trans ?_ (X2 (still_cons X1e _ _) _)⟩;rfl)
    |(refine⟨_,rfl,rfl,Eq.trans ?_ (X2 (X7 X1e _) _)⟩;(simp;done))
    |(refine⟨_,rfl,rfl,Eq.trans ?_ (X2 (still_cons X1e _ _) _)⟩;(simp;done))
    |(refine⟨_,rfl,rfl,Eq.trans ?_ (X2 (X7 X1e _) _)⟩;(simp;rfl))
    |(refine⟨_,rfl,rfl,Eq.trans ?_ (X2 (still_cons X1e _ _) _)⟩;(simp;rfl))
    |(refine⟨_,rfl,rfl,Eq.trans ?_ (X2 (X7 X1e _) _)⟩;(exact Eq.symm (Eq.trans List.map_append rfl)))
    |(refine⟨_,rfl,rfl,Eq.trans ?_ (X2 (X7 X1e _) _)⟩;(rw[List.map_append];rfl))
    |(refine⟨_,rfl,rfl,Eq.trans ?_ (X2 (X7 X1e _) _)⟩;(rw[List.map_set];rfl))
    |(refine⟨_,rfl,rfl,Eq.trans ?_ (X2 (X7 X1e _) _)⟩;(simp[*];done))
    |(refine⟨_,rfl,rfl,Eq.trans ?_ (X2 (still_cons X1e _ _) _)⟩;(simp[*];done))
    |(refine⟨_,rfl,rfl,Eq.trans ?_ (X2 (X7 X1e _) _)⟩;(rw[List.map_replicate];rfl))
    |(refine⟨_,rfl,rfl,Eq.trans ?_ (X2 (X7 X2b _) _)⟩;rfl)
    |(refine⟨_,rfl,rfl,Eq.trans ?_ (X2 (still_cons X2b _ _) _)⟩;rfl)
    |(refine⟨_,rfl,rfl,Eq.trans ?_ (X2 (X7 X2b _) _)⟩;(simp;done))
    |(refine⟨_,rfl,rfl,Eq.trans ?_ (X2 (still_cons X2b _ _) _)⟩;(simp;done))
    |(refine⟨_,rfl,rfl,Eq.trans ?_ (X2 (X7 X2b _) _)⟩;(simp;rfl))
    |(refine⟨_,rfl,rfl,Eq.trans ?_ (X2 (still_cons X2b _ _) _)⟩;(simp;rfl))
    |(refine⟨_,rfl,rfl,Eq.trans ?_ (X2 (X7 X2b _) _)⟩;(exact Eq.symm (Eq.trans List.map_append rfl)))
    |(refine⟨_,rfl,rfl,Eq.trans ?_ (X2 (X7 X2b _) _)⟩;(rw[List.map_append];rfl))
    |(refine⟨_,rfl,rfl,Eq.trans ?_ (X2 (X7 X2b _) _)⟩;(rw[List.map_set];rfl))
    |(refine⟨_,rfl,rfl,Eq.trans ?_ (X2 (X7 X2b _) _)⟩;(simp[*];done))
    |(refine⟨_,rfl,rfl,Eq.trans ?_ (X2 (still_cons X2b _ _) _)⟩;(simp[*];done))
    |(refine⟨_,rfl,rfl,Eq.trans ?_ (X2 (X7 X2b _) _)⟩;(rw[List.map_replicate];rfl))
    |(refine⟨_,rfl,rfl,Eq.trans ?_ (X2 (X7 still_V2i64 _) _)⟩;rfl)
    |(refine⟨_,rfl,rfl,Eq.trans ?_ (X2 (still_cons still_V2i64 _ _) _)⟩;rfl)
    |(refine⟨_,rfl,rfl,Eq.trans ?_ (X2 (X7 still_V2i64 _) _)⟩;(simp;done))
    |(refine⟨_,rfl,rfl,Eq.trans ?_ (X2 (still_cons still_V2i64 _ _) _)⟩;(simp;done))
    |(refine⟨_,rfl,rfl,Eq.trans ?_ (X2 (X7 still_V2i64 _) _)⟩;(simp;rfl))
    |(refine⟨_,rfl,rfl,Eq.trans ?_ (X2 (still_cons still_V2i64 _ _) _)⟩;(simp;rfl))
    |(refine⟨_,rfl,rfl,Eq.trans ?_ (X2 (X7 still_V2i64 _) _)⟩;(exact Eq.symm (Eq.trans List.map_append rfl)))
    |(refine⟨_,rfl,rfl,Eq.trans ?_ (X2 (X7 still_V2i64 _) _)⟩;(rw[List.map_append];rfl))
    |(refine⟨_,rfl,rfl,Eq.trans ?_ (X2 (X7 still_V2i64 _) _)⟩;(rw[List.map_set];rfl))
    |(refine⟨_,rfl,rfl,Eq.trans ?_ (X2 (X7 still_V2i64 _) _)⟩;(simp[*];done))
    |(refine⟨_,rfl,rfl,Eq.trans ?_ (X2 (still_cons still_V2i64 _ _) _)⟩;(simp[*];done))
    |(refine⟨_,rfl,rfl,Eq.trans ?_ (X2 (X7 still_V2i64 _) _)⟩;(rw[List.map_replicate];rfl))
    |(refine⟨_,rfl,rfl,Eq.trans ?_ (X2 (X7 X2x _) _)⟩;rfl)
    |(refine⟨_,rfl,rfl,Eq.trans ?_ (X2 (still_cons X2x _ _) _)⟩;rfl)
    |(refine⟨_,rfl,rfl,Eq.trans ?_ (X2 (X7 X2x _) _)⟩;(simp;done))
    |(refine⟨_,rfl,rfl,Eq.trans ?_ (X2 (still_cons X2x _ _) _)⟩;(simp;done))
    |(refine⟨_,rfl,rfl,Eq.trans ?_ (X2 (X7 X2x _) _)⟩;(simp;rfl))
    |(refine⟨_,rfl,rfl,Eq.trans ?_ (X2 (still_cons X2x _ _) _)⟩;(simp;rfl))
    |(refine⟨_,rfl,rfl,Eq.trans ?_ (X2 (X7 X2x _) _)⟩;(exact Eq.symm (Eq.trans List.map_append rfl)))
    |(refine⟨_,rfl,rfl,Eq.trans ?_ (X2 (X7 X2x _) _)⟩;(rw[List.map_append];rfl))
    |(refine⟨_,rfl,rfl,Eq.trans ?_ (X2 (X7 X2x _) _)⟩;(rw[List.map_set];rfl))
    |(refine⟨_,rfl,rfl,Eq.trans ?_ (X2 (X7 X2x _) _)⟩;(simp[*];done))
    |(refine⟨_,rfl,rfl,Eq.trans ?_ (X2 (still_cons X2x _ _) _)⟩;(simp[*];done))
    |(refine⟨_,rfl,rfl,Eq.trans ?_ (X2 (X7 X2x _) _)⟩;(rw[List.map_replicate];rfl))
    |(refine⟨_,rfl,rfl,Eq.trans ?_ (X2 (X7 X15 _) _)⟩;rfl)
    |(refine⟨_,rfl,rfl,Eq.trans ?_ (X2 (still_cons X15 _ _) _)⟩;rfl)
    |(refine⟨_,rfl,rfl,Eq.trans ?_ (X2 (X7 X15 _) _)⟩;(simp;done))
    |(refine⟨_,rfl,rfl,Eq.trans ?_ (X2 (still_cons X15 _ _) _)⟩;(simp;done))
    |(refine⟨_,rfl,rfl,Eq.trans ?_ (X2 (X7 X15 _) _)⟩;(simp;rfl))
    |(refine⟨_,rfl,rfl,Eq.trans ?_ (X2 (still_cons X15 _ _) _)⟩;(simp;rfl))
    |(refine⟨_,rfl,rfl,Eq.trans ?_ (X2 (X7 X15 _) _)⟩;(exact Eq.symm (Eq.trans List.map_append rfl)))
    |(refine⟨_,rfl,rfl,Eq.trans ?_ (X2 (X7 X15 _) _)⟩;(rw[List.map_append];rfl))
    |(refine⟨_,rfl,rfl,Eq.trans ?_ (X2 (X7 X15 _) _)⟩;(rw[List.map_set];rfl))
    |(refine⟨_,rfl,rfl,Eq.trans ?_ (X2 (X7 X15 _) _)⟩;(simp[*];done))
    |(refine⟨_,rfl,rfl,Eq.trans ?_ (X2 (still_cons X15 _ _) _)⟩;(simp[*];done))
    |(refine⟨_,rfl,rfl,Eq.trans ?_ (X2 (X7 X15 _) _)⟩;(rw[List.map_replicate];rfl))
    |(refine⟨_,rfl,rfl,Eq.trans ?_ (X2 (X7 X2c _) _)⟩;rfl)
    |(refine⟨_,rfl,rfl,Eq.trans ?_ (X2 (still_cons X2c _ _) _)⟩;rfl)
    |(refine⟨_,rfl,rfl,Eq.trans ?_ (X2 (X7 X2c _) _)⟩;(simp;done))
    |(refine⟨_,rfl,rfl,Eq.trans ?_ (X2 (still_cons X2c _ _) _)⟩;(simp;done))
    |(refine⟨_,rfl,rfl,Eq.trans ?_ (X2 (X7 X2c _) _)⟩;(simp;rfl))
    |(refine⟨_,rfl,rfl,Eq.trans ?_ (X2 (still_cons X2c _ _) _)⟩;(simp;rfl))
    |(refine⟨_,rfl,rfl,Eq.trans ?_ (X2 (X7 X2c _) _)⟩;(exact Eq.symm (Eq.trans List.map_append rfl)))
    |(refine⟨_,rfl,rfl,Eq.trans ?_ (X2 (X7 X2c _) _)⟩;(rw[List.map_append];rfl))
    |(refine⟨_,rfl,rfl,Eq.trans ?_ (X2 (X7 X2c _) _)⟩;(rw[List.map_set];rfl))
    |(refine⟨_,rfl,rfl,Eq.trans ?_ (X2 (X7 X2c _) _)⟩;(simp[*];done))
    |(refine⟨_,rfl,rfl,Eq.trans ?_ (X2 (still_cons X2c _ _) _)⟩;(simp[*];done))
    |(refine⟨_,rfl,rfl,Eq.trans ?_ (X2 (X7 X2c _) _)⟩;(rw[List.map_replicate];rfl))
    |(refine⟨_,rfl,rfl,Eq.trans ?_ (X2 (X7 X1z _) _)⟩;rfl)
    |(refine⟨_,rfl,rfl,Eq.trans ?_ (X2 (still_cons X1z _ _) _)⟩;rfl)
    |(refine⟨_,rfl,rfl,Eq.trans ?_ (X2 (X7 X1z _) _)⟩;(simp;done))
    |(refine⟨_,rfl,rfl,Eq.trans ?_ (X2 (still_cons X1z _ _) _)⟩;(simp;done))
    |(refine⟨_,rfl,rfl,Eq.trans ?_ (X2 (X7 X1z _) _)⟩;(simp;rfl))
    |(refine⟨_,rfl,rfl,Eq.trans ?_ (X2 (still_cons X1z _ _) _)⟩;(simp;rfl))
    |(refine⟨_,rfl,rfl,Eq.trans ?_ (X2 (X7 X1z _) _)⟩;(exact Eq.symm (Eq.trans List.map_append rfl)))
    |(refine⟨_,rfl,rfl,Eq.trans ?_ (X2 (X7 X1z _) _)⟩;(rw[List.map_append];rfl))
    |(refine⟨_,rfl,rfl,Eq.trans ?_ (X2 (X7 X1z _) _)⟩;(rw[List.map_set];rfl))
    |(refine⟨_,rfl,rfl,Eq.trans ?_ (X2 (X7 X1z _) _)⟩;(simp[*];done))
    |(refine⟨_,rfl,rfl,Eq.trans ?_ (X2 (still_cons X1z _ _) _)⟩;(simp[*];done))
    |(refine⟨_,rfl,rfl,Eq.trans ?_ (X2 (X7 X1z _) _)⟩;(rw[List.map_replicate];rfl))
    |(refine⟨_,rfl,rfl,Eq.trans ?_ (X2 (X7 still_V2GAccum _) _)⟩;rfl)
    |(refine⟨_,rfl,rfl,Eq.trans ?_ (X2 (still_cons still_V2GAccum _ _) _)⟩;rfl)
    |(refine⟨_,rfl,rfl,Eq.trans ?_ (X2 (X7 still_V2GAccum _) _)⟩;(simp;done))
    |(refine⟨_,rfl,rfl,Eq.trans ?_ (X2 (still_cons still_V2GAccum _ _) _)⟩;(simp;done))
    |(refine⟨_,rfl,rfl,Eq.trans ?_ (X2 (X7 still_V2GAccum _) _)⟩;(simp;rfl))
    |(refine⟨_,rfl,rfl,Eq.trans ?_ (X2 (still_cons still_V2GAccum _ _) _)⟩;(simp;rfl))
    |(refine⟨_,rfl,rfl,Eq.trans ?_ (X2 (X7 still_V2GAccum _) _)⟩;(exact Eq.symm (Eq.trans List.map_append rfl)))
    |(refine⟨_,rfl,rfl,Eq.trans ?_ (X2 (X7 still_V2GAccum _) _)⟩;(rw[List.map_append];rfl))
    |(refine⟨_,rfl,rfl,Eq.trans ?_ (X2 (X7 still_V2GAccum _) _)⟩;(rw[List.map_set];rfl))
    |(refine⟨_,rfl,rfl,Eq.trans ?_ (X2 (X7 still_V2GAccum _) _)⟩;(simp[*];done))
    |(refine⟨_,rfl,rfl,Eq.trans ?_ (X2 (still_cons still_V2GAccum _ _) _)⟩;(simp[*];done))
    |(refine⟨_,rfl,rfl,Eq.trans ?_ (X2 (X7 still_V2GAccum _) _)⟩;(rw[List.map_replicate];rfl))
    |(refine⟨_,rfl,rfl,Eq.trans ?_ (X2 (X7 X1y _) _)⟩;rfl)
    |(refine⟨_,rfl,rfl,Eq.trans ?_ (X2 (still_cons X1y _ _) _)⟩;rfl)
    |(refine⟨_,rfl,rfl,Eq.trans ?_ (X2 (X7 X1y _) _)⟩;(simp;done))
    |(refine⟨_,rfl,rfl,Eq.trans ?_ (X2 (still_cons X1y _ _) _)⟩;(simp;done))
    |(refine⟨_,rfl,rfl,Eq.trans ?_ (X2 (X7 X1y _) _)⟩;(simp;rfl))
    |(refine⟨_,rfl,rfl,Eq.trans ?_ (X2 (still_cons X1y _ _) _)⟩;(simp;rfl))
    |(refine⟨_,rfl,rfl,Eq.trans ?_ (X2 (X7 X1y _) _)⟩;(exact Eq.symm (Eq.trans List.map_append rfl)))
    |(refine⟨_,rfl,rfl,Eq.trans ?_ (X2 (X7 X1y _) _)⟩;(rw[List.map_append];rfl))
    |(refine⟨_,rfl,rfl,Eq.trans ?_ (X2 (X7 X1y _) _)⟩;(rw[List.map_set];rfl))
    |(refine⟨_,rfl,rfl,Eq.trans ?_ (X2 (X7 X1y _) _)⟩;(simp[*];done))
    |(refine⟨_,rfl,rfl,Eq.trans ?_ (X2 (still_cons X1y _ _) _)⟩;(simp[*];done))
    |(refine⟨_,rfl,rfl,Eq.trans ?_ (X2 (X7 X1y _) _)⟩;(rw[List.map_replicate];rfl))
    |(refine⟨_,rfl,rfl,Eq.trans ?_ (X2 (X7 X1x _) _)⟩;rfl)
    |(refine⟨_,rfl,rfl,Eq.trans ?_ (X2 (still_cons X1x _ _) _)⟩;rfl)
    |(refine⟨_,rfl,rfl,Eq.trans ?_ (X2 (X7 X1x _) _)⟩;(simp;done))
    |(refine⟨_,rfl,rfl,Eq.trans ?_ (X2 (still_cons X1x _ _) _)⟩;(simp;done))
    |(refine⟨_,rfl,rfl,Eq.trans ?_ (X2 (X7 X1x _) _)⟩;(simp;rfl))
    |(refine⟨_,rfl,rfl,Eq.trans ?_ (X2 (still_cons X1x _ _) _)⟩;(simp;rfl))
    |(refine⟨_,rfl,rfl,Eq.trans ?_ (X2 (X7 X1x _) _)⟩;(exact Eq.symm (Eq.trans List.map_append rfl)))
    |(refine⟨_,rfl,rfl,Eq.trans ?_ (X2 (X7 X1x _) _)⟩;(rw[List.map_append];rfl))
    |(refine⟨_,rfl,rfl,Eq.trans ?_ (X2 (X7 X1x _) _)⟩;(rw[List.map_set];rfl))):P:=h
theorem wkR2 {P:Prop} (h:P:=by
  first
    |(refine⟨_,rfl,rfl,Eq.trans ?_ (X2 (X7 X1x _) _)⟩;(simp[*];done))
    |(refine⟨_,rfl,rfl,Eq.trans ?_ (X2 (still_cons X1x _ _) _)⟩;(simp[*];done))
    |(refine⟨_,rfl,rfl,Eq.trans ?_ (X2 (X7 X1x _) _)⟩;(rw[List.map_replicate];rfl))
    |(refine⟨_,rfl,rfl,Eq.trans ?_ (X2 (X7 (X0f true) _) _)⟩;rfl)
    |(refine⟨_,rfl,rfl,Eq.trans ?_ (X2 (still_cons (X0f true) _ _) _)⟩;rfl)
    |(refine⟨_,rfl,rfl,Eq.trans ?_ (X2 (X7 (X0f true) _) _)⟩;(simp;done))
    |(refine⟨_,rfl,rfl,Eq.trans ?_ (X2 (still_cons (X0f true) _ _) _)⟩;(simp;done))
    |(refine⟨_,rfl,rfl,Eq.trans ?_ (X2 (X7 (X0f true) _) _)⟩;(simp;rfl))
    |(refine⟨_,rfl,rfl,Eq.trans ?_ (X2 (still_cons (X0f true) _ _) _)⟩;(simp;rfl))
    |(refine⟨_,rfl,rfl,Eq.trans ?_ (X2 (X7 (X0f true) _) _)⟩;(exact Eq.symm (Eq.trans List.map_append rfl)))
    |(refine⟨_,rfl,rfl,Eq.trans ?_ (X2 (X7 (X0f true) _) _)⟩;(rw[List.map_append];rfl))
    |(refine⟨_,rfl,rfl,Eq.trans ?_ (X2 (X7 (X0f true) _) _)⟩;(rw[List.map_set];rfl))
    |(refine⟨_,rfl,rfl,Eq.trans ?_ (X2 (X7 (X0f true) _) _)⟩;(simp[*];done))
    |(refine⟨_,rfl,rfl,Eq.trans ?_ (X2 (still_cons (X0f true) _ _) _)⟩;(simp[*];done))
    |(refine⟨_,rfl,rfl,Eq.trans ?_ (X2 (X7 (X0f true) _) _)⟩;(rw[List.map_replicate];rfl))
    |(refine⟨_,rfl,rfl,Eq.trans ?_ (X2 (X7 (X0f false) _) _)⟩;rfl)
    |(refine⟨_,rfl,rfl,Eq.trans ?_ (X2 (still_cons (X0f false) _ _) _)⟩;rfl)
    |(refine⟨_,rfl,rfl,Eq.trans ?_ (X2 (X7 (X0f false) _) _)⟩;(simp;done))
    |(refine⟨_,rfl,rfl,Eq.trans ?_ (X2 (still_cons (X0f false) _ _) _)⟩;(simp;done))
    |(refine⟨_,rfl,rfl,Eq.trans ?_ (X2 (X7 (X0f false) _) _)⟩;(simp;rfl))
    |(refine⟨_,rfl,rfl,Eq.trans ?_ (X2 (still_cons (X0f false) _ _) _)⟩;(simp;rfl))
    |(refine⟨_,rfl,rfl,Eq.trans ?_ (X2 (X7 (X0f false) _) _)⟩;(exact Eq.symm (Eq.trans List.map_append rfl)))
    |(refine⟨_,rfl,rfl,Eq.trans ?_ (X2 (X7 (X0f false) _) _)⟩;(rw[List.map_append];rfl))
    |(refine⟨_,rfl,rfl,Eq.trans ?_ (X2 (X7 (X0f false) _) _)⟩;(rw[List.map_set];rfl))
    |(refine⟨_,rfl,rfl,Eq.trans ?_ (X2 (X7 (X0f false) _) _)⟩;(simp[*];done))
    |(refine⟨_,rfl,rfl,Eq.trans ?_ (X2 (still_cons (X0f false) _ _) _)⟩;(simp[*];done))
    |(refine⟨_,rfl,rfl,Eq.trans ?_ (X2 (X7 (X0f false) _) _)⟩;(rw[List.map_replicate];rfl))
    |(refine⟨_,rfl,rfl,Eq.trans ?_ (X2 (X7 X0o _) _)⟩;rfl)
    |(refine⟨_,rfl,rfl,Eq.trans ?_ (X2 (still_cons X0o _ _) _)⟩;rfl)
    |(refine⟨_,rfl,rfl,Eq.trans ?_ (X2 (X7 X0o _) _)⟩;(simp;done))
    |(refine⟨_,rfl,rfl,Eq.trans ?_ (X2 (still_cons X0o _ _) _)⟩;(simp;done))
    |(refine⟨_,rfl,rfl,Eq.trans ?_ (X2 (X7 X0o _) _)⟩;(simp;rfl))
    |(refine⟨_,rfl,rfl,Eq.trans ?_ (X2 (still_cons X0o _ _) _)⟩;(simp;rfl))
    |(refine⟨_,rfl,rfl,Eq.trans ?_ (X2 (X7 X0o _) _)⟩;(exact Eq.symm (Eq.trans List.map_append rfl)))
    |(refine⟨_,rfl,rfl,Eq.trans ?_ (X2 (X7 X0o _) _)⟩;(rw[List.map_append];rfl))
    |(refine⟨_,rfl,rfl,Eq.trans ?_ (X2 (X7 X0o _) _)⟩;(rw[List.map_set];rfl))
    |(refine⟨_,rfl,rfl,Eq.trans ?_ (X2 (X7 X0o _) _)⟩;(simp[*];done))
    |(refine⟨_,rfl,rfl,Eq.trans ?_ (X2 (still_cons X0o _ _) _)⟩;(simp[*];done))
    |(refine⟨_,rfl,rfl,Eq.trans ?_ (X2 (X7 X0o _) _)⟩;(rw[List.map_replicate];rfl))
    |(refine⟨_,rfl,rfl,Eq.trans ?_ (X2 (X7 still_V2b _) _)⟩;rfl)
    |(refine⟨_,rfl,rfl,Eq.trans ?_ (X2 (still_cons still_V2b _ _) _)⟩;rfl)
    |(refine⟨_,rfl,rfl,Eq.trans ?_ (X2 (X7 still_V2b _) _)⟩;(simp;done))
    |(refine⟨_,rfl,rfl,Eq.trans ?_ (X2 (still_cons still_V2b _ _) _)⟩;(simp;done))
    |(refine⟨_,rfl,rfl,Eq.trans ?_ (X2 (X7 still_V2b _) _)⟩;(simp;rfl))
    |(refine⟨_,rfl,rfl,Eq.trans ?_ (X2 (still_cons still_V2b _ _) _)⟩;(simp;rfl))
    |(refine⟨_,rfl,rfl,Eq.trans ?_ (X2 (X7 still_V2b _) _)⟩;(exact Eq.symm (Eq.trans List.map_append rfl)))
    |(refine⟨_,rfl,rfl,Eq.trans ?_ (X2 (X7 still_V2b _) _)⟩;(rw[List.map_append];rfl))
    |(refine⟨_,rfl,rfl,Eq.trans ?_ (X2 (X7 still_V2b _) _)⟩;(rw[List.map_set];rfl))
    |(refine⟨_,rfl,rfl,Eq.trans ?_ (X2 (X7 still_V2b _) _)⟩;(simp[*];done))
    |(refine⟨_,rfl,rfl,Eq.trans ?_ (X2 (still_cons still_V2b _ _) _)⟩;(simp[*];done))
    |(refine⟨_,rfl,rfl,Eq.trans ?_ (X2 (X7 still_V2b _) _)⟩;(rw[List.map_replicate];rfl))
    |(refine⟨_,rfl,rfl,Eq.trans ?_ (X2 (X7 (fun _=>X6f) _) _)⟩;rfl)
    |(refine⟨_,rfl,rfl,Eq.trans ?_ (X2 (still_cons (fun _=>X6f) _ _) _)⟩;rfl)
    |(refine⟨_,rfl,rfl,Eq.trans ?_ (X2 (X7 (fun _=>X6f) _) _)⟩;(simp;done))
    |(refine⟨_,rfl,rfl,Eq.trans ?_ (X2 (still_cons (fun _=>X6f) _ _) _)⟩;(simp;done))
    |(refine⟨_,rfl,rfl,Eq.trans ?_ (X2 (X7 (fun _=>X6f) _) _)⟩;(simp;rfl))
    |(refine⟨_,rfl,rfl,Eq.trans ?_ (X2 (still_cons (fun _=>X6f) _ _) _)⟩;(simp;rfl))
    |(refine⟨_,rfl,rfl,Eq.trans ?_ (X2 (X7 (fun _=>X6f) _) _)⟩;(exact Eq.symm (Eq.trans List.map_append rfl)))
    |(refine⟨_,rfl,rfl,Eq.trans ?_ (X2 (X7 (fun _=>X6f) _) _)⟩;(rw[List.map_append];rfl))
    |(refine⟨_,rfl,rfl,Eq.trans ?_ (X2 (X7 (fun _=>X6f) _) _)⟩;(rw[List.map_set];rfl))
    |(refine⟨_,rfl,rfl,Eq.trans ?_ (X2 (X7 (fun _=>X6f) _) _)⟩;(simp[*];done))
    |(refine⟨_,rfl,rfl,Eq.trans ?_ (X2 (still_cons (fun _=>X6f) _ _) _)⟩;(simp[*];done))
    |(refine⟨_,rfl,rfl,Eq.trans ?_ (X2 (X7 (fun _=>X6f) _) _)⟩;(rw[List.map_replicate];rfl))
    |(refine⟨_,rfl,rfl,Eq.trans ?_ (X2 (X7 (fun _=>still_encl) _) _)⟩;rfl)
    |(refine⟨_,rfl,rfl,Eq.trans ?_ (X2 (still_cons (fun _=>still_encl) _ _) _)⟩;rfl)
    |(refine⟨_,rfl,rfl,Eq.trans ?_ (X2 (X7 (fun _=>still_encl) _) _)⟩;(simp;done))
    |(refine⟨_,rfl,rfl,Eq.trans ?_ (X2 (still_cons (fun _=>still_encl) _ _) _)⟩;(simp;done))
    |(refine⟨_,rfl,rfl,Eq.trans ?_ (X2 (X7 (fun _=>still_encl) _) _)⟩;(simp;rfl))
    |(refine⟨_,rfl,rfl,Eq.trans ?_ (X2 (still_cons (fun _=>still_encl) _ _) _)⟩;(simp;rfl))
    |(refine⟨_,rfl,rfl,Eq.trans ?_ (X2 (X7 (fun _=>still_encl) _) _)⟩;(exact Eq.symm (Eq.trans List.map_append rfl)))
    |(refine⟨_,rfl,rfl,Eq.trans ?_ (X2 (X7 (fun _=>still_encl) _) _)⟩;(rw[List.map_append];rfl))
    |(refine⟨_,rfl,rfl,Eq.trans ?_ (X2 (X7 (fun _=>still_encl) _) _)⟩;(rw[List.map_set];rfl))
    |(refine⟨_,rfl,rfl,Eq.trans ?_ (X2 (X7 (fun _=>still_encl) _) _)⟩;(simp[*];done))
    |(refine⟨_,rfl,rfl,Eq.trans ?_ (X2 (still_cons (fun _=>still_encl) _ _) _)⟩;(simp[*];done))
    |(refine⟨_,rfl,rfl,Eq.trans ?_ (X2 (X7 (fun _=>still_encl) _) _)⟩;(rw[List.map_replicate];rfl))
    |(refine⟨_,rfl,rfl,Eq.trans ?_ (X2 (still_one (X2d _)) _)⟩;simp only[List.length_cons,List.length_map];rfl)
    |(refine⟨_,rfl,rfl,Eq.trans ?_ (X2 (still_one (X1d _)) _)⟩;simp only[List.length_cons,List.length_map];rfl)
    |(refine⟨_,rfl,rfl,Eq.trans ?_ (X2 (still_one ((X04 true) _)) _)⟩;simp only[List.length_cons,List.length_map];rfl)
    |(refine⟨_,rfl,rfl,Eq.trans ?_ (X2 (still_one ((X04 false) _)) _)⟩;simp only[List.length_cons,List.length_map];rfl)
    |(refine⟨_,rfl,rfl,Eq.trans ?_ (X2 (still_one (still_GOp _)) _)⟩;simp only[List.length_cons,List.length_map];rfl)
    |(refine⟨_,rfl,rfl,Eq.trans ?_ (X2 (still_one (X1e _)) _)⟩;simp only[List.length_cons,List.length_map];rfl)
    |(refine⟨_,rfl,rfl,Eq.trans ?_ (X2 (still_one (X2b _)) _)⟩;simp only[List.length_cons,List.length_map];rfl)
    |(refine⟨_,rfl,rfl,Eq.trans ?_ (X2 (still_one (still_V2i64 _)) _)⟩;simp only[List.length_cons,List.length_map];rfl)
    |(refine⟨_,rfl,rfl,Eq.trans ?_ (X2 (still_one (X2x _)) _)⟩;simp only[List.length_cons,List.length_map];rfl)
    |(refine⟨_,rfl,rfl,Eq.trans ?_ (X2 (still_one (X15 _)) _)⟩;simp only[List.length_cons,List.length_map];rfl)
    |(refine⟨_,rfl,rfl,Eq.trans ?_ (X2 (still_one (X2c _)) _)⟩;simp only[List.length_cons,List.length_map];rfl)
    |(refine⟨_,rfl,rfl,Eq.trans ?_ (X2 (still_one (X1z _)) _)⟩;simp only[List.length_cons,List.length_map];rfl)
    |(refine⟨_,rfl,rfl,Eq.trans ?_ (X2 (still_one (still_V2GAccum _)) _)⟩;simp only[List.length_cons,List.length_map];rfl)
    |(refine⟨_,rfl,rfl,Eq.trans ?_ (X2 (still_one (X1y _)) _)⟩;simp only[List.length_cons,List.length_map];rfl)
    |(refine⟨_,rfl,rfl,Eq.trans ?_ (X2 (still_one (X1x _)) _)⟩;simp only[List.length_cons,List.length_map];rfl)
    |(refine⟨_,rfl,rfl,Eq.trans ?_ (X2 (still_one ((X0f true) _)) _)⟩;simp only[List.length_cons,List.length_map];rfl)
    |(refine⟨_,rfl,rfl,Eq.trans ?_ (X2 (still_one ((X0f false) _)) _)⟩;simp only[List.length_cons,List.length_map];rfl)
    |(refine⟨_,rfl,rfl,Eq.trans ?_ (X2 (still_one (X0o _)) _)⟩;simp only[List.length_cons,List.length_map];rfl)
    |(refine⟨_,rfl,rfl,Eq.trans ?_ (X2 (still_one (still_V2b _)) _)⟩;simp only[List.length_cons,List.length_map];rfl)
    |(refine⟨_,rfl,rfl,Eq.trans ?_ (X2 (still_one ((fun _=>X6f) _)) _)⟩;simp only[List.length_cons,List.length_map];rfl)
    |(refine⟨_,rfl,rfl,Eq.trans ?_ (X2 (still_one ((fun _=>still_encl) _)) _)⟩;simp only[List.length_cons,List.length_map];rfl)):P:=h
theorem wkB {P:Prop} (h:P:=by
  first
    |exact trivial
    |rfl
    |decide
    |exact⟨_,rfl,rfl,rfl⟩
    |exact X03h rfl
    |(refine⟨_,rfl,rfl,ref1 ?_⟩;first|rfl|omega|(simp;done)|(simp;omega))
    |exact wkR0
    |exact wkR1
    |exact wkR2
    |(intro e he a ha;rw[List.mem_singleton.1 he] at ha;rw[List.mem_singleton.1 ha];first|exact .sc|exact .list|exact .nils|exact .ref (by decide)|exact .ptr (by decide)|exact Xtp|exact .fn (X0x (.ptr (by decide)) X7k)|exact .fn (X0x (.ptr (by decide)) (X0x (.ptr (by decide)) X7k)))
    |(intro e he a ha;simp at he;subst he;simp[AV.cells] at ha;first|(subst ha;exact .sc)|(rcases ha with rfl|rfl|rfl|rfl|rfl<;>exact .sc))
    |(refine⟨_,rfl,rfl,aggR ?_⟩;repeat' first|exact trivial|refine And.intro ?_ ?_|rfl|exact wkSl rfl|(refine refR rfl ?_;first|rfl|(simp;done)|(simp;omega)))
    |(refine okAgg ?_;repeat' first|exact X7k|refine X0x ?_ ?_|exact .sc|exact .list|exact .nils|exact .ref (by decide)|exact .ptr (by decide)|exact okSl (by decide)|exact okF|exact okG|exact Xtp)):P:=h
theorem rn {P:Program} {T:Ty} {nt n0:Nat} {μ:Mu} {Q:Xx->St->Mu->Prop} {cf cf':Cf} {K K':List Kn} {L L':List (Nat×AV)} {G G':List (Nat×Obj)} {n n':Nat} {hs':List X2a} {ps':List Prop} (hT:Xbd P T/\P.follows .mixedOrders=true) (hs:List X2a) (h:Xaz P T nt 4000 cf K L G n hs []=some (cf',K',L',G',n',hs',ps')) (hp':X4p ps') (k:X5 P nt n0 Q cf' K' ⟨fr L',hp G',n'⟩ μ):X5 P nt n0 Q cf K ⟨fr L,hp G,n⟩ μ:=Xq9 hT 4000 hs h hp' k
abbrev cc:=@Cvs.cons
abbrev cn:=@Cvs.nil
abbrev pn:=@X5o.none
abbrev Bt:X2a:=.br true
abbrev Bf:X2a:=.br false
abbrev Ob (e:List AV) (n:Nat):Obj:={ es:=e,esz:=n }
abbrev Lf:=AV.list false
theorem Zn {α:Type} {m:Bool} {H:X0j} (f:α->AV):Cv m H .nils (.list m (List.map f ([]:List α))):=.nils
theorem wkT {P : Program} {nt n0 : Nat} {Q : Xx -> St -> Mu -> Prop} {cf : Cf} {K : List Kn} {μ : Mu} {L L' : List (Nat × AV)} {G G' : List (Nat × Obj)} {n n' : Nat} (θ : List (Nat × Nat)) (h : X5 P nt n0 Q cf K ⟨fr L', hp G', n'⟩ μ)
    (hb:(fixB θ n0&&injB θ (G'.map (·.1))&&Nat.ble n0 n')=true:=by rfl) (hL:wkL L θ n' L':=by repeat' first|refine And.intro ?_ ?_|exact wkA) (hG:wkG G θ n' G':=by repeat' first|refine And.intro ?_ ?_|exact wkB):X5 P nt n0 Q cf K ⟨fr L,hp G,n⟩ μ:=X5.weakTo θ h hb hL hG
end Go.Av
namespace Go.D
open Go.Av
def X78 (x y:X07):Bool:=((x.Kind==y.Kind)&&((x.N==y.N)&&((x.A==y.A)&&((x.B==y.B)&&((x.At==y.At)&&true)))))
def X3e (x y:Xe):Bool:=((x.Key==y.Key)&&((x.Time==y.Time)&&((x.Value==y.Value)&&true)))
def Xiz (x y:X06):Bool:=((x.Start==y.Start)&&((x.End==y.End)&&true))
def Xiy (x y:(V2 Int)):Bool:=((x.e0==y.e0)&&((x.e1==y.e1)&&true))
def Xde (x y:X1g):Bool:=((x.Key==y.Key)&&((Xiz x.Span y.Span)&&((Xiy x.Values y.Values)&&true)))
def X5f (x y:Xj):Bool:=((x.Kind==y.Kind)&&((X3e x.Record y.Record)&&((x.Time==y.Time)&&((Xde x.Row y.Row)&&true))))
def Xg3 (x y:X0q):Bool:=((x.Count==y.Count)&&((x.Sum==y.Sum)&&((x.Min==y.Min)&&((x.Max==y.Max)&&true))))
def Xh7 (x:X07):Prop:=wfI .u8 x.Kind/\wfI .i64 x.N/\wfI .i64 x.A/\wfI .i64 x.B/\wfI .i64 x.At
def Xk5 (x:X0y):Prop:=wfI .u8 x.Kind/\wfI .i64 x.Size/\wfI .i64 x.Every
def Xhu (x:X0b):Prop:=wfI .u8 x.Agg/\(List.length x.Arg<=maxLen/\∀ y∈x.Arg,Xh7 y)/\(List.length x.Sources<=maxLen/\∀ y∈x.Sources,wfI .i64 y)/\True/\(List.length x.Where<=maxLen/\∀ y∈x.Where,Xh7 y)/\Xk5 x.Window/\True/\wfI .u8 x.Late
def Xyx (x:GOp):Prop:=wfI .u8 x.Kind/\wfI .i64 x.N
def Xat (x:Xe):Prop:=wfI .i64 x.Key/\wfI .i64 x.Time/\wfI .i64 x.Value
def Xku (x:X06):Prop:=wfI .i64 x.Start/\wfI .i64 x.End
def Xq3 (x:(V2 Int)):Prop:=wfI .i64 x.e0/\wfI .i64 x.e1
def Xkw (x:X1g):Prop:=wfI .i64 x.Key/\Xku x.Span/\Xq3 x.Values
def Xhv (x:Xj):Prop:=wfI .u8 x.Kind/\Xat x.Record/\wfI .i64 x.Time/\Xkw x.Row
def Xkv (x:X0g):Prop:=wfI .i64 x.Out/\Xhv x.Message
def Xhy (x:X0q):Prop:=wfI .i64 x.Count/\wfI .i64 x.Sum/\wfI .i64 x.Min/\wfI .i64 x.Max
def Xht (x:(V2 X0q)):Prop:=Xhy x.e0/\Xhy x.e1
def Xhx (x:X4):Prop:=wfI .i64 x.Key/\Xku x.Span/\Xht x.Values
def Xhw (x:X0c):Prop:=True/\wfI .i64 x.Time/\Xat x.Record
def Xwu (x:Xo):Prop:=Xyx x.Op/\wfI .i64 x.Turn/\(List.length x.Pending<=maxLen/\∀ y∈x.Pending,Xkv y)/\(List.length x.Marks<=maxLen/\∀ y∈x.Marks,wfI .i64 y)/\(List.length x.Store<=maxLen/\∀ y∈x.Store,Xhx y)/\(List.length x.Events<=maxLen/\∀ y∈x.Events,Xhw y)/\(List.length x.Rows<=maxLen/\∀ y∈x.Rows,Xkw y)/\(List.length x.Late<=maxLen/\∀ y∈x.Late,Xat y)
end Go.D
