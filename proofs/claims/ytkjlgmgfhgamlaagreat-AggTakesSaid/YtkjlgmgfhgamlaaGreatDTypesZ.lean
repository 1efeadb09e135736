/- Printed by decomp.py: the types of the Go program, as data; their encodings. -/
import Derived.Test.YtkjlgmgfhgamlaaGreatAvc
set_option linter.all false

namespace Go.D
theorem Yo {α β:Type} {a:α} {f:α->Option β}:(some a).bind f=f a:=rfl
theorem Yf {p:Prop} [Decidable p] (h:¬ p):decide p=false:=decide_eq_false h
theorem Yt {p:Prop} [Decidable p] (h:p):decide p=true:=decide_eq_true h
theorem Ym {α β:Type} {f:α->β} {l:List α} {i:Nat}:List.map f (List.take i l)=List.take i (List.map f l):=List.map_take
theorem Yd {α β:Type} {f:α->β} {l:List α} {i:Nat}:List.map f (List.drop i l)=List.drop i (List.map f l):=List.map_drop
theorem Ya {a b:Prop} (x:a) (y:b):a/\b:=⟨x,y⟩
theorem Ye {α:Type} {l:List α} {i:Nat} (h:i<l.length):l[i]?=some l[i]:=List.getElem?_eq_getElem h
theorem Ys {α:Type} {l:List α} {i:Nat} {a:α}:l[i]?=some a↔∃ h:i<l.length,l[i]=a:=List.getElem?_eq_some_iff
theorem Yg {α:Type} {l:List α} {i:Nat} {a:α} (h:l[i]?=some a):a∈l:=List.mem_of_getElem? h
structure X0f where
  Kind:Int
  N:Int
  A:Int
  B:Int
  At:Int
  deriving DecidableEq,Inhabited
structure X1v where
  Kind:Int
  Size:Int
  Every:Int
  deriving DecidableEq,Inhabited
structure X0l where
  Agg:Int
  Arg:(List X0f)
  Sources:(List Int)
  Join:Bool
  Where:(List X0f)
  Window:X1v
  ByKey:Bool
  Late:Int
  deriving DecidableEq,Inhabited
structure GOp where
  Kind:Int
  N:Int
  deriving DecidableEq,Inhabited
structure Xc where
  Key:Int
  Time:Int
  Value:Int
  deriving DecidableEq,Inhabited
structure Xz where
  Start:Int
  End:Int
  deriving DecidableEq,Inhabited
structure X0y where
  Key:Int
  Span:Xz
  Values:(V2 Int)
  deriving DecidableEq,Inhabited
structure Xo where
  Kind:Int
  Record:Xc
  Time:Int
  Row:X0y
  deriving DecidableEq,Inhabited
structure X03 where
  Out:Int
  Message:Xo
  deriving DecidableEq,Inhabited
structure Xn where
  Count:Int
  Sum:Int
  Min:Int
  Max:Int
  deriving DecidableEq,Inhabited
structure X1 where
  Key:Int
  Span:Xz
  Values:(V2 Xn)
  deriving DecidableEq,Inhabited
structure Xs where
  Mark:Bool
  Time:Int
  Record:Xc
  deriving DecidableEq,Inhabited
structure Xk where
  Op:GOp
  Turn:Int
  Pending:(List X03)
  Marks:(List Int)
  Store:(List X1)
  Events:(List Xs)
  Rows:(List X0y)
  Late:(List Xc)
  deriving DecidableEq,Inhabited
structure Xi where
  at_:Int
  size:Int
  depth:Int
  deriving DecidableEq,Inhabited
end Go.D
namespace Go.Av
open Go.D
def X4 (x:X0f):AV:=.agg [(aI .u8 x.Kind),(aI .i64 x.N),(aI .i64 x.A),(aI .i64 x.B),(aI .i64 x.At)]
theorem Xfs (x:X0f):Xbp (X4 x):=(X26 (X26 (X26 (X26 (X26 Xk4)))))
theorem X8m (x:X0f):X8b (X4 x):=λ_=>rfl
theorem Xfr (x:X0f):Xck (X4 x):=X4h (Xfs x) rfl
instance X0aj:Xf9 X4:=⟨Xfs,λ_=>rfl,X8m⟩
def X1y (x:X1v):AV:=.agg [(aI .u8 x.Kind),(aI .i64 x.Size),(aI .i64 x.Every)]
theorem Xjf (x:X1v):Xbp (X1y x):=(X26 (X26 (X26 Xk4)))
theorem X5w (x:X1v):X8b (X1y x):=λ_=>rfl
theorem Xc8 (x:X1v):Xck (X1y x):=X4h (Xjf x) rfl
instance X08j:Xf9 X1y:=⟨Xjf,λ_=>rfl,X5w⟩
def X0b (o:Bool) (x:X0l):AV:=.agg [(aI .u8 x.Agg),(AV.list o (List.map X4 x.Arg)),(AV.list o (List.map (aI .i64) x.Sources)),(aB x.Join),(AV.list o (List.map X4 x.Where)),(aI .u8 x.Window.Kind),(aI .i64 x.Window.Size),(aI .i64 x.Window.Every),(aB x.ByKey),(aI .u8 x.Late)]
theorem X2y (o:Bool) (x:X0l):X8b (X0b o x):=λ_=>rfl
theorem X4w (o:Bool) (x:X0l):Xck (X0b o x):=Xuc (λ_=>(X10 .sc (X10 .list (X10 .list (X10 .sc (X10 .list (X10 .sc (X10 .sc (X10 .sc (X10 .sc (X10 .sc X8g)))))))))))
theorem Xw2 {H:X0p} {o:Bool} {x:X0l}:Cv false H (X0b o x) (X0b false x):=Xqm (Cvs.cons .sc (Cvs.cons (X67 (X18 Xfs _)) (Cvs.cons (X67 (X18 (λ_=>Xf3) _)) (Cvs.cons .sc (Cvs.cons (X67 (X18 Xfs _)) (Cvs.cons .sc (Cvs.cons .sc (Cvs.cons .sc (Cvs.cons .sc (Cvs.cons .sc Cvs.nil))))))))))
theorem Xw1 {H:X0p} {o:Bool} {x:X0l}:Cv true H (X0b o x) (X0b o x):=Xqm (Cvs.cons .sc (Cvs.cons (.listS rfl) (Cvs.cons (.listS rfl) (Cvs.cons .sc (Cvs.cons (.listS rfl) (Cvs.cons .sc (Cvs.cons .sc (Cvs.cons .sc (Cvs.cons .sc (Cvs.cons .sc Cvs.nil))))))))))
instance X09e:X089 X0b:=⟨Xw2,Xw1,λ_ _ _=>rfl,X4w,X2y⟩
def X07j (x:GOp):AV:=.agg [(aI .u8 x.Kind),(aI .i64 x.N)]
def X5 (x:Xc):AV:=.agg [(aI .i64 x.Key),(aI .i64 x.Time),(aI .i64 x.Value)]
theorem X9i (x:Xc):Xbp (X5 x):=(X26 (X26 (X26 Xk4)))
theorem X5x (x:Xc):X8b (X5 x):=λ_=>rfl
theorem Xc9 (x:Xc):Xck (X5 x):=X4h (X9i x) rfl
instance X08k:Xf9 X5:=⟨X9i,λ_=>rfl,X5x⟩
def Xr (x:Xz):AV:=.agg [(aI .i64 x.Start),(aI .i64 x.End)]
theorem Xnr (x:Xz):Xbp (Xr x):=(X26 (X26 Xk4))
theorem X8k (x:Xz):X8b (Xr x):=λ_=>rfl
theorem Xfp (x:Xz):Xck (Xr x):=X4h (Xnr x) rfl
instance X0ah:Xf9 Xr:=⟨Xnr,λ_=>rfl,X8k⟩
def Xvy (x:(V2 Int)):AV:=.agg [(aI .i64 x.e0),(aI .i64 x.e1)]
def Xg (x:X0y):AV:=.agg [(aI .i64 x.Key),(aI .i64 x.Span.Start),(aI .i64 x.Span.End),(aI .i64 x.Values.e0),(aI .i64 x.Values.e1)]
theorem Xf2 (x:X0y):Xbp (Xg x):=(X26 (X26 (X26 (X26 (X26 Xk4)))))
theorem Xaa (x:X0y):X8b (Xg x):=λ_=>rfl
theorem Xhb (x:X0y):Xck (Xg x):=X4h (Xf2 x) rfl
instance X0dk:Xf9 Xg:=⟨Xf2,λ_=>rfl,Xaa⟩
def X0k (x:Xo):AV:=.agg [(aI .u8 x.Kind),(aI .i64 x.Record.Key),(aI .i64 x.Record.Time),(aI .i64 x.Record.Value),(aI .i64 x.Time),(aI .i64 x.Row.Key),(aI .i64 x.Row.Span.Start),(aI .i64 x.Row.Span.End),(aI .i64 x.Row.Values.e0),(aI .i64 x.Row.Values.e1)]
theorem Xhe (x:Xo):Xbp (X0k x):=(X26 (X26 (X26 (X26 (X26 (X26 (X26 (X26 (X26 (X26 Xk4))))))))))
theorem X53 (x:Xo):X8b (X0k x):=λ_=>rfl
theorem Xa3 (x:Xo):Xck (X0k x):=X4h (Xhe x) rfl
instance X07i:Xf9 X0k:=⟨Xhe,λ_=>rfl,X53⟩
def Xf (x:X03):AV:=.agg [(aI .i64 x.Out),(aI .u8 x.Message.Kind),(aI .i64 x.Message.Record.Key),(aI .i64 x.Message.Record.Time),(aI .i64 x.Message.Record.Value),(aI .i64 x.Message.Time),(aI .i64 x.Message.Row.Key),(aI .i64 x.Message.Row.Span.Start),(aI .i64 x.Message.Row.Span.End),(aI .i64 x.Message.Row.Values.e0),(aI .i64 x.Message.Row.Values.e1)]
theorem Xd7 (x:X03):Xbp (Xf x):=(X26 (X26 (X26 (X26 (X26 (X26 (X26 (X26 (X26 (X26 (X26 Xk4)))))))))))
theorem X8l (x:X03):X8b (Xf x):=λ_=>rfl
theorem Xfq (x:X03):Xck (Xf x):=X4h (Xd7 x) rfl
instance X0ai:Xf9 Xf:=⟨Xd7,λ_=>rfl,X8l⟩
def Xw (x:Xn):AV:=.agg [(aI .i64 x.Count),(aI .i64 x.Sum),(aI .i64 x.Min),(aI .i64 x.Max)]
theorem Xlw (x:Xn):Xbp (Xw x):=(X26 (X26 (X26 (X26 Xk4))))
theorem X75 (x:Xn):X8b (Xw x):=λ_=>rfl
theorem Xdu (x:Xn):Xck (Xw x):=X4h (Xlw x) rfl
instance X0a3:Xf9 Xw:=⟨Xlw,λ_=>rfl,X75⟩
def Xp4 (x:(V2 Xn)):AV:=.agg [(aI .i64 x.e0.Count),(aI .i64 x.e0.Sum),(aI .i64 x.e0.Min),(aI .i64 x.e0.Max),(aI .i64 x.e1.Count),(aI .i64 x.e1.Sum),(aI .i64 x.e1.Min),(aI .i64 x.e1.Max)]
def X0 (x:X1):AV:=.agg [(aI .i64 x.Key),(aI .i64 x.Span.Start),(aI .i64 x.Span.End),(aI .i64 x.Values.e0.Count),(aI .i64 x.Values.e0.Sum),(aI .i64 x.Values.e0.Min),(aI .i64 x.Values.e0.Max),(aI .i64 x.Values.e1.Count),(aI .i64 x.Values.e1.Sum),(aI .i64 x.Values.e1.Min),(aI .i64 x.Values.e1.Max)]
theorem X4c (x:X1):Xbp (X0 x):=(X26 (X26 (X26 (X26 (X26 (X26 (X26 (X26 (X26 (X26 (X26 Xk4)))))))))))
theorem X74 (x:X1):X8b (X0 x):=λ_=>rfl
theorem Xdt (x:X1):Xck (X0 x):=X4h (X4c x) rfl
theorem X97 {m:Bool} {H:X0p} {x:X1}:Cv m H (X0 x) (X0 x):=X07r (X4c x)
instance X0a2:Xf9 X0:=⟨X4c,λ_=>rfl,X74⟩
def X7 (x:Xs):AV:=.agg [(aB x.Mark),(aI .i64 x.Time),(aI .i64 x.Record.Key),(aI .i64 x.Record.Time),(aI .i64 x.Record.Value)]
theorem Xbl (x:Xs):Xbp (X7 x):=(X26 (X26 (X26 (X26 (X26 Xk4)))))
theorem X73 (x:Xs):X8b (X7 x):=λ_=>rfl
theorem Xds (x:Xs):Xck (X7 x):=X4h (Xbl x) rfl
instance X0a1:Xf9 X7:=⟨Xbl,λ_=>rfl,X73⟩
def Xa (o:Bool) (x:Xk):AV:=.agg [(aI .u8 x.Op.Kind),(aI .i64 x.Op.N),(aI .i64 x.Turn),(AV.list o (List.map Xf x.Pending)),(AV.list o (List.map (aI .i64) x.Marks)),(AV.list o (List.map X0 x.Store)),(AV.list o (List.map X7 x.Events)),(AV.list o (List.map Xg x.Rows)),(AV.list o (List.map X5 x.Late))]
theorem X3e (o:Bool) (x:Xk):X8b (Xa o x):=λ_=>rfl
theorem X60 (o:Bool) (x:Xk):Xck (Xa o x):=Xuc (λ_=>(X10 .sc (X10 .sc (X10 .sc (X10 .list (X10 .list (X10 .list (X10 .list (X10 .list (X10 .list X8g))))))))))
theorem X009 {H:X0p} {o:Bool} {x:Xk}:Cv false H (Xa o x) (Xa false x):=Xqm (Cvs.cons .sc (Cvs.cons .sc (Cvs.cons .sc (Cvs.cons (X67 (X18 Xd7 _)) (Cvs.cons (X67 (X18 (λ_=>Xf3) _)) (Cvs.cons (X67 (X18 X4c _)) (Cvs.cons (X67 (X18 Xbl _)) (Cvs.cons (X67 (X18 Xf2 _)) (Cvs.cons (X67 (X18 X9i _)) Cvs.nil)))))))))
theorem X008 {H:X0p} {o:Bool} {x:Xk}:Cv true H (Xa o x) (Xa o x):=Xqm (Cvs.cons .sc (Cvs.cons .sc (Cvs.cons .sc (Cvs.cons (.listS rfl) (Cvs.cons (.listS rfl) (Cvs.cons (.listS rfl) (Cvs.cons (.listS rfl) (Cvs.cons (.listS rfl) (Cvs.cons (.listS rfl) Cvs.nil)))))))))
instance X0af:X089 Xa:=⟨X009,X008,λ_ _ _=>rfl,X60,X3e⟩
def X9 (x:Xi):AV:=.agg [(aI .i64 x.at_),(aI .i64 x.size),(aI .i64 x.depth)]
theorem Xf1 (x:Xi):Xbp (X9 x):=(X26 (X26 (X26 Xk4)))
theorem X3m (x:Xi):X8b (X9 x):=λ_=>rfl
theorem X83 (x:Xi):Xck (X9 x):=X4h (Xf1 x) rfl
instance X044:Xf9 X9:=⟨Xf1,λ_=>rfl,X3m⟩
def Xa4 (x:(V2 Bool)):AV:=.agg [(aB x.e0),(aB x.e1)]
theorem X042 (x:(V2 Bool)):Xbp (Xa4 x):=(X26 (X26 Xk4))
theorem Xkh (x:(V2 Bool)):Xck (Xa4 x):=X4h (X042 x) rfl
theorem wkA {P:Prop} (h:P:=by
  first
    |exact trivial
    |rfl
    |exact .sc
    |exact .list
    |exact .nils
    |exact .ref (by decide)
    |exact .ptr (by decide)
    |exact Xy3
    |(refine AV.Ok.tup ?_;repeat' first|exact X8g|refine X10 ?_ ?_|exact .sc|exact .nils|exact .list|exact .ref (by decide)|exact .ptr (by decide))
    |(refine congrArg AV.tup ?_;repeat' first|rfl|(refine congrArg (λz=>AV.ref _ 0 z) ?_;first|rfl|omega|(simp;done)|(simp;omega))|(show AV.ref _ 0 _=AV.ref _ 0 _;congr 1;first|omega|(simp;done))|(refine congrArg (λz=>AV.sc (Value.int IntKind.i64 z)) ?_;first|rfl|omega|assumption|(simp;done))|refine congr (congrArg List.cons ?_) ?_|(show(_::_:List AV)=_::_;refine congr (congrArg List.cons ?_) ?_))
    |exact .fn (X10 (.ptr (by decide)) X8g)
    |exact .fn (X10 (.ptr (by decide)) (X10 (.ptr (by decide)) X8g))
    |exact .fn (X10 (.ptr (by decide)) (X10 (.ptr (by decide)) (X10 (.ptr (by decide)) X8g)))
    |assumption
    |exact(Xfr _ _).1
    |exact(Xc8 _ _).1
    |exact(X4w true _ _).1
    |exact(X4w false _ _).1
    |exact(free_GOp _ _).1
    |exact(Xc9 _ _).1
    |exact(Xfp _ _).1
    |exact(free_V2i64 _ _).1
    |exact(Xhb _ _).1
    |exact(Xa3 _ _).1
    |exact(Xfq _ _).1
    |exact(Xdu _ _).1
    |exact(free_V2GAccum _ _).1
    |exact(Xdt _ _).1
    |exact(Xds _ _).1
    |exact(X60 true _ _).1
    |exact(X60 false _ _).1
    |exact(X83 _ _).1
    |exact(Xkh _ _).1
    |(refine congrArg (λz=>AV.sc (Value.int IntKind.i64 z)) ?_;first|rfl|omega|assumption|(simp;done)|(simp;omega))
    |(refine congrArg (λz=>AV.sc (Value.bool z)) ?_;first|rfl|assumption|(simp;done))
    |(refine congrArg (λz=>AV.ref _ 0 z) ?_;first|rfl|omega|(simp;done)|(simp;omega))
    |(show AV.ref _ 0 _=AV.ref _ 0 _;congr 1;first|(simp;done)|(simp;omega))
    |(simp[slE,opE,nbF,nbT,nbS,AV.ren,List.map_take,List.map_drop];done)
    |(simp[slE,opE,nbF,nbT,nbS,AV.ren,List.map_take,List.map_drop, *];done)
    |(simp[AV.ren, *];done)
    |exact wkSl rfl
    |exact okSl (by decide)
    |(refine aggV ?_;repeat' first|exact trivial|refine And.intro ?_ ?_|rfl|exact wkSl rfl|(refine refR rfl ?_;first|rfl|(simp;done)|(simp;omega)))
    |(refine aggOk ?_;repeat' first|exact X8g|refine X10 ?_ ?_|exact .sc|exact .list|exact .nils|exact .ref (by decide)|exact .ptr (by decide)|exact okSl (by decide)|exact okF|exact okG|exact Xy3)):P:=h
theorem wkB {P:Prop} (h:P:=by
  first
    |exact trivial
    |rfl
    |decide
    |exact⟨_,rfl,rfl,rfl⟩
    |exact X099 rfl
    |(refine⟨_,rfl,rfl,ref1 ?_⟩;first|rfl|omega|(simp;done)|(simp;omega))
    |exact X2v Xfr _ _
    |exact X2u (Xfr _) _
    |exact free_cons Xfr _ _ _
    |exact X2v Xc8 _ _
    |exact X2u (Xc8 _) _
    |exact free_cons Xc8 _ _ _
    |exact X2v (X4w true) _ _
    |exact X2u ((X4w true) _) _
    |exact free_cons (X4w true) _ _ _
    |exact X2v (X4w false) _ _
    |exact X2u ((X4w false) _) _
    |exact free_cons (X4w false) _ _ _
    |exact X2v free_GOp _ _
    |exact X2u (free_GOp _) _
    |exact free_cons free_GOp _ _ _
    |exact X2v Xc9 _ _
    |exact X2u (Xc9 _) _
    |exact free_cons Xc9 _ _ _
    |exact X2v Xfp _ _
    |exact X2u (Xfp _) _
    |exact free_cons Xfp _ _ _
    |exact X2v free_V2i64 _ _
    |exact X2u (free_V2i64 _) _
    |exact free_cons free_V2i64 _ _ _
    |exact X2v Xhb _ _
    |exact X2u (Xhb _) _
    |exact free_cons Xhb _ _ _
    |exact X2v Xa3 _ _
    |exact X2u (Xa3 _) _
    |exact free_cons Xa3 _ _ _
    |exact X2v Xfq _ _
    |exact X2u (Xfq _) _
    |exact free_cons Xfq _ _ _
    |exact X2v Xdu _ _
    |exact X2u (Xdu _) _
    |exact free_cons Xdu _ _ _
    |exact X2v free_V2GAccum _ _
    |exact X2u (free_V2GAccum _) _
    |exact free_cons free_V2GAccum _ _ _
    |exact X2v Xdt _ _
    |exact X2u (Xdt _) _
    |exact free_cons Xdt _ _ _
    |exact X2v Xds _ _
    |exact X2u (Xds _) _
    |exact free_cons Xds _ _ _
    |exact X2v (X60 true) _ _
    |exact X2u ((X60 true) _) _
    |exact free_cons (X60 true) _ _ _
    |exact X2v (X60 false) _ _
    |exact X2u ((X60 false) _) _
    |exact free_cons (X60 false) _ _ _
    |exact X2v X83 _ _
    |exact X2u (X83 _) _
    |exact free_cons X83 _ _ _
    |exact X2v Xkh _ _
    |exact X2u (Xkh _) _
    |exact free_cons Xkh _ _ _
    |exact X2v (λ_=>Xzs) _ _
    |exact X2u ((λ_=>Xzs) _) _
    |exact free_cons (λ_=>Xzs) _ _ _
    |exact X2v (λ_=>Xlu) _ _
    |exact X2u ((λ_=>Xlu) _) _
    |exact free_cons (λ_=>Xlu) _ _ _
    |(refine⟨_,rfl,rfl,Eq.trans ?_ (Xe (X0d X8m _) _)⟩;rfl)
    |(refine⟨_,rfl,rfl,Eq.trans ?_ (Xe (still_cons X8m _ _) _)⟩;rfl)
    |(refine⟨_,rfl,rfl,Eq.trans ?_ (Xe (X0d X5w _) _)⟩;rfl)
    |(refine⟨_,rfl,rfl,Eq.trans ?_ (Xe (still_cons X5w _ _) _)⟩;rfl)
    |(refine⟨_,rfl,rfl,Eq.trans ?_ (Xe (X0d (X2y true) _) _)⟩;rfl)
    |(refine⟨_,rfl,rfl,Eq.trans ?_ (Xe (still_cons (X2y true) _ _) _)⟩;rfl)
    |(refine⟨_,rfl,rfl,Eq.trans ?_ (Xe (X0d (X2y false) _) _)⟩;rfl)
    |(refine⟨_,rfl,rfl,Eq.trans ?_ (Xe (still_cons (X2y false) _ _) _)⟩;rfl)
    |(refine⟨_,rfl,rfl,Eq.trans ?_ (Xe (X0d still_GOp _) _)⟩;rfl)
    |(refine⟨_,rfl,rfl,Eq.trans ?_ (Xe (still_cons still_GOp _ _) _)⟩;rfl)
    |(refine⟨_,rfl,rfl,Eq.trans ?_ (Xe (X0d X5x _) _)⟩;rfl)
    |(refine⟨_,rfl,rfl,Eq.trans ?_ (Xe (still_cons X5x _ _) _)⟩;rfl)
    |(refine⟨_,rfl,rfl,Eq.trans ?_ (Xe (X0d X8k _) _)⟩;rfl)
    |(refine⟨_,rfl,rfl,Eq.trans ?_ (Xe (still_cons X8k _ _) _)⟩;rfl)
    |(refine⟨_,rfl,rfl,Eq.trans ?_ (Xe (X0d still_V2i64 _) _)⟩;rfl)
    |(refine⟨_,rfl,rfl,Eq.trans ?_ (Xe (still_cons still_V2i64 _ _) _)⟩;rfl)
    |(refine⟨_,rfl,rfl,Eq.trans ?_ (Xe (X0d Xaa _) _)⟩;rfl)
    |(refine⟨_,rfl,rfl,Eq.trans ?_ (Xe (still_cons Xaa _ _) _)⟩;rfl)
    |(refine⟨_,rfl,rfl,Eq.trans ?_ (Xe (X0d X53 _) _)⟩;rfl)
    |(refine⟨_,rfl,rfl,Eq.trans ?_ (Xe (still_cons X53 _ _) _)⟩;rfl)
    |(refine⟨_,rfl,rfl,Eq.trans ?_ (Xe (X0d X8l _) _)⟩;rfl)
    |(refine⟨_,rfl,rfl,Eq.trans ?_ (Xe (still_cons X8l _ _) _)⟩;rfl)
    |(refine⟨_,rfl,rfl,Eq.trans ?_ (Xe (X0d X75 _) _)⟩;rfl)
    |(refine⟨_,rfl,rfl,Eq.trans ?_ (Xe (still_cons X75 _ _) _)⟩;rfl)
    |(refine⟨_,rfl,rfl,Eq.trans ?_ (Xe (X0d still_V2GAccum _) _)⟩;rfl)
    |(refine⟨_,rfl,rfl,Eq.trans ?_ (Xe (still_cons still_V2GAccum _ _) _)⟩;rfl)
    |(refine⟨_,rfl,rfl,Eq.trans ?_ (Xe (X0d X74 _) _)⟩;rfl)
    |(refine⟨_,rfl,rfl,Eq.trans ?_ (Xe (still_cons X74 _ _) _)⟩;rfl)
    |(refine⟨_,rfl,rfl,Eq.trans ?_ (Xe (X0d X73 _) _)⟩;rfl)
    |(refine⟨_,rfl,rfl,Eq.trans ?_ (Xe (still_cons X73 _ _) _)⟩;rfl)
    |(refine⟨_,rfl,rfl,Eq.trans ?_ (Xe (X0d (X3e true) _) _)⟩;rfl)
    |(refine⟨_,rfl,rfl,Eq.trans ?_ (Xe (still_cons (X3e true) _ _) _)⟩;rfl)
    |(refine⟨_,rfl,rfl,Eq.trans ?_ (Xe (X0d (X3e false) _) _)⟩;rfl)
    |(refine⟨_,rfl,rfl,Eq.trans ?_ (Xe (still_cons (X3e false) _ _) _)⟩;rfl)
    |(refine⟨_,rfl,rfl,Eq.trans ?_ (Xe (X0d X3m _) _)⟩;rfl)
    |(refine⟨_,rfl,rfl,Eq.trans ?_ (Xe (still_cons X3m _ _) _)⟩;rfl)
    |(refine⟨_,rfl,rfl,Eq.trans ?_ (Xe (X0d still_V2b _) _)⟩;rfl)
    |(refine⟨_,rfl,rfl,Eq.trans ?_ (Xe (still_cons still_V2b _ _) _)⟩;rfl)
    |(refine⟨_,rfl,rfl,Eq.trans ?_ (Xe (X0d (λ_=>Xg8) _) _)⟩;rfl)
    |(refine⟨_,rfl,rfl,Eq.trans ?_ (Xe (still_cons (λ_=>Xg8) _ _) _)⟩;rfl)
    |(refine⟨_,rfl,rfl,Eq.trans ?_ (Xe (X0d (λ_=>still_encl) _) _)⟩;rfl)
    |(refine⟨_,rfl,rfl,Eq.trans ?_ (Xe (still_cons (λ_=>still_encl) _ _) _)⟩;rfl)
    |(refine⟨_,rfl,rfl,Eq.trans ?_ (Xe (X0d X8m _) _)⟩;first|(simp;done)|(simp;rfl)|(exact Eq.symm (Eq.trans List.map_append rfl))|(rw[List.map_append];rfl)|(rw[List.map_set];rfl)|(simp[*];done)|(rw[List.map_replicate];rfl))
    |(refine⟨_,rfl,rfl,Eq.trans ?_ (Xe (still_cons X8m _ _) _)⟩;first|(simp;done)|(simp;rfl)|(simp[*];done))
    |(refine⟨_,rfl,rfl,Eq.trans ?_ (Xe (X0d X5w _) _)⟩;first|(simp;done)|(simp;rfl)|(exact Eq.symm (Eq.trans List.map_append rfl))|(rw[List.map_append];rfl)|(rw[List.map_set];rfl)|(simp[*];done)|(rw[List.map_replicate];rfl))
    |(refine⟨_,rfl,rfl,Eq.trans ?_ (Xe (still_cons X5w _ _) _)⟩;first|(simp;done)|(simp;rfl)|(simp[*];done))
    |(refine⟨_,rfl,rfl,Eq.trans ?_ (Xe (X0d (X2y true) _) _)⟩;first|(simp;done)|(simp;rfl)|(exact Eq.symm (Eq.trans List.map_append rfl))|(rw[List.map_append];rfl)|(rw[List.map_set];rfl)|(simp[*];done)|(rw[List.map_replicate];rfl))
    |(refine⟨_,rfl,rfl,Eq.trans ?_ (Xe (still_cons (X2y true) _ _) _)⟩;first|(simp;done)|(simp;rfl)|(simp[*];done))
    |(refine⟨_,rfl,rfl,Eq.trans ?_ (Xe (X0d (X2y false) _) _)⟩;first|(simp;done)|(simp;rfl)|(exact Eq.symm (Eq.trans List.map_append rfl))|(rw[List.map_append];rfl)|(rw[List.map_set];rfl)|(simp[*];done)|(rw[List.map_replicate];rfl))
    |(refine⟨_,rfl,rfl,Eq.trans ?_ (Xe (still_cons (X2y false) _ _) _)⟩;first|(simp;done)|(simp;rfl)|(simp[*];done))
    |(refine⟨_,rfl,rfl,Eq.trans ?_ (Xe (X0d still_GOp _) _)⟩;first|(simp;done)|(simp;rfl)|(exact Eq.symm (Eq.trans List.map_append rfl))|(rw[List.map_append];rfl)|(rw[List.map_set];rfl)|(simp[*];done)|(rw[List.map_replicate];rfl))
    |(refine⟨_,rfl,rfl,Eq.trans ?_ (Xe (still_cons still_GOp _ _) _)⟩;first|(simp;done)|(simp;rfl)|(simp[*];done))
    |(refine⟨_,rfl,rfl,Eq.trans ?_ (Xe (X0d X5x _) _)⟩;first|(simp;done)|(simp;rfl)|(exact Eq.symm (Eq.trans List.map_append rfl))|(rw[List.map_append];rfl)|(rw[List.map_set];rfl)|(simp[*];done)|(rw[List.map_replicate];rfl))
    |(refine⟨_,rfl,rfl,Eq.trans ?_ (Xe (still_cons X5x _ _) _)⟩;first|(simp;done)|(simp;rfl)|(simp[*];done))
    |(refine⟨_,rfl,rfl,Eq.trans ?_ (Xe (X0d X8k _) _)⟩;first|(simp;done)|(simp;rfl)|(exact Eq.symm (Eq.trans List.map_append rfl))|(rw[List.map_append];rfl)|(rw[List.map_set];rfl)|(simp[*];done)|(rw[List.map_replicate];rfl))
    |(refine⟨_,rfl,rfl,Eq.trans ?_ (Xe (still_cons X8k _ _) _)⟩;first|(simp;done)|(simp;rfl)|(simp[*];done))
    |(refine⟨_,rfl,rfl,Eq.trans ?_ (Xe (X0d still_V2i64 _) _)⟩;first|(simp;done)|(simp;rfl)|(exact Eq.symm (Eq.trans List.map_append rfl))|(rw[List.map_append];rfl)|(rw[List.map_set];rfl)|(simp[*];done)|(rw[List.map_replicate];rfl))
    |(refine⟨_,rfl,rfl,Eq.trans ?_ (Xe (still_cons still_V2i64 _ _) _)⟩;first|(simp;done)|(simp;rfl)|(simp[*];done))
    |(refine⟨_,rfl,rfl,Eq.trans ?_ (Xe (X0d Xaa _) _)⟩;first|(simp;done)|(simp;rfl)|(exact Eq.symm (Eq.trans List.map_append rfl))|(rw[List.map_append];rfl)|(rw[List.map_set];rfl)|(simp[*];done)|(rw[List.map_replicate];rfl))
    |(refine⟨_,rfl,rfl,Eq.trans ?_ (Xe (still_cons Xaa _ _) _)⟩;first|(simp;done)|(simp;rfl)|(simp[*];done))
    |(refine⟨_,rfl,rfl,Eq.trans ?_ (Xe (X0d X53 _) _)⟩;first|(simp;done)|(simp;rfl)|(exact Eq.symm (Eq.trans List.map_append rfl))|(rw[List.map_append];rfl)|(rw[List.map_set];rfl)|(simp[*];done)|(rw[List.map_replicate];rfl))
    |(refine⟨_,rfl,rfl,Eq.trans ?_ (Xe (still_cons X53 _ _) _)⟩;first|(simp;done)|(simp;rfl)|(simp[*];done))
    |(refine⟨_,rfl,rfl,Eq.trans ?_ (Xe (X0d X8l _) _)⟩;first|(simp;done)|(simp;rfl)|(exact Eq.symm (Eq.trans List.map_append rfl))|(rw[List.map_append];rfl)|(rw[List.map_set];rfl)|(simp[*];done)|(rw[List.map_replicate];rfl))
    |(refine⟨_,rfl,rfl,Eq.trans ?_ (Xe (still_cons X8l _ _) _)⟩;first|(simp;done)|(simp;rfl)|(simp[*];done))
    |(refine⟨_,rfl,rfl,Eq.trans ?_ (Xe (X0d X75 _) _)⟩;first|(simp;done)|(simp;rfl)|(exact Eq.symm (Eq.trans List.map_append rfl))|(rw[List.map_append];rfl)|(rw[List.map_set];rfl)|(simp[*];done)|(rw[List.map_replicate];rfl))
    |(refine⟨_,rfl,rfl,Eq.trans ?_ (Xe (still_cons X75 _ _) _)⟩;first|(simp;done)|(simp;rfl)|(simp[*];done))
    |(refine⟨_,rfl,rfl,Eq.trans ?_ (Xe (X0d still_V2GAccum _) _)⟩;first|(simp;done)|(simp;rfl)|(exact Eq.symm (Eq.trans List.map_append rfl))|(rw[List.map_append];rfl)|(rw[List.map_set];rfl)|(simp[*];done)|(rw[List.map_replicate];rfl))
    |(refine⟨_,rfl,rfl,Eq.trans ?_ (Xe (still_cons still_V2GAccum _ _) _)⟩;first|(simp;done)|(simp;rfl)|(simp[*];done))
    |(refine⟨_,rfl,rfl,Eq.trans ?_ (Xe (X0d X74 _) _)⟩;first|(simp;done)|(simp;rfl)|(exact Eq.symm (Eq.trans List.map_append rfl))|(rw[List.map_append];rfl)|(rw[List.map_set];rfl)|(simp[*];done)|(rw[List.map_replicate];rfl))
    |(refine⟨_,rfl,rfl,Eq.trans ?_ (Xe (still_cons X74 _ _) _)⟩;first|(simp;done)|(simp;rfl)|(simp[*];done))
    |(refine⟨_,rfl,rfl,Eq.trans ?_ (Xe (X0d X73 _) _)⟩;first|(simp;done)|(simp;rfl)|(exact Eq.symm (Eq.trans List.map_append rfl))|(rw[List.map_append];rfl)|(rw[List.map_set];rfl)|(simp[*];done)|(rw[List.map_replicate];rfl))
    |(refine⟨_,rfl,rfl,Eq.trans ?_ (Xe (still_cons X73 _ _) _)⟩;first|(simp;done)|(simp;rfl)|(simp[*];done))
    |(refine⟨_,rfl,rfl,Eq.trans ?_ (Xe (X0d (X3e true) _) _)⟩;first|(simp;done)|(simp;rfl)|(exact Eq.symm (Eq.trans List.map_append rfl))|(rw[List.map_append];rfl)|(rw[List.map_set];rfl)|(simp[*];done)|(rw[List.map_replicate];rfl))
    |(refine⟨_,rfl,rfl,Eq.trans ?_ (Xe (still_cons (X3e true) _ _) _)⟩;first|(simp;done)|(simp;rfl)|(simp[*];done))
    |(refine⟨_,rfl,rfl,Eq.trans ?_ (Xe (X0d (X3e false) _) _)⟩;first|(simp;done)|(simp;rfl)|(exact Eq.symm (Eq.trans List.map_append rfl))|(rw[List.map_append];rfl)|(rw[List.map_set];rfl)|(simp[*];done)|(rw[List.map_replicate];rfl))
    |(refine⟨_,rfl,rfl,Eq.trans ?_ (Xe (still_cons (X3e false) _ _) _)⟩;first|(simp;done)|(simp;rfl)|(simp[*];done))
    |(refine⟨_,rfl,rfl,Eq.trans ?_ (Xe (X0d X3m _) _)⟩;first|(simp;done)|(simp;rfl)|(exact Eq.symm (Eq.trans List.map_append rfl))|(rw[List.map_append];rfl)|(rw[List.map_set];rfl)|(simp[*];done)|(rw[List.map_replicate];rfl))
    |(refine⟨_,rfl,rfl,Eq.trans ?_ (Xe (still_cons X3m _ _) _)⟩;first|(simp;done)|(simp;rfl)|(simp[*];done))
    |(refine⟨_,rfl,rfl,Eq.trans ?_ (Xe (X0d still_V2b _) _)⟩;first|(simp;done)|(simp;rfl)|(exact Eq.symm (Eq.trans List.map_append rfl))|(rw[List.map_append];rfl)|(rw[List.map_set];rfl)|(simp[*];done)|(rw[List.map_replicate];rfl))
    |(refine⟨_,rfl,rfl,Eq.trans ?_ (Xe (still_cons still_V2b _ _) _)⟩;first|(simp;done)|(simp;rfl)|(simp[*];done))
    |(refine⟨_,rfl,rfl,Eq.trans ?_ (Xe (X0d (λ_=>Xg8) _) _)⟩;first|(simp;done)|(simp;rfl)|(exact Eq.symm (Eq.trans List.map_append rfl))|(rw[List.map_append];rfl)|(rw[List.map_set];rfl)|(simp[*];done)|(rw[List.map_replicate];rfl))
    |(refine⟨_,rfl,rfl,Eq.trans ?_ (Xe (still_cons (λ_=>Xg8) _ _) _)⟩;first|(simp;done)|(simp;rfl)|(simp[*];done))
    |(refine⟨_,rfl,rfl,Eq.trans ?_ (Xe (X0d (λ_=>still_encl) _) _)⟩;first|(simp;done)|(simp;rfl)|(exact Eq.symm (Eq.trans List.map_append rfl))|(rw[List.map_append];rfl)|(rw[List.map_set];rfl)|(simp[*];done)|(rw[List.map_replicate];rfl))
    |(refine⟨_,rfl,rfl,Eq.trans ?_ (Xe (still_cons (λ_=>still_encl) _ _) _)⟩;first|(simp;done)|(simp;rfl)|(simp[*];done))
    |(refine⟨_,rfl,rfl,Eq.trans ?_ (Xe (still_one (X8m _)) _)⟩;simp only[List.length_cons,List.length_map];rfl)
    |(refine⟨_,rfl,rfl,Eq.trans ?_ (Xe (still_one (X5w _)) _)⟩;simp only[List.length_cons,List.length_map];rfl)
    |(refine⟨_,rfl,rfl,Eq.trans ?_ (Xe (still_one ((X2y true) _)) _)⟩;simp only[List.length_cons,List.length_map];rfl)
    |(refine⟨_,rfl,rfl,Eq.trans ?_ (Xe (still_one ((X2y false) _)) _)⟩;simp only[List.length_cons,List.length_map];rfl)
    |(refine⟨_,rfl,rfl,Eq.trans ?_ (Xe (still_one (still_GOp _)) _)⟩;simp only[List.length_cons,List.length_map];rfl)
    |(refine⟨_,rfl,rfl,Eq.trans ?_ (Xe (still_one (X5x _)) _)⟩;simp only[List.length_cons,List.length_map];rfl)
    |(refine⟨_,rfl,rfl,Eq.trans ?_ (Xe (still_one (X8k _)) _)⟩;simp only[List.length_cons,List.length_map];rfl)
    |(refine⟨_,rfl,rfl,Eq.trans ?_ (Xe (still_one (still_V2i64 _)) _)⟩;simp only[List.length_cons,List.length_map];rfl)
    |(refine⟨_,rfl,rfl,Eq.trans ?_ (Xe (still_one (Xaa _)) _)⟩;simp only[List.length_cons,List.length_map];rfl)
    |(refine⟨_,rfl,rfl,Eq.trans ?_ (Xe (still_one (X53 _)) _)⟩;simp only[List.length_cons,List.length_map];rfl)
    |(refine⟨_,rfl,rfl,Eq.trans ?_ (Xe (still_one (X8l _)) _)⟩;simp only[List.length_cons,List.length_map];rfl)
    |(refine⟨_,rfl,rfl,Eq.trans ?_ (Xe (still_one (X75 _)) _)⟩;simp only[List.length_cons,List.length_map];rfl)
    |(refine⟨_,rfl,rfl,Eq.trans ?_ (Xe (still_one (still_V2GAccum _)) _)⟩;simp only[List.length_cons,List.length_map];rfl)
    |(refine⟨_,rfl,rfl,Eq.trans ?_ (Xe (still_one (X74 _)) _)⟩;simp only[List.length_cons,List.length_map];rfl)
    |(refine⟨_,rfl,rfl,Eq.trans ?_ (Xe (still_one (X73 _)) _)⟩;simp only[List.length_cons,List.length_map];rfl)
    |(refine⟨_,rfl,rfl,Eq.trans ?_ (Xe (still_one ((X3e true) _)) _)⟩;simp only[List.length_cons,List.length_map];rfl)
    |(refine⟨_,rfl,rfl,Eq.trans ?_ (Xe (still_one ((X3e false) _)) _)⟩;simp only[List.length_cons,List.length_map];rfl)
    |(refine⟨_,rfl,rfl,Eq.trans ?_ (Xe (still_one (X3m _)) _)⟩;simp only[List.length_cons,List.length_map];rfl)
    |(refine⟨_,rfl,rfl,Eq.trans ?_ (Xe (still_one (still_V2b _)) _)⟩;simp only[List.length_cons,List.length_map];rfl)
    |(refine⟨_,rfl,rfl,Eq.trans ?_ (Xe (still_one ((λ_=>Xg8) _)) _)⟩;simp only[List.length_cons,List.length_map];rfl)
    |(refine⟨_,rfl,rfl,Eq.trans ?_ (Xe (still_one ((λ_=>still_encl) _)) _)⟩;simp only[List.length_cons,List.length_map];rfl)
    |(intro e he a ha;rw[List.mem_singleton.1 he] at ha;rw[List.mem_singleton.1 ha];first|exact .sc|exact .list|exact .nils|exact .ref (by decide)|exact .ptr (by decide)|exact Xy3|exact .fn (X10 (.ptr (by decide)) X8g)|exact .fn (X10 (.ptr (by decide)) (X10 (.ptr (by decide)) X8g)))
    |(intro e he a ha;simp at he;subst he;simp[AV.cells] at ha;first|(subst ha;exact .sc)|(rcases ha with rfl|rfl|rfl|rfl|rfl<;>exact .sc))
    |(refine⟨_,rfl,rfl,aggR ?_⟩;repeat' first|exact trivial|refine And.intro ?_ ?_|rfl|exact wkSl rfl|(refine refR rfl ?_;first|rfl|(simp;done)|(simp;omega)))
    |(refine X0at ?_;repeat' first|exact X8g|refine X10 ?_ ?_|exact .sc|exact .list|exact .nils|exact .ref (by decide)|exact .ptr (by decide)|exact okSl (by decide)|exact okF|exact okG|exact Xy3)):P:=h
theorem rn {P:Program} {T:Ty} {nt n0:Nat} {μ:Mu} {Q:X04->St->Mu->Prop} {cf cf':Cf} {K K':List Kn} {L L':List (Nat×AV)} {G G':List (Nat×Obj)} {n n':Nat} {hs':List X2d} {ps':List Prop} (hT:Xdc P T/\P.follows .mixedOrders=true) (hs:List X2d) (h:Xcu P T nt 4000 cf K L G n hs []=some (cf',K',L',G',n',hs',ps')) (hp':X4x ps') (k:X2 P nt n0 Q cf' K' ⟨fr L',hp G',n'⟩ μ):X2 P nt n0 Q cf K ⟨fr L,hp G,n⟩ μ:=Xto hT 4000 hs h hp' k
abbrev cc:=@Cvs.cons
abbrev cn:=@Cvs.nil
abbrev pn:=@X64.none
abbrev Bt:X2d:=.br true
abbrev Bf:X2d:=.br false
abbrev Ob (e:List AV) (n:Nat):Obj:={ es:=e,esz:=n }
abbrev Lf:=AV.list false
abbrev Lt:=AV.list true
abbrev Gt:X2d:=.go true
abbrev Gf:X2d:=.go false
theorem Zn {α:Type} {m:Bool} {H:X0p} (f:α->AV):Cv m H .nils (.list m (List.map f ([]:List α))):=.nils
theorem wkT {P : Program} {nt n0 : Nat} {Q : X04 -> St -> Mu -> Prop} {cf : Cf} {K : List Kn} {μ : Mu} {L L' : List (Nat × AV)} {G G' : List (Nat × Obj)} {n n' : Nat} (θ : List (Nat × Nat)) (h : X2 P nt n0 Q cf K ⟨fr L', hp G', n'⟩ μ)
    (hb:(fixB θ n0&&injB θ (G'.map (·.1))&&Nat.ble n0 n')=true:=by rfl) (hL:wkL L θ n' L':=by repeat' first|refine And.intro ?_ ?_|exact wkA) (hG:wkG G θ n' G':=by repeat' first|refine And.intro ?_ ?_|exact wkB):X2 P nt n0 Q cf K ⟨fr L,hp G,n⟩ μ:=X2.weakTo θ h hb hL hG
end Go.Av
namespace Go.D
open Go.Av
def X86 (x y:X0f):Bool:=((x.Kind==y.Kind)&&((x.N==y.N)&&((x.A==y.A)&&((x.B==y.B)&&((x.At==y.At)&&true)))))
def Xbm (x y:GOp):Bool:=((x.Kind==y.Kind)&&((x.N==y.N)&&true))
def X28 (x y:Xc):Bool:=((x.Key==y.Key)&&((x.Time==y.Time)&&((x.Value==y.Value)&&true)))
def X1d (x y:Xz):Bool:=((x.Start==y.Start)&&((x.End==y.End)&&true))
def Xhh (x y:(V2 Int)):Bool:=((x.e0==y.e0)&&((x.e1==y.e1)&&true))
def X85 (x y:X0y):Bool:=((x.Key==y.Key)&&((X1d x.Span y.Span)&&((Xhh x.Values y.Values)&&true)))
def X4l (x y:Xo):Bool:=((x.Kind==y.Kind)&&((X28 x.Record y.Record)&&((x.Time==y.Time)&&((X85 x.Row y.Row)&&true))))
def Xly (x y:X03):Bool:=((x.Out==y.Out)&&((X4l x.Message y.Message)&&true))
def Xal (x y:Xn):Bool:=((x.Count==y.Count)&&((x.Sum==y.Sum)&&((x.Min==y.Min)&&((x.Max==y.Max)&&true))))
def Xjg (x y:(V2 Xn)):Bool:=((Xal x.e0 y.e0)&&((Xal x.e1 y.e1)&&true))
def Xiu (x y:X1):Bool:=((x.Key==y.Key)&&((X1d x.Span y.Span)&&((Xjg x.Values y.Values)&&true)))
def Xit (x y:Xs):Bool:=((x.Mark==y.Mark)&&((x.Time==y.Time)&&((X28 x.Record y.Record)&&true)))
def Xk8 (x:X0f):Prop:=wfI .u8 x.Kind/\wfI .i64 x.N/\wfI .i64 x.A/\wfI .i64 x.B/\wfI .i64 x.At
def Xn8 (x:X1v):Prop:=wfI .u8 x.Kind/\wfI .i64 x.Size/\wfI .i64 x.Every
def Xkz (x:X0l):Prop:=wfI .u8 x.Agg/\(List.length x.Arg<=maxLen/\∀ y∈x.Arg,Xk8 y)/\(List.length x.Sources<=maxLen/\∀ y∈x.Sources,wfI .i64 y)/\True/\(List.length x.Where<=maxLen/\∀ y∈x.Where,Xk8 y)/\Xn8 x.Window/\True/\wfI .u8 x.Late
def X04g (x:GOp):Prop:=wfI .u8 x.Kind/\wfI .i64 x.N
def Xco (x:Xc):Prop:=wfI .i64 x.Key/\wfI .i64 x.Time/\wfI .i64 x.Value
def Xny (x:Xz):Prop:=wfI .i64 x.Start/\wfI .i64 x.End
def Xtj (x:(V2 Int)):Prop:=wfI .i64 x.e0/\wfI .i64 x.e1
def Xo0 (x:X0y):Prop:=wfI .i64 x.Key/\Xny x.Span/\Xtj x.Values
def Xg7 (x:Xo):Prop:=wfI .u8 x.Kind/\Xco x.Record/\wfI .i64 x.Time/\Xo0 x.Row
def Xnz (x:X03):Prop:=wfI .i64 x.Out/\Xg7 x.Message
def Xl2 (x:Xn):Prop:=wfI .i64 x.Count/\wfI .i64 x.Sum/\wfI .i64 x.Min/\wfI .i64 x.Max
def Xky (x:(V2 Xn)):Prop:=Xl2 x.e0/\Xl2 x.e1
def Xl1 (x:X1):Prop:=wfI .i64 x.Key/\Xny x.Span/\Xky x.Values
def Xl0 (x:Xs):Prop:=True/\wfI .i64 x.Time/\Xco x.Record
def X021 (x:Xk):Prop:=X04g x.Op/\wfI .i64 x.Turn/\(List.length x.Pending<=maxLen/\∀ y∈x.Pending,Xnz y)/\(List.length x.Marks<=maxLen/\∀ y∈x.Marks,wfI .i64 y)/\(List.length x.Store<=maxLen/\∀ y∈x.Store,Xl1 y)/\(List.length x.Events<=maxLen/\∀ y∈x.Events,Xl0 y)/\(List.length x.Rows<=maxLen/\∀ y∈x.Rows,Xo0 y)/\(List.length x.Late<=maxLen/\∀ y∈x.Late,Xco y)
end Go.D
