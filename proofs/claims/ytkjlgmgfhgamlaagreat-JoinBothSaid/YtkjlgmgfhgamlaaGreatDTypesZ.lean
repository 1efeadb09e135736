/- Printed by decomp.py: the types of the Go program, as data; their encodings. -/
import Derived.Test.YtkjlgmgfhgamlaaGreatAvc
set_option linter.all false

namespace Go.D
theorem Yo {α β:Type} {a:α} {f:α->Option β}:(some a).bind f=f a:=rfl
theorem Yf {p:Prop} [Decidable p] (h:¬ p):decide p=false:=decide_eq_false h
theorem Yt {p:Prop} [Decidable p] (h:p):decide p=true:=decide_eq_true h
theorem Ym {α β:Type} {f:α->β} {l:List α} {i:Nat}:List.map f (List.take i l)=List.take i (List.map f l):=List.map_take
theorem Yd {α β:Type} {f:α->β} {l:List α} {i:Nat}:List.map f (List.drop i l)=List.drop i (List.map f l):=List.map_drop
theorem Ya {a b:Prop} (x:a) (y:b):a/\b:=⟨x,y⟩
theorem Ye {α:Type} {l:List α} {i:Nat} (h:i<l.length):l[i]?=some l[i]:=List.getElem?_eq_getElem h
theorem Ys {α:Type} {l:List α} {i:Nat} {a:α}:l[i]?=some a↔∃ h:i<l.length,l[i]=a:=List.getElem?_eq_some_iff
theorem Yg {α:Type} {l:List α} {i:Nat} {a:α} (h:l[i]?=some a):a∈l:=List.mem_of_getElem? h
structure X04 where
  Kind:Int
  N:Int
  A:Int
  B:Int
  At:Int
  deriving DecidableEq,Inhabited
structure X0s where
  Kind:Int
  Size:Int
  Every:Int
  deriving DecidableEq,Inhabited
structure X03 where
  Agg:Int
  Arg:(List X04)
  Sources:(List Int)
  Join:Bool
  Where:(List X04)
  Window:X0s
  ByKey:Bool
  Late:Int
  deriving DecidableEq,Inhabited
structure Xl where
  Key:Int
  Time:Int
  Value:Int
  deriving DecidableEq,Inhabited
structure X00 where
  Start:Int
  End:Int
  deriving DecidableEq,Inhabited
structure X28 where
  Key:Int
  Span:X00
  Values:(V2 Int)
  deriving DecidableEq,Inhabited
structure Xg where
  Kind:Int
  Record:Xl
  Time:Int
  Row:X28
  deriving DecidableEq,Inhabited
structure GOp where
  Kind:Int
  N:Int
  deriving DecidableEq,Inhabited
structure X0v where
  Out:Int
  Message:Xg
  deriving DecidableEq,Inhabited
structure X0t where
  Count:Int
  Sum:Int
  Min:Int
  Max:Int
  deriving DecidableEq,Inhabited
structure X2 where
  Key:Int
  Span:X00
  Values:(V2 X0t)
  deriving DecidableEq,Inhabited
structure X1b where
  Mark:Bool
  Time:Int
  Record:Xl
  deriving DecidableEq,Inhabited
structure X08 where
  Op:GOp
  Turn:Int
  Pending:(List X0v)
  Marks:(List Int)
  Store:(List X2)
  Events:(List X1b)
  Rows:(List X28)
  Late:(List Xl)
  deriving DecidableEq,Inhabited
structure Xa where
  at_:Int
  size:Int
  depth:Int
  deriving DecidableEq,Inhabited
end Go.D
namespace Go.Av
open Go.D
def X5 (x:X04):AV:=.agg [(aI .u8 x.Kind),(aI .i64 x.N),(aI .i64 x.A),(aI .i64 x.B),(aI .i64 x.At)]
theorem Xcn (x:X04):Xa6 (X5 x):=(X27 (X27 (X27 (X27 (X27 Xgb)))))
theorem X2e (x:X04):X72 (X5 x):=fun _=>rfl
theorem Xcl (x:X04):Xao (X5 x):=X49 (Xcn x) rfl
instance X026:Xc9 X5:=⟨Xcn,fun _=>rfl,X2e⟩
def X3h (x:X0s):AV:=.agg [(aI .u8 x.Kind),(aI .i64 x.Size),(aI .i64 x.Every)]
theorem Xfq (x:X0s):Xa6 (X3h x):=(X27 (X27 (X27 Xgb)))
theorem X1e (x:X0s):X72 (X3h x):=fun _=>rfl
theorem X9u (x:X0s):Xao (X3h x):=X49 (Xfq x) rfl
instance X00h:Xc9 X3h:=⟨Xfq,fun _=>rfl,X1e⟩
def Xu (o:Bool) (x:X03):AV:=.agg [(aI .u8 x.Agg),(AV.list o (List.map X5 x.Arg)),(AV.list o (List.map (aI .i64) x.Sources)),(aB x.Join),(AV.list o (List.map X5 x.Where)),(aI .u8 x.Window.Kind),(aI .i64 x.Window.Size),(aI .i64 x.Window.Every),(aB x.ByKey),(aI .u8 x.Late)]
theorem X02 (o:Bool) (x:X03):X72 (Xu o x):=fun _=>rfl
theorem X4j (o:Bool) (x:X03):Xao (Xu o x):=Xpc (fun _=>(X0x .sc (X0x .list (X0x .list (X0x .sc (X0x .list (X0x .sc (X0x .sc (X0x .sc (X0x .sc (X0x .sc X77)))))))))))
theorem Xqs {H:X0e} {o:Bool} {x:X03}:Cv false H (Xu o x) (Xu false x):=Xm5 (Cvs.cons .sc (Cvs.cons (X5m (X2m Xcn _)) (Cvs.cons (X5m (X2m (fun _=>Xe6) _)) (Cvs.cons .sc (Cvs.cons (X5m (X2m Xcn _)) (Cvs.cons .sc (Cvs.cons .sc (Cvs.cons .sc (Cvs.cons .sc (Cvs.cons .sc Cvs.nil))))))))))
theorem Xqr {H:X0e} {o:Bool} {x:X03}:Cv true H (Xu o x) (Xu o x):=Xm5 (Cvs.cons .sc (Cvs.cons (.listS rfl) (Cvs.cons (.listS rfl) (Cvs.cons .sc (Cvs.cons (.listS rfl) (Cvs.cons .sc (Cvs.cons .sc (Cvs.cons .sc (Cvs.cons .sc (Cvs.cons .sc Cvs.nil))))))))))
instance X013:X006 Xu:=⟨Xqs,Xqr,fun _ _ _=>rfl,X4j,X02⟩
def Xy (x:Xl):AV:=.agg [(aI .i64 x.Key),(aI .i64 x.Time),(aI .i64 x.Value)]
theorem Xc3 (x:Xl):Xa6 (Xy x):=(X27 (X27 (X27 Xgb)))
theorem X1f (x:Xl):X72 (Xy x):=fun _=>rfl
theorem X9v (x:Xl):Xao (Xy x):=X49 (Xc3 x) rfl
instance X00i:Xc9 Xy:=⟨Xc3,fun _=>rfl,X1f⟩
def Xx (x:X00):AV:=.agg [(aI .i64 x.Start),(aI .i64 x.End)]
theorem Xjj (x:X00):Xa6 (Xx x):=(X27 (X27 Xgb))
theorem X2c (x:X00):X72 (Xx x):=fun _=>rfl
theorem Xcj (x:X00):Xao (Xx x):=X49 (Xjj x) rfl
instance X024:Xc9 Xx:=⟨Xjj,fun _=>rfl,X2c⟩
def Xqp (x:(V2 Int)):AV:=.agg [(aI .i64 x.e0),(aI .i64 x.e1)]
def Xp (x:X28):AV:=.agg [(aI .i64 x.Key),(aI .i64 x.Span.Start),(aI .i64 x.Span.End),(aI .i64 x.Values.e0),(aI .i64 x.Values.e1)]
theorem Xht (x:X28):Xa6 (Xp x):=(X27 (X27 (X27 (X27 (X27 Xgb)))))
theorem X30 (x:X28):X72 (Xp x):=fun _=>rfl
theorem Xe2 (x:X28):Xao (Xp x):=X49 (Xht x) rfl
instance X049:Xc9 Xp:=⟨Xht,fun _=>rfl,X30⟩
def Xn (x:Xg):AV:=.agg [(aI .u8 x.Kind),(aI .i64 x.Record.Key),(aI .i64 x.Record.Time),(aI .i64 x.Record.Value),(aI .i64 x.Time),(aI .i64 x.Row.Key),(aI .i64 x.Row.Span.Start),(aI .i64 x.Row.Span.End),(aI .i64 x.Row.Values.e0),(aI .i64 x.Row.Values.e1)]
theorem Xe5 (x:Xg):Xa6 (Xn x):=(X27 (X27 (X27 (X27 (X27 (X27 (X27 (X27 (X27 (X27 Xgb))))))))))
theorem X15 (x:Xg):X72 (Xn x):=fun _=>rfl
theorem X8d (x:Xg):Xao (Xn x):=X49 (Xe5 x) rfl
instance Xzi:Xc9 Xn:=⟨Xe5,fun _=>rfl,X15⟩
def Xz (x:X0v):AV:=.agg [(aI .i64 x.Out),(aI .u8 x.Message.Kind),(aI .i64 x.Message.Record.Key),(aI .i64 x.Message.Record.Time),(aI .i64 x.Message.Record.Value),(aI .i64 x.Message.Time),(aI .i64 x.Message.Row.Key),(aI .i64 x.Message.Row.Span.Start),(aI .i64 x.Message.Row.Span.End),(aI .i64 x.Message.Row.Values.e0),(aI .i64 x.Message.Row.Values.e1)]
theorem Xcm (x:X0v):Xa6 (Xz x):=(X27 (X27 (X27 (X27 (X27 (X27 (X27 (X27 (X27 (X27 (X27 Xgb)))))))))))
theorem X2d (x:X0v):X72 (Xz x):=fun _=>rfl
theorem Xck (x:X0v):Xao (Xz x):=X49 (Xcm x) rfl
instance X025:Xc9 Xz:=⟨Xcm,fun _=>rfl,X2d⟩
def X0p (x:X0t):AV:=.agg [(aI .i64 x.Count),(aI .i64 x.Sum),(aI .i64 x.Min),(aI .i64 x.Max)]
theorem Xhu (x:X0t):Xa6 (X0p x):=(X27 (X27 (X27 (X27 Xgb))))
theorem X1x (x:X0t):X72 (X0p x):=fun _=>rfl
theorem Xb5 (x:X0t):Xao (X0p x):=X49 (Xhu x) rfl
instance X01p:Xc9 X0p:=⟨Xhu,fun _=>rfl,X1x⟩
def X1 (x:X2):AV:=.agg [(aI .i64 x.Key),(aI .i64 x.Span.Start),(aI .i64 x.Span.End),(aI .i64 x.Values.e0.Count),(aI .i64 x.Values.e0.Sum),(aI .i64 x.Values.e0.Min),(aI .i64 x.Values.e0.Max),(aI .i64 x.Values.e1.Count),(aI .i64 x.Values.e1.Sum),(aI .i64 x.Values.e1.Min),(aI .i64 x.Values.e1.Max)]
theorem X59 (x:X2):Xa6 (X1 x):=(X27 (X27 (X27 (X27 (X27 (X27 (X27 (X27 (X27 (X27 (X27 Xgb)))))))))))
theorem X1w (x:X2):X72 (X1 x):=fun _=>rfl
theorem Xb4 (x:X2):Xao (X1 x):=X49 (X59 x) rfl
theorem X7l {m:Bool} {H:X0e} {x:X2}:Cv m H (X1 x) (X1 x):=Xzp (X59 x)
instance X01o:Xc9 X1:=⟨X59,fun _=>rfl,X1w⟩
def X05 (x:X1b):AV:=.agg [(aB x.Mark),(aI .i64 x.Time),(aI .i64 x.Record.Key),(aI .i64 x.Record.Time),(aI .i64 x.Record.Value)]
theorem Xd8 (x:X1b):Xa6 (X05 x):=(X27 (X27 (X27 (X27 (X27 Xgb)))))
theorem X1v (x:X1b):X72 (X05 x):=fun _=>rfl
theorem Xb3 (x:X1b):Xao (X05 x):=X49 (Xd8 x) rfl
instance X01n:Xc9 X05:=⟨Xd8,fun _=>rfl,X1v⟩
def Xe (o:Bool) (x:X08):AV:=.agg [(aI .u8 x.Op.Kind),(aI .i64 x.Op.N),(aI .i64 x.Turn),(AV.list o (List.map Xz x.Pending)),(AV.list o (List.map (aI .i64) x.Marks)),(AV.list o (List.map X1 x.Store)),(AV.list o (List.map X05 x.Events)),(AV.list o (List.map Xp x.Rows)),(AV.list o (List.map Xy x.Late))]
theorem X0b (o:Bool) (x:X08):X72 (Xe o x):=fun _=>rfl
theorem X5h (o:Bool) (x:X08):Xao (Xe o x):=Xpc (fun _=>(X0x .sc (X0x .sc (X0x .sc (X0x .list (X0x .list (X0x .list (X0x .list (X0x .list (X0x .list X77))))))))))
theorem Xtu {H:X0e} {o:Bool} {x:X08}:Cv false H (Xe o x) (Xe false x):=Xm5 (Cvs.cons .sc (Cvs.cons .sc (Cvs.cons .sc (Cvs.cons (X5m (X2m Xcm _)) (Cvs.cons (X5m (X2m (fun _=>Xe6) _)) (Cvs.cons (X5m (X2m X59 _)) (Cvs.cons (X5m (X2m Xd8 _)) (Cvs.cons (X5m (X2m Xht _)) (Cvs.cons (X5m (X2m Xc3 _)) Cvs.nil)))))))))
theorem Xtt {H:X0e} {o:Bool} {x:X08}:Cv true H (Xe o x) (Xe o x):=Xm5 (Cvs.cons .sc (Cvs.cons .sc (Cvs.cons .sc (Cvs.cons (.listS rfl) (Cvs.cons (.listS rfl) (Cvs.cons (.listS rfl) (Cvs.cons (.listS rfl) (Cvs.cons (.listS rfl) (Cvs.cons (.listS rfl) Cvs.nil)))))))))
instance X022:X006 Xe:=⟨Xtu,Xtt,fun _ _ _=>rfl,X5h,X0b⟩
def X7 (x:Xa):AV:=.agg [(aI .i64 x.at_),(aI .i64 x.size),(aI .i64 x.depth)]
theorem Xc2 (x:Xa):Xa6 (X7 x):=(X27 (X27 (X27 Xgb)))
theorem X0j (x:Xa):X72 (X7 x):=fun _=>rfl
theorem X6v (x:Xa):Xao (X7 x):=X49 (Xc2 x) rfl
instance Xwn:Xc9 X7:=⟨Xc2,fun _=>rfl,X0j⟩
def X8e (x:(V2 Bool)):AV:=.agg [(aB x.e0),(aB x.e1)]
theorem Xwl (x:(V2 Bool)):Xa6 (X8e x):=(X27 (X27 Xgb))
theorem Xgp (x:(V2 Bool)):Xao (X8e x):=X49 (Xwl x) rfl
theorem wkA {P:Prop} (h:P:=by
  first
    |exact trivial
    |rfl
    |exact .sc
    |exact .list
    |exact .nils
    |exact .ref (by decide)
    |exact .ptr (by decide)
    |exact Xsa
    |(refine AV.Ok.tup ?_;repeat' first|exact X77|refine X0x ?_ ?_|exact .sc|exact .nils|exact .list|exact .ref (by decide)|exact .ptr (by decide))
    |(refine congrArg AV.tup ?_;repeat' first|rfl|(refine congrArg (fun z=>AV.ref _ 0 z) ?_;first|rfl|omega|(simp;done)|(simp;omega))|(show AV.ref _ 0 _=AV.ref _ 0 _;congr 1;first|omega|(simp;done))|(refine congrArg (fun z=>AV.sc (Value.int IntKind.i64 z)) ?_;first|rfl|omega|assumption|(simp;done))|refine congr (congrArg List.cons ?_) ?_|(show(_::_:List AV)=_::_;refine congr (congrArg List.cons ?_) ?_))
    |exact .fn (X0x (.ptr (by decide)) X77)
    |exact .fn (X0x (.ptr (by decide)) (X0x (.ptr (by decide)) X77))
    |exact .fn (X0x (.ptr (by decide)) (X0x (.ptr (by decide)) (X0x (.ptr (by decide)) X77)))
    |assumption
    |exact(Xcl _ _).1
    |exact(X9u _ _).1
    |exact(X4j true _ _).1
    |exact(X4j false _ _).1
    |exact(X9v _ _).1
    |exact(Xcj _ _).1
    |exact(free_V2i64 _ _).1
    |exact(Xe2 _ _).1
    |exact(X8d _ _).1
    |exact(free_GOp _ _).1
    |exact(Xck _ _).1
    |exact(Xb5 _ _).1
    |exact(free_V2GAccum _ _).1
    |exact(Xb4 _ _).1
    |exact(Xb3 _ _).1
    |exact(X5h true _ _).1
    |exact(X5h false _ _).1
    |exact(X6v _ _).1
    |exact(Xgp _ _).1
    |(refine congrArg (fun z=>AV.sc (Value.int IntKind.i64 z)) ?_;first|rfl|omega|assumption|(simp;done)|(simp;omega))
    |(refine congrArg (fun z=>AV.sc (Value.bool z)) ?_;first|rfl|assumption|(simp;done))
    |(refine congrArg (fun z=>AV.ref _ 0 z) ?_;first|rfl|omega|(simp;done)|(simp;omega))
    |(show AV.ref _ 0 _=AV.ref _ 0 _;congr 1;first|(simp;done)|(simp;omega))
    |(simp[slE,opE,nbF,nbT,nbS,AV.ren,List.map_take,List.map_drop];done)
    |(simp[slE,opE,nbF,nbT,nbS,AV.ren,List.map_take,List.map_drop, *];done)
    |(simp[AV.ren, *];done)
    |exact wkSl rfl
    |exact okSl (by decide)
    |(refine aggV ?_;repeat' first|exact trivial|refine And.intro ?_ ?_|rfl|exact wkSl rfl|(refine refR rfl ?_;first|rfl|(simp;done)|(simp;omega)))
    |(refine aggOk ?_;repeat' first|exact X77|refine X0x ?_ ?_|exact .sc|exact .list|exact .nils|exact .ref (by decide)|exact .ptr (by decide)|exact okSl (by decide)|exact okF|exact okG|exact Xsa)):P:=h
theorem wkR0 {P:Prop} (h:P:=by
  first
    |exact X2v Xcl _ _
    |exact X2u (Xcl _) _
    |exact free_cons Xcl _ _ _
    |exact X2v X9u _ _
    |exact X2u (X9u _) _
    |exact free_cons X9u _ _ _
    |exact X2v (X4j true) _ _
    |exact X2u ((X4j true) _) _
    |exact free_cons (X4j true) _ _ _
    |exact X2v (X4j false) _ _
    |exact X2u ((X4j false) _) _
    |exact free_cons (X4j false) _ _ _
    |exact X2v X9v _ _
    |exact X2u (X9v _) _
    |exact free_cons X9v _ _ _
    |exact X2v Xcj _ _
    |exact X2u (Xcj _) _
    |exact free_cons Xcj _ _ _
    |exact X2v free_V2i64 _ _
    |exact X2u (free_V2i64 _) _
    |exact free_cons free_V2i64 _ _ _
    |exact X2v Xe2 _ _
    |exact X2u (Xe2 _) _
    |exact free_cons Xe2 _ _ _
    |exact X2v X8d _ _
    |exact X2u (X8d _) _
    |exact free_cons X8d _ _ _
    |exact X2v free_GOp _ _
    |exact X2u (free_GOp _) _
    |exact free_cons free_GOp _ _ _
    |exact X2v Xck _ _
    |exact X2u (Xck _) _
    |exact free_cons Xck _ _ _
    |exact X2v Xb5 _ _
    |exact X2u (Xb5 _) _
    |exact free_cons Xb5 _ _ _
    |exact X2v free_V2GAccum _ _
    |exact X2u (free_V2GAccum _) _
    |exact free_cons free_V2GAccum _ _ _
    |exact X2v Xb4 _ _
    |exact X2u (Xb4 _) _
    |exact free_cons Xb4 _ _ _
    |exact X2v Xb3 _ _
    |exact X2u (Xb3 _) _
    |exact free_cons Xb3 _ _ _
    |exact X2v (X5h true) _ _
    |exact X2u ((X5h true) _) _
    |exact free_cons (X5h true) _ _ _
    |exact X2v (X5h false) _ _
    |exact X2u ((X5h false) _) _
    |exact free_cons (X5h false) _ _ _
    |exact X2v X6v _ _
    |exact X2u (X6v _) _
    |exact free_cons X6v _ _ _
    |exact X2v Xgp _ _
    |exact X2u (Xgp _) _
    |exact free_cons Xgp _ _ _
    |exact X2v (fun _=>Xte) _ _
    |exact X2u ((fun _=>Xte) _) _
    |exact free_cons (fun _=>Xte) _ _ _
    |exact X2v (fun _=>free_encl) _ _
    |exact X2u ((fun _=>free_encl) _) _
    |exact free_cons (fun _=>free_encl) _ _ _
    |(refine⟨_,rfl,rfl,Eq.trans ?_ (X0 (X4 X2e _) _)⟩;rfl)
    |(refine⟨_,rfl,rfl,Eq.trans ?_ (X0 (still_cons X2e _ _) _)⟩;rfl)
    |(refine⟨_,rfl,rfl,Eq.trans ?_ (X0 (X4 X2e _) _)⟩;(simp;done))
    |(refine⟨_,rfl,rfl,Eq.trans ?_ (X0 (still_cons X2e _ _) _)⟩;(simp;done))
    |(refine⟨_,rfl,rfl,Eq.trans ?_ (X0 (X4 X2e _) _)⟩;(simp;rfl))
    |(refine⟨_,rfl,rfl,Eq.trans ?_ (X0 (still_cons X2e _ _) _)⟩;(simp;rfl))
    |(refine⟨_,rfl,rfl,Eq.trans ?_ (X0 (X4 X2e _) _)⟩;(exact Eq.symm (Eq.trans List.map_append rfl)))
    |(refine⟨_,rfl,rfl,Eq.trans ?_ (X0 (X4 X2e _) _)⟩;(rw[List.map_append];rfl))
    |(refine⟨_,rfl,rfl,Eq.trans ?_ (X0 (X4 X2e _) _)⟩;(rw[List.map_set];rfl))
    |(refine⟨_,rfl,rfl,Eq.trans ?_ (X0 (X4 X2e _) _)⟩;(simp[*];done))
    |(refine⟨_,rfl,rfl,Eq.trans ?_ (X0 (still_cons X2e _ _) _)⟩;(simp[*];done))
    |(refine⟨_,rfl,rfl,Eq.trans ?_ (X0 (X4 X2e _) _)⟩;(rw[List.map_replicate];rfl))
    |(refine⟨_,rfl,rfl,Eq.trans ?_ (X0 (X4 X1e _) _)⟩;rfl)
    |(refine⟨_,rfl,rfl,Eq.trans ?_ (X0 (still_cons X1e _ _) _)⟩;rfl)
    |(refine⟨_,rfl,rfl,Eq.trans ?_ (X0 (X4 X1e _) _)⟩;(simp;done))
    |(refine⟨_,rfl,rfl,Eq.trans ?_ (X0 (still_cons X1e _ _) _)⟩;(simp;done))
    |(refine⟨_,rfl,rfl,Eq.trans ?_ (X0 (X4 X1e _) _)⟩;(simp;rfl))
    |(refine⟨_,rfl,rfl,Eq.trans ?_ (X0 (still_cons X1e _ _) _)⟩;(simp;rfl))
    |(refine⟨_,rfl,rfl,Eq.trans ?_ (X0 (X4 X1e _) _)⟩;(exact Eq.symm (Eq.trans List.map_append rfl)))
    |(refine⟨_,rfl,rfl,Eq.trans ?_ (X0 (X4 X1e _) _)⟩;(rw[List.map_append];rfl))
    |(refine⟨_,rfl,rfl,Eq.trans ?_ (X0 (X4 X1e _) _)⟩;(rw[List.map_set];rfl))
    |(refine⟨_,rfl,rfl,Eq.trans ?_ (X0 (X4 X1e _) _)⟩;(simp[*];done))
    |(refine⟨_,rfl,rfl,Eq.trans ?_ (X0 (still_cons X1e _ _) _)⟩;(simp[*];done))
    |(refine⟨_,rfl,rfl,Eq.trans ?_ (X0 (X4 X1e _) _)⟩;(rw[List.map_replicate];rfl))
    |(refine⟨_,rfl,rfl,Eq.trans ?_ (X0 (X4 (X02 true) _) _)⟩;rfl)
    |(refine⟨_,rfl,rfl,Eq.trans ?_ (X0 (still_cons (X02 true) _ _) _)⟩;rfl)
    |(refine⟨_,rfl,rfl,Eq.trans ?_ (X0 (X4 (X02 true) _) _)⟩;(simp;done))
    |(refine⟨_,rfl,rfl,Eq.trans ?_ (X0 (still_cons (X02 true) _ _) _)⟩;(simp;done))
    |(refine⟨_,rfl,rfl,Eq.trans ?_ (X0 (X4 (X02 true) _) _)⟩;(simp;rfl))
    |(refine⟨_,rfl,rfl,Eq.trans ?_ (X0 (still_cons (X02 true) _ _) _)⟩;(simp;rfl))
    |(refine⟨_,rfl,rfl,Eq.trans ?_ (X0 (X4 (X02 true) _) _)⟩;(exact Eq.symm (Eq.trans List.map_append rfl)))
    |(refine⟨_,rfl,rfl,Eq.trans ?_ (X0 (X4 (X02 true) _) _)⟩;(rw[List.map_append];rfl))
    |(refine⟨_,rfl,rfl,Eq.trans ?_ (X0 (X4 (X02 true) _) _)⟩;(rw[List.map_set];rfl))
    |(refine⟨_,rfl,rfl,Eq.trans ?_ (X0 (X4 (X02 true) _) _)⟩;(simp[*];done))
    |(refine⟨_,rfl,rfl,Eq.trans ?_ (X0 (still_cons (X02 true) _ _) _)⟩;(simp[*];done))
    |(refine⟨_,rfl,rfl,Eq.trans ?_ (X0 (X4 (X02 true) _) _)⟩;(rw[List.map_replicate];rfl))
    |(refine⟨_,rfl,rfl,Eq.trans ?_ (X0 (X4 (X02 false) _) _)⟩;rfl)
    |(refine⟨_,rfl,rfl,Eq.trans ?_ (X0 (still_cons (X02 false) _ _) _)⟩;rfl)
    |(refine⟨_,rfl,rfl,Eq.trans ?_ (X0 (X4 (X02 false) _) _)⟩;(simp;done))
    |(refine⟨_,rfl,rfl,Eq.trans ?_ (X0 (still_cons (X02 false) _ _) _)⟩;(simp;done))
    |(refine⟨_,rfl,rfl,Eq.trans ?_ (X0 (X4 (X02 false) _) _)⟩;(simp;rfl))
    |(refine⟨_,rfl,rfl,Eq.trans ?_ (X0 (still_cons (X02 false) _ _) _)⟩;(simp;rfl))
    |(refine⟨_,rfl,rfl,Eq.trans ?_ (X0 (X4 (X02 false) _) _)⟩;(exact Eq.symm (Eq.trans List.map_append rfl)))
    |(refine⟨_,rfl,rfl,Eq.trans ?_ (X0 (X4 (X02 false) _) _)⟩;(rw[List.map_append];rfl))
    |(refine⟨_,rfl,rfl,Eq.trans ?_ (X0 (X4 (X02 false) _) _)⟩;(rw[List.map_set];rfl))
    |(refine⟨_,rfl,rfl,Eq.trans ?_ (X0 (X4 (X02 false) _) _)⟩;(simp[*];done))
    |(refine⟨_,rfl,rfl,Eq.trans ?_ (X0 (still_cons (X02 false) _ _) _)⟩;(simp[*];done))
    |(refine⟨_,rfl,rfl,Eq.trans ?_ (X0 (X4 (X02 false) _) _)⟩;(rw[List.map_replicate];rfl))
    |(refine⟨_,rfl,rfl,Eq.trans ?_ (X0 (X4 X1f _) _)⟩;rfl)
    |(refine⟨_,rfl,rfl,Eq.trans ?_ (X0 (still_cons X1f _ _) _)⟩;rfl)
    |(refine⟨_,rfl,rfl,Eq.trans ?_ (X0 (X4 X1f _) _)⟩;(simp;done))
    |(refine⟨_,rfl,rfl,Eq.trans ?_ (X0 (still_cons X1f _ _) _)⟩;(simp;done))
    |(refine⟨_,rfl,rfl,Eq.trans ?_ (X0 (X4 X1f _) _)⟩;(simp;rfl))
    |(refine⟨_,rfl,rfl,Eq.trans ?_ (X0 (still_cons X1f _ _) _)⟩;(simp;rfl))
    |(refine⟨_,rfl,rfl,Eq.trans ?_ (X0 (X4 X1f _) _)⟩;(exact Eq.symm (Eq.trans List.map_append rfl)))
    |(refine⟨_,rfl,rfl,Eq.trans ?_ (X0 (X4 X1f _) _)⟩;(rw[List.map_append];rfl))
    |(refine⟨_,rfl,rfl,Eq.trans ?_ (X0 (X4 X1f _) _)⟩;(rw[List.map_set];rfl))):P:=h
theorem wkR1 {P:Prop} (h:P:=by
  first
    |(refine⟨_,rfl,rfl,Eq.trans ?_ (X0 (X4 X1f _) _)⟩;(simp[*];done))
    |(refine⟨_,rfl,rfl,Eq.trans ?_ (X0 (still_cons X1f _ _) _)⟩;(simp[*];done))
    |(refine⟨_,rfl,rfl,Eq.trans ?_ (X0 (X4 X1f _) _)⟩;(rw[List.map_replicate];rfl))
    |(refine⟨_,rfl,rfl,Eq.trans ?_ (X0 (X4 X2c _) _)⟩;rfl)
    |(refine⟨_,rfl,rfl,Eq.trans ?_ (X0 (still_cons X2c _ _) _)⟩;rfl)
    |(refine⟨_,rfl,rfl,Eq.trans ?_ (X0 (X4 X2c _) _)⟩;(simp;done))
    |(refine⟨_,rfl,rfl,Eq.trans ?_ (X0 (still_cons X2c _ _) _)⟩;(simp;done))
    |(refine⟨_,rfl,rfl,Eq.trans ?_ (X0 (X4 X2c _) _)⟩;(simp;rfl))
    |(refine⟨_,rfl,rfl,Eq.trans ?_ (X0 (still_cons X2c _ _) _)⟩;(simp;rfl))
    |(refine⟨_,rfl,rfl,Eq.trans ?_ (X0 (X4 X2c _) _)⟩;(exact Eq.symm (Eq.trans List.map_append rfl)))
    |(refine⟨_,rfl,rfl,Eq.trans ?_ (X0 (X4 X2c _) _)⟩;(rw[List.map_append];rfl))
    |(refine⟨_,rfl,rfl,Eq.trans ?_ (X0 (X4 X2c _) _)⟩;(rw[List.map_set];rfl))
    |(refine⟨_,rfl,rfl,Eq.trans ?_ (X0 (X4 X2c _) _)⟩;(simp[*];done))
    |(refine⟨_,rfl,rfl,Eq.trans ?_ (X0 (still_cons X2c _ _) _)⟩;(simp[*];done))
    |(refine⟨_,rfl,rfl,Eq.trans ?_ (X0 (X4 X2c _) _)⟩;(rw[List.map_replicate];rfl))
    |(refine⟨_,rfl,rfl,Eq.trans ?_ (X0 (X4 still_V2i64 _) _)⟩;rfl)
    |(refine⟨_,rfl,rfl,Eq.trans ?_ (X0 (still_cons still_V2i64 _ _) _)⟩;rfl)
    |(refine⟨_,rfl,rfl,Eq.trans ?_ (X0 (X4 still_V2i64 _) _)⟩;(simp;done))
    |(refine⟨_,rfl,rfl,Eq.trans ?_ (X0 (still_cons still_V2i64 _ _) _)⟩;(simp;done))
    |(refine⟨_,rfl,rfl,Eq.trans ?_ (X0 (X4 still_V2i64 _) _)⟩;(simp;rfl))
    |(refine⟨_,rfl,rfl,Eq.trans ?_ (X0 (still_cons still_V2i64 _ _) _)⟩;(simp;rfl))
    |(refine⟨_,rfl,rfl,Eq.trans ?_ (X0 (X4 still_V2i64 _) _)⟩;(exact Eq.symm (Eq.trans List.map_append rfl)))
    |(refine⟨_,rfl,rfl,Eq.trans ?_ (X0 (X4 still_V2i64 _) _)⟩;(rw[List.map_append];rfl))
    |(refine⟨_,rfl,rfl,Eq.trans ?_ (X0 (X4 still_V2i64 _) _)⟩;(rw[List.map_set];rfl))
    |(refine⟨_,rfl,rfl,Eq.trans ?_ (X0 (X4 still_V2i64 _) _)⟩;(simp[*];done))
    |(refine⟨_,rfl,rfl,Eq.trans ?_ (X0 (still_cons still_V2i64 _ _) _)⟩;(simp[*];done))
    |(refine⟨_,rfl,rfl,Eq.trans ?_ (X0 (X4 still_V2i64 _) _)⟩;(rw[List.map_replicate];rfl))
    |(refine⟨_,rfl,rfl,Eq.trans ?_ (X0 (X4 X30 _) _)⟩;rfl)
    |(refine⟨_,rfl,rfl,Eq.trans ?_ (X0 (still_cons X30 _ _) _)⟩;rfl)
    |(refine⟨_,rfl,rfl,Eq.trans ?_ (X0 (X4 X30 _) _)⟩;(simp;done))
    |(refine⟨_,rfl,rfl,Eq.trans ?_ (X0 (still_cons X30 _ _) _)⟩;(simp;done))
    |(refine⟨_,rfl,rfl,Eq.trans ?_ (X0 (X4 X30 _) _)⟩;(simp;rfl))
    |(refine⟨_,rfl,rfl,Eq.trans ?_ (X0 (still_cons X30 _ _) _)⟩;(simp;rfl))
    |(refine⟨_,rfl,rfl,Eq.trans ?_ (X0 (X4 X30 _) _)⟩;(exact Eq.symm (Eq.trans List.map_append rfl)))
    |(refine⟨_,rfl,rfl,Eq.trans ?_ (X0 (X4 X30 _) _)⟩;(rw[List.map_append];rfl))
    |(refine⟨_,rfl,rfl,Eq.trans ?_ (X0 (X4 X30 _) _)⟩;(rw[List.map_set];rfl))
    |(refine⟨_,rfl,rfl,Eq.trans ?_ (X0 (X4 X30 _) _)⟩;(simp[*];done))
    |(refine⟨_,rfl,rfl,Eq.trans ?_ (X0 (still_cons X30 _ _) _)⟩;(simp[*];done))
    |(refine⟨_,rfl,rfl,Eq.trans ?_ (X0 (X4 X30 _) _)⟩;(rw[List.map_replicate];rfl))
    |(refine⟨_,rfl,rfl,Eq.trans ?_ (X0 (X4 X15 _) _)⟩;rfl)
    |(refine⟨_,rfl,rfl,Eq.trans ?_ (X0 (still_cons X15 _ _) _)⟩;rfl)
    |(refine⟨_,rfl,rfl,Eq.trans ?_ (X0 (X4 X15 _) _)⟩;(simp;done))
    |(refine⟨_,rfl,rfl,Eq.trans ?_ (X0 (still_cons X15 _ _) _)⟩;(simp;done))
    |(refine⟨_,rfl,rfl,Eq.trans ?_ (X0 (X4 X15 _) _)⟩;(simp;rfl))
    |(refine⟨_,rfl,rfl,Eq.trans ?_ (X0 (still_cons X15 _ _) _)⟩;(simp;rfl))
    |(refine⟨_,rfl,rfl,Eq.trans ?_ (X0 (X4 X15 _) _)⟩;(exact Eq.symm (Eq.trans List.map_append rfl)))
    |(refine⟨_,rfl,rfl,Eq.trans ?_ (X0 (X4 X15 _) _)⟩;(rw[List.map_append];rfl))
    |(refine⟨_,rfl,rfl,Eq.trans ?_ (X0 (X4 X15 _) _)⟩;(rw[List.map_set];rfl))
    |(refine⟨_,rfl,rfl,Eq.trans ?_ (X0 (X4 X15 _) _)⟩;(simp[*];done))
    |(refine⟨_,rfl,rfl,Eq.trans ?_ (X0 (still_cons X15 _ _) _)⟩;(simp[*];done))
    |(refine⟨_,rfl,rfl,Eq.trans ?_ (X0 (X4 X15 _) _)⟩;(rw[List.map_replicate];rfl))
    |(refine⟨_,rfl,rfl,Eq.trans ?_ (X0 (X4 still_GOp _) _)⟩;rfl)
    |(refine⟨_,rfl,rfl,Eq.trans ?_ (X0 (still_cons still_GOp _ _) _)⟩;rfl)
    |(refine⟨_,rfl,rfl,Eq.trans ?_ (X0 (X4 still_GOp _) _)⟩;(simp;done))
    |(refine⟨_,rfl,rfl,Eq.trans ?_ (X0 (still_cons still_GOp _ _) _)⟩;(simp;done))
    |(refine⟨_,rfl,rfl,Eq.trans ?_ (X0 (X4 still_GOp _) _)⟩;(simp;rfl))
    |(refine⟨_,rfl,rfl,Eq.trans ?_ (X0 (still_cons still_GOp _ _) _)⟩;(simp;rfl))
    |(refine⟨_,rfl,rfl,Eq.trans ?_ (X0 (X4 still_GOp _) _)⟩;(exact Eq.symm (Eq.trans List.map_append rfl)))
    |(refine⟨_,rfl,rfl,Eq.trans ?_ (X0 (X4 still_GOp _) _)⟩;(rw[List.map_append];rfl))
    |(refine⟨_,rfl,rfl,Eq.trans ?_ (X0 (X4 still_GOp _) _)⟩;(rw[List.map_set];rfl))
    |(refine⟨_,rfl,rfl,Eq.trans ?_ (X0 (X4 still_GOp _) _)⟩;(simp[*];done))
    |(refine⟨_,rfl,rfl,Eq.trans ?_ (X0 (still_cons still_GOp _ _) _)⟩;(simp[*];done))
    |(refine⟨_,rfl,rfl,Eq.trans ?_ (X0 (X4 still_GOp _) _)⟩;(rw[List.map_replicate];rfl))
    |(refine⟨_,rfl,rfl,Eq.trans ?_ (X0 (X4 X2d _) _)⟩;rfl)
    |(refine⟨_,rfl,rfl,Eq.trans ?_ (X0 (still_cons X2d _ _) _)⟩;rfl)
    |(refine⟨_,rfl,rfl,Eq.trans ?_ (X0 (X4 X2d _) _)⟩;(simp;done))
    |(refine⟨_,rfl,rfl,Eq.trans ?_ (X0 (still_cons X2d _ _) _)⟩;(simp;done))
    |(refine⟨_,rfl,rfl,Eq.trans ?_ (X0 (X4 X2d _) _)⟩;(simp;rfl))
    |(refine⟨_,rfl,rfl,Eq.trans ?_ (X0 (still_cons X2d _ _) _)⟩;(simp;rfl))
    |(refine⟨_,rfl,rfl,Eq.trans ?_ (X0 (X4 X2d _) _)⟩;(exact Eq.symm (Eq.trans List.map_append rfl)))
    |(refine⟨_,rfl,rfl,Eq.trans ?_ (X0 (X4 X2d _) _)⟩;(rw[List.map_append];rfl))
    |(refine⟨_,rfl,rfl,Eq.trans ?_ (X0 (X4 X2d _) _)⟩;(rw[List.map_set];rfl))
    |(refine⟨_,rfl,rfl,Eq.trans ?_ (X0 (X4 X2d _) _)⟩;(simp[*];done))
    |(refine⟨_,rfl,rfl,Eq.trans ?_ (X0 (still_cons X2d _ _) _)⟩;(simp[*];done))
    |(refine⟨_,rfl,rfl,Eq.trans ?_ (X0 (X4 X2d _) _)⟩;(rw[List.map_replicate];rfl))
    |(refine⟨_,rfl,rfl,Eq.trans ?_ (X0 (X4 X1x _) _)⟩;rfl)
    |(refine⟨_,rfl,rfl,Eq.trans ?_ (X0 (still_cons X1x _ _) _)⟩;rfl)
    |(refine⟨_,rfl,rfl,Eq.trans ?_ (X0 (X4 X1x _) _)⟩;(simp;done))
    |(refine⟨_,rfl,rfl,Eq.trans ?_ (X0 (still_cons X1x _ _) _)⟩;(simp;done))
    |(refine⟨_,rfl,rfl,Eq.trans ?_ (X0 (X4 X1x _) _)⟩;(simp;rfl))
    |(refine⟨_,rfl,rfl,Eq.trans ?_ (X0 (still_cons X1x _ _) _)⟩;(simp;rfl))
    |(refine⟨_,rfl,rfl,Eq.trans ?_ (X0 (X4 X1x _) _)⟩;(exact Eq.symm (Eq.trans List.map_append rfl)))
    |(refine⟨_,rfl,rfl,Eq.trans ?_ (X0 (X4 X1x _) _)⟩;(rw[List.map_append];rfl))
    |(refine⟨_,rfl,rfl,Eq.trans ?_ (X0 (X4 X1x _) _)⟩;(rw[List.map_set];rfl))
    |(refine⟨_,rfl,rfl,Eq.trans ?_ (X0 (X4 X1x _) _)⟩;(simp[*];done))
    |(refine⟨_,rfl,rfl,Eq.trans ?_ (X0 (still_cons X1x _ _) _)⟩;(simp[*];done))
    |(refine⟨_,rfl,rfl,Eq.trans ?_ (X0 (X4 X1x _) _)⟩;(rw[List.map_replicate];rfl))
    |(refine⟨_,rfl,rfl,Eq.trans ?_ (X0 (X4 still_V2GAccum _) _)⟩;rfl)
    |(refine⟨_,rfl,rfl,Eq.trans ?_ (X0 (still_cons still_V2GAccum _ _) _)⟩;rfl)
    |(refine⟨_,rfl,rfl,Eq.trans ?_ (X0 (X4 still_V2GAccum _) _)⟩;(simp;done))
    |(refine⟨_,rfl,rfl,Eq.trans ?_ (X0 (still_cons still_V2GAccum _ _) _)⟩;(simp;done))
    |(refine⟨_,rfl,rfl,Eq.trans ?_ (X0 (X4 still_V2GAccum _) _)⟩;(simp;rfl))
    |(refine⟨_,rfl,rfl,Eq.trans ?_ (X0 (still_cons still_V2GAccum _ _) _)⟩;(simp;rfl))
    |(refine⟨_,rfl,rfl,Eq.trans ?_ (X0 (X4 still_V2GAccum _) _)⟩;(exact Eq.symm (Eq.trans List.map_append rfl)))
    |(refine⟨_,rfl,rfl,Eq.trans ?_ (X0 (X4 still_V2GAccum _) _)⟩;(rw[List.map_append];rfl))
    |(refine⟨_,rfl,rfl,Eq.trans ?_ (X0 (X4 still_V2GAccum _) _)⟩;(rw[List.map_set];rfl))
    |(refine⟨_,rfl,rfl,Eq.trans ?_ (X0 (X4 still_V2GAccum _) _)⟩;(simp[*];done))
    |(refine⟨_,rfl,rfl,Eq.trans ?_ (X0 (still_cons still_V2GAccum _ _) _)⟩;(simp[*];done))
    |(refine⟨_,rfl,rfl,Eq.trans ?_ (X0 (X4 still_V2GAccum _) _)⟩;(rw[List.map_replicate];rfl))
    |(refine⟨_,rfl,rfl,Eq.trans ?_ (X0 (X4 X1w _) _)⟩;rfl)
    |(refine⟨_,rfl,rfl,Eq.trans ?_ (X0 (still_cons X1w _ _) _)⟩;rfl)
    |(refine⟨_,rfl,rfl,Eq.trans ?_ (X0 (X4 X1w _) _)⟩;(simp;done))
    |(refine⟨_,rfl,rfl,Eq.trans ?_ (X0 (still_cons X1w _ _) _)⟩;(simp;done))
    |(refine⟨_,rfl,rfl,Eq.trans ?_ (X0 (X4 X1w _) _)⟩;(simp;rfl))
    |(refine⟨_,rfl,rfl,Eq.trans ?_ (X0 (still_cons X1w _ _) _)⟩;(simp;rfl))
    |(refine⟨_,rfl,rfl,Eq.trans ?_ (X0 (X4 X1w _) _)⟩;(exact Eq.symm (Eq.trans List.map_append rfl)))
    |(refine⟨_,rfl,rfl,Eq.trans ?_ (X0 (X4 X1w _) _)⟩;(rw[List.map_append];rfl))
    |(refine⟨_,rfl,rfl,Eq.trans ?_ (X0 (X4 X1w _) _)⟩;(rw[List.map_set];rfl))
    |(refine⟨_,rfl,rfl,Eq.trans ?_ (X0 (X4 X1w _) _)⟩;(simp[*];done))
    |(refine⟨_,rfl,rfl,Eq.trans ?_ (X0 (still_cons X1w _ _) _)⟩;(simp[*];done))
    |(refine⟨_,rfl,rfl,Eq.trans ?_ (X0 (X4 X1w _) _)⟩;(rw[List.map_replicate];rfl))
    |(refine⟨_,rfl,rfl,Eq.trans ?_ (X0 (X4 X1v _) _)⟩;rfl)
    |(refine⟨_,rfl,rfl,Eq.trans ?_ (X0 (still_cons X1v _ _) _)⟩;rfl)
    |(refine⟨_,rfl,rfl,Eq.trans ?_ (X0 (X4 X1v _) _)⟩;(simp;done))
    |(refine⟨_,rfl,rfl,Eq.trans ?_ (X0 (still_cons X1v _ _) _)⟩;(simp;done))
    |(refine⟨_,rfl,rfl,Eq.trans ?_ (X0 (X4 X1v _) _)⟩;(simp;rfl))
    |(refine⟨_,rfl,rfl,Eq.trans ?_ (X0 (still_cons X1v _ _) _)⟩;(simp;rfl))
    |(refine⟨_,rfl,rfl,Eq.trans ?_ (X0 (X4 X1v _) _)⟩;(exact Eq.symm (Eq.trans List.map_append rfl)))
    |(refine⟨_,rfl,rfl,Eq.trans ?_ (X0 (X4 X1v _) _)⟩;(rw[List.map_append];rfl))
    |(refine⟨_,rfl,rfl,Eq.trans ?_ (X0 (X4 X1v _) _)⟩;(rw[List.map_set];rfl))):P:=h
theorem wkR2 {P:Prop} (h:P:=by
  first
    |(refine⟨_,rfl,rfl,Eq.trans ?_ (X0 (X4 X1v _) _)⟩;(simp[*];done))
    |(refine⟨_,rfl,rfl,Eq.trans ?_ (X0 (still_cons X1v _ _) _)⟩;(simp[*];done))
    |(refine⟨_,rfl,rfl,Eq.trans ?_ (X0 (X4 X1v _) _)⟩;(rw[List.map_replicate];rfl))
    |(refine⟨_,rfl,rfl,Eq.trans ?_ (X0 (X4 (X0b true) _) _)⟩;rfl)
    |(refine⟨_,rfl,rfl,Eq.trans ?_ (X0 (still_cons (X0b true) _ _) _)⟩;rfl)
    |(refine⟨_,rfl,rfl,Eq.trans ?_ (X0 (X4 (X0b true) _) _)⟩;(simp;done))
    |(refine⟨_,rfl,rfl,Eq.trans ?_ (X0 (still_cons (X0b true) _ _) _)⟩;(simp;done))
    |(refine⟨_,rfl,rfl,Eq.trans ?_ (X0 (X4 (X0b true) _) _)⟩;(simp;rfl))
    |(refine⟨_,rfl,rfl,Eq.trans ?_ (X0 (still_cons (X0b true) _ _) _)⟩;(simp;rfl))
    |(refine⟨_,rfl,rfl,Eq.trans ?_ (X0 (X4 (X0b true) _) _)⟩;(exact Eq.symm (Eq.trans List.map_append rfl)))
    |(refine⟨_,rfl,rfl,Eq.trans ?_ (X0 (X4 (X0b true) _) _)⟩;(rw[List.map_append];rfl))
    |(refine⟨_,rfl,rfl,Eq.trans ?_ (X0 (X4 (X0b true) _) _)⟩;(rw[List.map_set];rfl))
    |(refine⟨_,rfl,rfl,Eq.trans ?_ (X0 (X4 (X0b true) _) _)⟩;(simp[*];done))
    |(refine⟨_,rfl,rfl,Eq.trans ?_ (X0 (still_cons (X0b true) _ _) _)⟩;(simp[*];done))
    |(refine⟨_,rfl,rfl,Eq.trans ?_ (X0 (X4 (X0b true) _) _)⟩;(rw[List.map_replicate];rfl))
    |(refine⟨_,rfl,rfl,Eq.trans ?_ (X0 (X4 (X0b false) _) _)⟩;rfl)
    |(refine⟨_,rfl,rfl,Eq.trans ?_ (X0 (still_cons (X0b false) _ _) _)⟩;rfl)
    |(refine⟨_,rfl,rfl,Eq.trans ?_ (X0 (X4 (X0b false) _) _)⟩;(simp;done))
    |(refine⟨_,rfl,rfl,Eq.trans ?_ (X0 (still_cons (X0b false) _ _) _)⟩;(simp;done))
    |(refine⟨_,rfl,rfl,Eq.trans ?_ (X0 (X4 (X0b false) _) _)⟩;(simp;rfl))
    |(refine⟨_,rfl,rfl,Eq.trans ?_ (X0 (still_cons (X0b false) _ _) _)⟩;(simp;rfl))
    |(refine⟨_,rfl,rfl,Eq.trans ?_ (X0 (X4 (X0b false) _) _)⟩;(exact Eq.symm (Eq.trans List.map_append rfl)))
    |(refine⟨_,rfl,rfl,Eq.trans ?_ (X0 (X4 (X0b false) _) _)⟩;(rw[List.map_append];rfl))
    |(refine⟨_,rfl,rfl,Eq.trans ?_ (X0 (X4 (X0b false) _) _)⟩;(rw[List.map_set];rfl))
    |(refine⟨_,rfl,rfl,Eq.trans ?_ (X0 (X4 (X0b false) _) _)⟩;(simp[*];done))
    |(refine⟨_,rfl,rfl,Eq.trans ?_ (X0 (still_cons (X0b false) _ _) _)⟩;(simp[*];done))
    |(refine⟨_,rfl,rfl,Eq.trans ?_ (X0 (X4 (X0b false) _) _)⟩;(rw[List.map_replicate];rfl))
    |(refine⟨_,rfl,rfl,Eq.trans ?_ (X0 (X4 X0j _) _)⟩;rfl)
    |(refine⟨_,rfl,rfl,Eq.trans ?_ (X0 (still_cons X0j _ _) _)⟩;rfl)
    |(refine⟨_,rfl,rfl,Eq.trans ?_ (X0 (X4 X0j _) _)⟩;(simp;done))
    |(refine⟨_,rfl,rfl,Eq.trans ?_ (X0 (still_cons X0j _ _) _)⟩;(simp;done))
    |(refine⟨_,rfl,rfl,Eq.trans ?_ (X0 (X4 X0j _) _)⟩;(simp;rfl))
    |(refine⟨_,rfl,rfl,Eq.trans ?_ (X0 (still_cons X0j _ _) _)⟩;(simp;rfl))
    |(refine⟨_,rfl,rfl,Eq.trans ?_ (X0 (X4 X0j _) _)⟩;(exact Eq.symm (Eq.trans List.map_append rfl)))
    |(refine⟨_,rfl,rfl,Eq.trans ?_ (X0 (X4 X0j _) _)⟩;(rw[List.map_append];rfl))
    |(refine⟨_,rfl,rfl,Eq.trans ?_ (X0 (X4 X0j _) _)⟩;(rw[List.map_set];rfl))
    |(refine⟨_,rfl,rfl,Eq.trans ?_ (X0 (X4 X0j _) _)⟩;(simp[*];done))
    |(refine⟨_,rfl,rfl,Eq.trans ?_ (X0 (still_cons X0j _ _) _)⟩;(simp[*];done))
    |(refine⟨_,rfl,rfl,Eq.trans ?_ (X0 (X4 X0j _) _)⟩;(rw[List.map_replicate];rfl))
    |(refine⟨_,rfl,rfl,Eq.trans ?_ (X0 (X4 still_V2b _) _)⟩;rfl)
    |(refine⟨_,rfl,rfl,Eq.trans ?_ (X0 (still_cons still_V2b _ _) _)⟩;rfl)
    |(refine⟨_,rfl,rfl,Eq.trans ?_ (X0 (X4 still_V2b _) _)⟩;(simp;done))
    |(refine⟨_,rfl,rfl,Eq.trans ?_ (X0 (still_cons still_V2b _ _) _)⟩;(simp;done))
    |(refine⟨_,rfl,rfl,Eq.trans ?_ (X0 (X4 still_V2b _) _)⟩;(simp;rfl))
    |(refine⟨_,rfl,rfl,Eq.trans ?_ (X0 (still_cons still_V2b _ _) _)⟩;(simp;rfl))
    |(refine⟨_,rfl,rfl,Eq.trans ?_ (X0 (X4 still_V2b _) _)⟩;(exact Eq.symm (Eq.trans List.map_append rfl)))
    |(refine⟨_,rfl,rfl,Eq.trans ?_ (X0 (X4 still_V2b _) _)⟩;(rw[List.map_append];rfl))
    |(refine⟨_,rfl,rfl,Eq.trans ?_ (X0 (X4 still_V2b _) _)⟩;(rw[List.map_set];rfl))
    |(refine⟨_,rfl,rfl,Eq.trans ?_ (X0 (X4 still_V2b _) _)⟩;(simp[*];done))
    |(refine⟨_,rfl,rfl,Eq.trans ?_ (X0 (still_cons still_V2b _ _) _)⟩;(simp[*];done))
    |(refine⟨_,rfl,rfl,Eq.trans ?_ (X0 (X4 still_V2b _) _)⟩;(rw[List.map_replicate];rfl))
    |(refine⟨_,rfl,rfl,Eq.trans ?_ (X0 (X4 (fun _=>X64) _) _)⟩;rfl)
    |(refine⟨_,rfl,rfl,Eq.trans ?_ (X0 (still_cons (fun _=>X64) _ _) _)⟩;rfl)
    |(refine⟨_,rfl,rfl,Eq.trans ?_ (X0 (X4 (fun _=>X64) _) _)⟩;(simp;done))
    |(refine⟨_,rfl,rfl,Eq.trans ?_ (X0 (still_cons (fun _=>X64) _ _) _)⟩;(simp;done))
    |(refine⟨_,rfl,rfl,Eq.trans ?_ (X0 (X4 (fun _=>X64) _) _)⟩;(simp;rfl))
    |(refine⟨_,rfl,rfl,Eq.trans ?_ (X0 (still_cons (fun _=>X64) _ _) _)⟩;(simp;rfl))
    |(refine⟨_,rfl,rfl,Eq.trans ?_ (X0 (X4 (fun _=>X64) _) _)⟩;(exact Eq.symm (Eq.trans List.map_append rfl)))
    |(refine⟨_,rfl,rfl,Eq.trans ?_ (X0 (X4 (fun _=>X64) _) _)⟩;(rw[List.map_append];rfl))
    |(refine⟨_,rfl,rfl,Eq.trans ?_ (X0 (X4 (fun _=>X64) _) _)⟩;(rw[List.map_set];rfl))
    |(refine⟨_,rfl,rfl,Eq.trans ?_ (X0 (X4 (fun _=>X64) _) _)⟩;(simp[*];done))
    |(refine⟨_,rfl,rfl,Eq.trans ?_ (X0 (still_cons (fun _=>X64) _ _) _)⟩;(simp[*];done))
    |(refine⟨_,rfl,rfl,Eq.trans ?_ (X0 (X4 (fun _=>X64) _) _)⟩;(rw[List.map_replicate];rfl))
    |(refine⟨_,rfl,rfl,Eq.trans ?_ (X0 (X4 (fun _=>still_encl) _) _)⟩;rfl)
    |(refine⟨_,rfl,rfl,Eq.trans ?_ (X0 (still_cons (fun _=>still_encl) _ _) _)⟩;rfl)
    |(refine⟨_,rfl,rfl,Eq.trans ?_ (X0 (X4 (fun _=>still_encl) _) _)⟩;(simp;done))
    |(refine⟨_,rfl,rfl,Eq.trans ?_ (X0 (still_cons (fun _=>still_encl) _ _) _)⟩;(simp;done))
    |(refine⟨_,rfl,rfl,Eq.trans ?_ (X0 (X4 (fun _=>still_encl) _) _)⟩;(simp;rfl))
    |(refine⟨_,rfl,rfl,Eq.trans ?_ (X0 (still_cons (fun _=>still_encl) _ _) _)⟩;(simp;rfl))
    |(refine⟨_,rfl,rfl,Eq.trans ?_ (X0 (X4 (fun _=>still_encl) _) _)⟩;(exact Eq.symm (Eq.trans List.map_append rfl)))
    |(refine⟨_,rfl,rfl,Eq.trans ?_ (X0 (X4 (fun _=>still_encl) _) _)⟩;(rw[List.map_append];rfl))
    |(refine⟨_,rfl,rfl,Eq.trans ?_ (X0 (X4 (fun _=>still_encl) _) _)⟩;(rw[List.map_set];rfl))
    |(refine⟨_,rfl,rfl,Eq.trans ?_ (X0 (X4 (fun _=>still_encl) _) _)⟩;(simp[*];done))
    |(refine⟨_,rfl,rfl,Eq.trans ?_ (X0 (still_cons (fun _=>still_encl) _ _) _)⟩;(simp[*];done))
    |(refine⟨_,rfl,rfl,Eq.trans ?_ (X0 (X4 (fun _=>still_encl) _) _)⟩;(rw[List.map_replicate];rfl))
    |(refine⟨_,rfl,rfl,Eq.trans ?_ (X0 (still_one (X2e _)) _)⟩;simp only[List.length_cons,List.length_map];rfl)
    |(refine⟨_,rfl,rfl,Eq.trans ?_ (X0 (still_one (X1e _)) _)⟩;simp only[List.length_cons,List.length_map];rfl)
    |(refine⟨_,rfl,rfl,Eq.trans ?_ (X0 (still_one ((X02 true) _)) _)⟩;simp only[List.length_cons,List.length_map];rfl)
    |(refine⟨_,rfl,rfl,Eq.trans ?_ (X0 (still_one ((X02 false) _)) _)⟩;simp only[List.length_cons,List.length_map];rfl)
    |(refine⟨_,rfl,rfl,Eq.trans ?_ (X0 (still_one (X1f _)) _)⟩;simp only[List.length_cons,List.length_map];rfl)
    |(refine⟨_,rfl,rfl,Eq.trans ?_ (X0 (still_one (X2c _)) _)⟩;simp only[List.length_cons,List.length_map];rfl)
    |(refine⟨_,rfl,rfl,Eq.trans ?_ (X0 (still_one (still_V2i64 _)) _)⟩;simp only[List.length_cons,List.length_map];rfl)
    |(refine⟨_,rfl,rfl,Eq.trans ?_ (X0 (still_one (X30 _)) _)⟩;simp only[List.length_cons,List.length_map];rfl)
    |(refine⟨_,rfl,rfl,Eq.trans ?_ (X0 (still_one (X15 _)) _)⟩;simp only[List.length_cons,List.length_map];rfl)
    |(refine⟨_,rfl,rfl,Eq.trans ?_ (X0 (still_one (still_GOp _)) _)⟩;simp only[List.length_cons,List.length_map];rfl)
    |(refine⟨_,rfl,rfl,Eq.trans ?_ (X0 (still_one (X2d _)) _)⟩;simp only[List.length_cons,List.length_map];rfl)
    |(refine⟨_,rfl,rfl,Eq.trans ?_ (X0 (still_one (X1x _)) _)⟩;simp only[List.length_cons,List.length_map];rfl)
    |(refine⟨_,rfl,rfl,Eq.trans ?_ (X0 (still_one (still_V2GAccum _)) _)⟩;simp only[List.length_cons,List.length_map];rfl)
    |(refine⟨_,rfl,rfl,Eq.trans ?_ (X0 (still_one (X1w _)) _)⟩;simp only[List.length_cons,List.length_map];rfl)
    |(refine⟨_,rfl,rfl,Eq.trans ?_ (X0 (still_one (X1v _)) _)⟩;simp only[List.length_cons,List.length_map];rfl)
    |(refine⟨_,rfl,rfl,Eq.trans ?_ (X0 (still_one ((X0b true) _)) _)⟩;simp only[List.length_cons,List.length_map];rfl)
    |(refine⟨_,rfl,rfl,Eq.trans ?_ (X0 (still_one ((X0b false) _)) _)⟩;simp only[List.length_cons,List.length_map];rfl)
    |(refine⟨_,rfl,rfl,Eq.trans ?_ (X0 (still_one (X0j _)) _)⟩;simp only[List.length_cons,List.length_map];rfl)
    |(refine⟨_,rfl,rfl,Eq.trans ?_ (X0 (still_one (still_V2b _)) _)⟩;simp only[List.length_cons,List.length_map];rfl)
    |(refine⟨_,rfl,rfl,Eq.trans ?_ (X0 (still_one ((fun _=>X64) _)) _)⟩;simp only[List.length_cons,List.length_map];rfl)
    |(refine⟨_,rfl,rfl,Eq.trans ?_ (X0 (still_one ((fun _=>still_encl) _)) _)⟩;simp only[List.length_cons,List.length_map];rfl)):P:=h
theorem wkB {P:Prop} (h:P:=by
  first
    |exact trivial
    |rfl
    |decide
    |exact⟨_,rfl,rfl,rfl⟩
    |(refine⟨_,rfl,rfl,ref1 ?_⟩;first|rfl|omega|(simp;done)|(simp;omega))
    |exact wkR0
    |exact wkR1
    |exact wkR2
    |(intro e he a ha;rw[List.mem_singleton.1 he] at ha;rw[List.mem_singleton.1 ha];first|exact .sc|exact .list|exact .nils|exact .ref (by decide)|exact .ptr (by decide)|exact Xsa|exact .fn (X0x (.ptr (by decide)) X77)|exact .fn (X0x (.ptr (by decide)) (X0x (.ptr (by decide)) X77)))
    |(intro e he a ha;simp at he;subst he;simp[AV.cells] at ha;first|(subst ha;exact .sc)|(rcases ha with rfl|rfl|rfl|rfl|rfl<;>exact .sc))
    |(refine⟨_,rfl,rfl,aggR ?_⟩;repeat' first|exact trivial|refine And.intro ?_ ?_|rfl|exact wkSl rfl|(refine refR rfl ?_;first|rfl|(simp;done)|(simp;omega)))
    |(refine okAgg ?_;repeat' first|exact X77|refine X0x ?_ ?_|exact .sc|exact .list|exact .nils|exact .ref (by decide)|exact .ptr (by decide)|exact okSl (by decide)|exact okF|exact okG|exact Xsa)):P:=h
theorem rn {P:Program} {T:Ty} {nt n0:Nat} {μ:Mu} {Q:Xw->St->Mu->Prop} {cf cf':Cf} {K K':List Kn} {L L':List (Nat×AV)} {G G':List (Nat×Obj)} {n n':Nat} {hs':List X2o} {ps':List Prop} (hT:Xap P T/\P.follows .mixedOrders=true) (hs:List X2o) (h:Xae P T nt 4000 cf K L G n hs []=some (cf',K',L',G',n',hs',ps')) (hp':X4k ps') (k:X3 P nt n0 Q cf' K' ⟨fr L',hp G',n'⟩ μ):X3 P nt n0 Q cf K ⟨fr L,hp G,n⟩ μ:=Xox hT 4000 hs h hp' k
abbrev cc:=@Cvs.cons
abbrev cn:=@Cvs.nil
abbrev pn:=@X5k.none
abbrev Bt:X2o:=.br true
abbrev Bf:X2o:=.br false
abbrev Ob (e:List AV) (n:Nat):Obj:={ es:=e,esz:=n }
abbrev Lf:=AV.list false
theorem Zn {α:Type} {m:Bool} {H:X0e} (f:α->AV):Cv m H .nils (.list m (List.map f ([]:List α))):=.nils
theorem wkT {P : Program} {nt n0 : Nat} {Q : Xw -> St -> Mu -> Prop} {cf : Cf} {K : List Kn} {μ : Mu} {L L' : List (Nat × AV)} {G G' : List (Nat × Obj)} {n n' : Nat} (θ : List (Nat × Nat)) (h : X3 P nt n0 Q cf K ⟨fr L', hp G', n'⟩ μ)
    (hb:(fixB θ n0&&injB θ (G'.map (·.1))&&Nat.ble n0 n')=true:=by rfl) (hL:wkL L θ n' L':=by repeat' first|refine And.intro ?_ ?_|exact wkA) (hG:wkG G θ n' G':=by repeat' first|refine And.intro ?_ ?_|exact wkB):X3 P nt n0 Q cf K ⟨fr L,hp G,n⟩ μ:=X3.weakTo θ h hb hL hG
end Go.Av
namespace Go.D
open Go.Av
def X6x (x y:X04):Bool:=((x.Kind==y.Kind)&&((x.N==y.N)&&((x.A==y.A)&&((x.B==y.B)&&((x.At==y.At)&&true)))))
def X9j (x y:Xl):Bool:=((x.Key==y.Key)&&((x.Time==y.Time)&&((x.Value==y.Value)&&true)))
def Xe8 (x y:X00):Bool:=((x.Start==y.Start)&&((x.End==y.End)&&true))
def Xm2 (x y:(V2 Int)):Bool:=((x.e0==y.e0)&&((x.e1==y.e1)&&true))
def Xkn (x y:X28):Bool:=((x.Key==y.Key)&&((Xe8 x.Span y.Span)&&((Xm2 x.Values y.Values)&&true)))
def X7x (x y:Xg):Bool:=((x.Kind==y.Kind)&&((X9j x.Record y.Record)&&((x.Time==y.Time)&&((Xkn x.Row y.Row)&&true))))
def Xhw (x y:X0v):Bool:=((x.Out==y.Out)&&((X7x x.Message y.Message)&&true))
def X8q (x y:X0t):Bool:=((x.Count==y.Count)&&((x.Sum==y.Sum)&&((x.Min==y.Min)&&((x.Max==y.Max)&&true))))
def Xfr (x y:(V2 X0t)):Bool:=((X8q x.e0 y.e0)&&((X8q x.e1 y.e1)&&true))
def Xfc (x y:X2):Bool:=((x.Key==y.Key)&&((Xe8 x.Span y.Span)&&((Xfr x.Values y.Values)&&true)))
def Xgf (x:X04):Prop:=wfI .u8 x.Kind/\wfI .i64 x.N/\wfI .i64 x.A/\wfI .i64 x.B/\wfI .i64 x.At
def Xj5 (x:X0s):Prop:=wfI .u8 x.Kind/\wfI .i64 x.Size/\wfI .i64 x.Every
def Xgy (x:X03):Prop:=wfI .u8 x.Agg/\(List.length x.Arg<=maxLen/\∀ y∈x.Arg,Xgf y)/\(List.length x.Sources<=maxLen/\∀ y∈x.Sources,wfI .i64 y)/\True/\(List.length x.Where<=maxLen/\∀ y∈x.Where,Xgf y)/\Xj5 x.Window/\True/\wfI .u8 x.Late
def Xj6 (x:Xl):Prop:=wfI .i64 x.Key/\wfI .i64 x.Time/\wfI .i64 x.Value
def Xor (x:X00):Prop:=wfI .i64 x.Start/\wfI .i64 x.End
def Xoq (x:(V2 Int)):Prop:=wfI .i64 x.e0/\wfI .i64 x.e1
def Xrh (x:X28):Prop:=wfI .i64 x.Key/\Xor x.Span/\Xoq x.Values
def Xgz (x:Xg):Prop:=wfI .u8 x.Kind/\Xj6 x.Record/\wfI .i64 x.Time/\Xrh x.Row
end Go.D
