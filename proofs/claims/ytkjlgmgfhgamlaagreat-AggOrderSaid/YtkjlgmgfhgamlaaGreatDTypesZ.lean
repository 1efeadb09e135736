/- Printed by decomp.py: the types of the Go program, as data; their encodings. -/
import Derived.Test.YtkjlgmgfhgamlaaGreatAvc
set_option linter.all false

namespace Go.D
theorem Yo {α β:Type} {a:α} {f:α->Option β}:(some a).bind f=f a:=rfl
theorem Yf {p:Prop} [Decidable p] (h:¬ p):decide p=false:=decide_eq_false h
theorem Yt {p:Prop} [Decidable p] (h:p):decide p=true:=decide_eq_true h
theorem Ym {α β:Type} {f:α->β} {l:List α} {i:Nat}:List.map f (List.take i l)=List.take i (List.map f l):=List.map_take
theorem Yd {α β:Type} {f:α->β} {l:List α} {i:Nat}:List.map f (List.drop i l)=List.drop i (List.map f l):=List.map_drop
theorem Ya {a b:Prop} (x:a) (y:b):a/\b:=⟨x,y⟩
theorem Ye {α:Type} {l:List α} {i:Nat} (h:i<l.length):l[i]?=some l[i]:=List.getElem?_eq_getElem h
theorem Ys {α:Type} {l:List α} {i:Nat} {a:α}:l[i]?=some a↔∃ h:i<l.length,l[i]=a:=List.getElem?_eq_some_iff
theorem Yg {α:Type} {l:List α} {i:Nat} {a:α} (h:l[i]?=some a):a∈l:=List.mem_of_getElem? h
structure X05 where
  Kind:Int
  N:Int
  A:Int
  B:Int
  At:Int
  deriving DecidableEq,Inhabited
structure X0l where
  Kind:Int
  Size:Int
  Every:Int
  deriving DecidableEq,Inhabited
structure X08 where
  Agg:Int
  Arg:(List X05)
  Sources:(List Int)
  Join:Bool
  Where:(List X05)
  Window:X0l
  ByKey:Bool
  Late:Int
  deriving DecidableEq,Inhabited
structure X8 where
  Key:Int
  Time:Int
  Value:Int
  deriving DecidableEq,Inhabited
structure X04 where
  Start:Int
  End:Int
  deriving DecidableEq,Inhabited
structure X19 where
  Key:Int
  Span:X04
  Values:(V2 Int)
  deriving DecidableEq,Inhabited
structure Xd where
  Kind:Int
  Record:X8
  Time:Int
  Row:X19
  deriving DecidableEq,Inhabited
structure GOp where
  Kind:Int
  N:Int
  deriving DecidableEq,Inhabited
structure X0a where
  Out:Int
  Message:Xd
  deriving DecidableEq,Inhabited
structure X11 where
  Count:Int
  Sum:Int
  Min:Int
  Max:Int
  deriving DecidableEq,Inhabited
structure X1 where
  Key:Int
  Span:X04
  Values:(V2 X11)
  deriving DecidableEq,Inhabited
structure X0h where
  Mark:Bool
  Time:Int
  Record:X8
  deriving DecidableEq,Inhabited
structure Xp where
  Op:GOp
  Turn:Int
  Pending:(List X0a)
  Marks:(List Int)
  Store:(List X1)
  Events:(List X0h)
  Rows:(List X19)
  Late:(List X8)
  deriving DecidableEq,Inhabited
structure Xb where
  at_:Int
  size:Int
  depth:Int
  deriving DecidableEq,Inhabited
end Go.D
namespace Go.Av
open Go.D
def X4 (x:X05):AV:=.agg [(aI .u8 x.Kind),(aI .i64 x.N),(aI .i64 x.A),(aI .i64 x.B),(aI .i64 x.At)]
theorem Xcy (x:X05):Xa8 (X4 x):=(X1z (X1z (X1z (X1z (X1z Xgr)))))
theorem X7c (x:X05):X6z (X4 x):=λ_=>rfl
theorem Xcw (x:X05):Xa7 (X4 x):=X3v (Xcy x) rfl
instance X02t:Xck X4:=⟨Xcy,λ_=>rfl,X7c⟩
def X33 (x:X0l):AV:=.agg [(aI .u8 x.Kind),(aI .i64 x.Size),(aI .i64 x.Every)]
theorem Xg2 (x:X0l):Xa8 (X33 x):=(X1z (X1z (X1z Xgr)))
theorem X56 (x:X0l):X6z (X33 x):=λ_=>rfl
theorem X9w (x:X0l):Xa7 (X33 x):=X3v (Xg2 x) rfl
instance X00w:Xck X33:=⟨Xg2,λ_=>rfl,X56⟩
def X06 (o:Bool) (x:X08):AV:=.agg [(aI .u8 x.Agg),(AV.list o (List.map X4 x.Arg)),(AV.list o (List.map (aI .i64) x.Sources)),(aB x.Join),(AV.list o (List.map X4 x.Where)),(aI .u8 x.Window.Kind),(aI .i64 x.Window.Size),(aI .i64 x.Window.Every),(aB x.ByKey),(aI .u8 x.Late)]
theorem X2l (o:Bool) (x:X08):X6z (X06 o x):=λ_=>rfl
theorem X4b (o:Bool) (x:X08):Xa7 (X06 o x):=Xq0 (λ_=>(X0w .sc (X0w .list (X0w .list (X0w .sc (X0w .list (X0w .sc (X0w .sc (X0w .sc (X0w .sc (X0w .sc X76)))))))))))
theorem Xrh {H:X0j} {o:Bool} {x:X08}:Cv false H (X06 o x) (X06 false x):=Xmx (Cvs.cons .sc (Cvs.cons (X5k (X2c Xcy _)) (Cvs.cons (X5k (X2c (λ_=>Xef) _)) (Cvs.cons .sc (Cvs.cons (X5k (X2c Xcy _)) (Cvs.cons .sc (Cvs.cons .sc (Cvs.cons .sc (Cvs.cons .sc (Cvs.cons .sc Cvs.nil))))))))))
theorem Xrg {H:X0j} {o:Bool} {x:X08}:Cv true H (X06 o x) (X06 o x):=Xmx (Cvs.cons .sc (Cvs.cons (.listS rfl) (Cvs.cons (.listS rfl) (Cvs.cons .sc (Cvs.cons (.listS rfl) (Cvs.cons .sc (Cvs.cons .sc (Cvs.cons .sc (Cvs.cons .sc (Cvs.cons .sc Cvs.nil))))))))))
instance X01m:X00m X06:=⟨Xrh,Xrg,λ_ _ _=>rfl,X4b,X2l⟩
def Xm (x:X8):AV:=.agg [(aI .i64 x.Key),(aI .i64 x.Time),(aI .i64 x.Value)]
theorem Xcd (x:X8):Xa8 (Xm x):=(X1z (X1z (X1z Xgr)))
theorem X57 (x:X8):X6z (Xm x):=λ_=>rfl
theorem X9x (x:X8):Xa7 (Xm x):=X3v (Xcd x) rfl
instance X00x:Xck Xm:=⟨Xcd,λ_=>rfl,X57⟩
def Xy (x:X04):AV:=.agg [(aI .i64 x.Start),(aI .i64 x.End)]
theorem Xk6 (x:X04):Xa8 (Xy x):=(X1z (X1z Xgr))
theorem X7a (x:X04):X6z (Xy x):=λ_=>rfl
theorem Xcu (x:X04):Xa7 (Xy x):=X3v (Xk6 x) rfl
instance X02r:Xck Xy:=⟨Xk6,λ_=>rfl,X7a⟩
def Xt (x:X19):AV:=.agg [(aI .i64 x.Key),(aI .i64 x.Span.Start),(aI .i64 x.Span.End),(aI .i64 x.Values.e0),(aI .i64 x.Values.e1)]
theorem Xic (x:X19):Xa8 (Xt x):=(X1z (X1z (X1z (X1z (X1z Xgr)))))
theorem X8i (x:X19):X6z (Xt x):=λ_=>rfl
theorem Xeb (x:X19):Xa7 (Xt x):=X3v (Xic x) rfl
instance X04w:Xck Xt:=⟨Xic,λ_=>rfl,X8i⟩
def Xl (x:Xd):AV:=.agg [(aI .u8 x.Kind),(aI .i64 x.Record.Key),(aI .i64 x.Record.Time),(aI .i64 x.Record.Value),(aI .i64 x.Time),(aI .i64 x.Row.Key),(aI .i64 x.Row.Span.Start),(aI .i64 x.Row.Span.End),(aI .i64 x.Row.Values.e0),(aI .i64 x.Row.Values.e1)]
theorem Xee (x:Xd):Xa8 (Xl x):=(X1z (X1z (X1z (X1z (X1z (X1z (X1z (X1z (X1z (X1z Xgr))))))))))
theorem X4f (x:Xd):X6z (Xl x):=λ_=>rfl
theorem X8c (x:Xd):Xa7 (Xl x):=X3v (Xee x) rfl
instance Xzv:Xck Xl:=⟨Xee,λ_=>rfl,X4f⟩
def Xw (x:X0a):AV:=.agg [(aI .i64 x.Out),(aI .u8 x.Message.Kind),(aI .i64 x.Message.Record.Key),(aI .i64 x.Message.Record.Time),(aI .i64 x.Message.Record.Value),(aI .i64 x.Message.Time),(aI .i64 x.Message.Row.Key),(aI .i64 x.Message.Row.Span.Start),(aI .i64 x.Message.Row.Span.End),(aI .i64 x.Message.Row.Values.e0),(aI .i64 x.Message.Row.Values.e1)]
theorem Xcx (x:X0a):Xa8 (Xw x):=(X1z (X1z (X1z (X1z (X1z (X1z (X1z (X1z (X1z (X1z (X1z Xgr)))))))))))
theorem X7b (x:X0a):X6z (Xw x):=λ_=>rfl
theorem Xcv (x:X0a):Xa7 (Xw x):=X3v (Xcx x) rfl
instance X02s:Xck Xw:=⟨Xcx,λ_=>rfl,X7b⟩
def X0q (x:X11):AV:=.agg [(aI .i64 x.Count),(aI .i64 x.Sum),(aI .i64 x.Min),(aI .i64 x.Max)]
theorem Xid (x:X11):Xa8 (X0q x):=(X1z (X1z (X1z (X1z Xgr))))
theorem X68 (x:X11):X6z (X0q x):=λ_=>rfl
theorem Xbc (x:X11):Xa7 (X0q x):=X3v (Xid x) rfl
instance X02a:Xck X0q:=⟨Xid,λ_=>rfl,X68⟩
def X0 (x:X1):AV:=.agg [(aI .i64 x.Key),(aI .i64 x.Span.Start),(aI .i64 x.Span.End),(aI .i64 x.Values.e0.Count),(aI .i64 x.Values.e0.Sum),(aI .i64 x.Values.e0.Min),(aI .i64 x.Values.e0.Max),(aI .i64 x.Values.e1.Count),(aI .i64 x.Values.e1.Sum),(aI .i64 x.Values.e1.Min),(aI .i64 x.Values.e1.Max)]
theorem X52 (x:X1):Xa8 (X0 x):=(X1z (X1z (X1z (X1z (X1z (X1z (X1z (X1z (X1z (X1z (X1z Xgr)))))))))))
theorem X67 (x:X1):X6z (X0 x):=λ_=>rfl
theorem Xbb (x:X1):Xa7 (X0 x):=X3v (X52 x) rfl
theorem X7j {m:Bool} {H:X0j} {x:X1}:Cv m H (X0 x) (X0 x):=X002 (X52 x)
instance X029:Xck X0:=⟨X52,λ_=>rfl,X67⟩
def X00 (x:X0h):AV:=.agg [(aB x.Mark),(aI .i64 x.Time),(aI .i64 x.Record.Key),(aI .i64 x.Record.Time),(aI .i64 x.Record.Value)]
theorem Xdj (x:X0h):Xa8 (X00 x):=(X1z (X1z (X1z (X1z (X1z Xgr)))))
theorem X66 (x:X0h):X6z (X00 x):=λ_=>rfl
theorem Xba (x:X0h):Xa7 (X00 x):=X3v (Xdj x) rfl
instance X028:Xck X00:=⟨Xdj,λ_=>rfl,X66⟩
def X9 (o:Bool) (x:Xp):AV:=.agg [(aI .u8 x.Op.Kind),(aI .i64 x.Op.N),(aI .i64 x.Turn),(AV.list o (List.map Xw x.Pending)),(AV.list o (List.map (aI .i64) x.Marks)),(AV.list o (List.map X0 x.Store)),(AV.list o (List.map X00 x.Events)),(AV.list o (List.map Xt x.Rows)),(AV.list o (List.map Xm x.Late))]
theorem X2x (o:Bool) (x:Xp):X6z (X9 o x):=λ_=>rfl
theorem X5e (o:Bool) (x:Xp):Xa7 (X9 o x):=Xq0 (λ_=>(X0w .sc (X0w .sc (X0w .sc (X0w .list (X0w .list (X0w .list (X0w .list (X0w .list (X0w .list X76))))))))))
theorem Xua {H:X0j} {o:Bool} {x:Xp}:Cv false H (X9 o x) (X9 false x):=Xmx (Cvs.cons .sc (Cvs.cons .sc (Cvs.cons .sc (Cvs.cons (X5k (X2c Xcx _)) (Cvs.cons (X5k (X2c (λ_=>Xef) _)) (Cvs.cons (X5k (X2c X52 _)) (Cvs.cons (X5k (X2c Xdj _)) (Cvs.cons (X5k (X2c Xic _)) (Cvs.cons (X5k (X2c Xcd _)) Cvs.nil)))))))))
theorem Xu9 {H:X0j} {o:Bool} {x:Xp}:Cv true H (X9 o x) (X9 o x):=Xmx (Cvs.cons .sc (Cvs.cons .sc (Cvs.cons .sc (Cvs.cons (.listS rfl) (Cvs.cons (.listS rfl) (Cvs.cons (.listS rfl) (Cvs.cons (.listS rfl) (Cvs.cons (.listS rfl) (Cvs.cons (.listS rfl) Cvs.nil)))))))))
instance X02p:X00m X9:=⟨Xua,Xu9,λ_ _ _=>rfl,X5e,X2x⟩
def X5 (x:Xb):AV:=.agg [(aI .i64 x.at_),(aI .i64 x.size),(aI .i64 x.depth)]
theorem Xcc (x:Xb):Xa8 (X5 x):=(X1z (X1z (X1z Xgr)))
theorem X36 (x:Xb):X6z (X5 x):=λ_=>rfl
theorem X6s (x:Xb):Xa7 (X5 x):=X3v (Xcc x) rfl
instance Xx8:Xck X5:=⟨Xcc,λ_=>rfl,X36⟩
def X8d (x:(V2 Bool)):AV:=.agg [(aB x.e0),(aB x.e1)]
theorem Xx6 (x:(V2 Bool)):Xa8 (X8d x):=(X1z (X1z Xgr))
theorem Xh3 (x:(V2 Bool)):Xa7 (X8d x):=X3v (Xx6 x) rfl
theorem wkA {P:Prop} (h:P:=by
  first
    |exact trivial
    |rfl
    |exact .sc
    |exact .list
    |exact .nils
    |exact .ref (by decide)
    |exact .ptr (by decide)
    |exact Xsw
    |(refine AV.Ok.tup ?_;repeat' first|exact X76|refine X0w ?_ ?_|exact .sc|exact .nils|exact .list|exact .ref (by decide)|exact .ptr (by decide))
    |(refine congrArg AV.tup ?_;repeat' first|rfl|(refine congrArg (λz=>AV.ref _ 0 z) ?_;first|rfl|omega|(simp;done)|(simp;omega))|(show AV.ref _ 0 _=AV.ref _ 0 _;congr 1;first|omega|(simp;done))|(refine congrArg (λz=>AV.sc (Value.int IntKind.i64 z)) ?_;first|rfl|omega|assumption|(simp;done))|refine congr (congrArg List.cons ?_) ?_|(show(_::_:List AV)=_::_;refine congr (congrArg List.cons ?_) ?_))
    |exact .fn (X0w (.ptr (by decide)) X76)
    |exact .fn (X0w (.ptr (by decide)) (X0w (.ptr (by decide)) X76))
    |exact .fn (X0w (.ptr (by decide)) (X0w (.ptr (by decide)) (X0w (.ptr (by decide)) X76)))
    |assumption
    |exact(Xcw _ _).1
    |exact(X9w _ _).1
    |exact(X4b true _ _).1
    |exact(X4b false _ _).1
    |exact(X9x _ _).1
    |exact(Xcu _ _).1
    |exact(free_V2i64 _ _).1
    |exact(Xeb _ _).1
    |exact(X8c _ _).1
    |exact(free_GOp _ _).1
    |exact(Xcv _ _).1
    |exact(Xbc _ _).1
    |exact(free_V2GAccum _ _).1
    |exact(Xbb _ _).1
    |exact(Xba _ _).1
    |exact(X5e true _ _).1
    |exact(X5e false _ _).1
    |exact(X6s _ _).1
    |exact(Xh3 _ _).1
    |(refine congrArg (λz=>AV.sc (Value.int IntKind.i64 z)) ?_;first|rfl|omega|assumption|(simp;done)|(simp;omega))
    |(refine congrArg (λz=>AV.sc (Value.bool z)) ?_;first|rfl|assumption|(simp;done))
    |(refine congrArg (λz=>AV.ref _ 0 z) ?_;first|rfl|omega|(simp;done)|(simp;omega))
    |(show AV.ref _ 0 _=AV.ref _ 0 _;congr 1;first|(simp;done)|(simp;omega))
    |(simp[slE,opE,nbF,nbT,nbS,AV.ren,List.map_take,List.map_drop];done)
    |(simp[slE,opE,nbF,nbT,nbS,AV.ren,List.map_take,List.map_drop, *];done)
    |(simp[AV.ren, *];done)
    |exact wkSl rfl
    |exact okSl (by decide)
    |(refine aggV ?_;repeat' first|exact trivial|refine And.intro ?_ ?_|rfl|exact wkSl rfl|(refine refR rfl ?_;first|rfl|(simp;done)|(simp;omega)))
    |(refine aggOk ?_;repeat' first|exact X76|refine X0w ?_ ?_|exact .sc|exact .list|exact .nils|exact .ref (by decide)|exact .ptr (by decide)|exact okSl (by decide)|exact okF|exact okG|exact Xsw)):P:=h
theorem wkB {P:Prop} (h:P:=by
  first
    |exact trivial
    |rfl
    |decide
    |exact⟨_,rfl,rfl,rfl⟩
    |exact X01h rfl
    |(refine⟨_,rfl,rfl,ref1 ?_⟩;first|rfl|omega|(simp;done)|(simp;omega))
    |exact X2j Xcw _ _
    |exact X2i (Xcw _) _
    |exact free_cons Xcw _ _ _
    |exact X2j X9w _ _
    |exact X2i (X9w _) _
    |exact free_cons X9w _ _ _
    |exact X2j (X4b true) _ _
    |exact X2i ((X4b true) _) _
    |exact free_cons (X4b true) _ _ _
    |exact X2j (X4b false) _ _
    |exact X2i ((X4b false) _) _
    |exact free_cons (X4b false) _ _ _
    |exact X2j X9x _ _
    |exact X2i (X9x _) _
    |exact free_cons X9x _ _ _
    |exact X2j Xcu _ _
    |exact X2i (Xcu _) _
    |exact free_cons Xcu _ _ _
    |exact X2j free_V2i64 _ _
    |exact X2i (free_V2i64 _) _
    |exact free_cons free_V2i64 _ _ _
    |exact X2j Xeb _ _
    |exact X2i (Xeb _) _
    |exact free_cons Xeb _ _ _
    |exact X2j X8c _ _
    |exact X2i (X8c _) _
    |exact free_cons X8c _ _ _
    |exact X2j free_GOp _ _
    |exact X2i (free_GOp _) _
    |exact free_cons free_GOp _ _ _
    |exact X2j Xcv _ _
    |exact X2i (Xcv _) _
    |exact free_cons Xcv _ _ _
    |exact X2j Xbc _ _
    |exact X2i (Xbc _) _
    |exact free_cons Xbc _ _ _
    |exact X2j free_V2GAccum _ _
    |exact X2i (free_V2GAccum _) _
    |exact free_cons free_V2GAccum _ _ _
    |exact X2j Xbb _ _
    |exact X2i (Xbb _) _
    |exact free_cons Xbb _ _ _
    |exact X2j Xba _ _
    |exact X2i (Xba _) _
    |exact free_cons Xba _ _ _
    |exact X2j (X5e true) _ _
    |exact X2i ((X5e true) _) _
    |exact free_cons (X5e true) _ _ _
    |exact X2j (X5e false) _ _
    |exact X2i ((X5e false) _) _
    |exact free_cons (X5e false) _ _ _
    |exact X2j X6s _ _
    |exact X2i (X6s _) _
    |exact free_cons X6s _ _ _
    |exact X2j Xh3 _ _
    |exact X2i (Xh3 _) _
    |exact free_cons Xh3 _ _ _
    |exact X2j (λ_=>Xtu) _ _
    |exact X2i ((λ_=>Xtu) _) _
    |exact free_cons (λ_=>Xtu) _ _ _
    |exact X2j (λ_=>Xia) _ _
    |exact X2i ((λ_=>Xia) _) _
    |exact free_cons (λ_=>Xia) _ _ _
    |(refine⟨_,rfl,rfl,Eq.trans ?_ (X6 (X01 X7c _) _)⟩;rfl)
    |(refine⟨_,rfl,rfl,Eq.trans ?_ (X6 (still_cons X7c _ _) _)⟩;rfl)
    |(refine⟨_,rfl,rfl,Eq.trans ?_ (X6 (X01 X56 _) _)⟩;rfl)
    |(refine⟨_,rfl,rfl,Eq.trans ?_ (X6 (still_cons X56 _ _) _)⟩;rfl)
    |(refine⟨_,rfl,rfl,Eq.trans ?_ (X6 (X01 (X2l true) _) _)⟩;rfl)
    |(refine⟨_,rfl,rfl,Eq.trans ?_ (X6 (still_cons (X2l true) _ _) _)⟩;rfl)
    |(refine⟨_,rfl,rfl,Eq.trans ?_ (X6 (X01 (X2l false) _) _)⟩;rfl)
    |(refine⟨_,rfl,rfl,Eq.trans ?_ (X6 (still_cons (X2l false) _ _) _)⟩;rfl)
    |(refine⟨_,rfl,rfl,Eq.trans ?_ (X6 (X01 X57 _) _)⟩;rfl)
    |(refine⟨_,rfl,rfl,Eq.trans ?_ (X6 (still_cons X57 _ _) _)⟩;rfl)
    |(refine⟨_,rfl,rfl,Eq.trans ?_ (X6 (X01 X7a _) _)⟩;rfl)
    |(refine⟨_,rfl,rfl,Eq.trans ?_ (X6 (still_cons X7a _ _) _)⟩;rfl)
    |(refine⟨_,rfl,rfl,Eq.trans ?_ (X6 (X01 still_V2i64 _) _)⟩;rfl)
    |(refine⟨_,rfl,rfl,Eq.trans ?_ (X6 (still_cons still_V2i64 _ _) _)⟩;rfl)
    |(refine⟨_,rfl,rfl,Eq.trans ?_ (X6 (X01 X8i _) _)⟩;rfl)
    |(refine⟨_,rfl,rfl,Eq.trans ?_ (X6 (still_cons X8i _ _) _)⟩;rfl)
    |(refine⟨_,rfl,rfl,Eq.trans ?_ (X6 (X01 X4f _) _)⟩;rfl)
    |(refine⟨_,rfl,rfl,Eq.trans ?_ (X6 (still_cons X4f _ _) _)⟩;rfl)
    |(refine⟨_,rfl,rfl,Eq.trans ?_ (X6 (X01 still_GOp _) _)⟩;rfl)
    |(refine⟨_,rfl,rfl,Eq.trans ?_ (X6 (still_cons still_GOp _ _) _)⟩;rfl)
    |(refine⟨_,rfl,rfl,Eq.trans ?_ (X6 (X01 X7b _) _)⟩;rfl)
    |(refine⟨_,rfl,rfl,Eq.trans ?_ (X6 (still_cons X7b _ _) _)⟩;rfl)
    |(refine⟨_,rfl,rfl,Eq.trans ?_ (X6 (X01 X68 _) _)⟩;rfl)
    |(refine⟨_,rfl,rfl,Eq.trans ?_ (X6 (still_cons X68 _ _) _)⟩;rfl)
    |(refine⟨_,rfl,rfl,Eq.trans ?_ (X6 (X01 still_V2GAccum _) _)⟩;rfl)
    |(refine⟨_,rfl,rfl,Eq.trans ?_ (X6 (still_cons still_V2GAccum _ _) _)⟩;rfl)
    |(refine⟨_,rfl,rfl,Eq.trans ?_ (X6 (X01 X67 _) _)⟩;rfl)
    |(refine⟨_,rfl,rfl,Eq.trans ?_ (X6 (still_cons X67 _ _) _)⟩;rfl)
    |(refine⟨_,rfl,rfl,Eq.trans ?_ (X6 (X01 X66 _) _)⟩;rfl)
    |(refine⟨_,rfl,rfl,Eq.trans ?_ (X6 (still_cons X66 _ _) _)⟩;rfl)
    |(refine⟨_,rfl,rfl,Eq.trans ?_ (X6 (X01 (X2x true) _) _)⟩;rfl)
    |(refine⟨_,rfl,rfl,Eq.trans ?_ (X6 (still_cons (X2x true) _ _) _)⟩;rfl)
    |(refine⟨_,rfl,rfl,Eq.trans ?_ (X6 (X01 (X2x false) _) _)⟩;rfl)
    |(refine⟨_,rfl,rfl,Eq.trans ?_ (X6 (still_cons (X2x false) _ _) _)⟩;rfl)
    |(refine⟨_,rfl,rfl,Eq.trans ?_ (X6 (X01 X36 _) _)⟩;rfl)
    |(refine⟨_,rfl,rfl,Eq.trans ?_ (X6 (still_cons X36 _ _) _)⟩;rfl)
    |(refine⟨_,rfl,rfl,Eq.trans ?_ (X6 (X01 still_V2b _) _)⟩;rfl)
    |(refine⟨_,rfl,rfl,Eq.trans ?_ (X6 (still_cons still_V2b _ _) _)⟩;rfl)
    |(refine⟨_,rfl,rfl,Eq.trans ?_ (X6 (X01 (λ_=>Xdc) _) _)⟩;rfl)
    |(refine⟨_,rfl,rfl,Eq.trans ?_ (X6 (still_cons (λ_=>Xdc) _ _) _)⟩;rfl)
    |(refine⟨_,rfl,rfl,Eq.trans ?_ (X6 (X01 (λ_=>still_encl) _) _)⟩;rfl)
    |(refine⟨_,rfl,rfl,Eq.trans ?_ (X6 (still_cons (λ_=>still_encl) _ _) _)⟩;rfl)
    |(refine⟨_,rfl,rfl,Eq.trans ?_ (X6 (X01 X7c _) _)⟩;first|(simp;done)|(simp;rfl)|(exact Eq.symm (Eq.trans List.map_append rfl))|(rw[List.map_append];rfl)|(rw[List.map_set];rfl)|(simp[*];done)|(rw[List.map_replicate];rfl))
    |(refine⟨_,rfl,rfl,Eq.trans ?_ (X6 (still_cons X7c _ _) _)⟩;first|(simp;done)|(simp;rfl)|(simp[*];done))
    |(refine⟨_,rfl,rfl,Eq.trans ?_ (X6 (X01 X56 _) _)⟩;first|(simp;done)|(simp;rfl)|(exact Eq.symm (Eq.trans List.map_append rfl))|(rw[List.map_append];rfl)|(rw[List.map_set];rfl)|(simp[*];done)|(rw[List.map_replicate];rfl))
    |(refine⟨_,rfl,rfl,Eq.trans ?_ (X6 (still_cons X56 _ _) _)⟩;first|(simp;done)|(simp;rfl)|(simp[*];done))
    |(refine⟨_,rfl,rfl,Eq.trans ?_ (X6 (X01 (X2l true) _) _)⟩;first|(simp;done)|(simp;rfl)|(exact Eq.symm (Eq.trans List.map_append rfl))|(rw[List.map_append];rfl)|(rw[List.map_set];rfl)|(simp[*];done)|(rw[List.map_replicate];rfl))
    |(refine⟨_,rfl,rfl,Eq.trans ?_ (X6 (still_cons (X2l true) _ _) _)⟩;first|(simp;done)|(simp;rfl)|(simp[*];done))
    |(refine⟨_,rfl,rfl,Eq.trans ?_ (X6 (X01 (X2l false) _) _)⟩;first|(simp;done)|(simp;rfl)|(exact Eq.symm (Eq.trans List.map_append rfl))|(rw[List.map_append];rfl)|(rw[List.map_set];rfl)|(simp[*];done)|(rw[List.map_replicate];rfl))
    |(refine⟨_,rfl,rfl,Eq.trans ?_ (X6 (still_cons (X2l false) _ _) _)⟩;first|(simp;done)|(simp;rfl)|(simp[*];done))
    |(refine⟨_,rfl,rfl,Eq.trans ?_ (X6 (X01 X57 _) _)⟩;first|(simp;done)|(simp;rfl)|(exact Eq.symm (Eq.trans List.map_append rfl))|(rw[List.map_append];rfl)|(rw[List.map_set];rfl)|(simp[*];done)|(rw[List.map_replicate];rfl))
    |(refine⟨_,rfl,rfl,Eq.trans ?_ (X6 (still_cons X57 _ _) _)⟩;first|(simp;done)|(simp;rfl)|(simp[*];done))
    |(refine⟨_,rfl,rfl,Eq.trans ?_ (X6 (X01 X7a _) _)⟩;first|(simp;done)|(simp;rfl)|(exact Eq.symm (Eq.trans List.map_append rfl))|(rw[List.map_append];rfl)|(rw[List.map_set];rfl)|(simp[*];done)|(rw[List.map_replicate];rfl))
    |(refine⟨_,rfl,rfl,Eq.trans ?_ (X6 (still_cons X7a _ _) _)⟩;first|(simp;done)|(simp;rfl)|(simp[*];done))
    |(refine⟨_,rfl,rfl,Eq.trans ?_ (X6 (X01 still_V2i64 _) _)⟩;first|(simp;done)|(simp;rfl)|(exact Eq.symm (Eq.trans List.map_append rfl))|(rw[List.map_append];rfl)|(rw[List.map_set];rfl)|(simp[*];done)|(rw[List.map_replicate];rfl))
    |(refine⟨_,rfl,rfl,Eq.trans ?_ (X6 (still_cons still_V2i64 _ _) _)⟩;first|(simp;done)|(simp;rfl)|(simp[*];done))
    |(refine⟨_,rfl,rfl,Eq.trans ?_ (X6 (X01 X8i _) _)⟩;first|(simp;done)|(simp;rfl)|(exact Eq.symm (Eq.trans List.map_append rfl))|(rw[List.map_append];rfl)|(rw[List.map_set];rfl)|(simp[*];done)|(rw[List.map_replicate];rfl))
    |(refine⟨_,rfl,rfl,Eq.trans ?_ (X6 (still_cons X8i _ _) _)⟩;first|(simp;done)|(simp;rfl)|(simp[*];done))
    |(refine⟨_,rfl,rfl,Eq.trans ?_ (X6 (X01 X4f _) _)⟩;first|(simp;done)|(simp;rfl)|(exact Eq.symm (Eq.trans List.map_append rfl))|(rw[List.map_append];rfl)|(rw[List.map_set];rfl)|(simp[*];done)|(rw[List.map_replicate];rfl))
    |(refine⟨_,rfl,rfl,Eq.trans ?_ (X6 (still_cons X4f _ _) _)⟩;first|(simp;done)|(simp;rfl)|(simp[*];done))
    |(refine⟨_,rfl,rfl,Eq.trans ?_ (X6 (X01 still_GOp _) _)⟩;first|(simp;done)|(simp;rfl)|(exact Eq.symm (Eq.trans List.map_append rfl))|(rw[List.map_append];rfl)|(rw[List.map_set];rfl)|(simp[*];done)|(rw[List.map_replicate];rfl))
    |(refine⟨_,rfl,rfl,Eq.trans ?_ (X6 (still_cons still_GOp _ _) _)⟩;first|(simp;done)|(simp;rfl)|(simp[*];done))
    |(refine⟨_,rfl,rfl,Eq.trans ?_ (X6 (X01 X7b _) _)⟩;first|(simp;done)|(simp;rfl)|(exact Eq.symm (Eq.trans List.map_append rfl))|(rw[List.map_append];rfl)|(rw[List.map_set];rfl)|(simp[*];done)|(rw[List.map_replicate];rfl))
    |(refine⟨_,rfl,rfl,Eq.trans ?_ (X6 (still_cons X7b _ _) _)⟩;first|(simp;done)|(simp;rfl)|(simp[*];done))
    |(refine⟨_,rfl,rfl,Eq.trans ?_ (X6 (X01 X68 _) _)⟩;first|(simp;done)|(simp;rfl)|(exact Eq.symm (Eq.trans List.map_append rfl))|(rw[List.map_append];rfl)|(rw[List.map_set];rfl)|(simp[*];done)|(rw[List.map_replicate];rfl))
    |(refine⟨_,rfl,rfl,Eq.trans ?_ (X6 (still_cons X68 _ _) _)⟩;first|(simp;done)|(simp;rfl)|(simp[*];done))
    |(refine⟨_,rfl,rfl,Eq.trans ?_ (X6 (X01 still_V2GAccum _) _)⟩;first|(simp;done)|(simp;rfl)|(exact Eq.symm (Eq.trans List.map_append rfl))|(rw[List.map_append];rfl)|(rw[List.map_set];rfl)|(simp[*];done)|(rw[List.map_replicate];rfl))
    |(refine⟨_,rfl,rfl,Eq.trans ?_ (X6 (still_cons still_V2GAccum _ _) _)⟩;first|(simp;done)|(simp;rfl)|(simp[*];done))
    |(refine⟨_,rfl,rfl,Eq.trans ?_ (X6 (X01 X67 _) _)⟩;first|(simp;done)|(simp;rfl)|(exact Eq.symm (Eq.trans List.map_append rfl))|(rw[List.map_append];rfl)|(rw[List.map_set];rfl)|(simp[*];done)|(rw[List.map_replicate];rfl))
    |(refine⟨_,rfl,rfl,Eq.trans ?_ (X6 (still_cons X67 _ _) _)⟩;first|(simp;done)|(simp;rfl)|(simp[*];done))
    |(refine⟨_,rfl,rfl,Eq.trans ?_ (X6 (X01 X66 _) _)⟩;first|(simp;done)|(simp;rfl)|(exact Eq.symm (Eq.trans List.map_append rfl))|(rw[List.map_append];rfl)|(rw[List.map_set];rfl)|(simp[*];done)|(rw[List.map_replicate];rfl))
    |(refine⟨_,rfl,rfl,Eq.trans ?_ (X6 (still_cons X66 _ _) _)⟩;first|(simp;done)|(simp;rfl)|(simp[*];done))
    |(refine⟨_,rfl,rfl,Eq.trans ?_ (X6 (X01 (X2x true) _) _)⟩;first|(simp;done)|(simp;rfl)|(exact Eq.symm (Eq.trans List.map_append rfl))|(rw[List.map_append];rfl)|(rw[List.map_set];rfl)|(simp[*];done)|(rw[List.map_replicate];rfl))
    |(refine⟨_,rfl,rfl,Eq.trans ?_ (X6 (still_cons (X2x true) _ _) _)⟩;first|(simp;done)|(simp;rfl)|(simp[*];done))
    |(refine⟨_,rfl,rfl,Eq.trans ?_ (X6 (X01 (X2x false) _) _)⟩;first|(simp;done)|(simp;rfl)|(exact Eq.symm (Eq.trans List.map_append rfl))|(rw[List.map_append];rfl)|(rw[List.map_set];rfl)|(simp[*];done)|(rw[List.map_replicate];rfl))
    |(refine⟨_,rfl,rfl,Eq.trans ?_ (X6 (still_cons (X2x false) _ _) _)⟩;first|(simp;done)|(simp;rfl)|(simp[*];done))
    |(refine⟨_,rfl,rfl,Eq.trans ?_ (X6 (X01 X36 _) _)⟩;first|(simp;done)|(simp;rfl)|(exact Eq.symm (Eq.trans List.map_append rfl))|(rw[List.map_append];rfl)|(rw[List.map_set];rfl)|(simp[*];done)|(rw[List.map_replicate];rfl))
    |(refine⟨_,rfl,rfl,Eq.trans ?_ (X6 (still_cons X36 _ _) _)⟩;first|(simp;done)|(simp;rfl)|(simp[*];done))
    |(refine⟨_,rfl,rfl,Eq.trans ?_ (X6 (X01 still_V2b _) _)⟩;first|(simp;done)|(simp;rfl)|(exact Eq.symm (Eq.trans List.map_append rfl))|(rw[List.map_append];rfl)|(rw[List.map_set];rfl)|(simp[*];done)|(rw[List.map_replicate];rfl))
    |(refine⟨_,rfl,rfl,Eq.trans ?_ (X6 (still_cons still_V2b _ _) _)⟩;first|(simp;done)|(simp;rfl)|(simp[*];done))
    |(refine⟨_,rfl,rfl,Eq.trans ?_ (X6 (X01 (λ_=>Xdc) _) _)⟩;first|(simp;done)|(simp;rfl)|(exact Eq.symm (Eq.trans List.map_append rfl))|(rw[List.map_append];rfl)|(rw[List.map_set];rfl)|(simp[*];done)|(rw[List.map_replicate];rfl))
    |(refine⟨_,rfl,rfl,Eq.trans ?_ (X6 (still_cons (λ_=>Xdc) _ _) _)⟩;first|(simp;done)|(simp;rfl)|(simp[*];done))
    |(refine⟨_,rfl,rfl,Eq.trans ?_ (X6 (X01 (λ_=>still_encl) _) _)⟩;first|(simp;done)|(simp;rfl)|(exact Eq.symm (Eq.trans List.map_append rfl))|(rw[List.map_append];rfl)|(rw[List.map_set];rfl)|(simp[*];done)|(rw[List.map_replicate];rfl))
    |(refine⟨_,rfl,rfl,Eq.trans ?_ (X6 (still_cons (λ_=>still_encl) _ _) _)⟩;first|(simp;done)|(simp;rfl)|(simp[*];done))
    |(refine⟨_,rfl,rfl,Eq.trans ?_ (X6 (still_one (X7c _)) _)⟩;simp only[List.length_cons,List.length_map];rfl)
    |(refine⟨_,rfl,rfl,Eq.trans ?_ (X6 (still_one (X56 _)) _)⟩;simp only[List.length_cons,List.length_map];rfl)
    |(refine⟨_,rfl,rfl,Eq.trans ?_ (X6 (still_one ((X2l true) _)) _)⟩;simp only[List.length_cons,List.length_map];rfl)
    |(refine⟨_,rfl,rfl,Eq.trans ?_ (X6 (still_one ((X2l false) _)) _)⟩;simp only[List.length_cons,List.length_map];rfl)
    |(refine⟨_,rfl,rfl,Eq.trans ?_ (X6 (still_one (X57 _)) _)⟩;simp only[List.length_cons,List.length_map];rfl)
    |(refine⟨_,rfl,rfl,Eq.trans ?_ (X6 (still_one (X7a _)) _)⟩;simp only[List.length_cons,List.length_map];rfl)
    |(refine⟨_,rfl,rfl,Eq.trans ?_ (X6 (still_one (still_V2i64 _)) _)⟩;simp only[List.length_cons,List.length_map];rfl)
    |(refine⟨_,rfl,rfl,Eq.trans ?_ (X6 (still_one (X8i _)) _)⟩;simp only[List.length_cons,List.length_map];rfl)
    |(refine⟨_,rfl,rfl,Eq.trans ?_ (X6 (still_one (X4f _)) _)⟩;simp only[List.length_cons,List.length_map];rfl)
    |(refine⟨_,rfl,rfl,Eq.trans ?_ (X6 (still_one (still_GOp _)) _)⟩;simp only[List.length_cons,List.length_map];rfl)
    |(refine⟨_,rfl,rfl,Eq.trans ?_ (X6 (still_one (X7b _)) _)⟩;simp only[List.length_cons,List.length_map];rfl)
    |(refine⟨_,rfl,rfl,Eq.trans ?_ (X6 (still_one (X68 _)) _)⟩;simp only[List.length_cons,List.length_map];rfl)
    |(refine⟨_,rfl,rfl,Eq.trans ?_ (X6 (still_one (still_V2GAccum _)) _)⟩;simp only[List.length_cons,List.length_map];rfl)
    |(refine⟨_,rfl,rfl,Eq.trans ?_ (X6 (still_one (X67 _)) _)⟩;simp only[List.length_cons,List.length_map];rfl)
    |(refine⟨_,rfl,rfl,Eq.trans ?_ (X6 (still_one (X66 _)) _)⟩;simp only[List.length_cons,List.length_map];rfl)
    |(refine⟨_,rfl,rfl,Eq.trans ?_ (X6 (still_one ((X2x true) _)) _)⟩;simp only[List.length_cons,List.length_map];rfl)
    |(refine⟨_,rfl,rfl,Eq.trans ?_ (X6 (still_one ((X2x false) _)) _)⟩;simp only[List.length_cons,List.length_map];rfl)
    |(refine⟨_,rfl,rfl,Eq.trans ?_ (X6 (still_one (X36 _)) _)⟩;simp only[List.length_cons,List.length_map];rfl)
    |(refine⟨_,rfl,rfl,Eq.trans ?_ (X6 (still_one (still_V2b _)) _)⟩;simp only[List.length_cons,List.length_map];rfl)
    |(refine⟨_,rfl,rfl,Eq.trans ?_ (X6 (still_one ((λ_=>Xdc) _)) _)⟩;simp only[List.length_cons,List.length_map];rfl)
    |(refine⟨_,rfl,rfl,Eq.trans ?_ (X6 (still_one ((λ_=>still_encl) _)) _)⟩;simp only[List.length_cons,List.length_map];rfl)
    |(intro e he a ha;rw[List.mem_singleton.1 he] at ha;rw[List.mem_singleton.1 ha];first|exact .sc|exact .list|exact .nils|exact .ref (by decide)|exact .ptr (by decide)|exact Xsw|exact .fn (X0w (.ptr (by decide)) X76)|exact .fn (X0w (.ptr (by decide)) (X0w (.ptr (by decide)) X76)))
    |(intro e he a ha;simp at he;subst he;simp[AV.cells] at ha;first|(subst ha;exact .sc)|(rcases ha with rfl|rfl|rfl|rfl|rfl<;>exact .sc))
    | (refine focO ?_ ?_; · first | exact okSl (by decide) | exact .ref (by decide) | exact .nils | exact .list
       · first|rfl|exact slE_cells)
    |(refine⟨_,rfl,rfl,focR (λ_=>still_encl) (by first|rfl|(simp;done)) ?_⟩;first|rfl|(refine focC rfl ?_;first|rfl|(simp;done)|(simp;omega))|(simp[slE,nbF,AV.ren,thL];done))
    |(refine⟨_,rfl,rfl,focR2 (λ_=>still_encl) (by first|rfl|(simp;done)) (by first|rfl|(simp;done)) ?_⟩;first|rfl|(refine focC rfl ?_;first|rfl|(simp;done)|(simp;omega))|(simp[slE,nbF,AV.ren,thL];done))
    |(refine⟨_,rfl,rfl,aggR ?_⟩;repeat' first|exact trivial|refine And.intro ?_ ?_|rfl|exact wkSl rfl|(refine refR rfl ?_;first|rfl|(simp;done)|(simp;omega)))
    |(refine okAgg ?_;repeat' first|exact X76|refine X0w ?_ ?_|exact .sc|exact .list|exact .nils|exact .ref (by decide)|exact .ptr (by decide)|exact okSl (by decide)|exact okF|exact okG|exact Xsw)):P:=h
theorem rn {P:Program} {T:Ty} {nt n0:Nat} {μ:Mu} {Q:Xx->St->Mu->Prop} {cf cf':Cf} {K K':List Kn} {L L':List (Nat×AV)} {G G':List (Nat×Obj)} {n n':Nat} {hs':List X28} {ps':List Prop} (hT:Xat P T/\P.follows .mixedOrders=true) (hs:List X28) (h:Xag P T nt 4000 cf K L G n hs []=some (cf',K',L',G',n',hs',ps')) (hp':X3z ps') (k:X2 P nt n0 Q cf' K' ⟨fr L',hp G',n'⟩ μ):X2 P nt n0 Q cf K ⟨fr L,hp G,n⟩ μ:=Xpn hT 4000 hs h hp' k
abbrev cc:=@Cvs.cons
abbrev cn:=@Cvs.nil
abbrev pn:=@X5h.none
abbrev Bt:X28:=.br true
abbrev Bf:X28:=.br false
abbrev Ob (e:List AV) (n:Nat):Obj:={ es:=e,esz:=n }
abbrev Lf:=AV.list false
abbrev Lt:=AV.list true
abbrev Gt:X28:=.go true
abbrev Gf:X28:=.go false
theorem Zn {α:Type} {m:Bool} {H:X0j} (f:α->AV):Cv m H .nils (.list m (List.map f ([]:List α))):=.nils
theorem wkT {P : Program} {nt n0 : Nat} {Q : Xx -> St -> Mu -> Prop} {cf : Cf} {K : List Kn} {μ : Mu} {L L' : List (Nat × AV)} {G G' : List (Nat × Obj)} {n n' : Nat} (θ : List (Nat × Nat)) (h : X2 P nt n0 Q cf K ⟨fr L', hp G', n'⟩ μ)
    (hb:(fixB θ n0&&injB θ (G'.map (·.1))&&Nat.ble n0 n')=true:=by rfl) (hL:wkL L θ n' L':=by repeat' first|refine And.intro ?_ ?_|exact wkA) (hG:wkG G θ n' G':=by repeat' first|refine And.intro ?_ ?_|exact wkB):X2 P nt n0 Q cf K ⟨fr L,hp G,n⟩ μ:=X2.weakTo θ h hb hL hG
end Go.Av
namespace Go.D
open Go.Av
def X6u (x y:X05):Bool:=((x.Kind==y.Kind)&&((x.N==y.N)&&((x.A==y.A)&&((x.B==y.B)&&((x.At==y.At)&&true)))))
def X3p (x y:X8):Bool:=((x.Key==y.Key)&&((x.Time==y.Time)&&((x.Value==y.Value)&&true)))
def Xap (x y:X04):Bool:=((x.Start==y.Start)&&((x.End==y.End)&&true))
def Xeh (x y:(V2 Int)):Bool:=((x.e0==y.e0)&&((x.e1==y.e1)&&true))
def X9y (x y:X19):Bool:=((x.Key==y.Key)&&((Xap x.Span y.Span)&&((Xeh x.Values y.Values)&&true)))
def X7r (x y:Xd):Bool:=((x.Kind==y.Kind)&&((X3p x.Record y.Record)&&((x.Time==y.Time)&&((X9y x.Row y.Row)&&true))))
def X9h (x y:GOp):Bool:=((x.Kind==y.Kind)&&((x.N==y.N)&&true))
def Xif (x y:X0a):Bool:=((x.Out==y.Out)&&((X7r x.Message y.Message)&&true))
def X8r (x y:X11):Bool:=((x.Count==y.Count)&&((x.Sum==y.Sum)&&((x.Min==y.Min)&&((x.Max==y.Max)&&true))))
def Xg3 (x y:(V2 X11)):Bool:=((X8r x.e0 y.e0)&&((X8r x.e1 y.e1)&&true))
def Xfk (x y:X1):Bool:=((x.Key==y.Key)&&((Xap x.Span y.Span)&&((Xg3 x.Values y.Values)&&true)))
def Xfj (x y:X0h):Bool:=((x.Mark==y.Mark)&&((x.Time==y.Time)&&((X3p x.Record y.Record)&&true)))
def Xgv (x:X05):Prop:=wfI .u8 x.Kind/\wfI .i64 x.N/\wfI .i64 x.A/\wfI .i64 x.B/\wfI .i64 x.At
def Xjq (x:X0l):Prop:=wfI .u8 x.Kind/\wfI .i64 x.Size/\wfI .i64 x.Every
def Xhd (x:X08):Prop:=wfI .u8 x.Agg/\(List.length x.Arg<=maxLen/\∀ y∈x.Arg,Xgv y)/\(List.length x.Sources<=maxLen/\∀ y∈x.Sources,wfI .i64 y)/\True/\(List.length x.Where<=maxLen/\∀ y∈x.Where,Xgv y)/\Xjq x.Window/\True/\wfI .u8 x.Late
def Xjr (x:X8):Prop:=wfI .i64 x.Key/\wfI .i64 x.Time/\wfI .i64 x.Value
end Go.D
