/- Printed by decomp.py: the types of the Go program, as data; their encodings. -/
import Derived.Test.YtfdfgobnpnoomaaGreatAvc
set_option linter.all false

namespace Go.D
theorem Yo {α β:Type} {a:α} {f:α->Option β}:(some a).bind f=f a:=rfl
theorem Yf {p:Prop} [Decidable p] (h:¬ p):decide p=false:=decide_eq_false h
theorem Yt {p:Prop} [Decidable p] (h:p):decide p=true:=decide_eq_true h
theorem Ym {α β:Type} {f:α->β} {l:List α} {i:Nat}:List.map f (List.take i l)=List.take i (List.map f l):=List.map_take
theorem Yd {α β:Type} {f:α->β} {l:List α} {i:Nat}:List.map f (List.drop i l)=List.drop i (List.map f l):=List.map_drop
theorem Ya {a b:Prop} (x:a) (y:b):a/\b:=⟨x,y⟩
theorem Ye {α:Type} {l:List α} {i:Nat} (h:i<l.length):l[i]?=some l[i]:=List.getElem?_eq_getElem h
theorem Ys {α:Type} {l:List α} {i:Nat} {a:α}:l[i]?=some a↔∃ h:i<l.length,l[i]=a:=List.getElem?_eq_some_iff
theorem Yg {α:Type} {l:List α} {i:Nat} {a:α} (h:l[i]?=some a):a∈l:=List.mem_of_getElem? h
structure Xw where
  Kind:Int
  N:Int
  A:Int
  B:Int
  At:Int
  deriving DecidableEq,Inhabited
structure X0l where
  Kind:Int
  Size:Int
  Every:Int
  deriving DecidableEq,Inhabited
structure Xu where
  Agg:Int
  Arg:(List Xw)
  Sources:(List Int)
  Join:Bool
  Where:(List Xw)
  Window:X0l
  ByKey:Bool
  Late:Int
  deriving DecidableEq,Inhabited
structure Xb where
  Key:Int
  Time:Int
  Value:Int
  deriving DecidableEq,Inhabited
structure Xg where
  Mark:Bool
  Time:Int
  Record:Xb
  deriving DecidableEq,Inhabited
structure X0n where
  Start:Int
  End:Int
  deriving DecidableEq,Inhabited
structure X3w where
  Key:Int
  Span:X0n
  Values:(V2 Int)
  deriving DecidableEq,Inhabited
structure Xe where
  at_:Int
  size:Int
  depth:Int
  deriving DecidableEq,Inhabited
structure X12 where
  Count:Int
  Sum:Int
  Min:Int
  Max:Int
  deriving DecidableEq,Inhabited
structure X5 where
  Key:Int
  Span:X0n
  Values:(V2 X12)
  deriving DecidableEq,Inhabited
end Go.D
namespace Go.Av
open Go.D
def X1 (x:Xw):AV:=.agg [(aI .u8 x.Kind),(aI .i64 x.N),(aI .i64 x.A),(aI .i64 x.B),(aI .i64 x.At)]
theorem X33 (x:Xw):X92 (X1 x):=(X2w (X2w (X2w (X2w (X2w Xhp)))))
theorem X20 (x:Xw):X7o (X1 x):=fun _=>rfl
theorem Xce (x:Xw):Xb3 (X1 x):=X47 (X33 x) rfl
instance X049:Xc3 X1:=⟨X33,fun _=>rfl,X20⟩
def X30 (x:X0l):AV:=.agg [(aI .u8 x.Kind),(aI .i64 x.Size),(aI .i64 x.Every)]
theorem Xf7 (x:X0l):X92 (X30 x):=(X2w (X2w (X2w Xhp)))
theorem X15 (x:X0l):X7o (X30 x):=fun _=>rfl
theorem X9f (x:X0l):Xb3 (X30 x):=X47 (Xf7 x) rfl
instance X02i:Xc3 X30:=⟨Xf7,fun _=>rfl,X15⟩
def Xq (o:Bool) (x:Xu):AV:=.agg [(aI .u8 x.Agg),(AV.list o (List.map X1 x.Arg)),(AV.list o (List.map (aI .i64) x.Sources)),(aB x.Join),(AV.list o (List.map X1 x.Where)),(aI .u8 x.Window.Kind),(aI .i64 x.Window.Size),(aI .i64 x.Window.Every),(aB x.ByKey),(aI .u8 x.Late)]
theorem X06 (o:Bool) (x:Xu):X7o (Xq o x):=fun _=>rfl
theorem X43 (o:Bool) (x:Xu):Xb3 (Xq o x):=Xy6 (fun _=>(X1g .sc (X1g .list (X1g .list (X1g .sc (X1g .list (X1g .sc (X1g .sc (X1g .sc (X1g .sc (X1g .sc X7x)))))))))))
theorem Xs9 {H:X0b} {o:Bool} {x:Xu}:Cv false H (Xq o x) (Xq false x):=Xva (Cvs.cons .sc (Cvs.cons (Xb0 (X22 X33 _)) (Cvs.cons (Xb0 (X22 (fun _=>Xf9) _)) (Cvs.cons .sc (Cvs.cons (Xb0 (X22 X33 _)) (Cvs.cons .sc (Cvs.cons .sc (Cvs.cons .sc (Cvs.cons .sc (Cvs.cons .sc Cvs.nil))))))))))
theorem Xs8 {H:X0b} {o:Bool} {x:Xu}:Cv true H (Xq o x) (Xq o x):=Xva (Cvs.cons .sc (Cvs.cons (.listS rfl) (Cvs.cons (.listS rfl) (Cvs.cons .sc (Cvs.cons (.listS rfl) (Cvs.cons .sc (Cvs.cons .sc (Cvs.cons .sc (Cvs.cons .sc (Cvs.cons .sc Cvs.nil))))))))))
instance X038:X040 Xq:=⟨Xs9,Xs8,fun _ _ _=>rfl,X43,X06⟩
def X3 (x:Xb):AV:=.agg [(aI .i64 x.Key),(aI .i64 x.Time),(aI .i64 x.Value)]
theorem Xf8 (x:Xb):X92 (X3 x):=(X2w (X2w (X2w Xhp)))
theorem X16 (x:Xb):X7o (X3 x):=fun _=>rfl
theorem X9g (x:Xb):Xb3 (X3 x):=X47 (Xf8 x) rfl
instance X02j:Xc3 X3:=⟨Xf8,fun _=>rfl,X16⟩
def Xa (x:Xg):AV:=.agg [(aB x.Mark),(aI .i64 x.Time),(aI .i64 x.Record.Key),(aI .i64 x.Record.Time),(aI .i64 x.Record.Value)]
theorem Xhn (x:Xg):X92 (Xa x):=(X2w (X2w (X2w (X2w (X2w Xhp)))))
theorem X1h (x:Xg):X7o (Xa x):=fun _=>rfl
theorem Xaw (x:Xg):Xb3 (Xa x):=X47 (Xhn x) rfl
instance X03p:Xc3 Xa:=⟨Xhn,fun _=>rfl,X1h⟩
def X00 (x:X0n):AV:=.agg [(aI .i64 x.Start),(aI .i64 x.End)]
theorem Xje (x:X0n):X92 (X00 x):=(X2w (X2w Xhp))
theorem X1z (x:X0n):X7o (X00 x):=fun _=>rfl
theorem Xcd (x:X0n):Xb3 (X00 x):=X47 (Xje x) rfl
instance X048:Xc3 X00:=⟨Xje,fun _=>rfl,X1z⟩
def Xc (x:X3w):AV:=.agg [(aI .i64 x.Key),(aI .i64 x.Span.Start),(aI .i64 x.Span.End),(aI .i64 x.Values.e0),(aI .i64 x.Values.e1)]
theorem Xm9 (x:X3w):X92 (Xc x):=(X2w (X2w (X2w (X2w (X2w Xhp)))))
theorem X2j (x:X3w):X7o (Xc x):=fun _=>rfl
theorem Xdo (x:X3w):Xb3 (Xc x):=X47 (Xm9 x) rfl
instance X05z:Xc3 Xc:=⟨Xm9,fun _=>rfl,X2j⟩
def X7 (x:Xe):AV:=.agg [(aI .i64 x.at_),(aI .i64 x.size),(aI .i64 x.depth)]
theorem Xbz (x:Xe):X92 (X7 x):=(X2w (X2w (X2w Xhp)))
theorem X0g (x:Xe):X7o (X7 x):=fun _=>rfl
theorem X6g (x:Xe):Xb3 (X7 x):=X47 (Xbz x) rfl
instance Xya:Xc3 X7:=⟨Xbz,fun _=>rfl,X0g⟩
def X81 (x:(V2 Bool)):AV:=.agg [(aB x.e0),(aB x.e1)]
theorem Xy8 (x:(V2 Bool)):X92 (X81 x):=(X2w (X2w Xhp))
theorem Xg4 (x:(V2 Bool)):Xb3 (X81 x):=X47 (Xy8 x) rfl
def X0p (x:X12):AV:=.agg [(aI .i64 x.Count),(aI .i64 x.Sum),(aI .i64 x.Min),(aI .i64 x.Max)]
theorem Xho (x:X12):X92 (X0p x):=(X2w (X2w (X2w (X2w Xhp))))
theorem X1j (x:X12):X7o (X0p x):=fun _=>rfl
theorem Xay (x:X12):Xb3 (X0p x):=X47 (Xho x) rfl
instance X03r:Xc3 X0p:=⟨Xho,fun _=>rfl,X1j⟩
def X4 (x:X5):AV:=.agg [(aI .i64 x.Key),(aI .i64 x.Span.Start),(aI .i64 x.Span.End),(aI .i64 x.Values.e0.Count),(aI .i64 x.Values.e0.Sum),(aI .i64 x.Values.e0.Min),(aI .i64 x.Values.e0.Max),(aI .i64 x.Values.e1.Count),(aI .i64 x.Values.e1.Sum),(aI .i64 x.Values.e1.Min),(aI .i64 x.Values.e1.Max)]
theorem X5v (x:X5):X92 (X4 x):=(X2w (X2w (X2w (X2w (X2w (X2w (X2w (X2w (X2w (X2w (X2w Xhp)))))))))))
theorem X1i (x:X5):X7o (X4 x):=fun _=>rfl
theorem Xax (x:X5):Xb3 (X4 x):=X47 (X5v x) rfl
theorem X7d {m:Bool} {H:X0b} {x:X5}:Cv m H (X4 x) (X4 x):=X01w (X5v x)
instance X03q:Xc3 X4:=⟨X5v,fun _=>rfl,X1i⟩
def X89 (x:(V5 Int)):AV:=.agg [(aI .i64 x.e0),(aI .i64 x.e1),(aI .i64 x.e2),(aI .i64 x.e3),(aI .i64 x.e4)]
theorem Xs1 (x:(V5 Int)):X92 (X89 x):=(X2w (X2w (X2w (X2w (X2w Xhp)))))
theorem Xcc (x:(V5 Int)):Xb3 (X89 x):=X47 (Xs1 x) rfl
theorem wkA {P:Prop} (h:P:=by
  first
    |exact trivial
    |rfl
    |exact .sc
    |exact .list
    |exact .nils
    |exact .ref (by decide)
    |exact .ptr (by decide)
    |exact Xtk
    |(refine AV.Ok.tup ?_;repeat' first|exact X7x|refine X1g ?_ ?_|exact .sc|exact .nils|exact .list|exact .ref (by decide)|exact .ptr (by decide))
    |(refine congrArg AV.tup ?_;repeat' first|rfl|(refine congrArg (fun z=>AV.ref _ 0 z) ?_;first|rfl|omega|(simp;done)|(simp;omega))|(show AV.ref _ 0 _=AV.ref _ 0 _;congr 1;first|omega|(simp;done))|(refine congrArg (fun z=>AV.sc (Value.int IntKind.i64 z)) ?_;first|rfl|omega|assumption|(simp;done))|refine congr (congrArg List.cons ?_) ?_|(show(_::_:List AV)=_::_;refine congr (congrArg List.cons ?_) ?_))
    |exact .fn (X1g (.ptr (by decide)) X7x)
    |exact .fn (X1g (.ptr (by decide)) (X1g (.ptr (by decide)) X7x))
    |exact .fn (X1g (.ptr (by decide)) (X1g (.ptr (by decide)) (X1g (.ptr (by decide)) X7x)))
    |assumption
    |exact(Xce _ _).1
    |exact(X9f _ _).1
    |exact(X43 true _ _).1
    |exact(X43 false _ _).1
    |exact(X9g _ _).1
    |exact(Xaw _ _).1
    |exact(Xcd _ _).1
    |exact(free_V2i64 _ _).1
    |exact(Xdo _ _).1
    |exact(X6g _ _).1
    |exact(Xg4 _ _).1
    |exact(Xay _ _).1
    |exact(free_V2GAccum _ _).1
    |exact(Xax _ _).1
    |exact(Xcc _ _).1
    |(refine congrArg (fun z=>AV.sc (Value.int IntKind.i64 z)) ?_;first|rfl|omega|assumption|(simp;done)|(simp;omega))
    |(refine congrArg (fun z=>AV.sc (Value.bool z)) ?_;first|rfl|assumption|(simp;done))
    |(refine congrArg (fun z=>AV.ref _ 0 z) ?_;first|rfl|omega|(simp;done)|(simp;omega))
    |(show AV.ref _ 0 _=AV.ref _ 0 _;congr 1;first|(simp;done)|(simp;omega))
    |(simp[slE,opE,nbF,nbT,nbS,AV.ren,List.map_take,List.map_drop];done)
    |(simp[slE,opE,nbF,nbT,nbS,AV.ren,List.map_take,List.map_drop, *];done)
    |(simp[AV.ren, *];done)
    |exact wkSl rfl
    |exact okSl (by decide)
    |(refine aggV ?_;repeat' first|exact trivial|refine And.intro ?_ ?_|rfl|exact wkSl rfl|(refine refR rfl ?_;first|rfl|(simp;done)|(simp;omega)))
    |(refine X069 ?_;repeat' first|exact X7x|refine X1g ?_ ?_|exact .sc|exact .list|exact .nils|exact .ref (by decide)|exact .ptr (by decide)|exact okSl (by decide)|exact okF|exact okG|exact Xtk)):P:=h
theorem wkR0 {P:Prop} (h:P:=by
  first
    |exact X3c Xce _ _
    |exact X3b (Xce _) _
    |exact free_cons Xce _ _ _
    |exact X3c X9f _ _
    |exact X3b (X9f _) _
    |exact free_cons X9f _ _ _
    |exact X3c (X43 true) _ _
    |exact X3b ((X43 true) _) _
    |exact free_cons (X43 true) _ _ _
    |exact X3c (X43 false) _ _
    |exact X3b ((X43 false) _) _
    |exact free_cons (X43 false) _ _ _
    |exact X3c X9g _ _
    |exact X3b (X9g _) _
    |exact free_cons X9g _ _ _
    |exact X3c Xaw _ _
    |exact X3b (Xaw _) _
    |exact free_cons Xaw _ _ _
    |exact X3c Xcd _ _
    |exact X3b (Xcd _) _
    |exact free_cons Xcd _ _ _
    |exact X3c free_V2i64 _ _
    |exact X3b (free_V2i64 _) _
    |exact free_cons free_V2i64 _ _ _
    |exact X3c Xdo _ _
    |exact X3b (Xdo _) _
    |exact free_cons Xdo _ _ _
    |exact X3c X6g _ _
    |exact X3b (X6g _) _
    |exact free_cons X6g _ _ _
    |exact X3c Xg4 _ _
    |exact X3b (Xg4 _) _
    |exact free_cons Xg4 _ _ _
    |exact X3c Xay _ _
    |exact X3b (Xay _) _
    |exact free_cons Xay _ _ _
    |exact X3c free_V2GAccum _ _
    |exact X3b (free_V2GAccum _) _
    |exact free_cons free_V2GAccum _ _ _
    |exact X3c Xax _ _
    |exact X3b (Xax _) _
    |exact free_cons Xax _ _ _
    |exact X3c Xcc _ _
    |exact X3b (Xcc _) _
    |exact free_cons Xcc _ _ _
    |exact X3c (fun _=>Xuv) _ _
    |exact X3b ((fun _=>Xuv) _) _
    |exact free_cons (fun _=>Xuv) _ _ _
    |exact X3c (fun _=>Xhl) _ _
    |exact X3b ((fun _=>Xhl) _) _
    |exact free_cons (fun _=>Xhl) _ _ _
    |(refine⟨_,rfl,rfl,Eq.trans ?_ (X0 (X6 X20 _) _)⟩;rfl)
    |(refine⟨_,rfl,rfl,Eq.trans ?_ (X0 (still_cons X20 _ _) _)⟩;rfl)
    |(refine⟨_,rfl,rfl,Eq.trans ?_ (X0 (X6 X20 _) _)⟩;(simp;done))
    |(refine⟨_,rfl,rfl,Eq.trans ?_ (X0 (still_cons X20 _ _) _)⟩;(simp;done))
    |(refine⟨_,rfl,rfl,Eq.trans ?_ (X0 (X6 X20 _) _)⟩;(simp;rfl))
    |(refine⟨_,rfl,rfl,Eq.trans ?_ (X0 (still_cons X20 _ _) _)⟩;(simp;rfl))
    |(refine⟨_,rfl,rfl,Eq.trans ?_ (X0 (X6 X20 _) _)⟩;(exact Eq.symm (Eq.trans List.map_append rfl)))
    |(refine⟨_,rfl,rfl,Eq.trans ?_ (X0 (X6 X20 _) _)⟩;(rw[List.map_append];rfl))
    |(refine⟨_,rfl,rfl,Eq.trans ?_ (X0 (X6 X20 _) _)⟩;(rw[List.map_set];rfl))
    |(refine⟨_,rfl,rfl,Eq.trans ?_ (X0 (X6 X20 _) _)⟩;(simp[*];done))
    |(refine⟨_,rfl,rfl,Eq.trans ?_ (X0 (still_cons X20 _ _) _)⟩;(simp[*];done))
    |(refine⟨_,rfl,rfl,Eq.trans ?_ (X0 (X6 X20 _) _)⟩;(rw[List.map_replicate];rfl))
    |(refine⟨_,rfl,rfl,Eq.trans ?_ (X0 (X6 X15 _) _)⟩;rfl)
    |(refine⟨_,rfl,rfl,Eq.trans ?_ (X0 (still_cons X15 _ _) _)⟩;rfl)
    |(refine⟨_,rfl,rfl,Eq.trans ?_ (X0 (X6 X15 _) _)⟩;(simp;done))
    |(refine⟨_,rfl,rfl,Eq.trans ?_ (X0 (still_cons X15 _ _) _)⟩;(simp;done))
    |(refine⟨_,rfl,rfl,Eq.trans ?_ (X0 (X6 X15 _) _)⟩;(simp;rfl))
    |(refine⟨_,rfl,rfl,Eq.trans ?_ (X0 (still_cons X15 _ _) _)⟩;(simp;rfl))
    |(refine⟨_,rfl,rfl,Eq.trans ?_ (X0 (X6 X15 _) _)⟩;(exact Eq.symm (Eq.trans List.map_append rfl)))
    |(refine⟨_,rfl,rfl,Eq.trans ?_ (X0 (X6 X15 _) _)⟩;(rw[List.map_append];rfl))
    |(refine⟨_,rfl,rfl,Eq.trans ?_ (X0 (X6 X15 _) _)⟩;(rw[List.map_set];rfl))
    |(refine⟨_,rfl,rfl,Eq.trans ?_ (X0 (X6 X15 _) _)⟩;(simp[*];done))
    |(refine⟨_,rfl,rfl,Eq.trans ?_ (X0 (still_cons X15 _ _) _)⟩;(simp[*];done))
    |(refine⟨_,rfl,rfl,Eq.trans ?_ (X0 (X6 X15 _) _)⟩;(rw[List.map_replicate];rfl))
    |(refine⟨_,rfl,rfl,Eq.trans ?_ (X0 (X6 (X06 true) _) _)⟩;rfl)
    |(refine⟨_,rfl,rfl,Eq.trans ?_ (X0 (still_cons (X06 true) _ _) _)⟩;rfl)
    |(refine⟨_,rfl,rfl,Eq.trans ?_ (X0 (X6 (X06 true) _) _)⟩;(simp;done))
    |(refine⟨_,rfl,rfl,Eq.trans ?_ (X0 (still_cons (X06 true) _ _) _)⟩;(simp;done))
    |(refine⟨_,rfl,rfl,Eq.trans ?_ (X0 (X6 (X06 true) _) _)⟩;(simp;rfl))
    |(refine⟨_,rfl,rfl,Eq.trans ?_ (X0 (still_cons (X06 true) _ _) _)⟩;(simp;rfl))
    |(refine⟨_,rfl,rfl,Eq.trans ?_ (X0 (X6 (X06 true) _) _)⟩;(exact Eq.symm (Eq.trans List.map_append rfl)))
    |(refine⟨_,rfl,rfl,Eq.trans ?_ (X0 (X6 (X06 true) _) _)⟩;(rw[List.map_append];rfl))
    |(refine⟨_,rfl,rfl,Eq.trans ?_ (X0 (X6 (X06 true) _) _)⟩;(rw[List.map_set];rfl))
    |(refine⟨_,rfl,rfl,Eq.trans ?_ (X0 (X6 (X06 true) _) _)⟩;(simp[*];done))
    |(refine⟨_,rfl,rfl,Eq.trans ?_ (X0 (still_cons (X06 true) _ _) _)⟩;(simp[*];done))
    |(refine⟨_,rfl,rfl,Eq.trans ?_ (X0 (X6 (X06 true) _) _)⟩;(rw[List.map_replicate];rfl))
    |(refine⟨_,rfl,rfl,Eq.trans ?_ (X0 (X6 (X06 false) _) _)⟩;rfl)
    |(refine⟨_,rfl,rfl,Eq.trans ?_ (X0 (still_cons (X06 false) _ _) _)⟩;rfl)
    |(refine⟨_,rfl,rfl,Eq.trans ?_ (X0 (X6 (X06 false) _) _)⟩;(simp;done))
    |(refine⟨_,rfl,rfl,Eq.trans ?_ (X0 (still_cons (X06 false) _ _) _)⟩;(simp;done))
    |(refine⟨_,rfl,rfl,Eq.trans ?_ (X0 (X6 (X06 false) _) _)⟩;(simp;rfl))
    |(refine⟨_,rfl,rfl,Eq.trans ?_ (X0 (still_cons (X06 false) _ _) _)⟩;(simp;rfl))
    |(refine⟨_,rfl,rfl,Eq.trans ?_ (X0 (X6 (X06 false) _) _)⟩;(exact Eq.symm (Eq.trans List.map_append rfl)))
    |(refine⟨_,rfl,rfl,Eq.trans ?_ (X0 (X6 (X06 false) _) _)⟩;(rw[List.map_append];rfl))
    |(refine⟨_,rfl,rfl,Eq.trans ?_ (X0 (X6 (X06 false) _) _)⟩;(rw[List.map_set];rfl))
    |(refine⟨_,rfl,rfl,Eq.trans ?_ (X0 (X6 (X06 false) _) _)⟩;(simp[*];done))
    |(refine⟨_,rfl,rfl,Eq.trans ?_ (X0 (still_cons (X06 false) _ _) _)⟩;(simp[*];done))
    |(refine⟨_,rfl,rfl,Eq.trans ?_ (X0 (X6 (X06 false) _) _)⟩;(rw[List.map_replicate];rfl))
    |(refine⟨_,rfl,rfl,Eq.trans ?_ (X0 (X6 X16 _) _)⟩;rfl)
    |(refine⟨_,rfl,rfl,Eq.trans ?_ (X0 (still_cons X16 _ _) _)⟩;rfl)
    |(refine⟨_,rfl,rfl,Eq.trans ?_ (X0 (X6 X16 _) _)⟩;(simp;done))
    |(refine⟨_,rfl,rfl,Eq.trans ?_ (X0 (still_cons X16 _ _) _)⟩;(simp;done))
    |(refine⟨_,rfl,rfl,Eq.trans ?_ (X0 (X6 X16 _) _)⟩;(simp;rfl))
    |(refine⟨_,rfl,rfl,Eq.trans ?_ (X0 (still_cons X16 _ _) _)⟩;(simp;rfl))
    |(refine⟨_,rfl,rfl,Eq.trans ?_ (X0 (X6 X16 _) _)⟩;(exact Eq.symm (Eq.trans List.map_append rfl)))
    |(refine⟨_,rfl,rfl,Eq.trans ?_ (X0 (X6 X16 _) _)⟩;(rw[List.map_append];rfl))
    |(refine⟨_,rfl,rfl,Eq.trans ?_ (X0 (X6 X16 _) _)⟩;(rw[List.map_set];rfl))
    |(refine⟨_,rfl,rfl,Eq.trans ?_ (X0 (X6 X16 _) _)⟩;(simp[*];done))
    |(refine⟨_,rfl,rfl,Eq.trans ?_ (X0 (still_cons X16 _ _) _)⟩;(simp[*];done))
    |(refine⟨_,rfl,rfl,Eq.trans ?_ (X0 (X6 X16 _) _)⟩;(rw[List.map_replicate];rfl))
    |(refine⟨_,rfl,rfl,Eq.trans ?_ (X0 (X6 X1h _) _)⟩;rfl)
    |(refine⟨_,rfl,rfl,Eq.trans ?_ (X0 (still_cons X1h _ _) _)⟩;rfl)
    |(refine⟨_,rfl,rfl,Eq.trans ?_ (X0 (X6 X1h _) _)⟩;(simp;done))
    |(refine⟨_,rfl,rfl,Eq.trans ?_ (X0 (still_cons X1h _ _) _)⟩;(simp;done))
    |(refine⟨_,rfl,rfl,Eq.trans ?_ (X0 (X6 X1h _) _)⟩;(simp;rfl))
    |(refine⟨_,rfl,rfl,Eq.trans ?_ (X0 (still_cons X1h _ _) _)⟩;(simp;rfl))
    |(refine⟨_,rfl,rfl,Eq.trans ?_ (X0 (X6 X1h _) _)⟩;(exact Eq.symm (Eq.trans List.map_append rfl)))
    |(refine⟨_,rfl,rfl,Eq.trans ?_ (X0 (X6 X1h _) _)⟩;(rw[List.map_append];rfl))
    |(refine⟨_,rfl,rfl,Eq.trans ?_ (X0 (X6 X1h _) _)⟩;(rw[List.map_set];rfl))):P:=h
theorem wkR1 {P:Prop} (h:P:=by
  first
    |(refine⟨_,rfl,rfl,Eq.trans ?_ (X0 (X6 X1h _) _)⟩;(simp[*];done))
    |(refine⟨_,rfl,rfl,Eq.trans ?_ (X0 (still_cons X1h _ _) _)⟩;(simp[*];done))
    |(refine⟨_,rfl,rfl,Eq.trans ?_ (X0 (X6 X1h _) _)⟩;(rw[List.map_replicate];rfl))
    |(refine⟨_,rfl,rfl,Eq.trans ?_ (X0 (X6 X1z _) _)⟩;rfl)
    |(refine⟨_,rfl,rfl,Eq.trans ?_ (X0 (still_cons X1z _ _) _)⟩;rfl)
    |(refine⟨_,rfl,rfl,Eq.trans ?_ (X0 (X6 X1z _) _)⟩;(simp;done))
    |(refine⟨_,rfl,rfl,Eq.trans ?_ (X0 (still_cons X1z _ _) _)⟩;(simp;done))
    |(refine⟨_,rfl,rfl,Eq.trans ?_ (X0 (X6 X1z _) _)⟩;(simp;rfl))
    |(refine⟨_,rfl,rfl,Eq.trans ?_ (X0 (still_cons X1z _ _) _)⟩;(simp;rfl))
    |(refine⟨_,rfl,rfl,Eq.trans ?_ (X0 (X6 X1z _) _)⟩;(exact Eq.symm (Eq.trans List.map_append rfl)))
    |(refine⟨_,rfl,rfl,Eq.trans ?_ (X0 (X6 X1z _) _)⟩;(rw[List.map_append];rfl))
    |(refine⟨_,rfl,rfl,Eq.trans ?_ (X0 (X6 X1z _) _)⟩;(rw[List.map_set];rfl))
    |(refine⟨_,rfl,rfl,Eq.trans ?_ (X0 (X6 X1z _) _)⟩;(simp[*];done))
    |(refine⟨_,rfl,rfl,Eq.trans ?_ (X0 (still_cons X1z _ _) _)⟩;(simp[*];done))
    |(refine⟨_,rfl,rfl,Eq.trans ?_ (X0 (X6 X1z _) _)⟩;(rw[List.map_replicate];rfl))
    |(refine⟨_,rfl,rfl,Eq.trans ?_ (X0 (X6 still_V2i64 _) _)⟩;rfl)
    |(refine⟨_,rfl,rfl,Eq.trans ?_ (X0 (still_cons still_V2i64 _ _) _)⟩;rfl)
    |(refine⟨_,rfl,rfl,Eq.trans ?_ (X0 (X6 still_V2i64 _) _)⟩;(simp;done))
    |(refine⟨_,rfl,rfl,Eq.trans ?_ (X0 (still_cons still_V2i64 _ _) _)⟩;(simp;done))
    |(refine⟨_,rfl,rfl,Eq.trans ?_ (X0 (X6 still_V2i64 _) _)⟩;(simp;rfl))
    |(refine⟨_,rfl,rfl,Eq.trans ?_ (X0 (still_cons still_V2i64 _ _) _)⟩;(simp;rfl))
    |(refine⟨_,rfl,rfl,Eq.trans ?_ (X0 (X6 still_V2i64 _) _)⟩;(exact Eq.symm (Eq.trans List.map_append rfl)))
    |(refine⟨_,rfl,rfl,Eq.trans ?_ (X0 (X6 still_V2i64 _) _)⟩;(rw[List.map_append];rfl))
    |(refine⟨_,rfl,rfl,Eq.trans ?_ (X0 (X6 still_V2i64 _) _)⟩;(rw[List.map_set];rfl))
    |(refine⟨_,rfl,rfl,Eq.trans ?_ (X0 (X6 still_V2i64 _) _)⟩;(simp[*];done))
    |(refine⟨_,rfl,rfl,Eq.trans ?_ (X0 (still_cons still_V2i64 _ _) _)⟩;(simp[*];done))
    |(refine⟨_,rfl,rfl,Eq.trans ?_ (X0 (X6 still_V2i64 _) _)⟩;(rw[List.map_replicate];rfl))
    |(refine⟨_,rfl,rfl,Eq.trans ?_ (X0 (X6 X2j _) _)⟩;rfl)
    |(refine⟨_,rfl,rfl,Eq.trans ?_ (X0 (still_cons X2j _ _) _)⟩;rfl)
    |(refine⟨_,rfl,rfl,Eq.trans ?_ (X0 (X6 X2j _) _)⟩;(simp;done))
    |(refine⟨_,rfl,rfl,Eq.trans ?_ (X0 (still_cons X2j _ _) _)⟩;(simp;done))
    |(refine⟨_,rfl,rfl,Eq.trans ?_ (X0 (X6 X2j _) _)⟩;(simp;rfl))
    |(refine⟨_,rfl,rfl,Eq.trans ?_ (X0 (still_cons X2j _ _) _)⟩;(simp;rfl))
    |(refine⟨_,rfl,rfl,Eq.trans ?_ (X0 (X6 X2j _) _)⟩;(exact Eq.symm (Eq.trans List.map_append rfl)))
    |(refine⟨_,rfl,rfl,Eq.trans ?_ (X0 (X6 X2j _) _)⟩;(rw[List.map_append];rfl))
    |(refine⟨_,rfl,rfl,Eq.trans ?_ (X0 (X6 X2j _) _)⟩;(rw[List.map_set];rfl))
    |(refine⟨_,rfl,rfl,Eq.trans ?_ (X0 (X6 X2j _) _)⟩;(simp[*];done))
    |(refine⟨_,rfl,rfl,Eq.trans ?_ (X0 (still_cons X2j _ _) _)⟩;(simp[*];done))
    |(refine⟨_,rfl,rfl,Eq.trans ?_ (X0 (X6 X2j _) _)⟩;(rw[List.map_replicate];rfl))
    |(refine⟨_,rfl,rfl,Eq.trans ?_ (X0 (X6 X0g _) _)⟩;rfl)
    |(refine⟨_,rfl,rfl,Eq.trans ?_ (X0 (still_cons X0g _ _) _)⟩;rfl)
    |(refine⟨_,rfl,rfl,Eq.trans ?_ (X0 (X6 X0g _) _)⟩;(simp;done))
    |(refine⟨_,rfl,rfl,Eq.trans ?_ (X0 (still_cons X0g _ _) _)⟩;(simp;done))
    |(refine⟨_,rfl,rfl,Eq.trans ?_ (X0 (X6 X0g _) _)⟩;(simp;rfl))
    |(refine⟨_,rfl,rfl,Eq.trans ?_ (X0 (still_cons X0g _ _) _)⟩;(simp;rfl))
    |(refine⟨_,rfl,rfl,Eq.trans ?_ (X0 (X6 X0g _) _)⟩;(exact Eq.symm (Eq.trans List.map_append rfl)))
    |(refine⟨_,rfl,rfl,Eq.trans ?_ (X0 (X6 X0g _) _)⟩;(rw[List.map_append];rfl))
    |(refine⟨_,rfl,rfl,Eq.trans ?_ (X0 (X6 X0g _) _)⟩;(rw[List.map_set];rfl))
    |(refine⟨_,rfl,rfl,Eq.trans ?_ (X0 (X6 X0g _) _)⟩;(simp[*];done))
    |(refine⟨_,rfl,rfl,Eq.trans ?_ (X0 (still_cons X0g _ _) _)⟩;(simp[*];done))
    |(refine⟨_,rfl,rfl,Eq.trans ?_ (X0 (X6 X0g _) _)⟩;(rw[List.map_replicate];rfl))
    |(refine⟨_,rfl,rfl,Eq.trans ?_ (X0 (X6 still_V2b _) _)⟩;rfl)
    |(refine⟨_,rfl,rfl,Eq.trans ?_ (X0 (still_cons still_V2b _ _) _)⟩;rfl)
    |(refine⟨_,rfl,rfl,Eq.trans ?_ (X0 (X6 still_V2b _) _)⟩;(simp;done))
    |(refine⟨_,rfl,rfl,Eq.trans ?_ (X0 (still_cons still_V2b _ _) _)⟩;(simp;done))
    |(refine⟨_,rfl,rfl,Eq.trans ?_ (X0 (X6 still_V2b _) _)⟩;(simp;rfl))
    |(refine⟨_,rfl,rfl,Eq.trans ?_ (X0 (still_cons still_V2b _ _) _)⟩;(simp;rfl))
    |(refine⟨_,rfl,rfl,Eq.trans ?_ (X0 (X6 still_V2b _) _)⟩;(exact Eq.symm (Eq.trans List.map_append rfl)))
    |(refine⟨_,rfl,rfl,Eq.trans ?_ (X0 (X6 still_V2b _) _)⟩;(rw[List.map_append];rfl))
    |(refine⟨_,rfl,rfl,Eq.trans ?_ (X0 (X6 still_V2b _) _)⟩;(rw[List.map_set];rfl))
    |(refine⟨_,rfl,rfl,Eq.trans ?_ (X0 (X6 still_V2b _) _)⟩;(simp[*];done))
    |(refine⟨_,rfl,rfl,Eq.trans ?_ (X0 (still_cons still_V2b _ _) _)⟩;(simp[*];done))
    |(refine⟨_,rfl,rfl,Eq.trans ?_ (X0 (X6 still_V2b _) _)⟩;(rw[List.map_replicate];rfl))
    |(refine⟨_,rfl,rfl,Eq.trans ?_ (X0 (X6 X1j _) _)⟩;rfl)
    |(refine⟨_,rfl,rfl,Eq.trans ?_ (X0 (still_cons X1j _ _) _)⟩;rfl)
    |(refine⟨_,rfl,rfl,Eq.trans ?_ (X0 (X6 X1j _) _)⟩;(simp;done))
    |(refine⟨_,rfl,rfl,Eq.trans ?_ (X0 (still_cons X1j _ _) _)⟩;(simp;done))
    |(refine⟨_,rfl,rfl,Eq.trans ?_ (X0 (X6 X1j _) _)⟩;(simp;rfl))
    |(refine⟨_,rfl,rfl,Eq.trans ?_ (X0 (still_cons X1j _ _) _)⟩;(simp;rfl))
    |(refine⟨_,rfl,rfl,Eq.trans ?_ (X0 (X6 X1j _) _)⟩;(exact Eq.symm (Eq.trans List.map_append rfl)))
    |(refine⟨_,rfl,rfl,Eq.trans ?_ (X0 (X6 X1j _) _)⟩;(rw[List.map_append];rfl))
    |(refine⟨_,rfl,rfl,Eq.trans ?_ (X0 (X6 X1j _) _)⟩;(rw[List.map_set];rfl))
    |(refine⟨_,rfl,rfl,Eq.trans ?_ (X0 (X6 X1j _) _)⟩;(simp[*];done))
    |(refine⟨_,rfl,rfl,Eq.trans ?_ (X0 (still_cons X1j _ _) _)⟩;(simp[*];done))
    |(refine⟨_,rfl,rfl,Eq.trans ?_ (X0 (X6 X1j _) _)⟩;(rw[List.map_replicate];rfl))
    |(refine⟨_,rfl,rfl,Eq.trans ?_ (X0 (X6 still_V2GAccum _) _)⟩;rfl)
    |(refine⟨_,rfl,rfl,Eq.trans ?_ (X0 (still_cons still_V2GAccum _ _) _)⟩;rfl)
    |(refine⟨_,rfl,rfl,Eq.trans ?_ (X0 (X6 still_V2GAccum _) _)⟩;(simp;done))
    |(refine⟨_,rfl,rfl,Eq.trans ?_ (X0 (still_cons still_V2GAccum _ _) _)⟩;(simp;done))
    |(refine⟨_,rfl,rfl,Eq.trans ?_ (X0 (X6 still_V2GAccum _) _)⟩;(simp;rfl))
    |(refine⟨_,rfl,rfl,Eq.trans ?_ (X0 (still_cons still_V2GAccum _ _) _)⟩;(simp;rfl))
    |(refine⟨_,rfl,rfl,Eq.trans ?_ (X0 (X6 still_V2GAccum _) _)⟩;(exact Eq.symm (Eq.trans List.map_append rfl)))
    |(refine⟨_,rfl,rfl,Eq.trans ?_ (X0 (X6 still_V2GAccum _) _)⟩;(rw[List.map_append];rfl))
    |(refine⟨_,rfl,rfl,Eq.trans ?_ (X0 (X6 still_V2GAccum _) _)⟩;(rw[List.map_set];rfl))
    |(refine⟨_,rfl,rfl,Eq.trans ?_ (X0 (X6 still_V2GAccum _) _)⟩;(simp[*];done))
    |(refine⟨_,rfl,rfl,Eq.trans ?_ (X0 (still_cons still_V2GAccum _ _) _)⟩;(simp[*];done))
    |(refine⟨_,rfl,rfl,Eq.trans ?_ (X0 (X6 still_V2GAccum _) _)⟩;(rw[List.map_replicate];rfl))
    |(refine⟨_,rfl,rfl,Eq.trans ?_ (X0 (X6 X1i _) _)⟩;rfl)
    |(refine⟨_,rfl,rfl,Eq.trans ?_ (X0 (still_cons X1i _ _) _)⟩;rfl)
    |(refine⟨_,rfl,rfl,Eq.trans ?_ (X0 (X6 X1i _) _)⟩;(simp;done))
    |(refine⟨_,rfl,rfl,Eq.trans ?_ (X0 (still_cons X1i _ _) _)⟩;(simp;done))
    |(refine⟨_,rfl,rfl,Eq.trans ?_ (X0 (X6 X1i _) _)⟩;(simp;rfl))
    |(refine⟨_,rfl,rfl,Eq.trans ?_ (X0 (still_cons X1i _ _) _)⟩;(simp;rfl))
    |(refine⟨_,rfl,rfl,Eq.trans ?_ (X0 (X6 X1i _) _)⟩;(exact Eq.symm (Eq.trans List.map_append rfl)))
    |(refine⟨_,rfl,rfl,Eq.trans ?_ (X0 (X6 X1i _) _)⟩;(rw[List.map_append];rfl))
    |(refine⟨_,rfl,rfl,Eq.trans ?_ (X0 (X6 X1i _) _)⟩;(rw[List.map_set];rfl))
    |(refine⟨_,rfl,rfl,Eq.trans ?_ (X0 (X6 X1i _) _)⟩;(simp[*];done))
    |(refine⟨_,rfl,rfl,Eq.trans ?_ (X0 (still_cons X1i _ _) _)⟩;(simp[*];done))
    |(refine⟨_,rfl,rfl,Eq.trans ?_ (X0 (X6 X1i _) _)⟩;(rw[List.map_replicate];rfl))
    |(refine⟨_,rfl,rfl,Eq.trans ?_ (X0 (X6 still_V5i64 _) _)⟩;rfl)
    |(refine⟨_,rfl,rfl,Eq.trans ?_ (X0 (still_cons still_V5i64 _ _) _)⟩;rfl)
    |(refine⟨_,rfl,rfl,Eq.trans ?_ (X0 (X6 still_V5i64 _) _)⟩;(simp;done))
    |(refine⟨_,rfl,rfl,Eq.trans ?_ (X0 (still_cons still_V5i64 _ _) _)⟩;(simp;done))
    |(refine⟨_,rfl,rfl,Eq.trans ?_ (X0 (X6 still_V5i64 _) _)⟩;(simp;rfl))
    |(refine⟨_,rfl,rfl,Eq.trans ?_ (X0 (still_cons still_V5i64 _ _) _)⟩;(simp;rfl))
    |(refine⟨_,rfl,rfl,Eq.trans ?_ (X0 (X6 still_V5i64 _) _)⟩;(exact Eq.symm (Eq.trans List.map_append rfl)))
    |(refine⟨_,rfl,rfl,Eq.trans ?_ (X0 (X6 still_V5i64 _) _)⟩;(rw[List.map_append];rfl))
    |(refine⟨_,rfl,rfl,Eq.trans ?_ (X0 (X6 still_V5i64 _) _)⟩;(rw[List.map_set];rfl))
    |(refine⟨_,rfl,rfl,Eq.trans ?_ (X0 (X6 still_V5i64 _) _)⟩;(simp[*];done))
    |(refine⟨_,rfl,rfl,Eq.trans ?_ (X0 (still_cons still_V5i64 _ _) _)⟩;(simp[*];done))
    |(refine⟨_,rfl,rfl,Eq.trans ?_ (X0 (X6 still_V5i64 _) _)⟩;(rw[List.map_replicate];rfl))
    |(refine⟨_,rfl,rfl,Eq.trans ?_ (X0 (X6 (fun _=>X5q) _) _)⟩;rfl)
    |(refine⟨_,rfl,rfl,Eq.trans ?_ (X0 (still_cons (fun _=>X5q) _ _) _)⟩;rfl)
    |(refine⟨_,rfl,rfl,Eq.trans ?_ (X0 (X6 (fun _=>X5q) _) _)⟩;(simp;done))
    |(refine⟨_,rfl,rfl,Eq.trans ?_ (X0 (still_cons (fun _=>X5q) _ _) _)⟩;(simp;done))
    |(refine⟨_,rfl,rfl,Eq.trans ?_ (X0 (X6 (fun _=>X5q) _) _)⟩;(simp;rfl))
    |(refine⟨_,rfl,rfl,Eq.trans ?_ (X0 (still_cons (fun _=>X5q) _ _) _)⟩;(simp;rfl))
    |(refine⟨_,rfl,rfl,Eq.trans ?_ (X0 (X6 (fun _=>X5q) _) _)⟩;(exact Eq.symm (Eq.trans List.map_append rfl)))
    |(refine⟨_,rfl,rfl,Eq.trans ?_ (X0 (X6 (fun _=>X5q) _) _)⟩;(rw[List.map_append];rfl))
    |(refine⟨_,rfl,rfl,Eq.trans ?_ (X0 (X6 (fun _=>X5q) _) _)⟩;(rw[List.map_set];rfl))):P:=h
theorem wkR2 {P:Prop} (h:P:=by
  first
    |(refine⟨_,rfl,rfl,Eq.trans ?_ (X0 (X6 (fun _=>X5q) _) _)⟩;(simp[*];done))
    |(refine⟨_,rfl,rfl,Eq.trans ?_ (X0 (still_cons (fun _=>X5q) _ _) _)⟩;(simp[*];done))
    |(refine⟨_,rfl,rfl,Eq.trans ?_ (X0 (X6 (fun _=>X5q) _) _)⟩;(rw[List.map_replicate];rfl))
    |(refine⟨_,rfl,rfl,Eq.trans ?_ (X0 (X6 (fun _=>X2v) _) _)⟩;rfl)
    |(refine⟨_,rfl,rfl,Eq.trans ?_ (X0 (still_cons (fun _=>X2v) _ _) _)⟩;rfl)
    |(refine⟨_,rfl,rfl,Eq.trans ?_ (X0 (X6 (fun _=>X2v) _) _)⟩;(simp;done))
    |(refine⟨_,rfl,rfl,Eq.trans ?_ (X0 (still_cons (fun _=>X2v) _ _) _)⟩;(simp;done))
    |(refine⟨_,rfl,rfl,Eq.trans ?_ (X0 (X6 (fun _=>X2v) _) _)⟩;(simp;rfl))
    |(refine⟨_,rfl,rfl,Eq.trans ?_ (X0 (still_cons (fun _=>X2v) _ _) _)⟩;(simp;rfl))
    |(refine⟨_,rfl,rfl,Eq.trans ?_ (X0 (X6 (fun _=>X2v) _) _)⟩;(exact Eq.symm (Eq.trans List.map_append rfl)))
    |(refine⟨_,rfl,rfl,Eq.trans ?_ (X0 (X6 (fun _=>X2v) _) _)⟩;(rw[List.map_append];rfl))
    |(refine⟨_,rfl,rfl,Eq.trans ?_ (X0 (X6 (fun _=>X2v) _) _)⟩;(rw[List.map_set];rfl))
    |(refine⟨_,rfl,rfl,Eq.trans ?_ (X0 (X6 (fun _=>X2v) _) _)⟩;(simp[*];done))
    |(refine⟨_,rfl,rfl,Eq.trans ?_ (X0 (still_cons (fun _=>X2v) _ _) _)⟩;(simp[*];done))
    |(refine⟨_,rfl,rfl,Eq.trans ?_ (X0 (X6 (fun _=>X2v) _) _)⟩;(rw[List.map_replicate];rfl))
    |(refine⟨_,rfl,rfl,Eq.trans ?_ (X0 (still_one (X20 _)) _)⟩;simp only[List.length_cons,List.length_map];rfl)
    |(refine⟨_,rfl,rfl,Eq.trans ?_ (X0 (still_one (X15 _)) _)⟩;simp only[List.length_cons,List.length_map];rfl)
    |(refine⟨_,rfl,rfl,Eq.trans ?_ (X0 (still_one ((X06 true) _)) _)⟩;simp only[List.length_cons,List.length_map];rfl)
    |(refine⟨_,rfl,rfl,Eq.trans ?_ (X0 (still_one ((X06 false) _)) _)⟩;simp only[List.length_cons,List.length_map];rfl)
    |(refine⟨_,rfl,rfl,Eq.trans ?_ (X0 (still_one (X16 _)) _)⟩;simp only[List.length_cons,List.length_map];rfl)
    |(refine⟨_,rfl,rfl,Eq.trans ?_ (X0 (still_one (X1h _)) _)⟩;simp only[List.length_cons,List.length_map];rfl)
    |(refine⟨_,rfl,rfl,Eq.trans ?_ (X0 (still_one (X1z _)) _)⟩;simp only[List.length_cons,List.length_map];rfl)
    |(refine⟨_,rfl,rfl,Eq.trans ?_ (X0 (still_one (still_V2i64 _)) _)⟩;simp only[List.length_cons,List.length_map];rfl)
    |(refine⟨_,rfl,rfl,Eq.trans ?_ (X0 (still_one (X2j _)) _)⟩;simp only[List.length_cons,List.length_map];rfl)
    |(refine⟨_,rfl,rfl,Eq.trans ?_ (X0 (still_one (X0g _)) _)⟩;simp only[List.length_cons,List.length_map];rfl)
    |(refine⟨_,rfl,rfl,Eq.trans ?_ (X0 (still_one (still_V2b _)) _)⟩;simp only[List.length_cons,List.length_map];rfl)
    |(refine⟨_,rfl,rfl,Eq.trans ?_ (X0 (still_one (X1j _)) _)⟩;simp only[List.length_cons,List.length_map];rfl)
    |(refine⟨_,rfl,rfl,Eq.trans ?_ (X0 (still_one (still_V2GAccum _)) _)⟩;simp only[List.length_cons,List.length_map];rfl)
    |(refine⟨_,rfl,rfl,Eq.trans ?_ (X0 (still_one (X1i _)) _)⟩;simp only[List.length_cons,List.length_map];rfl)
    |(refine⟨_,rfl,rfl,Eq.trans ?_ (X0 (still_one (still_V5i64 _)) _)⟩;simp only[List.length_cons,List.length_map];rfl)
    |(refine⟨_,rfl,rfl,Eq.trans ?_ (X0 (still_one ((fun _=>X5q) _)) _)⟩;simp only[List.length_cons,List.length_map];rfl)
    |(refine⟨_,rfl,rfl,Eq.trans ?_ (X0 (still_one ((fun _=>X2v) _)) _)⟩;simp only[List.length_cons,List.length_map];rfl)):P:=h
theorem wkB {P:Prop} (h:P:=by
  first
    |exact trivial
    |rfl
    |decide
    |exact⟨_,rfl,rfl,rfl⟩
    |(refine⟨_,rfl,rfl,ref1 ?_⟩;first|rfl|omega|(simp;done)|(simp;omega))
    |exact wkR0
    |exact wkR1
    |exact wkR2
    |(intro e he a ha;rw[List.mem_singleton.1 he] at ha;rw[List.mem_singleton.1 ha];first|exact .sc|exact .list|exact .nils|exact .ref (by decide)|exact .ptr (by decide)|exact Xtk|exact .fn (X1g (.ptr (by decide)) X7x)|exact .fn (X1g (.ptr (by decide)) (X1g (.ptr (by decide)) X7x)))
    |(intro e he a ha;simp at he;subst he;simp[AV.cells] at ha;first|(subst ha;exact .sc)|(rcases ha with rfl|rfl|rfl|rfl|rfl<;>exact .sc))
    |(refine⟨_,rfl,rfl,aggR ?_⟩;repeat' first|exact trivial|refine And.intro ?_ ?_|rfl|exact wkSl rfl|(refine refR rfl ?_;first|rfl|(simp;done)|(simp;omega)))
    |(refine X04k ?_;repeat' first|exact X7x|refine X1g ?_ ?_|exact .sc|exact .list|exact .nils|exact .ref (by decide)|exact .ptr (by decide)|exact okSl (by decide)|exact okF|exact okG|exact Xtk)):P:=h
theorem rn {P:Program} {T:Ty} {nt n0:Nat} {μ:Mu} {Q:Xy->St->Mu->Prop} {cf cf':Cf} {K K':List Kn} {L L':List (Nat×AV)} {G G':List (Nat×Obj)} {n n':Nat} {hs':List X59} {ps':List Prop} (hT:X9s P T/\P.follows .mixedOrders=true) (hs:List X59) (h:X9z P T nt 4000 cf K L G n hs []=some (cf',K',L',G',n',hs',ps')) (hp':X4h ps') (k:X2 P nt n0 Q cf' K' ⟨fr L',hp G',n'⟩ μ):X2 P nt n0 Q cf K ⟨fr L,hp G,n⟩ μ:=Xpb hT 4000 hs h hp' k
abbrev cc:=@Cvs.cons
abbrev cn:=@Cvs.nil
abbrev pn:=@X55.none
abbrev Bt:X59:=.br true
abbrev Bf:X59:=.br false
abbrev Ob (e:List AV) (n:Nat):Obj:={ es:=e,esz:=n }
abbrev Lf:=AV.list false
theorem Zn {α:Type} {m:Bool} {H:X0b} (f:α->AV):Cv m H .nils (.list m (List.map f ([]:List α))):=.nils
theorem wkT {P : Program} {nt n0 : Nat} {Q : Xy -> St -> Mu -> Prop} {cf : Cf} {K : List Kn} {μ : Mu} {L L' : List (Nat × AV)} {G G' : List (Nat × Obj)} {n n' : Nat} (θ : List (Nat × Nat)) (h : X2 P nt n0 Q cf K ⟨fr L', hp G', n'⟩ μ)
    (hb:(fixB θ n0&&injB θ (G'.map (·.1))&&Nat.ble n0 n')=true:=by rfl) (hL:wkL L θ n' L':=by repeat' first|refine And.intro ?_ ?_|exact wkA) (hG:wkG G θ n' G':=by repeat' first|refine And.intro ?_ ?_|exact wkB):X2 P nt n0 Q cf K ⟨fr L,hp G,n⟩ μ:=X2.weakTo θ h hb hL hG
end Go.Av
namespace Go.D
open Go.Av
def X6i (x y:Xw):Bool:=((x.Kind==y.Kind)&&((x.N==y.N)&&((x.A==y.A)&&((x.B==y.B)&&((x.At==y.At)&&true)))))
def X3n (x y:Xb):Bool:=((x.Key==y.Key)&&((x.Time==y.Time)&&((x.Value==y.Value)&&true)))
def Xmd (x y:X0n):Bool:=((x.Start==y.Start)&&((x.End==y.End)&&true))
def Xmc (x y:(V2 Int)):Bool:=((x.e0==y.e0)&&((x.e1==y.e1)&&true))
def Xg5 (x y:X3w):Bool:=((x.Key==y.Key)&&((Xmd x.Span y.Span)&&((Xmc x.Values y.Values)&&true)))
def Xs3 (x y:X12):Bool:=((x.Count==y.Count)&&((x.Sum==y.Sum)&&((x.Min==y.Min)&&((x.Max==y.Max)&&true))))
def Xfu (x:Xw):Prop:=wfI .u8 x.Kind/\wfI .i64 x.N/\wfI .i64 x.A/\wfI .i64 x.B/\wfI .i64 x.At
def Xiv (x:X0l):Prop:=wfI .u8 x.Kind/\wfI .i64 x.Size/\wfI .i64 x.Every
def Xgn (x:Xu):Prop:=wfI .u8 x.Agg/\(List.length x.Arg<=maxLen/\∀ y∈x.Arg,Xfu y)/\(List.length x.Sources<=maxLen/\∀ y∈x.Sources,wfI .i64 y)/\True/\(List.length x.Where<=maxLen/\∀ y∈x.Where,Xfu y)/\Xiv x.Window/\True/\wfI .u8 x.Late
def Xiw (x:Xb):Prop:=wfI .i64 x.Key/\wfI .i64 x.Time/\wfI .i64 x.Value
def Xgo (x:Xg):Prop:=True/\wfI .i64 x.Time/\Xiw x.Record
end Go.D
