/- Printed by decomp.py: the types of the Go program, as data; their encodings. -/
import Derived.Test.YtkjlgmgfhgamlaaGreatAvc
set_option linter.all false

namespace Go.D
theorem Yo {α β:Type} {a:α} {f:α->Option β}:(some a).bind f=f a:=rfl
theorem Yf {p:Prop} [Decidable p] (h:¬ p):decide p=false:=decide_eq_false h
theorem Yt {p:Prop} [Decidable p] (h:p):decide p=true:=decide_eq_true h
theorem Ym {α β:Type} {f:α->β} {l:List α} {i:Nat}:List.map f (List.take i l)=List.take i (List.map f l):=List.map_take
theorem Yd {α β:Type} {f:α->β} {l:List α} {i:Nat}:List.map f (List.drop i l)=List.drop i (List.map f l):=List.map_drop
theorem Ya {a b:Prop} (x:a) (y:b):a/\b:=⟨x,y⟩
theorem Ye {α:Type} {l:List α} {i:Nat} (h:i<l.length):l[i]?=some l[i]:=List.getElem?_eq_getElem h
theorem Ys {α:Type} {l:List α} {i:Nat} {a:α}:l[i]?=some a↔∃ h:i<l.length,l[i]=a:=List.getElem?_eq_some_iff
theorem Yg {α:Type} {l:List α} {i:Nat} {a:α} (h:l[i]?=some a):a∈l:=List.mem_of_getElem? h
structure X07 where
  Kind:Int
  N:Int
  A:Int
  B:Int
  At:Int
  deriving DecidableEq,Inhabited
structure X0n where
  Kind:Int
  Size:Int
  Every:Int
  deriving DecidableEq,Inhabited
structure X06 where
  Agg:Int
  Arg:(List X07)
  Sources:(List Int)
  Join:Bool
  Where:(List X07)
  Window:X0n
  ByKey:Bool
  Late:Int
  deriving DecidableEq,Inhabited
structure Xl where
  Key:Int
  Time:Int
  Value:Int
  deriving DecidableEq,Inhabited
structure X05 where
  Start:Int
  End:Int
  deriving DecidableEq,Inhabited
structure X1x where
  Key:Int
  Span:X05
  Values:(V2 Int)
  deriving DecidableEq,Inhabited
structure Xh where
  Kind:Int
  Record:Xl
  Time:Int
  Row:X1x
  deriving DecidableEq,Inhabited
structure GOp where
  Kind:Int
  N:Int
  deriving DecidableEq,Inhabited
structure X13 where
  Out:Int
  Message:Xh
  deriving DecidableEq,Inhabited
structure X15 where
  Count:Int
  Sum:Int
  Min:Int
  Max:Int
  deriving DecidableEq,Inhabited
structure X2 where
  Key:Int
  Span:X05
  Values:(V2 X15)
  deriving DecidableEq,Inhabited
structure X1e where
  Mark:Bool
  Time:Int
  Record:Xl
  deriving DecidableEq,Inhabited
structure X0a where
  Op:GOp
  Turn:Int
  Pending:(List X13)
  Marks:(List Int)
  Store:(List X2)
  Events:(List X1e)
  Rows:(List X1x)
  Late:(List Xl)
  deriving DecidableEq,Inhabited
structure Xg where
  at_:Int
  size:Int
  depth:Int
  deriving DecidableEq,Inhabited
end Go.D
namespace Go.Av
open Go.D
def X7 (x:X07):AV:=.agg [(aI .u8 x.Kind),(aI .i64 x.N),(aI .i64 x.A),(aI .i64 x.B),(aI .i64 x.At)]
theorem Xch (x:X07):X9z (X7 x):=(X29 (X29 (X29 (X29 (X29 Xfy)))))
theorem X2g (x:X07):X70 (X7 x):=fun _=>rfl
theorem Xcf (x:X07):Xak (X7 x):=X4c (Xch x) rfl
instance X020:Xc5 X7:=⟨Xch,fun _=>rfl,X2g⟩
def X3i (x:X0n):AV:=.agg [(aI .u8 x.Kind),(aI .i64 x.Size),(aI .i64 x.Every)]
theorem Xff (x:X0n):X9z (X3i x):=(X29 (X29 (X29 Xfy)))
theorem X1i (x:X0n):X70 (X3i x):=fun _=>rfl
theorem X9m (x:X0n):Xak (X3i x):=X4c (Xff x) rfl
instance X009:Xc5 X3i:=⟨Xff,fun _=>rfl,X1i⟩
def Xs (o:Bool) (x:X06):AV:=.agg [(aI .u8 x.Agg),(AV.list o (List.map X7 x.Arg)),(AV.list o (List.map (aI .i64) x.Sources)),(aB x.Join),(AV.list o (List.map X7 x.Where)),(aI .u8 x.Window.Kind),(aI .i64 x.Window.Size),(aI .i64 x.Window.Every),(aB x.ByKey),(aI .u8 x.Late)]
theorem X04 (o:Bool) (x:X06):X70 (Xs o x):=fun _=>rfl
theorem X4l (o:Bool) (x:X06):Xak (Xs o x):=Xp2 (fun _=>(X0z .sc (X0z .list (X0z .list (X0z .sc (X0z .list (X0z .sc (X0z .sc (X0z .sc (X0z .sc (X0z .sc X78)))))))))))
theorem Xqg {H:X0j} {o:Bool} {x:X06}:Cv false H (Xs o x) (Xs false x):=Xly (Cvs.cons .sc (Cvs.cons (X5r (X2o Xch _)) (Cvs.cons (X5r (X2o (fun _=>Xdx) _)) (Cvs.cons .sc (Cvs.cons (X5r (X2o Xch _)) (Cvs.cons .sc (Cvs.cons .sc (Cvs.cons .sc (Cvs.cons .sc (Cvs.cons .sc Cvs.nil))))))))))
theorem Xqf {H:X0j} {o:Bool} {x:X06}:Cv true H (Xs o x) (Xs o x):=Xly (Cvs.cons .sc (Cvs.cons (.listS rfl) (Cvs.cons (.listS rfl) (Cvs.cons .sc (Cvs.cons (.listS rfl) (Cvs.cons .sc (Cvs.cons .sc (Cvs.cons .sc (Cvs.cons .sc (Cvs.cons .sc Cvs.nil))))))))))
instance X00w:Xzy Xs:=⟨Xqg,Xqf,fun _ _ _=>rfl,X4l,X04⟩
def X4 (x:Xl):AV:=.agg [(aI .i64 x.Key),(aI .i64 x.Time),(aI .i64 x.Value)]
theorem Xc0 (x:Xl):X9z (X4 x):=(X29 (X29 (X29 Xfy)))
theorem X1j (x:Xl):X70 (X4 x):=fun _=>rfl
theorem X9n (x:Xl):Xak (X4 x):=X4c (Xc0 x) rfl
instance X00a:Xc5 X4:=⟨Xc0,fun _=>rfl,X1j⟩
def X00 (x:X05):AV:=.agg [(aI .i64 x.Start),(aI .i64 x.End)]
theorem Xj8 (x:X05):X9z (X00 x):=(X29 (X29 Xfy))
theorem X2e (x:X05):X70 (X00 x):=fun _=>rfl
theorem Xcd (x:X05):Xak (X00 x):=X4c (Xj8 x) rfl
instance X01y:Xc5 X00:=⟨Xj8,fun _=>rfl,X2e⟩
def X01 (x:X1x):AV:=.agg [(aI .i64 x.Key),(aI .i64 x.Span.Start),(aI .i64 x.Span.End),(aI .i64 x.Values.e0),(aI .i64 x.Values.e1)]
theorem Xhd (x:X1x):X9z (X01 x):=(X29 (X29 (X29 (X29 (X29 Xfy)))))
theorem X30 (x:X1x):X70 (X01 x):=fun _=>rfl
theorem Xdt (x:X1x):Xak (X01 x):=X4c (Xhd x) rfl
instance X043:Xc5 X01:=⟨Xhd,fun _=>rfl,X30⟩
def Xe (x:Xh):AV:=.agg [(aI .u8 x.Kind),(aI .i64 x.Record.Key),(aI .i64 x.Record.Time),(aI .i64 x.Record.Value),(aI .i64 x.Time),(aI .i64 x.Row.Key),(aI .i64 x.Row.Span.Start),(aI .i64 x.Row.Span.End),(aI .i64 x.Row.Values.e0),(aI .i64 x.Row.Values.e1)]
theorem Xdw (x:Xh):X9z (Xe x):=(X29 (X29 (X29 (X29 (X29 (X29 (X29 (X29 (X29 (X29 Xfy))))))))))
theorem X17 (x:Xh):X70 (Xe x):=fun _=>rfl
theorem X85 (x:Xh):Xak (Xe x):=X4c (Xdw x) rfl
instance Xzb:Xc5 Xe:=⟨Xdw,fun _=>rfl,X17⟩
def X08 (x:X13):AV:=.agg [(aI .i64 x.Out),(aI .u8 x.Message.Kind),(aI .i64 x.Message.Record.Key),(aI .i64 x.Message.Record.Time),(aI .i64 x.Message.Record.Value),(aI .i64 x.Message.Time),(aI .i64 x.Message.Row.Key),(aI .i64 x.Message.Row.Span.Start),(aI .i64 x.Message.Row.Span.End),(aI .i64 x.Message.Row.Values.e0),(aI .i64 x.Message.Row.Values.e1)]
theorem Xcg (x:X13):X9z (X08 x):=(X29 (X29 (X29 (X29 (X29 (X29 (X29 (X29 (X29 (X29 (X29 Xfy)))))))))))
theorem X2f (x:X13):X70 (X08 x):=fun _=>rfl
theorem Xce (x:X13):Xak (X08 x):=X4c (Xcg x) rfl
instance X01z:Xc5 X08:=⟨Xcg,fun _=>rfl,X2f⟩
def X0u (x:X15):AV:=.agg [(aI .i64 x.Count),(aI .i64 x.Sum),(aI .i64 x.Min),(aI .i64 x.Max)]
theorem Xhe (x:X15):X9z (X0u x):=(X29 (X29 (X29 (X29 Xfy))))
theorem X20 (x:X15):X70 (X0u x):=fun _=>rfl
theorem Xb3 (x:X15):Xak (X0u x):=X4c (Xhe x) rfl
instance X01i:Xc5 X0u:=⟨Xhe,fun _=>rfl,X20⟩
def X1 (x:X2):AV:=.agg [(aI .i64 x.Key),(aI .i64 x.Span.Start),(aI .i64 x.Span.End),(aI .i64 x.Values.e0.Count),(aI .i64 x.Values.e0.Sum),(aI .i64 x.Values.e0.Min),(aI .i64 x.Values.e0.Max),(aI .i64 x.Values.e1.Count),(aI .i64 x.Values.e1.Sum),(aI .i64 x.Values.e1.Min),(aI .i64 x.Values.e1.Max)]
theorem X5d (x:X2):X9z (X1 x):=(X29 (X29 (X29 (X29 (X29 (X29 (X29 (X29 (X29 (X29 (X29 Xfy)))))))))))
theorem X1z (x:X2):X70 (X1 x):=fun _=>rfl
theorem Xb2 (x:X2):Xak (X1 x):=X4c (X5d x) rfl
theorem X7i {m:Bool} {H:X0j} {x:X2}:Cv m H (X1 x) (X1 x):=Xzi (X5d x)
instance X01h:Xc5 X1:=⟨X5d,fun _=>rfl,X1z⟩
def X0h (x:X1e):AV:=.agg [(aB x.Mark),(aI .i64 x.Time),(aI .i64 x.Record.Key),(aI .i64 x.Record.Time),(aI .i64 x.Record.Value)]
theorem Xd1 (x:X1e):X9z (X0h x):=(X29 (X29 (X29 (X29 (X29 Xfy)))))
theorem X1y (x:X1e):X70 (X0h x):=fun _=>rfl
theorem Xb1 (x:X1e):Xak (X0h x):=X4c (Xd1 x) rfl
instance X01g:Xc5 X0h:=⟨Xd1,fun _=>rfl,X1y⟩
def Xr (o:Bool) (x:X0a):AV:=.agg [(aI .u8 x.Op.Kind),(aI .i64 x.Op.N),(aI .i64 x.Turn),(AV.list o (List.map X08 x.Pending)),(AV.list o (List.map (aI .i64) x.Marks)),(AV.list o (List.map X1 x.Store)),(AV.list o (List.map X0h x.Events)),(AV.list o (List.map X01 x.Rows)),(AV.list o (List.map X4 x.Late))]
theorem X0f (o:Bool) (x:X0a):X70 (Xr o x):=fun _=>rfl
theorem X5k (o:Bool) (x:X0a):Xak (Xr o x):=Xp2 (fun _=>(X0z .sc (X0z .sc (X0z .sc (X0z .list (X0z .list (X0z .list (X0z .list (X0z .list (X0z .list X78))))))))))
theorem Xtd {H:X0j} {o:Bool} {x:X0a}:Cv false H (Xr o x) (Xr false x):=Xly (Cvs.cons .sc (Cvs.cons .sc (Cvs.cons .sc (Cvs.cons (X5r (X2o Xcg _)) (Cvs.cons (X5r (X2o (fun _=>Xdx) _)) (Cvs.cons (X5r (X2o X5d _)) (Cvs.cons (X5r (X2o Xd1 _)) (Cvs.cons (X5r (X2o Xhd _)) (Cvs.cons (X5r (X2o Xc0 _)) Cvs.nil)))))))))
theorem Xtc {H:X0j} {o:Bool} {x:X0a}:Cv true H (Xr o x) (Xr o x):=Xly (Cvs.cons .sc (Cvs.cons .sc (Cvs.cons .sc (Cvs.cons (.listS rfl) (Cvs.cons (.listS rfl) (Cvs.cons (.listS rfl) (Cvs.cons (.listS rfl) (Cvs.cons (.listS rfl) (Cvs.cons (.listS rfl) Cvs.nil)))))))))
instance X01w:Xzy Xr:=⟨Xtd,Xtc,fun _ _ _=>rfl,X5k,X0f⟩
def X8 (x:Xg):AV:=.agg [(aI .i64 x.at_),(aI .i64 x.size),(aI .i64 x.depth)]
theorem Xbz (x:Xg):X9z (X8 x):=(X29 (X29 (X29 Xfy)))
theorem X0o (x:Xg):X70 (X8 x):=fun _=>rfl
theorem X6u (x:Xg):Xak (X8 x):=X4c (Xbz x) rfl
instance Xwl:Xc5 X8:=⟨Xbz,fun _=>rfl,X0o⟩
def X86 (x:(V2 Bool)):AV:=.agg [(aB x.e0),(aB x.e1)]
theorem Xwj (x:(V2 Bool)):X9z (X86 x):=(X29 (X29 Xfy))
theorem Xga (x:(V2 Bool)):Xak (X86 x):=X4c (Xwj x) rfl
theorem wkA {P:Prop} (h:P:=by
  first
    |exact trivial
    |rfl
    |exact .sc
    |exact .list
    |exact .nils
    |exact .ref (by decide)
    |exact .ptr (by decide)
    |exact Xrv
    |(refine AV.Ok.tup ?_;repeat' first|exact X78|refine X0z ?_ ?_|exact .sc|exact .nils|exact .list|exact .ref (by decide)|exact .ptr (by decide))
    |(refine congrArg AV.tup ?_;repeat' first|rfl|(refine congrArg (fun z=>AV.ref _ 0 z) ?_;first|rfl|omega|(simp;done)|(simp;omega))|(show AV.ref _ 0 _=AV.ref _ 0 _;congr 1;first|omega|(simp;done))|(refine congrArg (fun z=>AV.sc (Value.int IntKind.i64 z)) ?_;first|rfl|omega|assumption|(simp;done))|refine congr (congrArg List.cons ?_) ?_|(show(_::_:List AV)=_::_;refine congr (congrArg List.cons ?_) ?_))
    |exact .fn (X0z (.ptr (by decide)) X78)
    |exact .fn (X0z (.ptr (by decide)) (X0z (.ptr (by decide)) X78))
    |exact .fn (X0z (.ptr (by decide)) (X0z (.ptr (by decide)) (X0z (.ptr (by decide)) X78)))
    |assumption
    |exact(Xcf _ _).1
    |exact(X9m _ _).1
    |exact(X4l true _ _).1
    |exact(X4l false _ _).1
    |exact(X9n _ _).1
    |exact(Xcd _ _).1
    |exact(free_V2i64 _ _).1
    |exact(Xdt _ _).1
    |exact(X85 _ _).1
    |exact(free_GOp _ _).1
    |exact(Xce _ _).1
    |exact(Xb3 _ _).1
    |exact(free_V2GAccum _ _).1
    |exact(Xb2 _ _).1
    |exact(Xb1 _ _).1
    |exact(X5k true _ _).1
    |exact(X5k false _ _).1
    |exact(X6u _ _).1
    |exact(Xga _ _).1
    |(refine congrArg (fun z=>AV.sc (Value.int IntKind.i64 z)) ?_;first|rfl|omega|assumption|(simp;done)|(simp;omega))
    |(refine congrArg (fun z=>AV.sc (Value.bool z)) ?_;first|rfl|assumption|(simp;done))
    |(refine congrArg (fun z=>AV.ref _ 0 z) ?_;first|rfl|omega|(simp;done)|(simp;omega))
    |(show AV.ref _ 0 _=AV.ref _ 0 _;congr 1;first|(simp;done)|(simp;omega))
    |(simp[slE,opE,nbF,nbT,nbS,AV.ren,List.map_take,List.map_drop];done)
    |(simp[slE,opE,nbF,nbT,nbS,AV.ren,List.map_take,List.map_drop, *];done)
    |(simp[AV.ren, *];done)
    |exact wkSl rfl
    |exact okSl (by decide)
    |(refine aggV ?_;repeat' first|exact trivial|refine And.intro ?_ ?_|rfl|exact wkSl rfl|(refine refR rfl ?_;first|rfl|(simp;done)|(simp;omega)))
    |(refine aggOk ?_;repeat' first|exact X78|refine X0z ?_ ?_|exact .sc|exact .list|exact .nils|exact .ref (by decide)|exact .ptr (by decide)|exact okSl (by decide)|exact okF|exact okG|exact Xrv)):P:=h
theorem wkR0 {P:Prop} (h:P:=by
  first
    |exact X2x Xcf _ _
    |exact X2w (Xcf _) _
    |exact free_cons Xcf _ _ _
    |exact X2x X9m _ _
    |exact X2w (X9m _) _
    |exact free_cons X9m _ _ _
    |exact X2x (X4l true) _ _
    |exact X2w ((X4l true) _) _
    |exact free_cons (X4l true) _ _ _
    |exact X2x (X4l false) _ _
    |exact X2w ((X4l false) _) _
    |exact free_cons (X4l false) _ _ _
    |exact X2x X9n _ _
    |exact X2w (X9n _) _
    |exact free_cons X9n _ _ _
    |exact X2x Xcd _ _
    |exact X2w (Xcd _) _
    |exact free_cons Xcd _ _ _
    |exact X2x free_V2i64 _ _
    |exact X2w (free_V2i64 _) _
    |exact free_cons free_V2i64 _ _ _
    |exact X2x Xdt _ _
    |exact X2w (Xdt _) _
    |exact free_cons Xdt _ _ _
    |exact X2x X85 _ _
    |exact X2w (X85 _) _
    |exact free_cons X85 _ _ _
    |exact X2x free_GOp _ _
    |exact X2w (free_GOp _) _
    |exact free_cons free_GOp _ _ _
    |exact X2x Xce _ _
    |exact X2w (Xce _) _
    |exact free_cons Xce _ _ _
    |exact X2x Xb3 _ _
    |exact X2w (Xb3 _) _
    |exact free_cons Xb3 _ _ _
    |exact X2x free_V2GAccum _ _
    |exact X2w (free_V2GAccum _) _
    |exact free_cons free_V2GAccum _ _ _
    |exact X2x Xb2 _ _
    |exact X2w (Xb2 _) _
    |exact free_cons Xb2 _ _ _
    |exact X2x Xb1 _ _
    |exact X2w (Xb1 _) _
    |exact free_cons Xb1 _ _ _
    |exact X2x (X5k true) _ _
    |exact X2w ((X5k true) _) _
    |exact free_cons (X5k true) _ _ _
    |exact X2x (X5k false) _ _
    |exact X2w ((X5k false) _) _
    |exact free_cons (X5k false) _ _ _
    |exact X2x X6u _ _
    |exact X2w (X6u _) _
    |exact free_cons X6u _ _ _
    |exact X2x Xga _ _
    |exact X2w (Xga _) _
    |exact free_cons Xga _ _ _
    |exact X2x (fun _=>Xsx) _ _
    |exact X2w ((fun _=>Xsx) _) _
    |exact free_cons (fun _=>Xsx) _ _ _
    |exact X2x (fun _=>free_encl) _ _
    |exact X2w ((fun _=>free_encl) _) _
    |exact free_cons (fun _=>free_encl) _ _ _
    |(refine⟨_,rfl,rfl,Eq.trans ?_ (X0 (X5 X2g _) _)⟩;rfl)
    |(refine⟨_,rfl,rfl,Eq.trans ?_ (X0 (still_cons X2g _ _) _)⟩;rfl)
    |(refine⟨_,rfl,rfl,Eq.trans ?_ (X0 (X5 X2g _) _)⟩;(simp;done))
    |(refine⟨_,rfl,rfl,Eq.trans ?_ (X0 (still_cons X2g _ _) _)⟩;(simp;done))
    |(refine⟨_,rfl,rfl,Eq.trans ?_ (X0 (X5 X2g _) _)⟩;(simp;rfl))
    |(refine⟨_,rfl,rfl,Eq.trans ?_ (X0 (still_cons X2g _ _) _)⟩;(simp;rfl))
    |(refine⟨_,rfl,rfl,Eq.trans ?_ (X0 (X5 X2g _) _)⟩;(exact Eq.symm (Eq.trans List.map_append rfl)))
    |(refine⟨_,rfl,rfl,Eq.trans ?_ (X0 (X5 X2g _) _)⟩;(rw[List.map_append];rfl))
    |(refine⟨_,rfl,rfl,Eq.trans ?_ (X0 (X5 X2g _) _)⟩;(rw[List.map_set];rfl))
    |(refine⟨_,rfl,rfl,Eq.trans ?_ (X0 (X5 X2g _) _)⟩;(simp[*];done))
    |(refine⟨_,rfl,rfl,Eq.trans ?_ (X0 (still_cons X2g _ _) _)⟩;(simp[*];done))
    |(refine⟨_,rfl,rfl,Eq.trans ?_ (X0 (X5 X2g _) _)⟩;(rw[List.map_replicate];rfl))
    |(refine⟨_,rfl,rfl,Eq.trans ?_ (X0 (X5 X1i _) _)⟩;rfl)
    |(refine⟨_,rfl,rfl,Eq.trans ?_ (X0 (still_cons X1i _ _) _)⟩;rfl)
    |(refine⟨_,rfl,rfl,Eq.trans ?_ (X0 (X5 X1i _) _)⟩;(simp;done))
    |(refine⟨_,rfl,rfl,Eq.trans ?_ (X0 (still_cons X1i _ _) _)⟩;(simp;done))
    |(refine⟨_,rfl,rfl,Eq.trans ?_ (X0 (X5 X1i _) _)⟩;(simp;rfl))
    |(refine⟨_,rfl,rfl,Eq.trans ?_ (X0 (still_cons X1i _ _) _)⟩;(simp;rfl))
    |(refine⟨_,rfl,rfl,Eq.trans ?_ (X0 (X5 X1i _) _)⟩;(exact Eq.symm (Eq.trans List.map_append rfl)))
    |(refine⟨_,rfl,rfl,Eq.trans ?_ (X0 (X5 X1i _) _)⟩;(rw[List.map_append];rfl))
    |(refine⟨_,rfl,rfl,Eq.trans ?_ (X0 (X5 X1i _) _)⟩;(rw[List.map_set];rfl))
    |(refine⟨_,rfl,rfl,Eq.trans ?_ (X0 (X5 X1i _) _)⟩;(simp[*];done))
    |(refine⟨_,rfl,rfl,Eq.trans ?_ (X0 (still_cons X1i _ _) _)⟩;(simp[*];done))
    |(refine⟨_,rfl,rfl,Eq.trans ?_ (X0 (X5 X1i _) _)⟩;(rw[List.map_replicate];rfl))
    |(refine⟨_,rfl,rfl,Eq.trans ?_ (X0 (X5 (X04 true) _) _)⟩;rfl)
    |(refine⟨_,rfl,rfl,Eq.trans ?_ (X0 (still_cons (X04 true) _ _) _)⟩;rfl)
    |(refine⟨_,rfl,rfl,Eq.trans ?_ (X0 (X5 (X04 true) _) _)⟩;(simp;done))
    |(refine⟨_,rfl,rfl,Eq.trans ?_ (X0 (still_cons (X04 true) _ _) _)⟩;(simp;done))
    |(refine⟨_,rfl,rfl,Eq.trans ?_ (X0 (X5 (X04 true) _) _)⟩;(simp;rfl))
    |(refine⟨_,rfl,rfl,Eq.trans ?_ (X0 (still_cons (X04 true) _ _) _)⟩;(simp;rfl))
    |(refine⟨_,rfl,rfl,Eq.trans ?_ (X0 (X5 (X04 true) _) _)⟩;(exact Eq.symm (Eq.trans List.map_append rfl)))
    |(refine⟨_,rfl,rfl,Eq.trans ?_ (X0 (X5 (X04 true) _) _)⟩;(rw[List.map_append];rfl))
    |(refine⟨_,rfl,rfl,Eq.trans ?_ (X0 (X5 (X04 true) _) _)⟩;(rw[List.map_set];rfl))
    |(refine⟨_,rfl,rfl,Eq.trans ?_ (X0 (X5 (X04 true) _) _)⟩;(simp[*];done))
    |(refine⟨_,rfl,rfl,Eq.trans ?_ (X0 (still_cons (X04 true) _ _) _)⟩;(simp[*];done))
    |(refine⟨_,rfl,rfl,Eq.trans ?_ (X0 (X5 (X04 true) _) _)⟩;(rw[List.map_replicate];rfl))
    |(refine⟨_,rfl,rfl,Eq.trans ?_ (X0 (X5 (X04 false) _) _)⟩;rfl)
    |(refine⟨_,rfl,rfl,Eq.trans ?_ (X0 (still_cons (X04 false) _ _) _)⟩;rfl)
    |(refine⟨_,rfl,rfl,Eq.trans ?_ (X0 (X5 (X04 false) _) _)⟩;(simp;done))
    |(refine⟨_,rfl,rfl,Eq.trans ?_ (X0 (still_cons (X04 false) _ _) _)⟩;(simp;done))
    |(refine⟨_,rfl,rfl,Eq.trans ?_ (X0 (X5 (X04 false) _) _)⟩;(simp;rfl))
    |(refine⟨_,rfl,rfl,Eq.trans ?_ (X0 (still_cons (X04 false) _ _) _)⟩;(simp;rfl))
    |(refine⟨_,rfl,rfl,Eq.trans ?_ (X0 (X5 (X04 false) _) _)⟩;(exact Eq.symm (Eq.trans List.map_append rfl)))
    |(refine⟨_,rfl,rfl,Eq.trans ?_ (X0 (X5 (X04 false) _) _)⟩;(rw[List.map_append];rfl))
    |(refine⟨_,rfl,rfl,Eq.trans ?_ (X0 (X5 (X04 false) _) _)⟩;(rw[List.map_set];rfl))
    |(refine⟨_,rfl,rfl,Eq.trans ?_ (X0 (X5 (X04 false) _) _)⟩;(simp[*];done))
    |(refine⟨_,rfl,rfl,Eq.trans ?_ (X0 (still_cons (X04 false) _ _) _)⟩;(simp[*];done))
    |(refine⟨_,rfl,rfl,Eq.trans ?_ (X0 (X5 (X04 false) _) _)⟩;(rw[List.map_replicate];rfl))
    |(refine⟨_,rfl,rfl,Eq.trans ?_ (X0 (X5 X1j _) _)⟩;rfl)
    |(refine⟨_,rfl,rfl,Eq.trans ?_ (X0 (still_cons X1j _ _) _)⟩;rfl)
    |(refine⟨_,rfl,rfl,Eq.trans ?_ (X0 (X5 X1j _) _)⟩;(simp;done))
    |(refine⟨_,rfl,rfl,Eq.trans ?_ (X0 (still_cons X1j _ _) _)⟩;(simp;done))
    |(refine⟨_,rfl,rfl,Eq.trans ?_ (X0 (X5 X1j _) _)⟩;(simp;rfl))
    |(refine⟨_,rfl,rfl,Eq.trans ?_ (X0 (still_cons X1j _ _) _)⟩;(simp;rfl))
    |(refine⟨_,rfl,rfl,Eq.trans ?_ (X0 (X5 X1j _) _)⟩;(exact Eq.symm (Eq.trans List.map_append rfl)))
    |(refine⟨_,rfl,rfl,Eq.trans ?_ (X0 (X5 X1j _) _)⟩;(rw[List.map_append];rfl))
    |(refine⟨_,rfl,rfl,Eq.trans ?_ (X0 (X5 X1j _) _)⟩;(rw[List.map_set];rfl))):P:=h
theorem wkR1 {P:Prop} (h:P:=by
  first
    |(refine⟨_,rfl,rfl,Eq.trans ?_ (X0 (X5 X1j _) _)⟩;(simp[*];done))
    |(refine⟨_,rfl,rfl,Eq.trans ?_ (X0 (still_cons X1j _ _) _)⟩;(simp[*];done))
    |(refine⟨_,rfl,rfl,Eq.trans ?_ (X0 (X5 X1j _) _)⟩;(rw[List.map_replicate];rfl))
    |(refine⟨_,rfl,rfl,Eq.trans ?_ (X0 (X5 X2e _) _)⟩;rfl)
    |(refine⟨_,rfl,rfl,Eq.trans ?_ (X0 (still_cons X2e _ _) _)⟩;rfl)
    |(refine⟨_,rfl,rfl,Eq.trans ?_ (X0 (X5 X2e _) _)⟩;(simp;done))
    |(refine⟨_,rfl,rfl,Eq.trans ?_ (X0 (still_cons X2e _ _) _)⟩;(simp;done))
    |(refine⟨_,rfl,rfl,Eq.trans ?_ (X0 (X5 X2e _) _)⟩;(simp;rfl))
    |(refine⟨_,rfl,rfl,Eq.trans ?_ (X0 (still_cons X2e _ _) _)⟩;(simp;rfl))
    |(refine⟨_,rfl,rfl,Eq.trans ?_ (X0 (X5 X2e _) _)⟩;(exact Eq.symm (Eq.trans List.map_append rfl)))
    |(refine⟨_,rfl,rfl,Eq.trans ?_ (X0 (X5 X2e _) _)⟩;(rw[List.map_append];rfl))
    |(refine⟨_,rfl,rfl,Eq.trans ?_ (X0 (X5 X2e _) _)⟩;(rw[List.map_set];rfl))
    |(refine⟨_,rfl,rfl,Eq.trans ?_ (X0 (X5 X2e _) _)⟩;(simp[*];done))
    |(refine⟨_,rfl,rfl,Eq.trans ?_ (X0 (still_cons X2e _ _) _)⟩;(simp[*];done))
    |(refine⟨_,rfl,rfl,Eq.trans ?_ (X0 (X5 X2e _) _)⟩;(rw[List.map_replicate];rfl))
    |(refine⟨_,rfl,rfl,Eq.trans ?_ (X0 (X5 still_V2i64 _) _)⟩;rfl)
    |(refine⟨_,rfl,rfl,Eq.trans ?_ (X0 (still_cons still_V2i64 _ _) _)⟩;rfl)
    |(refine⟨_,rfl,rfl,Eq.trans ?_ (X0 (X5 still_V2i64 _) _)⟩;(simp;done))
    |(refine⟨_,rfl,rfl,Eq.trans ?_ (X0 (still_cons still_V2i64 _ _) _)⟩;(simp;done))
    |(refine⟨_,rfl,rfl,Eq.trans ?_ (X0 (X5 still_V2i64 _) _)⟩;(simp;rfl))
    |(refine⟨_,rfl,rfl,Eq.trans ?_ (X0 (still_cons still_V2i64 _ _) _)⟩;(simp;rfl))
    |(refine⟨_,rfl,rfl,Eq.trans ?_ (X0 (X5 still_V2i64 _) _)⟩;(exact Eq.symm (Eq.trans List.map_append rfl)))
    |(refine⟨_,rfl,rfl,Eq.trans ?_ (X0 (X5 still_V2i64 _) _)⟩;(rw[List.map_append];rfl))
    |(refine⟨_,rfl,rfl,Eq.trans ?_ (X0 (X5 still_V2i64 _) _)⟩;(rw[List.map_set];rfl))
    |(refine⟨_,rfl,rfl,Eq.trans ?_ (X0 (X5 still_V2i64 _) _)⟩;(simp[*];done))
    |(refine⟨_,rfl,rfl,Eq.trans ?_ (X0 (still_cons still_V2i64 _ _) _)⟩;(simp[*];done))
    |(refine⟨_,rfl,rfl,Eq.trans ?_ (X0 (X5 still_V2i64 _) _)⟩;(rw[List.map_replicate];rfl))
    |(refine⟨_,rfl,rfl,Eq.trans ?_ (X0 (X5 X30 _) _)⟩;rfl)
    |(refine⟨_,rfl,rfl,Eq.trans ?_ (X0 (still_cons X30 _ _) _)⟩;rfl)
    |(refine⟨_,rfl,rfl,Eq.trans ?_ (X0 (X5 X30 _) _)⟩;(simp;done))
    |(refine⟨_,rfl,rfl,Eq.trans ?_ (X0 (still_cons X30 _ _) _)⟩;(simp;done))
    |(refine⟨_,rfl,rfl,Eq.trans ?_ (X0 (X5 X30 _) _)⟩;(simp;rfl))
    |(refine⟨_,rfl,rfl,Eq.trans ?_ (X0 (still_cons X30 _ _) _)⟩;(simp;rfl))
    |(refine⟨_,rfl,rfl,Eq.trans ?_ (X0 (X5 X30 _) _)⟩;(exact Eq.symm (Eq.trans List.map_append rfl)))
    |(refine⟨_,rfl,rfl,Eq.trans ?_ (X0 (X5 X30 _) _)⟩;(rw[List.map_append];rfl))
    |(refine⟨_,rfl,rfl,Eq.trans ?_ (X0 (X5 X30 _) _)⟩;(rw[List.map_set];rfl))
    |(refine⟨_,rfl,rfl,Eq.trans ?_ (X0 (X5 X30 _) _)⟩;(simp[*];done))
    |(refine⟨_,rfl,rfl,Eq.trans ?_ (X0 (still_cons X30 _ _) _)⟩;(simp[*];done))
    |(refine⟨_,rfl,rfl,Eq.trans ?_ (X0 (X5 X30 _) _)⟩;(rw[List.map_replicate];rfl))
    |(refine⟨_,rfl,rfl,Eq.trans ?_ (X0 (X5 X17 _) _)⟩;rfl)
    |(refine⟨_,rfl,rfl,Eq.trans ?_ (X0 (still_cons X17 _ _) _)⟩;rfl)
    |(refine⟨_,rfl,rfl,Eq.trans ?_ (X0 (X5 X17 _) _)⟩;(simp;done))
    |(refine⟨_,rfl,rfl,Eq.trans ?_ (X0 (still_cons X17 _ _) _)⟩;(simp;done))
    |(refine⟨_,rfl,rfl,Eq.trans ?_ (X0 (X5 X17 _) _)⟩;(simp;rfl))
    |(refine⟨_,rfl,rfl,Eq.trans ?_ (X0 (still_cons X17 _ _) _)⟩;(simp;rfl))
    |(refine⟨_,rfl,rfl,Eq.trans ?_ (X0 (X5 X17 _) _)⟩;(exact Eq.symm (Eq.trans List.map_append rfl)))
    |(refine⟨_,rfl,rfl,Eq.trans ?_ (X0 (X5 X17 _) _)⟩;(rw[List.map_append];rfl))
    |(refine⟨_,rfl,rfl,Eq.trans ?_ (X0 (X5 X17 _) _)⟩;(rw[List.map_set];rfl))
    |(refine⟨_,rfl,rfl,Eq.trans ?_ (X0 (X5 X17 _) _)⟩;(simp[*];done))
    |(refine⟨_,rfl,rfl,Eq.trans ?_ (X0 (still_cons X17 _ _) _)⟩;(simp[*];done))
    |(refine⟨_,rfl,rfl,Eq.trans ?_ (X0 (X5 X17 _) _)⟩;(rw[List.map_replicate];rfl))
    |(refine⟨_,rfl,rfl,Eq.trans ?_ (X0 (X5 still_GOp _) _)⟩;rfl)
    |(refine⟨_,rfl,rfl,Eq.trans ?_ (X0 (still_cons still_GOp _ _) _)⟩;rfl)
    |(refine⟨_,rfl,rfl,Eq.trans ?_ (X0 (X5 still_GOp _) _)⟩;(simp;done))
    |(refine⟨_,rfl,rfl,Eq.trans ?_ (X0 (still_cons still_GOp _ _) _)⟩;(simp;done))
    |(refine⟨_,rfl,rfl,Eq.trans ?_ (X0 (X5 still_GOp _) _)⟩;(simp;rfl))
    |(refine⟨_,rfl,rfl,Eq.trans ?_ (X0 (still_cons still_GOp _ _) _)⟩;(simp;rfl))
    |(refine⟨_,rfl,rfl,Eq.trans ?_ (X0 (X5 still_GOp _) _)⟩;(exact Eq.symm (Eq.trans List.map_append rfl)))
    |(refine⟨_,rfl,rfl,Eq.trans ?_ (X0 (X5 still_GOp _) _)⟩;(rw[List.map_append];rfl))
    |(refine⟨_,rfl,rfl,Eq.trans ?_ (X0 (X5 still_GOp _) _)⟩;(rw[List.map_set];rfl))
    |(refine⟨_,rfl,rfl,Eq.trans ?_ (X0 (X5 still_GOp _) _)⟩;(simp[*];done))
    |(refine⟨_,rfl,rfl,Eq.trans ?_ (X0 (still_cons still_GOp _ _) _)⟩;(simp[*];done))
    |(refine⟨_,rfl,rfl,Eq.trans ?_ (X0 (X5 still_GOp _) _)⟩;(rw[List.map_replicate];rfl))
    |(refine⟨_,rfl,rfl,Eq.trans ?_ (X0 (X5 X2f _) _)⟩;rfl)
    |(refine⟨_,rfl,rfl,Eq.trans ?_ (X0 (still_cons X2f _ _) _)⟩;rfl)
    |(refine⟨_,rfl,rfl,Eq.trans ?_ (X0 (X5 X2f _) _)⟩;(simp;done))
    |(refine⟨_,rfl,rfl,Eq.trans ?_ (X0 (still_cons X2f _ _) _)⟩;(simp;done))
    |(refine⟨_,rfl,rfl,Eq.trans ?_ (X0 (X5 X2f _) _)⟩;(simp;rfl))
    |(refine⟨_,rfl,rfl,Eq.trans ?_ (X0 (still_cons X2f _ _) _)⟩;(simp;rfl))
    |(refine⟨_,rfl,rfl,Eq.trans ?_ (X0 (X5 X2f _) _)⟩;(exact Eq.symm (Eq.trans List.map_append rfl)))
    |(refine⟨_,rfl,rfl,Eq.trans ?_ (X0 (X5 X2f _) _)⟩;(rw[List.map_append];rfl))
    |(refine⟨_,rfl,rfl,Eq.trans ?_ (X0 (X5 X2f _) _)⟩;(rw[List.map_set];rfl))
    |(refine⟨_,rfl,rfl,Eq.trans ?_ (X0 (X5 X2f _) _)⟩;(simp[*];done))
    |(refine⟨_,rfl,rfl,Eq.trans ?_ (X0 (still_cons X2f _ _) _)⟩;(simp[*];done))
    |(refine⟨_,rfl,rfl,Eq.trans ?_ (X0 (X5 X2f _) _)⟩;(rw[List.map_replicate];rfl))
    |(refine⟨_,rfl,rfl,Eq.trans ?_ (X0 (X5 X20 _) _)⟩;rfl)
    |(refine⟨_,rfl,rfl,Eq.trans ?_ (X0 (still_cons X20 _ _) _)⟩;rfl)
    |(refine⟨_,rfl,rfl,Eq.trans ?_ (X0 (X5 X20 _) _)⟩;(simp;done))
    |(refine⟨_,rfl,rfl,Eq.trans ?_ (X0 (still_cons X20 _ _) _)⟩;(simp;done))
    |(refine⟨_,rfl,rfl,Eq.trans ?_ (X0 (X5 X20 _) _)⟩;(simp;rfl))
    |(refine⟨_,rfl,rfl,Eq.trans ?_ (X0 (still_cons X20 _ _) _)⟩;(simp;rfl))
    |(refine⟨_,rfl,rfl,Eq.trans ?_ (X0 (X5 X20 _) _)⟩;(exact Eq.symm (Eq.trans List.map_append rfl)))
    |(refine⟨_,rfl,rfl,Eq.trans ?_ (X0 (X5 X20 _) _)⟩;(rw[List.map_append];rfl))
    |(refine⟨_,rfl,rfl,Eq.trans ?_ (X0 (X5 X20 _) _)⟩;(rw[List.map_set];rfl))
    |(refine⟨_,rfl,rfl,Eq.trans ?_ (X0 (X5 X20 _) _)⟩;(simp[*];done))
    |(refine⟨_,rfl,rfl,Eq.trans ?_ (X0 (still_cons X20 _ _) _)⟩;(simp[*];done))
    |(refine⟨_,rfl,rfl,Eq.trans ?_ (X0 (X5 X20 _) _)⟩;(rw[List.map_replicate];rfl))
    |(refine⟨_,rfl,rfl,Eq.trans ?_ (X0 (X5 still_V2GAccum _) _)⟩;rfl)
    |(refine⟨_,rfl,rfl,Eq.trans ?_ (X0 (still_cons still_V2GAccum _ _) _)⟩;rfl)
    |(refine⟨_,rfl,rfl,Eq.trans ?_ (X0 (X5 still_V2GAccum _) _)⟩;(simp;done))
    |(refine⟨_,rfl,rfl,Eq.trans ?_ (X0 (still_cons still_V2GAccum _ _) _)⟩;(simp;done))
    |(refine⟨_,rfl,rfl,Eq.trans ?_ (X0 (X5 still_V2GAccum _) _)⟩;(simp;rfl))
    |(refine⟨_,rfl,rfl,Eq.trans ?_ (X0 (still_cons still_V2GAccum _ _) _)⟩;(simp;rfl))
    |(refine⟨_,rfl,rfl,Eq.trans ?_ (X0 (X5 still_V2GAccum _) _)⟩;(exact Eq.symm (Eq.trans List.map_append rfl)))
    |(refine⟨_,rfl,rfl,Eq.trans ?_ (X0 (X5 still_V2GAccum _) _)⟩;(rw[List.map_append];rfl))
    |(refine⟨_,rfl,rfl,Eq.trans ?_ (X0 (X5 still_V2GAccum _) _)⟩;(rw[List.map_set];rfl))
    |(refine⟨_,rfl,rfl,Eq.trans ?_ (X0 (X5 still_V2GAccum _) _)⟩;(simp[*];done))
    |(refine⟨_,rfl,rfl,Eq.trans ?_ (X0 (still_cons still_V2GAccum _ _) _)⟩;(simp[*];done))
    |(refine⟨_,rfl,rfl,Eq.trans ?_ (X0 (X5 still_V2GAccum _) _)⟩;(rw[List.map_replicate];rfl))
    |(refine⟨_,rfl,rfl,Eq.trans ?_ (X0 (X5 X1z _) _)⟩;rfl)
    |(refine⟨_,rfl,rfl,Eq.trans ?_ (X0 (still_cons X1z _ _) _)⟩;rfl)
    |(refine⟨_,rfl,rfl,Eq.trans ?_ (X0 (X5 X1z _) _)⟩;(simp;done))
    |(refine⟨_,rfl,rfl,Eq.trans ?_ (X0 (still_cons X1z _ _) _)⟩;(simp;done))
    |(refine⟨_,rfl,rfl,Eq.trans ?_ (X0 (X5 X1z _) _)⟩;(simp;rfl))
    |(refine⟨_,rfl,rfl,Eq.trans ?_ (X0 (still_cons X1z _ _) _)⟩;(simp;rfl))
    |(refine⟨_,rfl,rfl,Eq.trans ?_ (X0 (X5 X1z _) _)⟩;(exact Eq.symm (Eq.trans List.map_append rfl)))
    |(refine⟨_,rfl,rfl,Eq.trans ?_ (X0 (X5 X1z _) _)⟩;(rw[List.map_append];rfl))
    |(refine⟨_,rfl,rfl,Eq.trans ?_ (X0 (X5 X1z _) _)⟩;(rw[List.map_set];rfl))
    |(refine⟨_,rfl,rfl,Eq.trans ?_ (X0 (X5 X1z _) _)⟩;(simp[*];done))
    |(refine⟨_,rfl,rfl,Eq.trans ?_ (X0 (still_cons X1z _ _) _)⟩;(simp[*];done))
    |(refine⟨_,rfl,rfl,Eq.trans ?_ (X0 (X5 X1z _) _)⟩;(rw[List.map_replicate];rfl))
    |(refine⟨_,rfl,rfl,Eq.trans ?_ (X0 (X5 X1y _) _)⟩;rfl)
    |(refine⟨_,rfl,rfl,Eq.trans ?_ (X0 (still_cons X1y _ _) _)⟩;rfl)
    |(refine⟨_,rfl,rfl,Eq.trans ?_ (X0 (X5 X1y _) _)⟩;(simp;done))
    |(refine⟨_,rfl,rfl,Eq.trans ?_ (X0 (still_cons X1y _ _) _)⟩;(simp;done))
    |(refine⟨_,rfl,rfl,Eq.trans ?_ (X0 (X5 X1y _) _)⟩;(simp;rfl))
    |(refine⟨_,rfl,rfl,Eq.trans ?_ (X0 (still_cons X1y _ _) _)⟩;(simp;rfl))
    |(refine⟨_,rfl,rfl,Eq.trans ?_ (X0 (X5 X1y _) _)⟩;(exact Eq.symm (Eq.trans List.map_append rfl)))
    |(refine⟨_,rfl,rfl,Eq.trans ?_ (X0 (X5 X1y _) _)⟩;(rw[List.map_append];rfl))
    |(refine⟨_,rfl,rfl,Eq.trans ?_ (X0 (X5 X1y _) _)⟩;(rw[List.map_set];rfl))):P:=h
theorem wkR2 {P:Prop} (h:P:=by
  first
    |(refine⟨_,rfl,rfl,Eq.trans ?_ (X0 (X5 X1y _) _)⟩;(simp[*];done))
    |(refine⟨_,rfl,rfl,Eq.trans ?_ (X0 (still_cons X1y _ _) _)⟩;(simp[*];done))
    |(refine⟨_,rfl,rfl,Eq.trans ?_ (X0 (X5 X1y _) _)⟩;(rw[List.map_replicate];rfl))
    |(refine⟨_,rfl,rfl,Eq.trans ?_ (X0 (X5 (X0f true) _) _)⟩;rfl)
    |(refine⟨_,rfl,rfl,Eq.trans ?_ (X0 (still_cons (X0f true) _ _) _)⟩;rfl)
    |(refine⟨_,rfl,rfl,Eq.trans ?_ (X0 (X5 (X0f true) _) _)⟩;(simp;done))
    |(refine⟨_,rfl,rfl,Eq.trans ?_ (X0 (still_cons (X0f true) _ _) _)⟩;(simp;done))
    |(refine⟨_,rfl,rfl,Eq.trans ?_ (X0 (X5 (X0f true) _) _)⟩;(simp;rfl))
    |(refine⟨_,rfl,rfl,Eq.trans ?_ (X0 (still_cons (X0f true) _ _) _)⟩;(simp;rfl))
    |(refine⟨_,rfl,rfl,Eq.trans ?_ (X0 (X5 (X0f true) _) _)⟩;(exact Eq.symm (Eq.trans List.map_append rfl)))
    |(refine⟨_,rfl,rfl,Eq.trans ?_ (X0 (X5 (X0f true) _) _)⟩;(rw[List.map_append];rfl))
    |(refine⟨_,rfl,rfl,Eq.trans ?_ (X0 (X5 (X0f true) _) _)⟩;(rw[List.map_set];rfl))
    |(refine⟨_,rfl,rfl,Eq.trans ?_ (X0 (X5 (X0f true) _) _)⟩;(simp[*];done))
    |(refine⟨_,rfl,rfl,Eq.trans ?_ (X0 (still_cons (X0f true) _ _) _)⟩;(simp[*];done))
    |(refine⟨_,rfl,rfl,Eq.trans ?_ (X0 (X5 (X0f true) _) _)⟩;(rw[List.map_replicate];rfl))
    |(refine⟨_,rfl,rfl,Eq.trans ?_ (X0 (X5 (X0f false) _) _)⟩;rfl)
    |(refine⟨_,rfl,rfl,Eq.trans ?_ (X0 (still_cons (X0f false) _ _) _)⟩;rfl)
    |(refine⟨_,rfl,rfl,Eq.trans ?_ (X0 (X5 (X0f false) _) _)⟩;(simp;done))
    |(refine⟨_,rfl,rfl,Eq.trans ?_ (X0 (still_cons (X0f false) _ _) _)⟩;(simp;done))
    |(refine⟨_,rfl,rfl,Eq.trans ?_ (X0 (X5 (X0f false) _) _)⟩;(simp;rfl))
    |(refine⟨_,rfl,rfl,Eq.trans ?_ (X0 (still_cons (X0f false) _ _) _)⟩;(simp;rfl))
    |(refine⟨_,rfl,rfl,Eq.trans ?_ (X0 (X5 (X0f false) _) _)⟩;(exact Eq.symm (Eq.trans List.map_append rfl)))
    |(refine⟨_,rfl,rfl,Eq.trans ?_ (X0 (X5 (X0f false) _) _)⟩;(rw[List.map_append];rfl))
    |(refine⟨_,rfl,rfl,Eq.trans ?_ (X0 (X5 (X0f false) _) _)⟩;(rw[List.map_set];rfl))
    |(refine⟨_,rfl,rfl,Eq.trans ?_ (X0 (X5 (X0f false) _) _)⟩;(simp[*];done))
    |(refine⟨_,rfl,rfl,Eq.trans ?_ (X0 (still_cons (X0f false) _ _) _)⟩;(simp[*];done))
    |(refine⟨_,rfl,rfl,Eq.trans ?_ (X0 (X5 (X0f false) _) _)⟩;(rw[List.map_replicate];rfl))
    |(refine⟨_,rfl,rfl,Eq.trans ?_ (X0 (X5 X0o _) _)⟩;rfl)
    |(refine⟨_,rfl,rfl,Eq.trans ?_ (X0 (still_cons X0o _ _) _)⟩;rfl)
    |(refine⟨_,rfl,rfl,Eq.trans ?_ (X0 (X5 X0o _) _)⟩;(simp;done))
    |(refine⟨_,rfl,rfl,Eq.trans ?_ (X0 (still_cons X0o _ _) _)⟩;(simp;done))
    |(refine⟨_,rfl,rfl,Eq.trans ?_ (X0 (X5 X0o _) _)⟩;(simp;rfl))
    |(refine⟨_,rfl,rfl,Eq.trans ?_ (X0 (still_cons X0o _ _) _)⟩;(simp;rfl))
    |(refine⟨_,rfl,rfl,Eq.trans ?_ (X0 (X5 X0o _) _)⟩;(exact Eq.symm (Eq.trans List.map_append rfl)))
    |(refine⟨_,rfl,rfl,Eq.trans ?_ (X0 (X5 X0o _) _)⟩;(rw[List.map_append];rfl))
    |(refine⟨_,rfl,rfl,Eq.trans ?_ (X0 (X5 X0o _) _)⟩;(rw[List.map_set];rfl))
    |(refine⟨_,rfl,rfl,Eq.trans ?_ (X0 (X5 X0o _) _)⟩;(simp[*];done))
    |(refine⟨_,rfl,rfl,Eq.trans ?_ (X0 (still_cons X0o _ _) _)⟩;(simp[*];done))
    |(refine⟨_,rfl,rfl,Eq.trans ?_ (X0 (X5 X0o _) _)⟩;(rw[List.map_replicate];rfl))
    |(refine⟨_,rfl,rfl,Eq.trans ?_ (X0 (X5 still_V2b _) _)⟩;rfl)
    |(refine⟨_,rfl,rfl,Eq.trans ?_ (X0 (still_cons still_V2b _ _) _)⟩;rfl)
    |(refine⟨_,rfl,rfl,Eq.trans ?_ (X0 (X5 still_V2b _) _)⟩;(simp;done))
    |(refine⟨_,rfl,rfl,Eq.trans ?_ (X0 (still_cons still_V2b _ _) _)⟩;(simp;done))
    |(refine⟨_,rfl,rfl,Eq.trans ?_ (X0 (X5 still_V2b _) _)⟩;(simp;rfl))
    |(refine⟨_,rfl,rfl,Eq.trans ?_ (X0 (still_cons still_V2b _ _) _)⟩;(simp;rfl))
    |(refine⟨_,rfl,rfl,Eq.trans ?_ (X0 (X5 still_V2b _) _)⟩;(exact Eq.symm (Eq.trans List.map_append rfl)))
    |(refine⟨_,rfl,rfl,Eq.trans ?_ (X0 (X5 still_V2b _) _)⟩;(rw[List.map_append];rfl))
    |(refine⟨_,rfl,rfl,Eq.trans ?_ (X0 (X5 still_V2b _) _)⟩;(rw[List.map_set];rfl))
    |(refine⟨_,rfl,rfl,Eq.trans ?_ (X0 (X5 still_V2b _) _)⟩;(simp[*];done))
    |(refine⟨_,rfl,rfl,Eq.trans ?_ (X0 (still_cons still_V2b _ _) _)⟩;(simp[*];done))
    |(refine⟨_,rfl,rfl,Eq.trans ?_ (X0 (X5 still_V2b _) _)⟩;(rw[List.map_replicate];rfl))
    |(refine⟨_,rfl,rfl,Eq.trans ?_ (X0 (X5 (fun _=>X66) _) _)⟩;rfl)
    |(refine⟨_,rfl,rfl,Eq.trans ?_ (X0 (still_cons (fun _=>X66) _ _) _)⟩;rfl)
    |(refine⟨_,rfl,rfl,Eq.trans ?_ (X0 (X5 (fun _=>X66) _) _)⟩;(simp;done))
    |(refine⟨_,rfl,rfl,Eq.trans ?_ (X0 (still_cons (fun _=>X66) _ _) _)⟩;(simp;done))
    |(refine⟨_,rfl,rfl,Eq.trans ?_ (X0 (X5 (fun _=>X66) _) _)⟩;(simp;rfl))
    |(refine⟨_,rfl,rfl,Eq.trans ?_ (X0 (still_cons (fun _=>X66) _ _) _)⟩;(simp;rfl))
    |(refine⟨_,rfl,rfl,Eq.trans ?_ (X0 (X5 (fun _=>X66) _) _)⟩;(exact Eq.symm (Eq.trans List.map_append rfl)))
    |(refine⟨_,rfl,rfl,Eq.trans ?_ (X0 (X5 (fun _=>X66) _) _)⟩;(rw[List.map_append];rfl))
    |(refine⟨_,rfl,rfl,Eq.trans ?_ (X0 (X5 (fun _=>X66) _) _)⟩;(rw[List.map_set];rfl))
    |(refine⟨_,rfl,rfl,Eq.trans ?_ (X0 (X5 (fun _=>X66) _) _)⟩;(simp[*];done))
    |(refine⟨_,rfl,rfl,Eq.trans ?_ (X0 (still_cons (fun _=>X66) _ _) _)⟩;(simp[*];done))
    |(refine⟨_,rfl,rfl,Eq.trans ?_ (X0 (X5 (fun _=>X66) _) _)⟩;(rw[List.map_replicate];rfl))
    |(refine⟨_,rfl,rfl,Eq.trans ?_ (X0 (X5 (fun _=>still_encl) _) _)⟩;rfl)
    |(refine⟨_,rfl,rfl,Eq.trans ?_ (X0 (still_cons (fun _=>still_encl) _ _) _)⟩;rfl)
    |(refine⟨_,rfl,rfl,Eq.trans ?_ (X0 (X5 (fun _=>still_encl) _) _)⟩;(simp;done))
    |(refine⟨_,rfl,rfl,Eq.trans ?_ (X0 (still_cons (fun _=>still_encl) _ _) _)⟩;(simp;done))
    |(refine⟨_,rfl,rfl,Eq.trans ?_ (X0 (X5 (fun _=>still_encl) _) _)⟩;(simp;rfl))
    |(refine⟨_,rfl,rfl,Eq.trans ?_ (X0 (still_cons (fun _=>still_encl) _ _) _)⟩;(simp;rfl))
    |(refine⟨_,rfl,rfl,Eq.trans ?_ (X0 (X5 (fun _=>still_encl) _) _)⟩;(exact Eq.symm (Eq.trans List.map_append rfl)))
    |(refine⟨_,rfl,rfl,Eq.trans ?_ (X0 (X5 (fun _=>still_encl) _) _)⟩;(rw[List.map_append];rfl))
    |(refine⟨_,rfl,rfl,Eq.trans ?_ (X0 (X5 (fun _=>still_encl) _) _)⟩;(rw[List.map_set];rfl))
    |(refine⟨_,rfl,rfl,Eq.trans ?_ (X0 (X5 (fun _=>still_encl) _) _)⟩;(simp[*];done))
    |(refine⟨_,rfl,rfl,Eq.trans ?_ (X0 (still_cons (fun _=>still_encl) _ _) _)⟩;(simp[*];done))
    |(refine⟨_,rfl,rfl,Eq.trans ?_ (X0 (X5 (fun _=>still_encl) _) _)⟩;(rw[List.map_replicate];rfl))
    |(refine⟨_,rfl,rfl,Eq.trans ?_ (X0 (still_one (X2g _)) _)⟩;simp only[List.length_cons,List.length_map];rfl)
    |(refine⟨_,rfl,rfl,Eq.trans ?_ (X0 (still_one (X1i _)) _)⟩;simp only[List.length_cons,List.length_map];rfl)
    |(refine⟨_,rfl,rfl,Eq.trans ?_ (X0 (still_one ((X04 true) _)) _)⟩;simp only[List.length_cons,List.length_map];rfl)
    |(refine⟨_,rfl,rfl,Eq.trans ?_ (X0 (still_one ((X04 false) _)) _)⟩;simp only[List.length_cons,List.length_map];rfl)
    |(refine⟨_,rfl,rfl,Eq.trans ?_ (X0 (still_one (X1j _)) _)⟩;simp only[List.length_cons,List.length_map];rfl)
    |(refine⟨_,rfl,rfl,Eq.trans ?_ (X0 (still_one (X2e _)) _)⟩;simp only[List.length_cons,List.length_map];rfl)
    |(refine⟨_,rfl,rfl,Eq.trans ?_ (X0 (still_one (still_V2i64 _)) _)⟩;simp only[List.length_cons,List.length_map];rfl)
    |(refine⟨_,rfl,rfl,Eq.trans ?_ (X0 (still_one (X30 _)) _)⟩;simp only[List.length_cons,List.length_map];rfl)
    |(refine⟨_,rfl,rfl,Eq.trans ?_ (X0 (still_one (X17 _)) _)⟩;simp only[List.length_cons,List.length_map];rfl)
    |(refine⟨_,rfl,rfl,Eq.trans ?_ (X0 (still_one (still_GOp _)) _)⟩;simp only[List.length_cons,List.length_map];rfl)
    |(refine⟨_,rfl,rfl,Eq.trans ?_ (X0 (still_one (X2f _)) _)⟩;simp only[List.length_cons,List.length_map];rfl)
    |(refine⟨_,rfl,rfl,Eq.trans ?_ (X0 (still_one (X20 _)) _)⟩;simp only[List.length_cons,List.length_map];rfl)
    |(refine⟨_,rfl,rfl,Eq.trans ?_ (X0 (still_one (still_V2GAccum _)) _)⟩;simp only[List.length_cons,List.length_map];rfl)
    |(refine⟨_,rfl,rfl,Eq.trans ?_ (X0 (still_one (X1z _)) _)⟩;simp only[List.length_cons,List.length_map];rfl)
    |(refine⟨_,rfl,rfl,Eq.trans ?_ (X0 (still_one (X1y _)) _)⟩;simp only[List.length_cons,List.length_map];rfl)
    |(refine⟨_,rfl,rfl,Eq.trans ?_ (X0 (still_one ((X0f true) _)) _)⟩;simp only[List.length_cons,List.length_map];rfl)
    |(refine⟨_,rfl,rfl,Eq.trans ?_ (X0 (still_one ((X0f false) _)) _)⟩;simp only[List.length_cons,List.length_map];rfl)
    |(refine⟨_,rfl,rfl,Eq.trans ?_ (X0 (still_one (X0o _)) _)⟩;simp only[List.length_cons,List.length_map];rfl)
    |(refine⟨_,rfl,rfl,Eq.trans ?_ (X0 (still_one (still_V2b _)) _)⟩;simp only[List.length_cons,List.length_map];rfl)
    |(refine⟨_,rfl,rfl,Eq.trans ?_ (X0 (still_one ((fun _=>X66) _)) _)⟩;simp only[List.length_cons,List.length_map];rfl)
    |(refine⟨_,rfl,rfl,Eq.trans ?_ (X0 (still_one ((fun _=>still_encl) _)) _)⟩;simp only[List.length_cons,List.length_map];rfl)):P:=h
theorem wkB {P:Prop} (h:P:=by
  first
    |exact trivial
    |rfl
    |decide
    |exact⟨_,rfl,rfl,rfl⟩
    |(refine⟨_,rfl,rfl,ref1 ?_⟩;first|rfl|omega|(simp;done)|(simp;omega))
    |exact wkR0
    |exact wkR1
    |exact wkR2
    |(intro e he a ha;rw[List.mem_singleton.1 he] at ha;rw[List.mem_singleton.1 ha];first|exact .sc|exact .list|exact .nils|exact .ref (by decide)|exact .ptr (by decide)|exact Xrv|exact .fn (X0z (.ptr (by decide)) X78)|exact .fn (X0z (.ptr (by decide)) (X0z (.ptr (by decide)) X78)))
    |(intro e he a ha;simp at he;subst he;simp[AV.cells] at ha;first|(subst ha;exact .sc)|(rcases ha with rfl|rfl|rfl|rfl|rfl<;>exact .sc))
    |(refine⟨_,rfl,rfl,aggR ?_⟩;repeat' first|exact trivial|refine And.intro ?_ ?_|rfl|exact wkSl rfl|(refine refR rfl ?_;first|rfl|(simp;done)|(simp;omega)))
    |(refine okAgg ?_;repeat' first|exact X78|refine X0z ?_ ?_|exact .sc|exact .list|exact .nils|exact .ref (by decide)|exact .ptr (by decide)|exact okSl (by decide)|exact okF|exact okG|exact Xrv)):P:=h
theorem rn {P:Program} {T:Ty} {nt n0:Nat} {μ:Mu} {Q:Xz->St->Mu->Prop} {cf cf':Cf} {K K':List Kn} {L L':List (Nat×AV)} {G G':List (Nat×Obj)} {n n':Nat} {hs':List X2q} {ps':List Prop} (hT:Xal P T/\P.follows .mixedOrders=true) (hs:List X2q) (h:Xa8 P T nt 4000 cf K L G n hs []=some (cf',K',L',G',n',hs',ps')) (hp':X4m ps') (k:X3 P nt n0 Q cf' K' ⟨fr L',hp G',n'⟩ μ):X3 P nt n0 Q cf K ⟨fr L,hp G,n⟩ μ:=Xon hT 4000 hs h hp' k
abbrev cc:=@Cvs.cons
abbrev cn:=@Cvs.nil
abbrev pn:=@X5n.none
abbrev Bt:X2q:=.br true
abbrev Bf:X2q:=.br false
abbrev Ob (e:List AV) (n:Nat):Obj:={ es:=e,esz:=n }
abbrev Lf:=AV.list false
theorem Zn {α:Type} {m:Bool} {H:X0j} (f:α->AV):Cv m H .nils (.list m (List.map f ([]:List α))):=.nils
theorem wkT {P : Program} {nt n0 : Nat} {Q : Xz -> St -> Mu -> Prop} {cf : Cf} {K : List Kn} {μ : Mu} {L L' : List (Nat × AV)} {G G' : List (Nat × Obj)} {n n' : Nat} (θ : List (Nat × Nat)) (h : X3 P nt n0 Q cf K ⟨fr L', hp G', n'⟩ μ)
    (hb:(fixB θ n0&&injB θ (G'.map (·.1))&&Nat.ble n0 n')=true:=by rfl) (hL:wkL L θ n' L':=by repeat' first|refine And.intro ?_ ?_|exact wkA) (hG:wkG G θ n' G':=by repeat' first|refine And.intro ?_ ?_|exact wkB):X3 P nt n0 Q cf K ⟨fr L,hp G,n⟩ μ:=X3.weakTo θ h hb hL hG
end Go.Av
namespace Go.D
open Go.Av
def X6w (x y:X07):Bool:=((x.Kind==y.Kind)&&((x.N==y.N)&&((x.A==y.A)&&((x.B==y.B)&&((x.At==y.At)&&true)))))
def X98 (x y:Xl):Bool:=((x.Key==y.Key)&&((x.Time==y.Time)&&((x.Value==y.Value)&&true)))
def Xhh (x y:X05):Bool:=((x.Start==y.Start)&&((x.End==y.End)&&true))
def Xhg (x y:(V2 Int)):Bool:=((x.e0==y.e0)&&((x.e1==y.e1)&&true))
def Xdz (x y:X1x):Bool:=((x.Key==y.Key)&&((Xhh x.Span y.Span)&&((Xhg x.Values y.Values)&&true)))
def X9o (x y:Xh):Bool:=((x.Kind==y.Kind)&&((X98 x.Record y.Record)&&((x.Time==y.Time)&&((Xdz x.Row y.Row)&&true))))
def Xez (x y:X15):Bool:=((x.Count==y.Count)&&((x.Sum==y.Sum)&&((x.Min==y.Min)&&((x.Max==y.Max)&&true))))
def Xg2 (x:X07):Prop:=wfI .u8 x.Kind/\wfI .i64 x.N/\wfI .i64 x.A/\wfI .i64 x.B/\wfI .i64 x.At
def Xir (x:X0n):Prop:=wfI .u8 x.Kind/\wfI .i64 x.Size/\wfI .i64 x.Every
def Xgj (x:X06):Prop:=wfI .u8 x.Agg/\(List.length x.Arg<=maxLen/\∀ y∈x.Arg,Xg2 y)/\(List.length x.Sources<=maxLen/\∀ y∈x.Sources,wfI .i64 y)/\True/\(List.length x.Where<=maxLen/\∀ y∈x.Where,Xg2 y)/\Xir x.Window/\True/\wfI .u8 x.Late
def Xis (x:Xl):Prop:=wfI .i64 x.Key/\wfI .i64 x.Time/\wfI .i64 x.Value
end Go.D
