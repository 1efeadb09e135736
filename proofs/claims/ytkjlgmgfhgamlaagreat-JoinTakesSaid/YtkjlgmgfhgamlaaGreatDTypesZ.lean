/- Printed by decomp.py: the types of the Go program, as data; their encodings. -/
import Derived.Test.YtkjlgmgfhgamlaaGreatAvc
set_option linter.all false

namespace Go.D
theorem Yo {α β:Type} {a:α} {f:α->Option β}:(some a).bind f=f a:=rfl
theorem Yf {p:Prop} [Decidable p] (h:¬ p):decide p=false:=decide_eq_false h
theorem Yt {p:Prop} [Decidable p] (h:p):decide p=true:=decide_eq_true h
theorem Ym {α β:Type} {f:α->β} {l:List α} {i:Nat}:List.map f (List.take i l)=List.take i (List.map f l):=List.map_take
theorem Yd {α β:Type} {f:α->β} {l:List α} {i:Nat}:List.map f (List.drop i l)=List.drop i (List.map f l):=List.map_drop
theorem Ya {a b:Prop} (x:a) (y:b):a/\b:=⟨x,y⟩
theorem Ye {α:Type} {l:List α} {i:Nat} (h:i<l.length):l[i]?=some l[i]:=List.getElem?_eq_getElem h
theorem Ys {α:Type} {l:List α} {i:Nat} {a:α}:l[i]?=some a↔∃ h:i<l.length,l[i]=a:=List.getElem?_eq_some_iff
theorem Yg {α:Type} {l:List α} {i:Nat} {a:α} (h:l[i]?=some a):a∈l:=List.mem_of_getElem? h
structure X0f where
  Kind:Int
  N:Int
  A:Int
  B:Int
  At:Int
  deriving DecidableEq,Inhabited
structure X1z where
  Kind:Int
  Size:Int
  Every:Int
  deriving DecidableEq,Inhabited
structure X0g where
  Agg:Int
  Arg:(List X0f)
  Sources:(List Int)
  Join:Bool
  Where:(List X0f)
  Window:X1z
  ByKey:Bool
  Late:Int
  deriving DecidableEq,Inhabited
structure GOp where
  Kind:Int
  N:Int
  deriving DecidableEq,Inhabited
structure Xg where
  Key:Int
  Time:Int
  Value:Int
  deriving DecidableEq,Inhabited
structure Xy where
  Start:Int
  End:Int
  deriving DecidableEq,Inhabited
structure X1b where
  Key:Int
  Span:Xy
  Values:(V2 Int)
  deriving DecidableEq,Inhabited
structure Xp where
  Kind:Int
  Record:Xg
  Time:Int
  Row:X1b
  deriving DecidableEq,Inhabited
structure X09 where
  Out:Int
  Message:Xp
  deriving DecidableEq,Inhabited
structure Xm where
  Count:Int
  Sum:Int
  Min:Int
  Max:Int
  deriving DecidableEq,Inhabited
structure X1 where
  Key:Int
  Span:Xy
  Values:(V2 Xm)
  deriving DecidableEq,Inhabited
structure X01 where
  Mark:Bool
  Time:Int
  Record:Xg
  deriving DecidableEq,Inhabited
structure Xo where
  Op:GOp
  Turn:Int
  Pending:(List X09)
  Marks:(List Int)
  Store:(List X1)
  Events:(List X01)
  Rows:(List X1b)
  Late:(List Xg)
  deriving DecidableEq,Inhabited
structure Xi where
  at_:Int
  size:Int
  depth:Int
  deriving DecidableEq,Inhabited
end Go.D
namespace Go.Av
open Go.D
def X4 (x:X0f):AV:=.agg [(aI .u8 x.Kind),(aI .i64 x.N),(aI .i64 x.A),(aI .i64 x.B),(aI .i64 x.At)]
theorem Xfq (x:X0f):Xbr (X4 x):=(X25 (X25 (X25 (X25 (X25 Xkb)))))
theorem X8o (x:X0f):X8d (X4 x):=λ_=>rfl
theorem Xfp (x:X0f):Xda (X4 x):=X4i (Xfq x) rfl
instance X0at:Xf9 X4:=⟨Xfq,λ_=>rfl,X8o⟩
def X1y (x:X1z):AV:=.agg [(aI .u8 x.Kind),(aI .i64 x.Size),(aI .i64 x.Every)]
theorem Xjl (x:X1z):Xbr (X1y x):=(X25 (X25 (X25 Xkb)))
theorem X5y (x:X1z):X8d (X1y x):=λ_=>rfl
theorem Xca (x:X1z):Xda (X1y x):=X4i (Xjl x) rfl
instance X08u:Xf9 X1y:=⟨Xjl,λ_=>rfl,X5y⟩
def X07 (o:Bool) (x:X0g):AV:=.agg [(aI .u8 x.Agg),(AV.list o (List.map X4 x.Arg)),(AV.list o (List.map (aI .i64) x.Sources)),(aB x.Join),(AV.list o (List.map X4 x.Where)),(aI .u8 x.Window.Kind),(aI .i64 x.Window.Size),(aI .i64 x.Window.Every),(aB x.ByKey),(aI .u8 x.Late)]
theorem X2x (o:Bool) (x:X0g):X8d (X07 o x):=λ_=>rfl
theorem X4z (o:Bool) (x:X0g):Xda (X07 o x):=Xue (λ_=>(X0z .sc (X0z .list (X0z .list (X0z .sc (X0z .list (X0z .sc (X0z .sc (X0z .sc (X0z .sc (X0z .sc X8i)))))))))))
theorem Xw6 {H:X0p} {o:Bool} {x:X0g}:Cv false H (X07 o x) (X07 false x):=Xqo (Cvs.cons .sc (Cvs.cons (X6a (X16 Xfq _)) (Cvs.cons (X6a (X16 (λ_=>Xf3) _)) (Cvs.cons .sc (Cvs.cons (X6a (X16 Xfq _)) (Cvs.cons .sc (Cvs.cons .sc (Cvs.cons .sc (Cvs.cons .sc (Cvs.cons .sc Cvs.nil))))))))))
theorem Xw5 {H:X0p} {o:Bool} {x:X0g}:Cv true H (X07 o x) (X07 o x):=Xqo (Cvs.cons .sc (Cvs.cons (.listS rfl) (Cvs.cons (.listS rfl) (Cvs.cons .sc (Cvs.cons (.listS rfl) (Cvs.cons .sc (Cvs.cons .sc (Cvs.cons .sc (Cvs.cons .sc (Cvs.cons .sc Cvs.nil))))))))))
instance X09n:X08k X07:=⟨Xw6,Xw5,λ_ _ _=>rfl,X4z,X2x⟩
def X07w (x:GOp):AV:=.agg [(aI .u8 x.Kind),(aI .i64 x.N)]
def X5 (x:Xg):AV:=.agg [(aI .i64 x.Key),(aI .i64 x.Time),(aI .i64 x.Value)]
theorem X9k (x:Xg):Xbr (X5 x):=(X25 (X25 (X25 Xkb)))
theorem X5z (x:Xg):X8d (X5 x):=λ_=>rfl
theorem Xcb (x:Xg):Xda (X5 x):=X4i (X9k x) rfl
instance X08v:Xf9 X5:=⟨X9k,λ_=>rfl,X5z⟩
def Xr (x:Xy):AV:=.agg [(aI .i64 x.Start),(aI .i64 x.End)]
theorem Xnr (x:Xy):Xbr (Xr x):=(X25 (X25 Xkb))
theorem X8m (x:Xy):X8d (Xr x):=λ_=>rfl
theorem Xfn (x:Xy):Xda (Xr x):=X4i (Xnr x) rfl
instance X0ar:Xf9 Xr:=⟨Xnr,λ_=>rfl,X8m⟩
def Xw2 (x:(V2 Int)):AV:=.agg [(aI .i64 x.e0),(aI .i64 x.e1)]
def Xf (x:X1b):AV:=.agg [(aI .i64 x.Key),(aI .i64 x.Span.Start),(aI .i64 x.Span.End),(aI .i64 x.Values.e0),(aI .i64 x.Values.e1)]
theorem Xf2 (x:X1b):Xbr (Xf x):=(X25 (X25 (X25 (X25 (X25 Xkb)))))
theorem Xac (x:X1b):X8d (Xf x):=λ_=>rfl
theorem Xhm (x:X1b):Xda (Xf x):=X4i (Xf2 x) rfl
instance X0ds:Xf9 Xf:=⟨Xf2,λ_=>rfl,Xac⟩
def X0n (x:Xp):AV:=.agg [(aI .u8 x.Kind),(aI .i64 x.Record.Key),(aI .i64 x.Record.Time),(aI .i64 x.Record.Value),(aI .i64 x.Time),(aI .i64 x.Row.Key),(aI .i64 x.Row.Span.Start),(aI .i64 x.Row.Span.End),(aI .i64 x.Row.Values.e0),(aI .i64 x.Row.Values.e1)]
theorem Xhp (x:Xp):Xbr (X0n x):=(X25 (X25 (X25 (X25 (X25 (X25 (X25 (X25 (X25 (X25 Xkb))))))))))
theorem X56 (x:Xp):X8d (X0n x):=λ_=>rfl
theorem Xa5 (x:Xp):Xda (X0n x):=X4i (Xhp x) rfl
instance X07v:Xf9 X0n:=⟨Xhp,λ_=>rfl,X56⟩
def Xc (x:X09):AV:=.agg [(aI .i64 x.Out),(aI .u8 x.Message.Kind),(aI .i64 x.Message.Record.Key),(aI .i64 x.Message.Record.Time),(aI .i64 x.Message.Record.Value),(aI .i64 x.Message.Time),(aI .i64 x.Message.Row.Key),(aI .i64 x.Message.Row.Span.Start),(aI .i64 x.Message.Row.Span.End),(aI .i64 x.Message.Row.Values.e0),(aI .i64 x.Message.Row.Values.e1)]
theorem Xd6 (x:X09):Xbr (Xc x):=(X25 (X25 (X25 (X25 (X25 (X25 (X25 (X25 (X25 (X25 (X25 Xkb)))))))))))
theorem X8n (x:X09):X8d (Xc x):=λ_=>rfl
theorem Xfo (x:X09):Xda (Xc x):=X4i (Xd6 x) rfl
instance X0as:Xf9 Xc:=⟨Xd6,λ_=>rfl,X8n⟩
def Xv (x:Xm):AV:=.agg [(aI .i64 x.Count),(aI .i64 x.Sum),(aI .i64 x.Min),(aI .i64 x.Max)]
theorem Xlx (x:Xm):Xbr (Xv x):=(X25 (X25 (X25 (X25 Xkb))))
theorem X7a (x:Xm):X8d (Xv x):=λ_=>rfl
theorem Xdt (x:Xm):Xda (Xv x):=X4i (Xlx x) rfl
instance X0ac:Xf9 Xv:=⟨Xlx,λ_=>rfl,X7a⟩
def Xp5 (x:(V2 Xm)):AV:=.agg [(aI .i64 x.e0.Count),(aI .i64 x.e0.Sum),(aI .i64 x.e0.Min),(aI .i64 x.e0.Max),(aI .i64 x.e1.Count),(aI .i64 x.e1.Sum),(aI .i64 x.e1.Min),(aI .i64 x.e1.Max)]
def X0 (x:X1):AV:=.agg [(aI .i64 x.Key),(aI .i64 x.Span.Start),(aI .i64 x.Span.End),(aI .i64 x.Values.e0.Count),(aI .i64 x.Values.e0.Sum),(aI .i64 x.Values.e0.Min),(aI .i64 x.Values.e0.Max),(aI .i64 x.Values.e1.Count),(aI .i64 x.Values.e1.Sum),(aI .i64 x.Values.e1.Min),(aI .i64 x.Values.e1.Max)]
theorem X4c (x:X1):Xbr (X0 x):=(X25 (X25 (X25 (X25 (X25 (X25 (X25 (X25 (X25 (X25 (X25 Xkb)))))))))))
theorem X79 (x:X1):X8d (X0 x):=λ_=>rfl
theorem Xds (x:X1):Xda (X0 x):=X4i (X4c x) rfl
theorem X99 {m:Bool} {H:X0p} {x:X1}:Cv m H (X0 x) (X0 x):=X083 (X4c x)
instance X0ab:Xf9 X0:=⟨X4c,λ_=>rfl,X79⟩
def X8 (x:X01):AV:=.agg [(aB x.Mark),(aI .i64 x.Time),(aI .i64 x.Record.Key),(aI .i64 x.Record.Time),(aI .i64 x.Record.Value)]
theorem Xbo (x:X01):Xbr (X8 x):=(X25 (X25 (X25 (X25 (X25 Xkb)))))
theorem X78 (x:X01):X8d (X8 x):=λ_=>rfl
theorem Xdr (x:X01):Xda (X8 x):=X4i (Xbo x) rfl
instance X0aa:Xf9 X8:=⟨Xbo,λ_=>rfl,X78⟩
def Xa (o:Bool) (x:Xo):AV:=.agg [(aI .u8 x.Op.Kind),(aI .i64 x.Op.N),(aI .i64 x.Turn),(AV.list o (List.map Xc x.Pending)),(AV.list o (List.map (aI .i64) x.Marks)),(AV.list o (List.map X0 x.Store)),(AV.list o (List.map X8 x.Events)),(AV.list o (List.map Xf x.Rows)),(AV.list o (List.map X5 x.Late))]
theorem X3d (o:Bool) (x:Xo):X8d (Xa o x):=λ_=>rfl
theorem X64 (o:Bool) (x:Xo):Xda (Xa o x):=Xue (λ_=>(X0z .sc (X0z .sc (X0z .sc (X0z .list (X0z .list (X0z .list (X0z .list (X0z .list (X0z .list X8i))))))))))
theorem X00j {H:X0p} {o:Bool} {x:Xo}:Cv false H (Xa o x) (Xa false x):=Xqo (Cvs.cons .sc (Cvs.cons .sc (Cvs.cons .sc (Cvs.cons (X6a (X16 Xd6 _)) (Cvs.cons (X6a (X16 (λ_=>Xf3) _)) (Cvs.cons (X6a (X16 X4c _)) (Cvs.cons (X6a (X16 Xbo _)) (Cvs.cons (X6a (X16 Xf2 _)) (Cvs.cons (X6a (X16 X9k _)) Cvs.nil)))))))))
theorem X00i {H:X0p} {o:Bool} {x:Xo}:Cv true H (Xa o x) (Xa o x):=Xqo (Cvs.cons .sc (Cvs.cons .sc (Cvs.cons .sc (Cvs.cons (.listS rfl) (Cvs.cons (.listS rfl) (Cvs.cons (.listS rfl) (Cvs.cons (.listS rfl) (Cvs.cons (.listS rfl) (Cvs.cons (.listS rfl) Cvs.nil)))))))))
instance X0ap:X08k Xa:=⟨X00j,X00i,λ_ _ _=>rfl,X64,X3d⟩
def X9 (x:Xi):AV:=.agg [(aI .i64 x.at_),(aI .i64 x.size),(aI .i64 x.depth)]
theorem Xf1 (x:Xi):Xbr (X9 x):=(X25 (X25 (X25 Xkb)))
theorem X3l (x:Xi):X8d (X9 x):=λ_=>rfl
theorem X86 (x:Xi):Xda (X9 x):=X4i (Xf1 x) rfl
instance X04b:Xf9 X9:=⟨Xf1,λ_=>rfl,X3l⟩
def Xa6 (x:(V2 Bool)):AV:=.agg [(aB x.e0),(aB x.e1)]
theorem X049 (x:(V2 Bool)):Xbr (Xa6 x):=(X25 (X25 Xkb))
theorem Xko (x:(V2 Bool)):Xda (Xa6 x):=X4i (X049 x) rfl
theorem wkA {P:Prop} (h:P:=by
  first
    |exact trivial
    |rfl
    |exact .sc
    |exact .list
    |exact .nils
    |exact .ref (by decide)
    |exact .ptr (by decide)
    |exact Xy7
    |(refine AV.Ok.tup ?_;repeat' first|exact X8i|refine X0z ?_ ?_|exact .sc|exact .nils|exact .list|exact .ref (by decide)|exact .ptr (by decide))
    |(refine congrArg AV.tup ?_;repeat' first|rfl|(refine congrArg (λz=>AV.ref _ 0 z) ?_;first|rfl|omega|(simp;done)|(simp;omega))|(show AV.ref _ 0 _=AV.ref _ 0 _;congr 1;first|omega|(simp;done))|(refine congrArg (λz=>AV.sc (Value.int IntKind.i64 z)) ?_;first|rfl|omega|assumption|(simp;done))|refine congr (congrArg List.cons ?_) ?_|(show(_::_:List AV)=_::_;refine congr (congrArg List.cons ?_) ?_))
    |exact .fn (X0z (.ptr (by decide)) X8i)
    |exact .fn (X0z (.ptr (by decide)) (X0z (.ptr (by decide)) X8i))
    |exact .fn (X0z (.ptr (by decide)) (X0z (.ptr (by decide)) (X0z (.ptr (by decide)) X8i)))
    |assumption
    |exact(Xfp _ _).1
    |exact(Xca _ _).1
    |exact(X4z true _ _).1
    |exact(X4z false _ _).1
    |exact(free_GOp _ _).1
    |exact(Xcb _ _).1
    |exact(Xfn _ _).1
    |exact(free_V2i64 _ _).1
    |exact(Xhm _ _).1
    |exact(Xa5 _ _).1
    |exact(Xfo _ _).1
    |exact(Xdt _ _).1
    |exact(free_V2GAccum _ _).1
    |exact(Xds _ _).1
    |exact(Xdr _ _).1
    |exact(X64 true _ _).1
    |exact(X64 false _ _).1
    |exact(X86 _ _).1
    |exact(Xko _ _).1
    |(refine congrArg (λz=>AV.sc (Value.int IntKind.i64 z)) ?_;first|rfl|omega|assumption|(simp;done)|(simp;omega))
    |(refine congrArg (λz=>AV.sc (Value.bool z)) ?_;first|rfl|assumption|(simp;done))
    |(refine congrArg (λz=>AV.ref _ 0 z) ?_;first|rfl|omega|(simp;done)|(simp;omega))
    |(show AV.ref _ 0 _=AV.ref _ 0 _;congr 1;first|(simp;done)|(simp;omega))
    |(simp[slE,opE,nbF,nbT,nbS,AV.ren,List.map_take,List.map_drop];done)
    |(simp[slE,opE,nbF,nbT,nbS,AV.ren,List.map_take,List.map_drop, *];done)
    |(simp[AV.ren, *];done)
    |exact wkSl rfl
    |exact okSl (by decide)
    |(refine aggV ?_;repeat' first|exact trivial|refine And.intro ?_ ?_|rfl|exact wkSl rfl|(refine refR rfl ?_;first|rfl|(simp;done)|(simp;omega)))
    |(refine aggOk ?_;repeat' first|exact X8i|refine X0z ?_ ?_|exact .sc|exact .list|exact .nils|exact .ref (by decide)|exact .ptr (by decide)|exact okSl (by decide)|exact okF|exact okG|exact Xy7)):P:=h
theorem wkB {P:Prop} (h:P:=by
  first
    |exact trivial
    |rfl
    |decide
    |exact⟨_,rfl,rfl,rfl⟩
    |exact X09i rfl
    |(refine⟨_,rfl,rfl,ref1 ?_⟩;first|rfl|omega|(simp;done)|(simp;omega))
    |exact X2u Xfp _ _
    |exact X2t (Xfp _) _
    |exact free_cons Xfp _ _ _
    |exact X2u Xca _ _
    |exact X2t (Xca _) _
    |exact free_cons Xca _ _ _
    |exact X2u (X4z true) _ _
    |exact X2t ((X4z true) _) _
    |exact free_cons (X4z true) _ _ _
    |exact X2u (X4z false) _ _
    |exact X2t ((X4z false) _) _
    |exact free_cons (X4z false) _ _ _
    |exact X2u free_GOp _ _
    |exact X2t (free_GOp _) _
    |exact free_cons free_GOp _ _ _
    |exact X2u Xcb _ _
    |exact X2t (Xcb _) _
    |exact free_cons Xcb _ _ _
    |exact X2u Xfn _ _
    |exact X2t (Xfn _) _
    |exact free_cons Xfn _ _ _
    |exact X2u free_V2i64 _ _
    |exact X2t (free_V2i64 _) _
    |exact free_cons free_V2i64 _ _ _
    |exact X2u Xhm _ _
    |exact X2t (Xhm _) _
    |exact free_cons Xhm _ _ _
    |exact X2u Xa5 _ _
    |exact X2t (Xa5 _) _
    |exact free_cons Xa5 _ _ _
    |exact X2u Xfo _ _
    |exact X2t (Xfo _) _
    |exact free_cons Xfo _ _ _
    |exact X2u Xdt _ _
    |exact X2t (Xdt _) _
    |exact free_cons Xdt _ _ _
    |exact X2u free_V2GAccum _ _
    |exact X2t (free_V2GAccum _) _
    |exact free_cons free_V2GAccum _ _ _
    |exact X2u Xds _ _
    |exact X2t (Xds _) _
    |exact free_cons Xds _ _ _
    |exact X2u Xdr _ _
    |exact X2t (Xdr _) _
    |exact free_cons Xdr _ _ _
    |exact X2u (X64 true) _ _
    |exact X2t ((X64 true) _) _
    |exact free_cons (X64 true) _ _ _
    |exact X2u (X64 false) _ _
    |exact X2t ((X64 false) _) _
    |exact free_cons (X64 false) _ _ _
    |exact X2u X86 _ _
    |exact X2t (X86 _) _
    |exact free_cons X86 _ _ _
    |exact X2u Xko _ _
    |exact X2t (Xko _) _
    |exact free_cons Xko _ _ _
    |exact X2u (λ_=>X002) _ _
    |exact X2t ((λ_=>X002) _) _
    |exact free_cons (λ_=>X002) _ _ _
    |exact X2u (λ_=>free_encl) _ _
    |exact X2t ((λ_=>free_encl) _) _
    |exact free_cons (λ_=>free_encl) _ _ _
    |(refine⟨_,rfl,rfl,Eq.trans ?_ (Xe (X0d X8o _) _)⟩;rfl)
    |(refine⟨_,rfl,rfl,Eq.trans ?_ (Xe (still_cons X8o _ _) _)⟩;rfl)
    |(refine⟨_,rfl,rfl,Eq.trans ?_ (Xe (X0d X5y _) _)⟩;rfl)
    |(refine⟨_,rfl,rfl,Eq.trans ?_ (Xe (still_cons X5y _ _) _)⟩;rfl)
    |(refine⟨_,rfl,rfl,Eq.trans ?_ (Xe (X0d (X2x true) _) _)⟩;rfl)
    |(refine⟨_,rfl,rfl,Eq.trans ?_ (Xe (still_cons (X2x true) _ _) _)⟩;rfl)
    |(refine⟨_,rfl,rfl,Eq.trans ?_ (Xe (X0d (X2x false) _) _)⟩;rfl)
    |(refine⟨_,rfl,rfl,Eq.trans ?_ (Xe (still_cons (X2x false) _ _) _)⟩;rfl)
    |(refine⟨_,rfl,rfl,Eq.trans ?_ (Xe (X0d still_GOp _) _)⟩;rfl)
    |(refine⟨_,rfl,rfl,Eq.trans ?_ (Xe (still_cons still_GOp _ _) _)⟩;rfl)
    |(refine⟨_,rfl,rfl,Eq.trans ?_ (Xe (X0d X5z _) _)⟩;rfl)
    |(refine⟨_,rfl,rfl,Eq.trans ?_ (Xe (still_cons X5z _ _) _)⟩;rfl)
    |(refine⟨_,rfl,rfl,Eq.trans ?_ (Xe (X0d X8m _) _)⟩;rfl)
    |(refine⟨_,rfl,rfl,Eq.trans ?_ (Xe (still_cons X8m _ _) _)⟩;rfl)
    |(refine⟨_,rfl,rfl,Eq.trans ?_ (Xe (X0d still_V2i64 _) _)⟩;rfl)
    |(refine⟨_,rfl,rfl,Eq.trans ?_ (Xe (still_cons still_V2i64 _ _) _)⟩;rfl)
    |(refine⟨_,rfl,rfl,Eq.trans ?_ (Xe (X0d Xac _) _)⟩;rfl)
    |(refine⟨_,rfl,rfl,Eq.trans ?_ (Xe (still_cons Xac _ _) _)⟩;rfl)
    |(refine⟨_,rfl,rfl,Eq.trans ?_ (Xe (X0d X56 _) _)⟩;rfl)
    |(refine⟨_,rfl,rfl,Eq.trans ?_ (Xe (still_cons X56 _ _) _)⟩;rfl)
    |(refine⟨_,rfl,rfl,Eq.trans ?_ (Xe (X0d X8n _) _)⟩;rfl)
    |(refine⟨_,rfl,rfl,Eq.trans ?_ (Xe (still_cons X8n _ _) _)⟩;rfl)
    |(refine⟨_,rfl,rfl,Eq.trans ?_ (Xe (X0d X7a _) _)⟩;rfl)
    |(refine⟨_,rfl,rfl,Eq.trans ?_ (Xe (still_cons X7a _ _) _)⟩;rfl)
    |(refine⟨_,rfl,rfl,Eq.trans ?_ (Xe (X0d still_V2GAccum _) _)⟩;rfl)
    |(refine⟨_,rfl,rfl,Eq.trans ?_ (Xe (still_cons still_V2GAccum _ _) _)⟩;rfl)
    |(refine⟨_,rfl,rfl,Eq.trans ?_ (Xe (X0d X79 _) _)⟩;rfl)
    |(refine⟨_,rfl,rfl,Eq.trans ?_ (Xe (still_cons X79 _ _) _)⟩;rfl)
    |(refine⟨_,rfl,rfl,Eq.trans ?_ (Xe (X0d X78 _) _)⟩;rfl)
    |(refine⟨_,rfl,rfl,Eq.trans ?_ (Xe (still_cons X78 _ _) _)⟩;rfl)
    |(refine⟨_,rfl,rfl,Eq.trans ?_ (Xe (X0d (X3d true) _) _)⟩;rfl)
    |(refine⟨_,rfl,rfl,Eq.trans ?_ (Xe (still_cons (X3d true) _ _) _)⟩;rfl)
    |(refine⟨_,rfl,rfl,Eq.trans ?_ (Xe (X0d (X3d false) _) _)⟩;rfl)
    |(refine⟨_,rfl,rfl,Eq.trans ?_ (Xe (still_cons (X3d false) _ _) _)⟩;rfl)
    |(refine⟨_,rfl,rfl,Eq.trans ?_ (Xe (X0d X3l _) _)⟩;rfl)
    |(refine⟨_,rfl,rfl,Eq.trans ?_ (Xe (still_cons X3l _ _) _)⟩;rfl)
    |(refine⟨_,rfl,rfl,Eq.trans ?_ (Xe (X0d still_V2b _) _)⟩;rfl)
    |(refine⟨_,rfl,rfl,Eq.trans ?_ (Xe (still_cons still_V2b _ _) _)⟩;rfl)
    |(refine⟨_,rfl,rfl,Eq.trans ?_ (Xe (X0d (λ_=>Xgc) _) _)⟩;rfl)
    |(refine⟨_,rfl,rfl,Eq.trans ?_ (Xe (still_cons (λ_=>Xgc) _ _) _)⟩;rfl)
    |(refine⟨_,rfl,rfl,Eq.trans ?_ (Xe (X0d (λ_=>still_encl) _) _)⟩;rfl)
    |(refine⟨_,rfl,rfl,Eq.trans ?_ (Xe (still_cons (λ_=>still_encl) _ _) _)⟩;rfl)
    |(refine⟨_,rfl,rfl,Eq.trans ?_ (Xe (X0d X8o _) _)⟩;first|(simp;done)|(simp;rfl)|(exact Eq.symm (Eq.trans List.map_append rfl))|(rw[List.map_append];rfl)|(rw[List.map_set];rfl)|(simp[*];done)|(rw[List.map_replicate];rfl))
    |(refine⟨_,rfl,rfl,Eq.trans ?_ (Xe (still_cons X8o _ _) _)⟩;first|(simp;done)|(simp;rfl)|(simp[*];done))
    |(refine⟨_,rfl,rfl,Eq.trans ?_ (Xe (X0d X5y _) _)⟩;first|(simp;done)|(simp;rfl)|(exact Eq.symm (Eq.trans List.map_append rfl))|(rw[List.map_append];rfl)|(rw[List.map_set];rfl)|(simp[*];done)|(rw[List.map_replicate];rfl))
    |(refine⟨_,rfl,rfl,Eq.trans ?_ (Xe (still_cons X5y _ _) _)⟩;first|(simp;done)|(simp;rfl)|(simp[*];done))
    |(refine⟨_,rfl,rfl,Eq.trans ?_ (Xe (X0d (X2x true) _) _)⟩;first|(simp;done)|(simp;rfl)|(exact Eq.symm (Eq.trans List.map_append rfl))|(rw[List.map_append];rfl)|(rw[List.map_set];rfl)|(simp[*];done)|(rw[List.map_replicate];rfl))
    |(refine⟨_,rfl,rfl,Eq.trans ?_ (Xe (still_cons (X2x true) _ _) _)⟩;first|(simp;done)|(simp;rfl)|(simp[*];done))
    |(refine⟨_,rfl,rfl,Eq.trans ?_ (Xe (X0d (X2x false) _) _)⟩;first|(simp;done)|(simp;rfl)|(exact Eq.symm (Eq.trans List.map_append rfl))|(rw[List.map_append];rfl)|(rw[List.map_set];rfl)|(simp[*];done)|(rw[List.map_replicate];rfl))
    |(refine⟨_,rfl,rfl,Eq.trans ?_ (Xe (still_cons (X2x false) _ _) _)⟩;first|(simp;done)|(simp;rfl)|(simp[*];done))
    |(refine⟨_,rfl,rfl,Eq.trans ?_ (Xe (X0d still_GOp _) _)⟩;first|(simp;done)|(simp;rfl)|(exact Eq.symm (Eq.trans List.map_append rfl))|(rw[List.map_append];rfl)|(rw[List.map_set];rfl)|(simp[*];done)|(rw[List.map_replicate];rfl))
    |(refine⟨_,rfl,rfl,Eq.trans ?_ (Xe (still_cons still_GOp _ _) _)⟩;first|(simp;done)|(simp;rfl)|(simp[*];done))
    |(refine⟨_,rfl,rfl,Eq.trans ?_ (Xe (X0d X5z _) _)⟩;first|(simp;done)|(simp;rfl)|(exact Eq.symm (Eq.trans List.map_append rfl))|(rw[List.map_append];rfl)|(rw[List.map_set];rfl)|(simp[*];done)|(rw[List.map_replicate];rfl))
    |(refine⟨_,rfl,rfl,Eq.trans ?_ (Xe (still_cons X5z _ _) _)⟩;first|(simp;done)|(simp;rfl)|(simp[*];done))
    |(refine⟨_,rfl,rfl,Eq.trans ?_ (Xe (X0d X8m _) _)⟩;first|(simp;done)|(simp;rfl)|(exact Eq.symm (Eq.trans List.map_append rfl))|(rw[List.map_append];rfl)|(rw[List.map_set];rfl)|(simp[*];done)|(rw[List.map_replicate];rfl))
    |(refine⟨_,rfl,rfl,Eq.trans ?_ (Xe (still_cons X8m _ _) _)⟩;first|(simp;done)|(simp;rfl)|(simp[*];done))
    |(refine⟨_,rfl,rfl,Eq.trans ?_ (Xe (X0d still_V2i64 _) _)⟩;first|(simp;done)|(simp;rfl)|(exact Eq.symm (Eq.trans List.map_append rfl))|(rw[List.map_append];rfl)|(rw[List.map_set];rfl)|(simp[*];done)|(rw[List.map_replicate];rfl))
    |(refine⟨_,rfl,rfl,Eq.trans ?_ (Xe (still_cons still_V2i64 _ _) _)⟩;first|(simp;done)|(simp;rfl)|(simp[*];done))
    |(refine⟨_,rfl,rfl,Eq.trans ?_ (Xe (X0d Xac _) _)⟩;first|(simp;done)|(simp;rfl)|(exact Eq.symm (Eq.trans List.map_append rfl))|(rw[List.map_append];rfl)|(rw[List.map_set];rfl)|(simp[*];done)|(rw[List.map_replicate];rfl))
    |(refine⟨_,rfl,rfl,Eq.trans ?_ (Xe (still_cons Xac _ _) _)⟩;first|(simp;done)|(simp;rfl)|(simp[*];done))
    |(refine⟨_,rfl,rfl,Eq.trans ?_ (Xe (X0d X56 _) _)⟩;first|(simp;done)|(simp;rfl)|(exact Eq.symm (Eq.trans List.map_append rfl))|(rw[List.map_append];rfl)|(rw[List.map_set];rfl)|(simp[*];done)|(rw[List.map_replicate];rfl))
    |(refine⟨_,rfl,rfl,Eq.trans ?_ (Xe (still_cons X56 _ _) _)⟩;first|(simp;done)|(simp;rfl)|(simp[*];done))
    |(refine⟨_,rfl,rfl,Eq.trans ?_ (Xe (X0d X8n _) _)⟩;first|(simp;done)|(simp;rfl)|(exact Eq.symm (Eq.trans List.map_append rfl))|(rw[List.map_append];rfl)|(rw[List.map_set];rfl)|(simp[*];done)|(rw[List.map_replicate];rfl))
    |(refine⟨_,rfl,rfl,Eq.trans ?_ (Xe (still_cons X8n _ _) _)⟩;first|(simp;done)|(simp;rfl)|(simp[*];done))
    |(refine⟨_,rfl,rfl,Eq.trans ?_ (Xe (X0d X7a _) _)⟩;first|(simp;done)|(simp;rfl)|(exact Eq.symm (Eq.trans List.map_append rfl))|(rw[List.map_append];rfl)|(rw[List.map_set];rfl)|(simp[*];done)|(rw[List.map_replicate];rfl))
    |(refine⟨_,rfl,rfl,Eq.trans ?_ (Xe (still_cons X7a _ _) _)⟩;first|(simp;done)|(simp;rfl)|(simp[*];done))
    |(refine⟨_,rfl,rfl,Eq.trans ?_ (Xe (X0d still_V2GAccum _) _)⟩;first|(simp;done)|(simp;rfl)|(exact Eq.symm (Eq.trans List.map_append rfl))|(rw[List.map_append];rfl)|(rw[List.map_set];rfl)|(simp[*];done)|(rw[List.map_replicate];rfl))
    |(refine⟨_,rfl,rfl,Eq.trans ?_ (Xe (still_cons still_V2GAccum _ _) _)⟩;first|(simp;done)|(simp;rfl)|(simp[*];done))
    |(refine⟨_,rfl,rfl,Eq.trans ?_ (Xe (X0d X79 _) _)⟩;first|(simp;done)|(simp;rfl)|(exact Eq.symm (Eq.trans List.map_append rfl))|(rw[List.map_append];rfl)|(rw[List.map_set];rfl)|(simp[*];done)|(rw[List.map_replicate];rfl))
    |(refine⟨_,rfl,rfl,Eq.trans ?_ (Xe (still_cons X79 _ _) _)⟩;first|(simp;done)|(simp;rfl)|(simp[*];done))
    |(refine⟨_,rfl,rfl,Eq.trans ?_ (Xe (X0d X78 _) _)⟩;first|(simp;done)|(simp;rfl)|(exact Eq.symm (Eq.trans List.map_append rfl))|(rw[List.map_append];rfl)|(rw[List.map_set];rfl)|(simp[*];done)|(rw[List.map_replicate];rfl))
    |(refine⟨_,rfl,rfl,Eq.trans ?_ (Xe (still_cons X78 _ _) _)⟩;first|(simp;done)|(simp;rfl)|(simp[*];done))
    |(refine⟨_,rfl,rfl,Eq.trans ?_ (Xe (X0d (X3d true) _) _)⟩;first|(simp;done)|(simp;rfl)|(exact Eq.symm (Eq.trans List.map_append rfl))|(rw[List.map_append];rfl)|(rw[List.map_set];rfl)|(simp[*];done)|(rw[List.map_replicate];rfl))
    |(refine⟨_,rfl,rfl,Eq.trans ?_ (Xe (still_cons (X3d true) _ _) _)⟩;first|(simp;done)|(simp;rfl)|(simp[*];done))
    |(refine⟨_,rfl,rfl,Eq.trans ?_ (Xe (X0d (X3d false) _) _)⟩;first|(simp;done)|(simp;rfl)|(exact Eq.symm (Eq.trans List.map_append rfl))|(rw[List.map_append];rfl)|(rw[List.map_set];rfl)|(simp[*];done)|(rw[List.map_replicate];rfl))
    |(refine⟨_,rfl,rfl,Eq.trans ?_ (Xe (still_cons (X3d false) _ _) _)⟩;first|(simp;done)|(simp;rfl)|(simp[*];done))
    |(refine⟨_,rfl,rfl,Eq.trans ?_ (Xe (X0d X3l _) _)⟩;first|(simp;done)|(simp;rfl)|(exact Eq.symm (Eq.trans List.map_append rfl))|(rw[List.map_append];rfl)|(rw[List.map_set];rfl)|(simp[*];done)|(rw[List.map_replicate];rfl))
    |(refine⟨_,rfl,rfl,Eq.trans ?_ (Xe (still_cons X3l _ _) _)⟩;first|(simp;done)|(simp;rfl)|(simp[*];done))
    |(refine⟨_,rfl,rfl,Eq.trans ?_ (Xe (X0d still_V2b _) _)⟩;first|(simp;done)|(simp;rfl)|(exact Eq.symm (Eq.trans List.map_append rfl))|(rw[List.map_append];rfl)|(rw[List.map_set];rfl)|(simp[*];done)|(rw[List.map_replicate];rfl))
    |(refine⟨_,rfl,rfl,Eq.trans ?_ (Xe (still_cons still_V2b _ _) _)⟩;first|(simp;done)|(simp;rfl)|(simp[*];done))
    |(refine⟨_,rfl,rfl,Eq.trans ?_ (Xe (X0d (λ_=>Xgc) _) _)⟩;first|(simp;done)|(simp;rfl)|(exact Eq.symm (Eq.trans List.map_append rfl))|(rw[List.map_append];rfl)|(rw[List.map_set];rfl)|(simp[*];done)|(rw[List.map_replicate];rfl))
    |(refine⟨_,rfl,rfl,Eq.trans ?_ (Xe (still_cons (λ_=>Xgc) _ _) _)⟩;first|(simp;done)|(simp;rfl)|(simp[*];done))
    |(refine⟨_,rfl,rfl,Eq.trans ?_ (Xe (X0d (λ_=>still_encl) _) _)⟩;first|(simp;done)|(simp;rfl)|(exact Eq.symm (Eq.trans List.map_append rfl))|(rw[List.map_append];rfl)|(rw[List.map_set];rfl)|(simp[*];done)|(rw[List.map_replicate];rfl))
    |(refine⟨_,rfl,rfl,Eq.trans ?_ (Xe (still_cons (λ_=>still_encl) _ _) _)⟩;first|(simp;done)|(simp;rfl)|(simp[*];done))
    |(refine⟨_,rfl,rfl,Eq.trans ?_ (Xe (still_one (X8o _)) _)⟩;simp only[List.length_cons,List.length_map];rfl)
    |(refine⟨_,rfl,rfl,Eq.trans ?_ (Xe (still_one (X5y _)) _)⟩;simp only[List.length_cons,List.length_map];rfl)
    |(refine⟨_,rfl,rfl,Eq.trans ?_ (Xe (still_one ((X2x true) _)) _)⟩;simp only[List.length_cons,List.length_map];rfl)
    |(refine⟨_,rfl,rfl,Eq.trans ?_ (Xe (still_one ((X2x false) _)) _)⟩;simp only[List.length_cons,List.length_map];rfl)
    |(refine⟨_,rfl,rfl,Eq.trans ?_ (Xe (still_one (still_GOp _)) _)⟩;simp only[List.length_cons,List.length_map];rfl)
    |(refine⟨_,rfl,rfl,Eq.trans ?_ (Xe (still_one (X5z _)) _)⟩;simp only[List.length_cons,List.length_map];rfl)
    |(refine⟨_,rfl,rfl,Eq.trans ?_ (Xe (still_one (X8m _)) _)⟩;simp only[List.length_cons,List.length_map];rfl)
    |(refine⟨_,rfl,rfl,Eq.trans ?_ (Xe (still_one (still_V2i64 _)) _)⟩;simp only[List.length_cons,List.length_map];rfl)
    |(refine⟨_,rfl,rfl,Eq.trans ?_ (Xe (still_one (Xac _)) _)⟩;simp only[List.length_cons,List.length_map];rfl)
    |(refine⟨_,rfl,rfl,Eq.trans ?_ (Xe (still_one (X56 _)) _)⟩;simp only[List.length_cons,List.length_map];rfl)
    |(refine⟨_,rfl,rfl,Eq.trans ?_ (Xe (still_one (X8n _)) _)⟩;simp only[List.length_cons,List.length_map];rfl)
    |(refine⟨_,rfl,rfl,Eq.trans ?_ (Xe (still_one (X7a _)) _)⟩;simp only[List.length_cons,List.length_map];rfl)
    |(refine⟨_,rfl,rfl,Eq.trans ?_ (Xe (still_one (still_V2GAccum _)) _)⟩;simp only[List.length_cons,List.length_map];rfl)
    |(refine⟨_,rfl,rfl,Eq.trans ?_ (Xe (still_one (X79 _)) _)⟩;simp only[List.length_cons,List.length_map];rfl)
    |(refine⟨_,rfl,rfl,Eq.trans ?_ (Xe (still_one (X78 _)) _)⟩;simp only[List.length_cons,List.length_map];rfl)
    |(refine⟨_,rfl,rfl,Eq.trans ?_ (Xe (still_one ((X3d true) _)) _)⟩;simp only[List.length_cons,List.length_map];rfl)
    |(refine⟨_,rfl,rfl,Eq.trans ?_ (Xe (still_one ((X3d false) _)) _)⟩;simp only[List.length_cons,List.length_map];rfl)
    |(refine⟨_,rfl,rfl,Eq.trans ?_ (Xe (still_one (X3l _)) _)⟩;simp only[List.length_cons,List.length_map];rfl)
    |(refine⟨_,rfl,rfl,Eq.trans ?_ (Xe (still_one (still_V2b _)) _)⟩;simp only[List.length_cons,List.length_map];rfl)
    |(refine⟨_,rfl,rfl,Eq.trans ?_ (Xe (still_one ((λ_=>Xgc) _)) _)⟩;simp only[List.length_cons,List.length_map];rfl)
    |(refine⟨_,rfl,rfl,Eq.trans ?_ (Xe (still_one ((λ_=>still_encl) _)) _)⟩;simp only[List.length_cons,List.length_map];rfl)
    |(intro e he a ha;rw[List.mem_singleton.1 he] at ha;rw[List.mem_singleton.1 ha];first|exact .sc|exact .list|exact .nils|exact .ref (by decide)|exact .ptr (by decide)|exact Xy7|exact .fn (X0z (.ptr (by decide)) X8i)|exact .fn (X0z (.ptr (by decide)) (X0z (.ptr (by decide)) X8i)))
    |(intro e he a ha;simp at he;subst he;simp[AV.cells] at ha;first|(subst ha;exact .sc)|(rcases ha with rfl|rfl|rfl|rfl|rfl<;>exact .sc))
    |(refine⟨_,rfl,rfl,aggR ?_⟩;repeat' first|exact trivial|refine And.intro ?_ ?_|rfl|exact wkSl rfl|(refine refR rfl ?_;first|rfl|(simp;done)|(simp;omega)))
    |(refine X0b2 ?_;repeat' first|exact X8i|refine X0z ?_ ?_|exact .sc|exact .list|exact .nils|exact .ref (by decide)|exact .ptr (by decide)|exact okSl (by decide)|exact okF|exact okG|exact Xy7)):P:=h
theorem rn {P:Program} {T:Ty} {nt n0:Nat} {μ:Mu} {Q:X03->St->Mu->Prop} {cf cf':Cf} {K K':List Kn} {L L':List (Nat×AV)} {G G':List (Nat×Obj)} {n n':Nat} {hs':List X2d} {ps':List Prop} (hT:Xdb P T/\P.follows .mixedOrders=true) (hs:List X2d) (h:Xcv P T nt 4000 cf K L G n hs []=some (cf',K',L',G',n',hs',ps')) (hp':X50 ps') (k:X2 P nt n0 Q cf' K' ⟨fr L',hp G',n'⟩ μ):X2 P nt n0 Q cf K ⟨fr L,hp G,n⟩ μ:=Xtp hT 4000 hs h hp' k
abbrev cc:=@Cvs.cons
abbrev cn:=@Cvs.nil
abbrev pn:=@X67.none
abbrev Bt:X2d:=.br true
abbrev Bf:X2d:=.br false
abbrev Ob (e:List AV) (n:Nat):Obj:={ es:=e,esz:=n }
abbrev Lf:=AV.list false
abbrev Lt:=AV.list true
abbrev Gt:X2d:=.go true
abbrev Gf:X2d:=.go false
theorem Zn {α:Type} {m:Bool} {H:X0p} (f:α->AV):Cv m H .nils (.list m (List.map f ([]:List α))):=.nils
theorem wkT {P : Program} {nt n0 : Nat} {Q : X03 -> St -> Mu -> Prop} {cf : Cf} {K : List Kn} {μ : Mu} {L L' : List (Nat × AV)} {G G' : List (Nat × Obj)} {n n' : Nat} (θ : List (Nat × Nat)) (h : X2 P nt n0 Q cf K ⟨fr L', hp G', n'⟩ μ)
    (hb:(fixB θ n0&&injB θ (G'.map (·.1))&&Nat.ble n0 n')=true:=by rfl) (hL:wkL L θ n' L':=by repeat' first|refine And.intro ?_ ?_|exact wkA) (hG:wkG G θ n' G':=by repeat' first|refine And.intro ?_ ?_|exact wkB):X2 P nt n0 Q cf K ⟨fr L,hp G,n⟩ μ:=X2.weakTo θ h hb hL hG
end Go.Av
namespace Go.D
open Go.Av
def X88 (x y:X0f):Bool:=((x.Kind==y.Kind)&&((x.N==y.N)&&((x.A==y.A)&&((x.B==y.B)&&((x.At==y.At)&&true)))))
def Xbp (x y:GOp):Bool:=((x.Kind==y.Kind)&&((x.N==y.N)&&true))
def X27 (x y:Xg):Bool:=((x.Key==y.Key)&&((x.Time==y.Time)&&((x.Value==y.Value)&&true)))
def X1e (x y:Xy):Bool:=((x.Start==y.Start)&&((x.End==y.End)&&true))
def Xhs (x y:(V2 Int)):Bool:=((x.e0==y.e0)&&((x.e1==y.e1)&&true))
def X6u (x y:X1b):Bool:=((x.Key==y.Key)&&((X1e x.Span y.Span)&&((Xhs x.Values y.Values)&&true)))
def X4m (x y:Xp):Bool:=((x.Kind==y.Kind)&&((X27 x.Record y.Record)&&((x.Time==y.Time)&&((X6u x.Row y.Row)&&true))))
def Xlz (x y:X09):Bool:=((x.Out==y.Out)&&((X4m x.Message y.Message)&&true))
def Xao (x y:Xm):Bool:=((x.Count==y.Count)&&((x.Sum==y.Sum)&&((x.Min==y.Min)&&((x.Max==y.Max)&&true))))
def Xjm (x y:(V2 Xm)):Bool:=((Xao x.e0 y.e0)&&((Xao x.e1 y.e1)&&true))
def Xj3 (x y:X1):Bool:=((x.Key==y.Key)&&((X1e x.Span y.Span)&&((Xjm x.Values y.Values)&&true)))
def Xj2 (x y:X01):Bool:=((x.Mark==y.Mark)&&((x.Time==y.Time)&&((X27 x.Record y.Record)&&true)))
def Xkf (x:X0f):Prop:=wfI .u8 x.Kind/\wfI .i64 x.N/\wfI .i64 x.A/\wfI .i64 x.B/\wfI .i64 x.At
def Xn9 (x:X1z):Prop:=wfI .u8 x.Kind/\wfI .i64 x.Size/\wfI .i64 x.Every
def Xkw (x:X0g):Prop:=wfI .u8 x.Agg/\(List.length x.Arg<=maxLen/\∀ y∈x.Arg,Xkf y)/\(List.length x.Sources<=maxLen/\∀ y∈x.Sources,wfI .i64 y)/\True/\(List.length x.Where<=maxLen/\∀ y∈x.Where,Xkf y)/\Xn9 x.Window/\True/\wfI .u8 x.Late
def X04n (x:GOp):Prop:=wfI .u8 x.Kind/\wfI .i64 x.N
def Xcq (x:Xg):Prop:=wfI .i64 x.Key/\wfI .i64 x.Time/\wfI .i64 x.Value
def Xnz (x:Xy):Prop:=wfI .i64 x.Start/\wfI .i64 x.End
def Xtl (x:(V2 Int)):Prop:=wfI .i64 x.e0/\wfI .i64 x.e1
def Xo1 (x:X1b):Prop:=wfI .i64 x.Key/\Xnz x.Span/\Xtl x.Values
def Xgb (x:Xp):Prop:=wfI .u8 x.Kind/\Xcq x.Record/\wfI .i64 x.Time/\Xo1 x.Row
def Xo0 (x:X09):Prop:=wfI .i64 x.Out/\Xgb x.Message
def Xkz (x:Xm):Prop:=wfI .i64 x.Count/\wfI .i64 x.Sum/\wfI .i64 x.Min/\wfI .i64 x.Max
def Xkv (x:(V2 Xm)):Prop:=Xkz x.e0/\Xkz x.e1
def Xky (x:X1):Prop:=wfI .i64 x.Key/\Xnz x.Span/\Xkv x.Values
def Xkx (x:X01):Prop:=True/\wfI .i64 x.Time/\Xcq x.Record
def X02a (x:Xo):Prop:=X04n x.Op/\wfI .i64 x.Turn/\(List.length x.Pending<=maxLen/\∀ y∈x.Pending,Xo0 y)/\(List.length x.Marks<=maxLen/\∀ y∈x.Marks,wfI .i64 y)/\(List.length x.Store<=maxLen/\∀ y∈x.Store,Xky y)/\(List.length x.Events<=maxLen/\∀ y∈x.Events,Xkx y)/\(List.length x.Rows<=maxLen/\∀ y∈x.Rows,Xo1 y)/\(List.length x.Late<=maxLen/\∀ y∈x.Late,Xcq y)
end Go.D
