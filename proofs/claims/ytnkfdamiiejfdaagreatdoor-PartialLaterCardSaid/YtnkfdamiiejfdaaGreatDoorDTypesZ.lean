/- Printed by decomp.py: the types of the Go program, as data; their encodings. -/
import Derived.Test.YtnkfdamiiejfdaaGreatDoorGlX
import Derived.Test.YtnkfdamiiejfdaaGreatDoorAvc
set_option linter.all false

namespace Go.D
theorem Yo {α β:Type} {a:α} {f:α->Option β}:(some a).bind f=f a:=rfl
theorem Yf {p:Prop} [Decidable p] (h:¬ p):decide p=false:=decide_eq_false h
theorem Yt {p:Prop} [Decidable p] (h:p):decide p=true:=decide_eq_true h
theorem Ym {α β:Type} {f:α->β} {l:List α} {i:Nat}:List.map f (List.take i l)=List.take i (List.map f l):=List.map_take
theorem Yd {α β:Type} {f:α->β} {l:List α} {i:Nat}:List.map f (List.drop i l)=List.drop i (List.map f l):=List.map_drop
theorem Ya {a b:Prop} (x:a) (y:b):a/\b:=⟨x,y⟩
theorem Ye {α:Type} {l:List α} {i:Nat} (h:i<l.length):l[i]?=some l[i]:=List.getElem?_eq_getElem h
theorem Ys {α:Type} {l:List α} {i:Nat} {a:α}:l[i]?=some a↔∃ h:i<l.length,l[i]=a:=List.getElem?_eq_some_iff
theorem Yg {α:Type} {l:List α} {i:Nat} {a:α} (h:l[i]?=some a):a∈l:=List.mem_of_getElem? h
structure Xy where
  Kind:Int
  N:Int
  A:Int
  B:Int
  At:Int
  deriving DecidableEq,Inhabited
structure X0r where
  Kind:Int
  Size:Int
  Every:Int
  deriving DecidableEq,Inhabited
structure X00 where
  Agg:Int
  Arg:(List Xy)
  Sources:(List Int)
  Join:Bool
  Where:(List Xy)
  Window:X0r
  ByKey:Bool
  Late:Int
  deriving DecidableEq,Inhabited
structure X6 where
  Key:Int
  Time:Int
  Value:Int
  deriving DecidableEq,Inhabited
structure Xq where
  Mark:Bool
  Time:Int
  Record:X6
  deriving DecidableEq,Inhabited
structure X0p where
  Start:Int
  End:Int
  deriving DecidableEq,Inhabited
structure X1z where
  Key:Int
  Span:X0p
  Values:(V2 Int)
  deriving DecidableEq,Inhabited
structure Xr where
  Rows:(List X1z)
  Late:(List X6)
  deriving DecidableEq,Inhabited
structure Xd where
  at_:Int
  size:Int
  depth:Int
  deriving DecidableEq,Inhabited
structure X0y where
  Count:Int
  Sum:Int
  Min:Int
  Max:Int
  deriving DecidableEq,Inhabited
structure X4 where
  Key:Int
  Span:X0p
  Values:(V2 X0y)
  deriving DecidableEq,Inhabited
structure X6q where
  Key:Int
  Span:X0p
  Values:(V2 Int)
  deriving DecidableEq,Inhabited
end Go.D
namespace Go.Av
open Go.D
def X3 (x:Xy):AV:=.agg [(aI .u8 x.Kind),(aI .i64 x.N),(aI .i64 x.A),(aI .i64 x.B),(aI .i64 x.At)]
theorem Xdm (x:Xy):X9o (X3 x):=(X1t (X1t (X1t (X1t (X1t Xfx)))))
theorem X77 (x:Xy):X69 (X3 x):=λ_=>rfl
theorem Xdl (x:Xy):Xal (X3 x):=X4j (Xdm x) rfl
instance X0em:X9n X3:=⟨Xdm,λ_=>rfl,X77⟩
def X39 (x:X0r):AV:=.agg [(aI .u8 x.Kind),(aI .i64 x.Size),(aI .i64 x.Every)]
theorem Xhk (x:X0r):X9o (X39 x):=(X1t (X1t (X1t Xfx)))
theorem X55 (x:X0r):X69 (X39 x):=λ_=>rfl
theorem Xa4 (x:X0r):Xal (X39 x):=X4j (Xhk x) rfl
instance X0ay:X9n X39:=⟨Xhk,λ_=>rfl,X55⟩
def Xz (o:Bool) (x:X00):AV:=.agg [(aI .u8 x.Agg),(AV.list o (List.map X3 x.Arg)),(AV.list o (List.map (aI .i64) x.Sources)),(aB x.Join),(AV.list o (List.map X3 x.Where)),(aI .u8 x.Window.Kind),(aI .i64 x.Window.Size),(aI .i64 x.Window.Every),(aB x.ByKey),(aI .u8 x.Late)]
theorem X2d (o:Bool) (x:X00):X69 (Xz o x):=λ_=>rfl
theorem X4d (o:Bool) (x:X00):Xal (Xz o x):=Xnm (λ_=>(X13 .sc (X13 .list (X13 .list (X13 .sc (X13 .list (X13 .sc (X13 .sc (X13 .sc (X13 .sc (X13 .sc X70)))))))))))
theorem Xws {H:Xw} {o:Bool} {x:X00}:Cv false H (Xz o x) (Xz false x):=Xkf (Cvs.cons .sc (Cvs.cons (X4o (X1s Xdm _)) (Cvs.cons (X4o (X1s (λ_=>Xa7) _)) (Cvs.cons .sc (Cvs.cons (X4o (X1s Xdm _)) (Cvs.cons .sc (Cvs.cons .sc (Cvs.cons .sc (Cvs.cons .sc (Cvs.cons .sc Cvs.nil))))))))))
theorem Xwq {H:Xw} {o:Bool} {x:X00}:Cv true H (Xz o x) (Xz o x):=Xkf (Cvs.cons .sc (Cvs.cons (.listS rfl) (Cvs.cons (.listS rfl) (Cvs.cons .sc (Cvs.cons (.listS rfl) (Cvs.cons .sc (Cvs.cons .sc (Cvs.cons .sc (Cvs.cons .sc (Cvs.cons .sc Cvs.nil))))))))))
instance X0ck:X05a Xz:=⟨Xws,Xwq,λ_ _ _=>rfl,X4d,X2d⟩
def X0 (x:X6):AV:=.agg [(aI .i64 x.Key),(aI .i64 x.Time),(aI .i64 x.Value)]
theorem Xa6 (x:X6):X9o (X0 x):=(X1t (X1t (X1t Xfx)))
theorem X56 (x:X6):X69 (X0 x):=λ_=>rfl
theorem Xa5 (x:X6):Xal (X0 x):=X4j (Xa6 x) rfl
instance X0az:X9n X0:=⟨Xa6,λ_=>rfl,X56⟩
def Xk (x:Xq):AV:=.agg [(aB x.Mark),(aI .i64 x.Time),(aI .i64 x.Record.Key),(aI .i64 x.Record.Time),(aI .i64 x.Record.Value)]
theorem Xk7 (x:Xq):X9o (Xk x):=(X1t (X1t (X1t (X1t (X1t Xfx)))))
theorem X5z (x:Xq):X69 (Xk x):=λ_=>rfl
theorem Xbq (x:Xq):Xal (Xk x):=X4j (Xk7 x) rfl
instance X0df:X9n Xk:=⟨Xk7,λ_=>rfl,X5z⟩
def Xx (x:X0p):AV:=.agg [(aI .i64 x.Start),(aI .i64 x.End)]
theorem Xm7 (x:X0p):X9o (Xx x):=(X1t (X1t Xfx))
theorem X76 (x:X0p):X69 (Xx x):=λ_=>rfl
theorem Xdk (x:X0p):Xal (Xx x):=X4j (Xm7 x) rfl
instance X0el:X9n Xx:=⟨Xm7,λ_=>rfl,X76⟩
def Xa (x:X1z):AV:=.agg [(aI .i64 x.Key),(aI .i64 x.Span.Start),(aI .i64 x.Span.End),(aI .i64 x.Values.e0),(aI .i64 x.Values.e1)]
theorem Xk6 (x:X1z):X9o (Xa x):=(X1t (X1t (X1t (X1t (X1t Xfx)))))
theorem X8g (x:X1z):X69 (Xa x):=λ_=>rfl
theorem Xfu (x:X1z):Xal (Xa x):=X4j (Xk6 x) rfl
instance X0hn:X9n Xa:=⟨Xk6,λ_=>rfl,X8g⟩
def Xb (o:Bool) (x:Xr):AV:=.agg [(AV.list o (List.map Xa x.Rows)),(AV.list o (List.map X0 x.Late))]
theorem X1l (o:Bool) (x:Xr):X69 (Xb o x):=λ_=>rfl
theorem X2r (o:Bool) (x:Xr):Xal (Xb o x):=Xnm (λ_=>(X13 .list (X13 .list X70)))
theorem Xps {H:Xw} {o:Bool} {x:Xr}:Cv false H (Xb o x) (Xb false x):=Xkf (Cvs.cons (X4o (X1s Xk6 _)) (Cvs.cons (X4o (X1s Xa6 _)) Cvs.nil))
theorem Xpr {H:Xw} {o:Bool} {x:Xr}:Cv true H (Xb o x) (Xb o x):=Xkf (Cvs.cons (.listS rfl) (Cvs.cons (.listS rfl) Cvs.nil))
instance X08c:X05a Xb:=⟨Xps,Xpr,λ_ _ _=>rfl,X2r,X1l⟩
def X7 (x:Xd):AV:=.agg [(aI .i64 x.at_),(aI .i64 x.size),(aI .i64 x.depth)]
theorem Xcy (x:Xd):X9o (X7 x):=(X1t (X1t (X1t Xfx)))
theorem X3c (x:Xd):X69 (X7 x):=λ_=>rfl
theorem X6l (x:Xd):Xal (X7 x):=X4j (Xcy x) rfl
instance X04o:X9n X7:=⟨Xcy,λ_=>rfl,X3c⟩
def X8e (x:(V2 Bool)):AV:=.agg [(aB x.e0),(aB x.e1)]
theorem X04j (x:(V2 Bool)):X9o (X8e x):=(X1t (X1t Xfx))
theorem Xij (x:(V2 Bool)):Xal (X8e x):=X4j (X04j x) rfl
def X0o (x:X0y):AV:=.agg [(aI .i64 x.Count),(aI .i64 x.Sum),(aI .i64 x.Min),(aI .i64 x.Max)]
theorem Xk8 (x:X0y):X9o (X0o x):=(X1t (X1t (X1t (X1t Xfx))))
theorem X61 (x:X0y):X69 (X0o x):=λ_=>rfl
theorem Xbs (x:X0y):Xal (X0o x):=X4j (Xk8 x) rfl
instance X0dh:X9n X0o:=⟨Xk8,λ_=>rfl,X61⟩
def X1 (x:X4):AV:=.agg [(aI .i64 x.Key),(aI .i64 x.Span.Start),(aI .i64 x.Span.End),(aI .i64 x.Values.e0.Count),(aI .i64 x.Values.e0.Sum),(aI .i64 x.Values.e0.Min),(aI .i64 x.Values.e0.Max),(aI .i64 x.Values.e1.Count),(aI .i64 x.Values.e1.Sum),(aI .i64 x.Values.e1.Min),(aI .i64 x.Values.e1.Max)]
theorem X9j (x:X4):X9o (X1 x):=(X1t (X1t (X1t (X1t (X1t (X1t (X1t (X1t (X1t (X1t (X1t Xfx)))))))))))
theorem X60 (x:X4):X69 (X1 x):=λ_=>rfl
theorem Xbr (x:X4):Xal (X1 x):=X4j (X9j x) rfl
theorem Xdo {m:Bool} {H:Xw} {x:X4}:Cv m H (X1 x) (X1 x):=X09r (X9j x)
instance X0dg:X9n X1:=⟨X9j,λ_=>rfl,X60⟩
def Xdn (x:(V5 Int)):AV:=.agg [(aI .i64 x.e0),(aI .i64 x.e1),(aI .i64 x.e2),(aI .i64 x.e3),(aI .i64 x.e4)]
theorem Xwf (x:(V5 Int)):X9o (Xdn x):=(X1t (X1t (X1t (X1t (X1t Xfx)))))
theorem Xdj (x:(V5 Int)):Xal (Xdn x):=X4j (Xwf x) rfl
def X6o (x:X6q):AV:=.agg [(aI .i64 x.Key),(aI .i64 x.Span.Start),(aI .i64 x.Span.End),(aI .i64 x.Values.e0),(aI .i64 x.Values.e1)]
theorem Xld (x:X6q):X9o (X6o x):=(X1t (X1t (X1t (X1t (X1t Xfx)))))
theorem X3x (x:X6q):X69 (X6o x):=λ_=>rfl
instance X069:X9n X6o:=⟨Xld,λ_=>rfl,X3x⟩
theorem wkA {P:Prop} (h:P:=by
  first
    |exact trivial
    |rfl
    |exact .sc
    |exact .list
    |exact .nils
    |exact .ref (by decide)
    |exact .ptr (by decide)
    |exact Xyk
    |(refine AV.Ok.tup ?_;repeat' first|exact X70|refine X13 ?_ ?_|exact .sc|exact .nils|exact .list|exact .ref (by decide)|exact .ptr (by decide))
    |(refine congrArg AV.tup ?_;repeat' first|rfl|(refine congrArg (λz=>AV.ref _ 0 z) ?_;first|rfl|omega|(simp;done)|(simp;omega))|(show AV.ref _ 0 _=AV.ref _ 0 _;congr 1;first|omega|(simp;done))|(refine congrArg (λz=>AV.sc (Value.int IntKind.i64 z)) ?_;first|rfl|omega|assumption|(simp;done))|refine congr (congrArg List.cons ?_) ?_|(show(_::_:List AV)=_::_;refine congr (congrArg List.cons ?_) ?_))
    |exact .fn (X13 (.ptr (by decide)) X70)
    |exact .fn (X13 (.ptr (by decide)) (X13 (.ptr (by decide)) X70))
    |exact .fn (X13 (.ptr (by decide)) (X13 (.ptr (by decide)) (X13 (.ptr (by decide)) X70)))
    |assumption
    |exact(Xdl _ _).1
    |exact(Xa4 _ _).1
    |exact(X4d true _ _).1
    |exact(X4d false _ _).1
    |exact(Xa5 _ _).1
    |exact(Xbq _ _).1
    |exact(Xdk _ _).1
    |exact(free_V2i64 _ _).1
    |exact(Xfu _ _).1
    |exact(X2r true _ _).1
    |exact(X2r false _ _).1
    |exact(X6l _ _).1
    |exact(Xij _ _).1
    |exact(Xbs _ _).1
    |exact(free_V2GAccum _ _).1
    |exact(Xbr _ _).1
    |exact(Xdj _ _).1
    |exact(free_Gsink_row _ _).1
    |(refine congrArg (λz=>AV.sc (Value.int IntKind.i64 z)) ?_;first|rfl|omega|assumption|(simp;done)|(simp;omega))
    |(refine congrArg (λz=>AV.sc (Value.bool z)) ?_;first|rfl|assumption|(simp;done))
    |(refine congrArg (λz=>AV.ref _ 0 z) ?_;first|rfl|omega|(simp;done)|(simp;omega))
    |(show AV.ref _ 0 _=AV.ref _ 0 _;congr 1;first|(simp;done)|(simp;omega))
    |(simp[slE,opE,nbF,nbT,nbS,AV.ren,List.map_take,List.map_drop];done)
    |(simp[slE,opE,nbF,nbT,nbS,AV.ren,List.map_take,List.map_drop, *];done)
    |(simp[AV.ren, *];done)
    |exact wkSl rfl
    |exact okSl (by decide)
    |(refine aggV ?_;repeat' first|exact trivial|refine And.intro ?_ ?_|rfl|exact wkSl rfl|(refine refR rfl ?_;first|rfl|(simp;done)|(simp;omega)))
    |(refine aggOk ?_;repeat' first|exact X70|refine X13 ?_ ?_|exact .sc|exact .list|exact .nils|exact .ref (by decide)|exact .ptr (by decide)|exact okSl (by decide)|exact okF|exact okG|exact Xyk)):P:=h
theorem wkB {P:Prop} (h:P:=by
  first
    |exact trivial
    |rfl
    |decide
    |exact⟨_,rfl,rfl,rfl⟩
    |exact X0ca rfl
    |(refine⟨_,rfl,rfl,ref1 ?_⟩;first|rfl|omega|(simp;done)|(simp;omega))
    |exact X2m Xdl _ _
    |exact X2l (Xdl _) _
    |exact free_cons Xdl _ _ _
    |exact X2m Xa4 _ _
    |exact X2l (Xa4 _) _
    |exact free_cons Xa4 _ _ _
    |exact X2m (X4d true) _ _
    |exact X2l ((X4d true) _) _
    |exact free_cons (X4d true) _ _ _
    |exact X2m (X4d false) _ _
    |exact X2l ((X4d false) _) _
    |exact free_cons (X4d false) _ _ _
    |exact X2m Xa5 _ _
    |exact X2l (Xa5 _) _
    |exact free_cons Xa5 _ _ _
    |exact X2m Xbq _ _
    |exact X2l (Xbq _) _
    |exact free_cons Xbq _ _ _
    |exact X2m Xdk _ _
    |exact X2l (Xdk _) _
    |exact free_cons Xdk _ _ _
    |exact X2m free_V2i64 _ _
    |exact X2l (free_V2i64 _) _
    |exact free_cons free_V2i64 _ _ _
    |exact X2m Xfu _ _
    |exact X2l (Xfu _) _
    |exact free_cons Xfu _ _ _
    |exact X2m (X2r true) _ _
    |exact X2l ((X2r true) _) _
    |exact free_cons (X2r true) _ _ _
    |exact X2m (X2r false) _ _
    |exact X2l ((X2r false) _) _
    |exact free_cons (X2r false) _ _ _
    |exact X2m X6l _ _
    |exact X2l (X6l _) _
    |exact free_cons X6l _ _ _
    |exact X2m Xij _ _
    |exact X2l (Xij _) _
    |exact free_cons Xij _ _ _
    |exact X2m Xbs _ _
    |exact X2l (Xbs _) _
    |exact free_cons Xbs _ _ _
    |exact X2m free_V2GAccum _ _
    |exact X2l (free_V2GAccum _) _
    |exact free_cons free_V2GAccum _ _ _
    |exact X2m Xbr _ _
    |exact X2l (Xbr _) _
    |exact free_cons Xbr _ _ _
    |exact X2m Xdj _ _
    |exact X2l (Xdj _) _
    |exact free_cons Xdj _ _ _
    |exact X2m free_Gsink_row _ _
    |exact X2l (free_Gsink_row _) _
    |exact free_cons free_Gsink_row _ _ _
    |exact X2m (λ_=>X005) _ _
    |exact X2l ((λ_=>X005) _) _
    |exact free_cons (λ_=>X005) _ _ _
    |exact X2m (λ_=>Xk3) _ _
    |exact X2l ((λ_=>Xk3) _) _
    |exact free_cons (λ_=>Xk3) _ _ _
    |(refine⟨_,rfl,rfl,Eq.trans ?_ (X9 (X03 X77 _) _)⟩;rfl)
    |(refine⟨_,rfl,rfl,Eq.trans ?_ (X9 (still_cons X77 _ _) _)⟩;rfl)
    |(refine⟨_,rfl,rfl,Eq.trans ?_ (X9 (X03 X55 _) _)⟩;rfl)
    |(refine⟨_,rfl,rfl,Eq.trans ?_ (X9 (still_cons X55 _ _) _)⟩;rfl)
    |(refine⟨_,rfl,rfl,Eq.trans ?_ (X9 (X03 (X2d true) _) _)⟩;rfl)
    |(refine⟨_,rfl,rfl,Eq.trans ?_ (X9 (still_cons (X2d true) _ _) _)⟩;rfl)
    |(refine⟨_,rfl,rfl,Eq.trans ?_ (X9 (X03 (X2d false) _) _)⟩;rfl)
    |(refine⟨_,rfl,rfl,Eq.trans ?_ (X9 (still_cons (X2d false) _ _) _)⟩;rfl)
    |(refine⟨_,rfl,rfl,Eq.trans ?_ (X9 (X03 X56 _) _)⟩;rfl)
    |(refine⟨_,rfl,rfl,Eq.trans ?_ (X9 (still_cons X56 _ _) _)⟩;rfl)
    |(refine⟨_,rfl,rfl,Eq.trans ?_ (X9 (X03 X5z _) _)⟩;rfl)
    |(refine⟨_,rfl,rfl,Eq.trans ?_ (X9 (still_cons X5z _ _) _)⟩;rfl)
    |(refine⟨_,rfl,rfl,Eq.trans ?_ (X9 (X03 X76 _) _)⟩;rfl)
    |(refine⟨_,rfl,rfl,Eq.trans ?_ (X9 (still_cons X76 _ _) _)⟩;rfl)
    |(refine⟨_,rfl,rfl,Eq.trans ?_ (X9 (X03 still_V2i64 _) _)⟩;rfl)
    |(refine⟨_,rfl,rfl,Eq.trans ?_ (X9 (still_cons still_V2i64 _ _) _)⟩;rfl)
    |(refine⟨_,rfl,rfl,Eq.trans ?_ (X9 (X03 X8g _) _)⟩;rfl)
    |(refine⟨_,rfl,rfl,Eq.trans ?_ (X9 (still_cons X8g _ _) _)⟩;rfl)
    |(refine⟨_,rfl,rfl,Eq.trans ?_ (X9 (X03 (X1l true) _) _)⟩;rfl)
    |(refine⟨_,rfl,rfl,Eq.trans ?_ (X9 (still_cons (X1l true) _ _) _)⟩;rfl)
    |(refine⟨_,rfl,rfl,Eq.trans ?_ (X9 (X03 (X1l false) _) _)⟩;rfl)
    |(refine⟨_,rfl,rfl,Eq.trans ?_ (X9 (still_cons (X1l false) _ _) _)⟩;rfl)
    |(refine⟨_,rfl,rfl,Eq.trans ?_ (X9 (X03 X3c _) _)⟩;rfl)
    |(refine⟨_,rfl,rfl,Eq.trans ?_ (X9 (still_cons X3c _ _) _)⟩;rfl)
    |(refine⟨_,rfl,rfl,Eq.trans ?_ (X9 (X03 still_V2b _) _)⟩;rfl)
    |(refine⟨_,rfl,rfl,Eq.trans ?_ (X9 (still_cons still_V2b _ _) _)⟩;rfl)
    |(refine⟨_,rfl,rfl,Eq.trans ?_ (X9 (X03 X61 _) _)⟩;rfl)
    |(refine⟨_,rfl,rfl,Eq.trans ?_ (X9 (still_cons X61 _ _) _)⟩;rfl)
    |(refine⟨_,rfl,rfl,Eq.trans ?_ (X9 (X03 still_V2GAccum _) _)⟩;rfl)
    |(refine⟨_,rfl,rfl,Eq.trans ?_ (X9 (still_cons still_V2GAccum _ _) _)⟩;rfl)
    |(refine⟨_,rfl,rfl,Eq.trans ?_ (X9 (X03 X60 _) _)⟩;rfl)
    |(refine⟨_,rfl,rfl,Eq.trans ?_ (X9 (still_cons X60 _ _) _)⟩;rfl)
    |(refine⟨_,rfl,rfl,Eq.trans ?_ (X9 (X03 still_V5i64 _) _)⟩;rfl)
    |(refine⟨_,rfl,rfl,Eq.trans ?_ (X9 (still_cons still_V5i64 _ _) _)⟩;rfl)
    |(refine⟨_,rfl,rfl,Eq.trans ?_ (X9 (X03 X3x _) _)⟩;rfl)
    |(refine⟨_,rfl,rfl,Eq.trans ?_ (X9 (still_cons X3x _ _) _)⟩;rfl)
    |(refine⟨_,rfl,rfl,Eq.trans ?_ (X9 (X03 (λ_=>Xel) _) _)⟩;rfl)
    |(refine⟨_,rfl,rfl,Eq.trans ?_ (X9 (still_cons (λ_=>Xel) _ _) _)⟩;rfl)
    |(refine⟨_,rfl,rfl,Eq.trans ?_ (X9 (X03 (λ_=>X75) _) _)⟩;rfl)
    |(refine⟨_,rfl,rfl,Eq.trans ?_ (X9 (still_cons (λ_=>X75) _ _) _)⟩;rfl)
    |(refine⟨_,rfl,rfl,Eq.trans ?_ (X9 (X03 X77 _) _)⟩;first|(simp;done)|(simp;rfl)|(exact Eq.symm (Eq.trans List.map_append rfl))|(rw[List.map_append];rfl)|(rw[List.map_set];rfl)|(simp[*];done)|(rw[List.map_replicate];rfl))
    |(refine⟨_,rfl,rfl,Eq.trans ?_ (X9 (still_cons X77 _ _) _)⟩;first|(simp;done)|(simp;rfl)|(simp[*];done))
    |(refine⟨_,rfl,rfl,Eq.trans ?_ (X9 (X03 X55 _) _)⟩;first|(simp;done)|(simp;rfl)|(exact Eq.symm (Eq.trans List.map_append rfl))|(rw[List.map_append];rfl)|(rw[List.map_set];rfl)|(simp[*];done)|(rw[List.map_replicate];rfl))
    |(refine⟨_,rfl,rfl,Eq.trans ?_ (X9 (still_cons X55 _ _) _)⟩;first|(simp;done)|(simp;rfl)|(simp[*];done))
    |(refine⟨_,rfl,rfl,Eq.trans ?_ (X9 (X03 (X2d true) _) _)⟩;first|(simp;done)|(simp;rfl)|(exact Eq.symm (Eq.trans List.map_append rfl))|(rw[List.map_append];rfl)|(rw[List.map_set];rfl)|(simp[*];done)|(rw[List.map_replicate];rfl))
    |(refine⟨_,rfl,rfl,Eq.trans ?_ (X9 (still_cons (X2d true) _ _) _)⟩;first|(simp;done)|(simp;rfl)|(simp[*];done))
    |(refine⟨_,rfl,rfl,Eq.trans ?_ (X9 (X03 (X2d false) _) _)⟩;first|(simp;done)|(simp;rfl)|(exact Eq.symm (Eq.trans List.map_append rfl))|(rw[List.map_append];rfl)|(rw[List.map_set];rfl)|(simp[*];done)|(rw[List.map_replicate];rfl))
    |(refine⟨_,rfl,rfl,Eq.trans ?_ (X9 (still_cons (X2d false) _ _) _)⟩;first|(simp;done)|(simp;rfl)|(simp[*];done))
    |(refine⟨_,rfl,rfl,Eq.trans ?_ (X9 (X03 X56 _) _)⟩;first|(simp;done)|(simp;rfl)|(exact Eq.symm (Eq.trans List.map_append rfl))|(rw[List.map_append];rfl)|(rw[List.map_set];rfl)|(simp[*];done)|(rw[List.map_replicate];rfl))
    |(refine⟨_,rfl,rfl,Eq.trans ?_ (X9 (still_cons X56 _ _) _)⟩;first|(simp;done)|(simp;rfl)|(simp[*];done))
    |(refine⟨_,rfl,rfl,Eq.trans ?_ (X9 (X03 X5z _) _)⟩;first|(simp;done)|(simp;rfl)|(exact Eq.symm (Eq.trans List.map_append rfl))|(rw[List.map_append];rfl)|(rw[List.map_set];rfl)|(simp[*];done)|(rw[List.map_replicate];rfl))
    |(refine⟨_,rfl,rfl,Eq.trans ?_ (X9 (still_cons X5z _ _) _)⟩;first|(simp;done)|(simp;rfl)|(simp[*];done))
    |(refine⟨_,rfl,rfl,Eq.trans ?_ (X9 (X03 X76 _) _)⟩;first|(simp;done)|(simp;rfl)|(exact Eq.symm (Eq.trans List.map_append rfl))|(rw[List.map_append];rfl)|(rw[List.map_set];rfl)|(simp[*];done)|(rw[List.map_replicate];rfl))
    |(refine⟨_,rfl,rfl,Eq.trans ?_ (X9 (still_cons X76 _ _) _)⟩;first|(simp;done)|(simp;rfl)|(simp[*];done))
    |(refine⟨_,rfl,rfl,Eq.trans ?_ (X9 (X03 still_V2i64 _) _)⟩;first|(simp;done)|(simp;rfl)|(exact Eq.symm (Eq.trans List.map_append rfl))|(rw[List.map_append];rfl)|(rw[List.map_set];rfl)|(simp[*];done)|(rw[List.map_replicate];rfl))
    |(refine⟨_,rfl,rfl,Eq.trans ?_ (X9 (still_cons still_V2i64 _ _) _)⟩;first|(simp;done)|(simp;rfl)|(simp[*];done))
    |(refine⟨_,rfl,rfl,Eq.trans ?_ (X9 (X03 X8g _) _)⟩;first|(simp;done)|(simp;rfl)|(exact Eq.symm (Eq.trans List.map_append rfl))|(rw[List.map_append];rfl)|(rw[List.map_set];rfl)|(simp[*];done)|(rw[List.map_replicate];rfl))
    |(refine⟨_,rfl,rfl,Eq.trans ?_ (X9 (still_cons X8g _ _) _)⟩;first|(simp;done)|(simp;rfl)|(simp[*];done))
    |(refine⟨_,rfl,rfl,Eq.trans ?_ (X9 (X03 (X1l true) _) _)⟩;first|(simp;done)|(simp;rfl)|(exact Eq.symm (Eq.trans List.map_append rfl))|(rw[List.map_append];rfl)|(rw[List.map_set];rfl)|(simp[*];done)|(rw[List.map_replicate];rfl))
    |(refine⟨_,rfl,rfl,Eq.trans ?_ (X9 (still_cons (X1l true) _ _) _)⟩;first|(simp;done)|(simp;rfl)|(simp[*];done))
    |(refine⟨_,rfl,rfl,Eq.trans ?_ (X9 (X03 (X1l false) _) _)⟩;first|(simp;done)|(simp;rfl)|(exact Eq.symm (Eq.trans List.map_append rfl))|(rw[List.map_append];rfl)|(rw[List.map_set];rfl)|(simp[*];done)|(rw[List.map_replicate];rfl))
    |(refine⟨_,rfl,rfl,Eq.trans ?_ (X9 (still_cons (X1l false) _ _) _)⟩;first|(simp;done)|(simp;rfl)|(simp[*];done))
    |(refine⟨_,rfl,rfl,Eq.trans ?_ (X9 (X03 X3c _) _)⟩;first|(simp;done)|(simp;rfl)|(exact Eq.symm (Eq.trans List.map_append rfl))|(rw[List.map_append];rfl)|(rw[List.map_set];rfl)|(simp[*];done)|(rw[List.map_replicate];rfl))
    |(refine⟨_,rfl,rfl,Eq.trans ?_ (X9 (still_cons X3c _ _) _)⟩;first|(simp;done)|(simp;rfl)|(simp[*];done))
    |(refine⟨_,rfl,rfl,Eq.trans ?_ (X9 (X03 still_V2b _) _)⟩;first|(simp;done)|(simp;rfl)|(exact Eq.symm (Eq.trans List.map_append rfl))|(rw[List.map_append];rfl)|(rw[List.map_set];rfl)|(simp[*];done)|(rw[List.map_replicate];rfl))
    |(refine⟨_,rfl,rfl,Eq.trans ?_ (X9 (still_cons still_V2b _ _) _)⟩;first|(simp;done)|(simp;rfl)|(simp[*];done))
    |(refine⟨_,rfl,rfl,Eq.trans ?_ (X9 (X03 X61 _) _)⟩;first|(simp;done)|(simp;rfl)|(exact Eq.symm (Eq.trans List.map_append rfl))|(rw[List.map_append];rfl)|(rw[List.map_set];rfl)|(simp[*];done)|(rw[List.map_replicate];rfl))
    |(refine⟨_,rfl,rfl,Eq.trans ?_ (X9 (still_cons X61 _ _) _)⟩;first|(simp;done)|(simp;rfl)|(simp[*];done))
    |(refine⟨_,rfl,rfl,Eq.trans ?_ (X9 (X03 still_V2GAccum _) _)⟩;first|(simp;done)|(simp;rfl)|(exact Eq.symm (Eq.trans List.map_append rfl))|(rw[List.map_append];rfl)|(rw[List.map_set];rfl)|(simp[*];done)|(rw[List.map_replicate];rfl))
    |(refine⟨_,rfl,rfl,Eq.trans ?_ (X9 (still_cons still_V2GAccum _ _) _)⟩;first|(simp;done)|(simp;rfl)|(simp[*];done))
    |(refine⟨_,rfl,rfl,Eq.trans ?_ (X9 (X03 X60 _) _)⟩;first|(simp;done)|(simp;rfl)|(exact Eq.symm (Eq.trans List.map_append rfl))|(rw[List.map_append];rfl)|(rw[List.map_set];rfl)|(simp[*];done)|(rw[List.map_replicate];rfl))
    |(refine⟨_,rfl,rfl,Eq.trans ?_ (X9 (still_cons X60 _ _) _)⟩;first|(simp;done)|(simp;rfl)|(simp[*];done))
    |(refine⟨_,rfl,rfl,Eq.trans ?_ (X9 (X03 still_V5i64 _) _)⟩;first|(simp;done)|(simp;rfl)|(exact Eq.symm (Eq.trans List.map_append rfl))|(rw[List.map_append];rfl)|(rw[List.map_set];rfl)|(simp[*];done)|(rw[List.map_replicate];rfl))
    |(refine⟨_,rfl,rfl,Eq.trans ?_ (X9 (still_cons still_V5i64 _ _) _)⟩;first|(simp;done)|(simp;rfl)|(simp[*];done))
    |(refine⟨_,rfl,rfl,Eq.trans ?_ (X9 (X03 X3x _) _)⟩;first|(simp;done)|(simp;rfl)|(exact Eq.symm (Eq.trans List.map_append rfl))|(rw[List.map_append];rfl)|(rw[List.map_set];rfl)|(simp[*];done)|(rw[List.map_replicate];rfl))
    |(refine⟨_,rfl,rfl,Eq.trans ?_ (X9 (still_cons X3x _ _) _)⟩;first|(simp;done)|(simp;rfl)|(simp[*];done))
    |(refine⟨_,rfl,rfl,Eq.trans ?_ (X9 (X03 (λ_=>Xel) _) _)⟩;first|(simp;done)|(simp;rfl)|(exact Eq.symm (Eq.trans List.map_append rfl))|(rw[List.map_append];rfl)|(rw[List.map_set];rfl)|(simp[*];done)|(rw[List.map_replicate];rfl))
    |(refine⟨_,rfl,rfl,Eq.trans ?_ (X9 (still_cons (λ_=>Xel) _ _) _)⟩;first|(simp;done)|(simp;rfl)|(simp[*];done))
    |(refine⟨_,rfl,rfl,Eq.trans ?_ (X9 (X03 (λ_=>X75) _) _)⟩;first|(simp;done)|(simp;rfl)|(exact Eq.symm (Eq.trans List.map_append rfl))|(rw[List.map_append];rfl)|(rw[List.map_set];rfl)|(simp[*];done)|(rw[List.map_replicate];rfl))
    |(refine⟨_,rfl,rfl,Eq.trans ?_ (X9 (still_cons (λ_=>X75) _ _) _)⟩;first|(simp;done)|(simp;rfl)|(simp[*];done))
    |(refine⟨_,rfl,rfl,Eq.trans ?_ (X9 (still_one (X77 _)) _)⟩;simp only[List.length_cons,List.length_map];rfl)
    |(refine⟨_,rfl,rfl,Eq.trans ?_ (X9 (still_one (X55 _)) _)⟩;simp only[List.length_cons,List.length_map];rfl)
    |(refine⟨_,rfl,rfl,Eq.trans ?_ (X9 (still_one ((X2d true) _)) _)⟩;simp only[List.length_cons,List.length_map];rfl)
    |(refine⟨_,rfl,rfl,Eq.trans ?_ (X9 (still_one ((X2d false) _)) _)⟩;simp only[List.length_cons,List.length_map];rfl)
    |(refine⟨_,rfl,rfl,Eq.trans ?_ (X9 (still_one (X56 _)) _)⟩;simp only[List.length_cons,List.length_map];rfl)
    |(refine⟨_,rfl,rfl,Eq.trans ?_ (X9 (still_one (X5z _)) _)⟩;simp only[List.length_cons,List.length_map];rfl)
    |(refine⟨_,rfl,rfl,Eq.trans ?_ (X9 (still_one (X76 _)) _)⟩;simp only[List.length_cons,List.length_map];rfl)
    |(refine⟨_,rfl,rfl,Eq.trans ?_ (X9 (still_one (still_V2i64 _)) _)⟩;simp only[List.length_cons,List.length_map];rfl)
    |(refine⟨_,rfl,rfl,Eq.trans ?_ (X9 (still_one (X8g _)) _)⟩;simp only[List.length_cons,List.length_map];rfl)
    |(refine⟨_,rfl,rfl,Eq.trans ?_ (X9 (still_one ((X1l true) _)) _)⟩;simp only[List.length_cons,List.length_map];rfl)
    |(refine⟨_,rfl,rfl,Eq.trans ?_ (X9 (still_one ((X1l false) _)) _)⟩;simp only[List.length_cons,List.length_map];rfl)
    |(refine⟨_,rfl,rfl,Eq.trans ?_ (X9 (still_one (X3c _)) _)⟩;simp only[List.length_cons,List.length_map];rfl)
    |(refine⟨_,rfl,rfl,Eq.trans ?_ (X9 (still_one (still_V2b _)) _)⟩;simp only[List.length_cons,List.length_map];rfl)
    |(refine⟨_,rfl,rfl,Eq.trans ?_ (X9 (still_one (X61 _)) _)⟩;simp only[List.length_cons,List.length_map];rfl)
    |(refine⟨_,rfl,rfl,Eq.trans ?_ (X9 (still_one (still_V2GAccum _)) _)⟩;simp only[List.length_cons,List.length_map];rfl)
    |(refine⟨_,rfl,rfl,Eq.trans ?_ (X9 (still_one (X60 _)) _)⟩;simp only[List.length_cons,List.length_map];rfl)
    |(refine⟨_,rfl,rfl,Eq.trans ?_ (X9 (still_one (still_V5i64 _)) _)⟩;simp only[List.length_cons,List.length_map];rfl)
    |(refine⟨_,rfl,rfl,Eq.trans ?_ (X9 (still_one (X3x _)) _)⟩;simp only[List.length_cons,List.length_map];rfl)
    |(refine⟨_,rfl,rfl,Eq.trans ?_ (X9 (still_one ((λ_=>Xel) _)) _)⟩;simp only[List.length_cons,List.length_map];rfl)
    |(refine⟨_,rfl,rfl,Eq.trans ?_ (X9 (still_one ((λ_=>X75) _)) _)⟩;simp only[List.length_cons,List.length_map];rfl)
    |(intro e he a ha;rw[List.mem_singleton.1 he] at ha;rw[List.mem_singleton.1 ha];first|exact .sc|exact .list|exact .nils|exact .ref (by decide)|exact .ptr (by decide)|exact Xyk|exact .fn (X13 (.ptr (by decide)) X70)|exact .fn (X13 (.ptr (by decide)) (X13 (.ptr (by decide)) X70)))
    |(intro e he a ha;simp at he;subst he;simp[AV.cells] at ha;first|(subst ha;exact .sc)|(rcases ha with rfl|rfl|rfl|rfl|rfl<;>exact .sc))
    | (refine focO ?_ ?_; · first | exact okSl (by decide) | exact .ref (by decide) | exact .nils | exact .list
       · first|rfl|exact slE_cells)
    |(refine⟨_,rfl,rfl,focR (λ_=>X75) (by first|rfl|(simp;done)) ?_⟩;first|rfl|(refine focC rfl ?_;first|rfl|(simp;done)|(simp;omega))|(simp[slE,nbF,AV.ren,thL];done))
    |(refine⟨_,rfl,rfl,focR2 (λ_=>X75) (by first|rfl|(simp;done)) (by first|rfl|(simp;done)) ?_⟩;first|rfl|(refine focC rfl ?_;first|rfl|(simp;done)|(simp;omega))|(simp[slE,nbF,AV.ren,thL];done))
    |(refine⟨_,rfl,rfl,aggR ?_⟩;repeat' first|exact trivial|refine And.intro ?_ ?_|rfl|exact wkSl rfl|(refine refR rfl ?_;first|rfl|(simp;done)|(simp;omega)))
    |(refine X0fk ?_;repeat' first|exact X70|refine X13 ?_ ?_|exact .sc|exact .list|exact .nils|exact .ref (by decide)|exact .ptr (by decide)|exact okSl (by decide)|exact okF|exact okG|exact Xyk)):P:=h
theorem rn {P:Program} {T:Ty} {nt n0:Nat} {μ:Mu} {Q:Xl->St->Mu->Prop} {cf cf':Cf} {K K':List Kn} {L L':List (Nat×AV)} {G G':List (Nat×Obj)} {n n':Nat} {hs':List X33} {ps':List Prop} (hT:X6c P T/\P.follows .mixedOrders=true) (hs:List X33) (h:Xat P T nt 4000 cf K L G n hs []=some (cf',K',L',G',n',hs',ps')) (hp':X44 ps') (k:X5 P nt n0 Q cf' K' ⟨fr L',hp G',n'⟩ μ):X5 P nt n0 Q cf K ⟨fr L,hp G,n⟩ μ:=Xcj hT 4000 hs h hp' k
abbrev cc:=@Cvs.cons
abbrev cn:=@Cvs.nil
abbrev pn:=@X4s.none
abbrev Bt:X33:=.br true
abbrev Bf:X33:=.br false
abbrev Ob (e:List AV) (n:Nat):Obj:={ es:=e,esz:=n }
abbrev Lf:=AV.list false
abbrev Lt:=AV.list true
abbrev Gt:X33:=.go true
abbrev Gf:X33:=.go false
theorem Zn {α:Type} {m:Bool} {H:Xw} (f:α->AV):Cv m H .nils (.list m (List.map f ([]:List α))):=.nils
theorem wkT {P : Program} {nt n0 : Nat} {Q : Xl -> St -> Mu -> Prop} {cf : Cf} {K : List Kn} {μ : Mu} {L L' : List (Nat × AV)} {G G' : List (Nat × Obj)} {n n' : Nat} (θ : List (Nat × Nat)) (h : X5 P nt n0 Q cf K ⟨fr L', hp G', n'⟩ μ)
    (hb:(fixB θ n0&&injB θ (G'.map (·.1))&&Nat.ble n0 n')=true:=by rfl) (hL:wkL L θ n' L':=by repeat' first|refine And.intro ?_ ?_|exact wkA) (hG:wkG G θ n' G':=by repeat' first|refine And.intro ?_ ?_|exact wkB):X5 P nt n0 Q cf K ⟨fr L,hp G,n⟩ μ:=X5.weakTo θ h hb hL hG
theorem wC {P : Program} {nt n0 : Nat} {Q : Xl -> St -> Mu -> Prop} {e : Xl} {μ : Mu} {O : Type} {a o : O} {out : O -> Xl × St} {L L' : List (Nat × AV)} {G G' : List (Nat × Obj)} {n n' : Nat} (h : some a = some o) (C : Lc P nt n0 Q μ o out)
    (r:out a=(e,⟨fr L',hp G',n'⟩):=by exact rfl) (hb:(fixB [] n0&&injB [] (G'.map (·.1))&&Nat.ble n0 n')=true:=by rfl) (hL:wkL L [] n' L':=by repeat' first|refine And.intro ?_ ?_|exact wkA) (hG:wkG G [] n' G':=by repeat' first|refine And.intro ?_ ?_|exact wkB):X5 P nt n0 Q (.exit e) [] ⟨fr L,hp G,n⟩ μ:=wkT [] (lE h C r) hb hL hG
theorem wJ {P : Program} {nt n0 : Nat} {Q : Xl -> St -> Mu -> Prop} {x : Xl} {K : List Kn} {μ : Mu} {s' : St} {L L' : List (Nat × AV)} {G G' : List (Nat × Obj)} {n n' : Nat} (θ : List (Nat × Nat)) (J : X5 P nt n0 Q (.exit x) K s' μ)
    (r:s'=⟨fr L',hp G',n'⟩:=by first|rw[<-oj1 e,<-oj2 e]|rw[<-oj e]|(cases oj e;exact rfl)) (hb:(fixB θ n0&&injB θ (G'.map (·.1))&&Nat.ble n0 n')=true:=by rfl) (hL:wkL L θ n' L':=by repeat' first|refine And.intro ?_ ?_|exact wkA) (hG:wkG G θ n' G':=by repeat' first|refine And.intro ?_ ?_|exact wkB):X5 P nt n0 (Xdr P nt n0 Q K) (.exit x) [] ⟨fr L,hp G,n⟩ μ:=wkT θ (gJ J r) hb hL hG
end Go.Av
namespace Go.D
open Go.Av
def X6n (x y:Xy):Bool:=((x.Kind==y.Kind)&&((x.N==y.N)&&((x.A==y.A)&&((x.B==y.B)&&((x.At==y.At)&&true)))))
def X38 (x y:X6):Bool:=((x.Key==y.Key)&&((x.Time==y.Time)&&((x.Value==y.Value)&&true)))
def Xpn (x y:X0p):Bool:=((x.Start==y.Start)&&((x.End==y.End)&&true))
def Xpm (x y:(V2 Int)):Bool:=((x.e0==y.e0)&&((x.e1==y.e1)&&true))
def Xik (x y:X1z):Bool:=((x.Key==y.Key)&&((Xpn x.Span y.Span)&&((Xpm x.Values y.Values)&&true)))
def Xwl (x y:X0y):Bool:=((x.Count==y.Count)&&((x.Sum==y.Sum)&&((x.Min==y.Min)&&((x.Max==y.Max)&&true))))
def Xi5 (x:Xy):Prop:=wfI .u8 x.Kind/\wfI .i64 x.N/\wfI .i64 x.A/\wfI .i64 x.B/\wfI .i64 x.At
def Xlm (x:X0r):Prop:=wfI .u8 x.Kind/\wfI .i64 x.Size/\wfI .i64 x.Every
def Xiv (x:X00):Prop:=wfI .u8 x.Agg/\(List.length x.Arg<=maxLen/\∀ y∈x.Arg,Xi5 y)/\(List.length x.Sources<=maxLen/\∀ y∈x.Sources,wfI .i64 y)/\True/\(List.length x.Where<=maxLen/\∀ y∈x.Where,Xi5 y)/\Xlm x.Window/\True/\wfI .u8 x.Late
def Xln (x:X6):Prop:=wfI .i64 x.Key/\wfI .i64 x.Time/\wfI .i64 x.Value
def Xiw (x:Xq):Prop:=True/\wfI .i64 x.Time/\Xln x.Record
end Go.D
