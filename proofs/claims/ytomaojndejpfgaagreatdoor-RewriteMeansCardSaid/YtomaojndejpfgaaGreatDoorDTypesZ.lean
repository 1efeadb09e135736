/- Printed by decomp.py: the types of the Go program, as data; their encodings. -/
import Derived.Test.YtomaojndejpfgaaGreatDoorGlX
import Derived.Test.YtomaojndejpfgaaGreatDoorAvc
set_option linter.all false

namespace Go.D
theorem Yo {α β:Type} {a:α} {f:α->Option β}:(some a).bind f=f a:=rfl
theorem Yf {p:Prop} [Decidable p] (h:¬ p):decide p=false:=decide_eq_false h
theorem Yt {p:Prop} [Decidable p] (h:p):decide p=true:=decide_eq_true h
theorem Ym {α β:Type} {f:α->β} {l:List α} {i:Nat}:List.map f (List.take i l)=List.take i (List.map f l):=List.map_take
theorem Yd {α β:Type} {f:α->β} {l:List α} {i:Nat}:List.map f (List.drop i l)=List.drop i (List.map f l):=List.map_drop
theorem Ya {a b:Prop} (x:a) (y:b):a/\b:=⟨x,y⟩
theorem Ye {α:Type} {l:List α} {i:Nat} (h:i<l.length):l[i]?=some l[i]:=List.getElem?_eq_getElem h
theorem Ys {α:Type} {l:List α} {i:Nat} {a:α}:l[i]?=some a↔∃ h:i<l.length,l[i]=a:=List.getElem?_eq_some_iff
theorem Yg {α:Type} {l:List α} {i:Nat} {a:α} (h:l[i]?=some a):a∈l:=List.mem_of_getElem? h
structure X4 where
  Kind:Int
  N:Int
  A:Int
  B:Int
  At:Int
  deriving DecidableEq,Inhabited
structure Xn where
  Kind:Int
  Size:Int
  Every:Int
  deriving DecidableEq,Inhabited
structure Xb where
  Agg:Int
  Arg:(List X4)
  Sources:(List Int)
  Join:Bool
  Where:(List X4)
  Window:Xn
  ByKey:Bool
  Late:Int
  deriving DecidableEq,Inhabited
structure X9 where
  Key:Int
  Time:Int
  Value:Int
  deriving DecidableEq,Inhabited
structure Xs where
  Mark:Bool
  Time:Int
  Record:X9
  deriving DecidableEq,Inhabited
structure X0s where
  Start:Int
  End:Int
  deriving DecidableEq,Inhabited
structure X5v where
  Key:Int
  Span:X0s
  Values:(V2 Int)
  deriving DecidableEq,Inhabited
structure Xh where
  at_:Int
  size:Int
  depth:Int
  deriving DecidableEq,Inhabited
structure X0z where
  Count:Int
  Sum:Int
  Min:Int
  Max:Int
  deriving DecidableEq,Inhabited
structure X3 where
  Key:Int
  Span:X0s
  Values:(V2 X0z)
  deriving DecidableEq,Inhabited
structure Xj where
  value:(List X4)
  there:Bool
  deriving DecidableEq,Inhabited
end Go.D
namespace Go.Av
open Go.D
def X0 (x:X4):AV:=.agg [(aI .u8 x.Kind),(aI .i64 x.N),(aI .i64 x.A),(aI .i64 x.B),(aI .i64 x.At)]
theorem X2a (x:X4):Xbo (X0 x):=(X31 (X31 (X31 (X31 (X31 Xla)))))
theorem X7d (x:X4):X75 (X0 x):=λ_=>rfl
theorem Xe0 (x:X4):Xbn (X0 x):=X4i (X2a x) rfl
instance X0gt:Xdp X0:=⟨X2a,λ_=>rfl,X7d⟩
def X39 (x:Xn):AV:=.agg [(aI .u8 x.Kind),(aI .i64 x.Size),(aI .i64 x.Every)]
theorem Xhy (x:Xn):Xbo (X39 x):=(X31 (X31 (X31 Xla)))
theorem X5c (x:Xn):X75 (X39 x):=λ_=>rfl
theorem Xaj (x:Xn):Xbn (X39 x):=X4i (Xhy x) rfl
instance X0cs:Xdp X39:=⟨Xhy,λ_=>rfl,X5c⟩
def Xc (o:Bool) (x:Xb):AV:=.agg [(aI .u8 x.Agg),(AV.list o (List.map X0 x.Arg)),(AV.list o (List.map (aI .i64) x.Sources)),(aB x.Join),(AV.list o (List.map X0 x.Where)),(aI .u8 x.Window.Kind),(aI .i64 x.Window.Size),(aI .i64 x.Window.Every),(aB x.ByKey),(aI .u8 x.Late)]
theorem X2f (o:Bool) (x:Xb):X75 (Xc o x):=λ_=>rfl
theorem X4a (o:Bool) (x:Xb):Xbn (Xc o x):=Xv6 (λ_=>(X14 .sc (X14 .list (X14 .list (X14 .sc (X14 .list (X14 .sc (X14 .sc (X14 .sc (X14 .sc (X14 .sc X74)))))))))))
theorem Xxv {H:Xz} {o:Bool} {x:Xb}:Cv false H (Xc o x) (Xc false x):=Xvj (Cvs.cons .sc (Cvs.cons (X58 (X1s X2a _)) (Cvs.cons (X58 (X1s (λ_=>Xi0) _)) (Cvs.cons .sc (Cvs.cons (X58 (X1s X2a _)) (Cvs.cons .sc (Cvs.cons .sc (Cvs.cons .sc (Cvs.cons .sc (Cvs.cons .sc Cvs.nil))))))))))
theorem Xxu {H:Xz} {o:Bool} {x:Xb}:Cv true H (Xc o x) (Xc o x):=Xvj (Cvs.cons .sc (Cvs.cons (.listS rfl) (Cvs.cons (.listS rfl) (Cvs.cons .sc (Cvs.cons (.listS rfl) (Cvs.cons .sc (Cvs.cons .sc (Cvs.cons .sc (Cvs.cons .sc (Cvs.cons .sc Cvs.nil))))))))))
instance X0eh:X0gc Xc:=⟨Xxv,Xxu,λ_ _ _=>rfl,X4a,X2f⟩
def X2 (x:X9):AV:=.agg [(aI .i64 x.Key),(aI .i64 x.Time),(aI .i64 x.Value)]
theorem Xhz (x:X9):Xbo (X2 x):=(X31 (X31 (X31 Xla)))
theorem X5d (x:X9):X75 (X2 x):=λ_=>rfl
theorem Xak (x:X9):Xbn (X2 x):=X4i (Xhz x) rfl
instance X0ct:Xdp X2:=⟨Xhz,λ_=>rfl,X5d⟩
def Xg (x:Xs):AV:=.agg [(aB x.Mark),(aI .i64 x.Time),(aI .i64 x.Record.Key),(aI .i64 x.Record.Time),(aI .i64 x.Record.Value)]
theorem Xl8 (x:Xs):Xbo (Xg x):=(X31 (X31 (X31 (X31 (X31 Xla)))))
theorem X68 (x:Xs):X75 (Xg x):=λ_=>rfl
theorem Xcb (x:Xs):Xbn (Xg x):=X4i (Xl8 x) rfl
instance X0fi:Xdp Xg:=⟨Xl8,λ_=>rfl,X68⟩
def X01 (x:X0s):AV:=.agg [(aI .i64 x.Start),(aI .i64 x.End)]
theorem Xnf (x:X0s):Xbo (X01 x):=(X31 (X31 Xla))
theorem X7c (x:X0s):X75 (X01 x):=λ_=>rfl
theorem Xdz (x:X0s):Xbn (X01 x):=X4i (Xnf x) rfl
instance X0gs:Xdp X01:=⟨Xnf,λ_=>rfl,X7c⟩
def Xv (x:X5v):AV:=.agg [(aI .i64 x.Key),(aI .i64 x.Span.Start),(aI .i64 x.Span.End),(aI .i64 x.Values.e0),(aI .i64 x.Values.e1)]
theorem Xr2 (x:X5v):Xbo (Xv x):=(X31 (X31 (X31 (X31 (X31 Xla)))))
theorem X8y (x:X5v):X75 (Xv x):=λ_=>rfl
theorem Xg8 (x:X5v):Xbn (Xv x):=X4i (Xr2 x) rfl
instance X0jq:Xdp Xv:=⟨Xr2,λ_=>rfl,X8y⟩
def X5 (x:Xh):AV:=.agg [(aI .i64 x.at_),(aI .i64 x.size),(aI .i64 x.depth)]
theorem Xde (x:Xh):Xbo (X5 x):=(X31 (X31 (X31 Xla)))
theorem X3e (x:Xh):X75 (X5 x):=λ_=>rfl
theorem X6q (x:Xh):Xbn (X5 x):=X4i (Xde x) rfl
instance X06f:Xdp X5:=⟨Xde,λ_=>rfl,X3e⟩
def X8v (x:(V2 Bool)):AV:=.agg [(aB x.e0),(aB x.e1)]
theorem X06a (x:(V2 Bool)):Xbo (X8v x):=(X31 (X31 Xla))
theorem Xjf (x:(V2 Bool)):Xbn (X8v x):=X4i (X06a x) rfl
def X0r (x:X0z):AV:=.agg [(aI .i64 x.Count),(aI .i64 x.Sum),(aI .i64 x.Min),(aI .i64 x.Max)]
theorem Xl9 (x:X0z):Xbo (X0r x):=(X31 (X31 (X31 (X31 Xla))))
theorem X6a (x:X0z):X75 (X0r x):=λ_=>rfl
theorem Xcd (x:X0z):Xbn (X0r x):=X4i (Xl9 x) rfl
instance X0fk:Xdp X0r:=⟨Xl9,λ_=>rfl,X6a⟩
def X1 (x:X3):AV:=.agg [(aI .i64 x.Key),(aI .i64 x.Span.Start),(aI .i64 x.Span.End),(aI .i64 x.Values.e0.Count),(aI .i64 x.Values.e0.Sum),(aI .i64 x.Values.e0.Min),(aI .i64 x.Values.e0.Max),(aI .i64 x.Values.e1.Count),(aI .i64 x.Values.e1.Sum),(aI .i64 x.Values.e1.Min),(aI .i64 x.Values.e1.Max)]
theorem Xa3 (x:X3):Xbo (X1 x):=(X31 (X31 (X31 (X31 (X31 (X31 (X31 (X31 (X31 (X31 (X31 Xla)))))))))))
theorem X69 (x:X3):X75 (X1 x):=λ_=>rfl
theorem Xcc (x:X3):Xbn (X1 x):=X4i (Xa3 x) rfl
theorem Xe2 {m:Bool} {H:Xz} {x:X3}:Cv m H (X1 x) (X1 x):=X0bo (Xa3 x)
instance X0fj:Xdp X1:=⟨Xa3,λ_=>rfl,X69⟩
def Xe1 (x:(V5 Int)):AV:=.agg [(aI .i64 x.e0),(aI .i64 x.e1),(aI .i64 x.e2),(aI .i64 x.e3),(aI .i64 x.e4)]
theorem Xxk (x:(V5 Int)):Xbo (Xe1 x):=(X31 (X31 (X31 (X31 (X31 Xla)))))
theorem Xdy (x:(V5 Int)):Xbn (Xe1 x):=X4i (Xxk x) rfl
def X6 (o:Bool) (x:Xj):AV:=.agg [(AV.list o (List.map X0 x.value)),(aB x.there)]
theorem X08 (o:Bool) (x:Xj):X75 (X6 o x):=λ_=>rfl
theorem X0o (o:Bool) (x:Xj):Xbn (X6 o x):=Xv6 (λ_=>(X14 .list (X14 .sc X74)))
theorem X1y {H:Xz} {o:Bool} {x:Xj}:Cv false H (X6 o x) (X6 false x):=Xvj (Cvs.cons (X58 (X1s X2a _)) (Cvs.cons .sc Cvs.nil))
theorem wkA {P:Prop} (h:P:=by
  first
    |exact trivial
    |rfl
    |exact .sc
    |exact .list
    |exact .nils
    |exact .ref (by decide)
    |exact .ptr (by decide)
    |exact Xzk
    |(refine AV.Ok.tup ?_;repeat' first|exact X74|refine X14 ?_ ?_|exact .sc|exact .nils|exact .list|exact .ref (by decide)|exact .ptr (by decide))
    |(refine congrArg AV.tup ?_;repeat' first|rfl|(refine congrArg (λz=>AV.ref _ 0 z) ?_;first|rfl|omega|(simp;done)|(simp;omega))|(show AV.ref _ 0 _=AV.ref _ 0 _;congr 1;first|omega|(simp;done))|(refine congrArg (λz=>AV.sc (Value.int IntKind.i64 z)) ?_;first|rfl|omega|assumption|(simp;done))|refine congr (congrArg List.cons ?_) ?_|(show(_::_:List AV)=_::_;refine congr (congrArg List.cons ?_) ?_))
    |exact .fn (X14 (.ptr (by decide)) X74)
    |exact .fn (X14 (.ptr (by decide)) (X14 (.ptr (by decide)) X74))
    |exact .fn (X14 (.ptr (by decide)) (X14 (.ptr (by decide)) (X14 (.ptr (by decide)) X74)))
    |assumption
    |exact(Xe0 _ _).1
    |exact(Xaj _ _).1
    |exact(X4a true _ _).1
    |exact(X4a false _ _).1
    |exact(Xak _ _).1
    |exact(Xcb _ _).1
    |exact(Xdz _ _).1
    |exact(free_V2i64 _ _).1
    |exact(Xg8 _ _).1
    |exact(X6q _ _).1
    |exact(Xjf _ _).1
    |exact(Xcd _ _).1
    |exact(free_V2GAccum _ _).1
    |exact(Xcc _ _).1
    |exact(Xdy _ _).1
    |exact(X0o true _ _).1
    |exact(X0o false _ _).1
    |(refine congrArg (λz=>AV.sc (Value.int IntKind.i64 z)) ?_;first|rfl|omega|assumption|(simp;done)|(simp;omega))
    |(refine congrArg (λz=>AV.sc (Value.bool z)) ?_;first|rfl|assumption|(simp;done))
    |(refine congrArg (λz=>AV.ref _ 0 z) ?_;first|rfl|omega|(simp;done)|(simp;omega))
    |(show AV.ref _ 0 _=AV.ref _ 0 _;congr 1;first|(simp;done)|(simp;omega))
    |(simp[slE,opE,nbF,nbT,nbS,AV.ren,List.map_take,List.map_drop];done)
    |(simp[slE,opE,nbF,nbT,nbS,AV.ren,List.map_take,List.map_drop, *];done)
    |(simp[AV.ren, *];done)
    |exact wkSl rfl
    |exact okSl (by decide)
    |(refine aggV ?_;repeat' first|exact trivial|refine And.intro ?_ ?_|rfl|exact wkSl rfl|(refine refR rfl ?_;first|rfl|(simp;done)|(simp;omega)))
    |(refine aggOk ?_;repeat' first|exact X74|refine X14 ?_ ?_|exact .sc|exact .list|exact .nils|exact .ref (by decide)|exact .ptr (by decide)|exact okSl (by decide)|exact okF|exact okG|exact Xzk)):P:=h
theorem wkB {P:Prop} (h:P:=by
  first
    |exact trivial
    |rfl
    |decide
    |exact⟨_,rfl,rfl,rfl⟩
    |exact X0e3 rfl
    |(refine⟨_,rfl,rfl,ref1 ?_⟩;first|rfl|omega|(simp;done)|(simp;omega))
    |exact X2u Xe0 _ _
    |exact X2t (Xe0 _) _
    |exact free_cons Xe0 _ _ _
    |exact X2u Xaj _ _
    |exact X2t (Xaj _) _
    |exact free_cons Xaj _ _ _
    |exact X2u (X4a true) _ _
    |exact X2t ((X4a true) _) _
    |exact free_cons (X4a true) _ _ _
    |exact X2u (X4a false) _ _
    |exact X2t ((X4a false) _) _
    |exact free_cons (X4a false) _ _ _
    |exact X2u Xak _ _
    |exact X2t (Xak _) _
    |exact free_cons Xak _ _ _
    |exact X2u Xcb _ _
    |exact X2t (Xcb _) _
    |exact free_cons Xcb _ _ _
    |exact X2u Xdz _ _
    |exact X2t (Xdz _) _
    |exact free_cons Xdz _ _ _
    |exact X2u free_V2i64 _ _
    |exact X2t (free_V2i64 _) _
    |exact free_cons free_V2i64 _ _ _
    |exact X2u Xg8 _ _
    |exact X2t (Xg8 _) _
    |exact free_cons Xg8 _ _ _
    |exact X2u X6q _ _
    |exact X2t (X6q _) _
    |exact free_cons X6q _ _ _
    |exact X2u Xjf _ _
    |exact X2t (Xjf _) _
    |exact free_cons Xjf _ _ _
    |exact X2u Xcd _ _
    |exact X2t (Xcd _) _
    |exact free_cons Xcd _ _ _
    |exact X2u free_V2GAccum _ _
    |exact X2t (free_V2GAccum _) _
    |exact free_cons free_V2GAccum _ _ _
    |exact X2u Xcc _ _
    |exact X2t (Xcc _) _
    |exact free_cons Xcc _ _ _
    |exact X2u Xdy _ _
    |exact X2t (Xdy _) _
    |exact free_cons Xdy _ _ _
    |exact X2u (X0o true) _ _
    |exact X2t ((X0o true) _) _
    |exact free_cons (X0o true) _ _ _
    |exact X2u (X0o false) _ _
    |exact X2t ((X0o false) _) _
    |exact free_cons (X0o false) _ _ _
    |exact X2u (λ_=>X016) _ _
    |exact X2t ((λ_=>X016) _) _
    |exact free_cons (λ_=>X016) _ _ _
    |exact X2u (λ_=>Xl3) _ _
    |exact X2t ((λ_=>Xl3) _) _
    |exact free_cons (λ_=>Xl3) _ _ _
    |(refine⟨_,rfl,rfl,Eq.trans ?_ (Xa (X09 X7d _) _)⟩;rfl)
    |(refine⟨_,rfl,rfl,Eq.trans ?_ (Xa (still_cons X7d _ _) _)⟩;rfl)
    |(refine⟨_,rfl,rfl,Eq.trans ?_ (Xa (X09 X5c _) _)⟩;rfl)
    |(refine⟨_,rfl,rfl,Eq.trans ?_ (Xa (still_cons X5c _ _) _)⟩;rfl)
    |(refine⟨_,rfl,rfl,Eq.trans ?_ (Xa (X09 (X2f true) _) _)⟩;rfl)
    |(refine⟨_,rfl,rfl,Eq.trans ?_ (Xa (still_cons (X2f true) _ _) _)⟩;rfl)
    |(refine⟨_,rfl,rfl,Eq.trans ?_ (Xa (X09 (X2f false) _) _)⟩;rfl)
    |(refine⟨_,rfl,rfl,Eq.trans ?_ (Xa (still_cons (X2f false) _ _) _)⟩;rfl)
    |(refine⟨_,rfl,rfl,Eq.trans ?_ (Xa (X09 X5d _) _)⟩;rfl)
    |(refine⟨_,rfl,rfl,Eq.trans ?_ (Xa (still_cons X5d _ _) _)⟩;rfl)
    |(refine⟨_,rfl,rfl,Eq.trans ?_ (Xa (X09 X68 _) _)⟩;rfl)
    |(refine⟨_,rfl,rfl,Eq.trans ?_ (Xa (still_cons X68 _ _) _)⟩;rfl)
    |(refine⟨_,rfl,rfl,Eq.trans ?_ (Xa (X09 X7c _) _)⟩;rfl)
    |(refine⟨_,rfl,rfl,Eq.trans ?_ (Xa (still_cons X7c _ _) _)⟩;rfl)
    |(refine⟨_,rfl,rfl,Eq.trans ?_ (Xa (X09 still_V2i64 _) _)⟩;rfl)
    |(refine⟨_,rfl,rfl,Eq.trans ?_ (Xa (still_cons still_V2i64 _ _) _)⟩;rfl)
    |(refine⟨_,rfl,rfl,Eq.trans ?_ (Xa (X09 X8y _) _)⟩;rfl)
    |(refine⟨_,rfl,rfl,Eq.trans ?_ (Xa (still_cons X8y _ _) _)⟩;rfl)
    |(refine⟨_,rfl,rfl,Eq.trans ?_ (Xa (X09 X3e _) _)⟩;rfl)
    |(refine⟨_,rfl,rfl,Eq.trans ?_ (Xa (still_cons X3e _ _) _)⟩;rfl)
    |(refine⟨_,rfl,rfl,Eq.trans ?_ (Xa (X09 still_V2b _) _)⟩;rfl)
    |(refine⟨_,rfl,rfl,Eq.trans ?_ (Xa (still_cons still_V2b _ _) _)⟩;rfl)
    |(refine⟨_,rfl,rfl,Eq.trans ?_ (Xa (X09 X6a _) _)⟩;rfl)
    |(refine⟨_,rfl,rfl,Eq.trans ?_ (Xa (still_cons X6a _ _) _)⟩;rfl)
    |(refine⟨_,rfl,rfl,Eq.trans ?_ (Xa (X09 still_V2GAccum _) _)⟩;rfl)
    |(refine⟨_,rfl,rfl,Eq.trans ?_ (Xa (still_cons still_V2GAccum _ _) _)⟩;rfl)
    |(refine⟨_,rfl,rfl,Eq.trans ?_ (Xa (X09 X69 _) _)⟩;rfl)
    |(refine⟨_,rfl,rfl,Eq.trans ?_ (Xa (still_cons X69 _ _) _)⟩;rfl)
    |(refine⟨_,rfl,rfl,Eq.trans ?_ (Xa (X09 still_V5i64 _) _)⟩;rfl)
    |(refine⟨_,rfl,rfl,Eq.trans ?_ (Xa (still_cons still_V5i64 _ _) _)⟩;rfl)
    |(refine⟨_,rfl,rfl,Eq.trans ?_ (Xa (X09 (X08 true) _) _)⟩;rfl)
    |(refine⟨_,rfl,rfl,Eq.trans ?_ (Xa (still_cons (X08 true) _ _) _)⟩;rfl)
    |(refine⟨_,rfl,rfl,Eq.trans ?_ (Xa (X09 (X08 false) _) _)⟩;rfl)
    |(refine⟨_,rfl,rfl,Eq.trans ?_ (Xa (still_cons (X08 false) _ _) _)⟩;rfl)
    |(refine⟨_,rfl,rfl,Eq.trans ?_ (Xa (X09 (λ_=>Xer) _) _)⟩;rfl)
    |(refine⟨_,rfl,rfl,Eq.trans ?_ (Xa (still_cons (λ_=>Xer) _ _) _)⟩;rfl)
    |(refine⟨_,rfl,rfl,Eq.trans ?_ (Xa (X09 (λ_=>X7b) _) _)⟩;rfl)
    |(refine⟨_,rfl,rfl,Eq.trans ?_ (Xa (still_cons (λ_=>X7b) _ _) _)⟩;rfl)
    |(refine⟨_,rfl,rfl,Eq.trans ?_ (Xa (X09 X7d _) _)⟩;first|(simp;done)|(simp;rfl)|(exact Eq.symm (Eq.trans List.map_append rfl))|(rw[List.map_append];rfl)|(rw[List.map_set];rfl)|(simp[*];done)|(rw[List.map_replicate];rfl))
    |(refine⟨_,rfl,rfl,Eq.trans ?_ (Xa (still_cons X7d _ _) _)⟩;first|(simp;done)|(simp;rfl)|(simp[*];done))
    |(refine⟨_,rfl,rfl,Eq.trans ?_ (Xa (X09 X5c _) _)⟩;first|(simp;done)|(simp;rfl)|(exact Eq.symm (Eq.trans List.map_append rfl))|(rw[List.map_append];rfl)|(rw[List.map_set];rfl)|(simp[*];done)|(rw[List.map_replicate];rfl))
    |(refine⟨_,rfl,rfl,Eq.trans ?_ (Xa (still_cons X5c _ _) _)⟩;first|(simp;done)|(simp;rfl)|(simp[*];done))
    |(refine⟨_,rfl,rfl,Eq.trans ?_ (Xa (X09 (X2f true) _) _)⟩;first|(simp;done)|(simp;rfl)|(exact Eq.symm (Eq.trans List.map_append rfl))|(rw[List.map_append];rfl)|(rw[List.map_set];rfl)|(simp[*];done)|(rw[List.map_replicate];rfl))
    |(refine⟨_,rfl,rfl,Eq.trans ?_ (Xa (still_cons (X2f true) _ _) _)⟩;first|(simp;done)|(simp;rfl)|(simp[*];done))
    |(refine⟨_,rfl,rfl,Eq.trans ?_ (Xa (X09 (X2f false) _) _)⟩;first|(simp;done)|(simp;rfl)|(exact Eq.symm (Eq.trans List.map_append rfl))|(rw[List.map_append];rfl)|(rw[List.map_set];rfl)|(simp[*];done)|(rw[List.map_replicate];rfl))
    |(refine⟨_,rfl,rfl,Eq.trans ?_ (Xa (still_cons (X2f false) _ _) _)⟩;first|(simp;done)|(simp;rfl)|(simp[*];done))
    |(refine⟨_,rfl,rfl,Eq.trans ?_ (Xa (X09 X5d _) _)⟩;first|(simp;done)|(simp;rfl)|(exact Eq.symm (Eq.trans List.map_append rfl))|(rw[List.map_append];rfl)|(rw[List.map_set];rfl)|(simp[*];done)|(rw[List.map_replicate];rfl))
    |(refine⟨_,rfl,rfl,Eq.trans ?_ (Xa (still_cons X5d _ _) _)⟩;first|(simp;done)|(simp;rfl)|(simp[*];done))
    |(refine⟨_,rfl,rfl,Eq.trans ?_ (Xa (X09 X68 _) _)⟩;first|(simp;done)|(simp;rfl)|(exact Eq.symm (Eq.trans List.map_append rfl))|(rw[List.map_append];rfl)|(rw[List.map_set];rfl)|(simp[*];done)|(rw[List.map_replicate];rfl))
    |(refine⟨_,rfl,rfl,Eq.trans ?_ (Xa (still_cons X68 _ _) _)⟩;first|(simp;done)|(simp;rfl)|(simp[*];done))
    |(refine⟨_,rfl,rfl,Eq.trans ?_ (Xa (X09 X7c _) _)⟩;first|(simp;done)|(simp;rfl)|(exact Eq.symm (Eq.trans List.map_append rfl))|(rw[List.map_append];rfl)|(rw[List.map_set];rfl)|(simp[*];done)|(rw[List.map_replicate];rfl))
    |(refine⟨_,rfl,rfl,Eq.trans ?_ (Xa (still_cons X7c _ _) _)⟩;first|(simp;done)|(simp;rfl)|(simp[*];done))
    |(refine⟨_,rfl,rfl,Eq.trans ?_ (Xa (X09 still_V2i64 _) _)⟩;first|(simp;done)|(simp;rfl)|(exact Eq.symm (Eq.trans List.map_append rfl))|(rw[List.map_append];rfl)|(rw[List.map_set];rfl)|(simp[*];done)|(rw[List.map_replicate];rfl))
    |(refine⟨_,rfl,rfl,Eq.trans ?_ (Xa (still_cons still_V2i64 _ _) _)⟩;first|(simp;done)|(simp;rfl)|(simp[*];done))
    |(refine⟨_,rfl,rfl,Eq.trans ?_ (Xa (X09 X8y _) _)⟩;first|(simp;done)|(simp;rfl)|(exact Eq.symm (Eq.trans List.map_append rfl))|(rw[List.map_append];rfl)|(rw[List.map_set];rfl)|(simp[*];done)|(rw[List.map_replicate];rfl))
    |(refine⟨_,rfl,rfl,Eq.trans ?_ (Xa (still_cons X8y _ _) _)⟩;first|(simp;done)|(simp;rfl)|(simp[*];done))
    |(refine⟨_,rfl,rfl,Eq.trans ?_ (Xa (X09 X3e _) _)⟩;first|(simp;done)|(simp;rfl)|(exact Eq.symm (Eq.trans List.map_append rfl))|(rw[List.map_append];rfl)|(rw[List.map_set];rfl)|(simp[*];done)|(rw[List.map_replicate];rfl))
    |(refine⟨_,rfl,rfl,Eq.trans ?_ (Xa (still_cons X3e _ _) _)⟩;first|(simp;done)|(simp;rfl)|(simp[*];done))
    |(refine⟨_,rfl,rfl,Eq.trans ?_ (Xa (X09 still_V2b _) _)⟩;first|(simp;done)|(simp;rfl)|(exact Eq.symm (Eq.trans List.map_append rfl))|(rw[List.map_append];rfl)|(rw[List.map_set];rfl)|(simp[*];done)|(rw[List.map_replicate];rfl))
    |(refine⟨_,rfl,rfl,Eq.trans ?_ (Xa (still_cons still_V2b _ _) _)⟩;first|(simp;done)|(simp;rfl)|(simp[*];done))
    |(refine⟨_,rfl,rfl,Eq.trans ?_ (Xa (X09 X6a _) _)⟩;first|(simp;done)|(simp;rfl)|(exact Eq.symm (Eq.trans List.map_append rfl))|(rw[List.map_append];rfl)|(rw[List.map_set];rfl)|(simp[*];done)|(rw[List.map_replicate];rfl))
    |(refine⟨_,rfl,rfl,Eq.trans ?_ (Xa (still_cons X6a _ _) _)⟩;first|(simp;done)|(simp;rfl)|(simp[*];done))
    |(refine⟨_,rfl,rfl,Eq.trans ?_ (Xa (X09 still_V2GAccum _) _)⟩;first|(simp;done)|(simp;rfl)|(exact Eq.symm (Eq.trans List.map_append rfl))|(rw[List.map_append];rfl)|(rw[List.map_set];rfl)|(simp[*];done)|(rw[List.map_replicate];rfl))
    |(refine⟨_,rfl,rfl,Eq.trans ?_ (Xa (still_cons still_V2GAccum _ _) _)⟩;first|(simp;done)|(simp;rfl)|(simp[*];done))
    |(refine⟨_,rfl,rfl,Eq.trans ?_ (Xa (X09 X69 _) _)⟩;first|(simp;done)|(simp;rfl)|(exact Eq.symm (Eq.trans List.map_append rfl))|(rw[List.map_append];rfl)|(rw[List.map_set];rfl)|(simp[*];done)|(rw[List.map_replicate];rfl))
    |(refine⟨_,rfl,rfl,Eq.trans ?_ (Xa (still_cons X69 _ _) _)⟩;first|(simp;done)|(simp;rfl)|(simp[*];done))
    |(refine⟨_,rfl,rfl,Eq.trans ?_ (Xa (X09 still_V5i64 _) _)⟩;first|(simp;done)|(simp;rfl)|(exact Eq.symm (Eq.trans List.map_append rfl))|(rw[List.map_append];rfl)|(rw[List.map_set];rfl)|(simp[*];done)|(rw[List.map_replicate];rfl))
    |(refine⟨_,rfl,rfl,Eq.trans ?_ (Xa (still_cons still_V5i64 _ _) _)⟩;first|(simp;done)|(simp;rfl)|(simp[*];done))
    |(refine⟨_,rfl,rfl,Eq.trans ?_ (Xa (X09 (X08 true) _) _)⟩;first|(simp;done)|(simp;rfl)|(exact Eq.symm (Eq.trans List.map_append rfl))|(rw[List.map_append];rfl)|(rw[List.map_set];rfl)|(simp[*];done)|(rw[List.map_replicate];rfl))
    |(refine⟨_,rfl,rfl,Eq.trans ?_ (Xa (still_cons (X08 true) _ _) _)⟩;first|(simp;done)|(simp;rfl)|(simp[*];done))
    |(refine⟨_,rfl,rfl,Eq.trans ?_ (Xa (X09 (X08 false) _) _)⟩;first|(simp;done)|(simp;rfl)|(exact Eq.symm (Eq.trans List.map_append rfl))|(rw[List.map_append];rfl)|(rw[List.map_set];rfl)|(simp[*];done)|(rw[List.map_replicate];rfl))
    |(refine⟨_,rfl,rfl,Eq.trans ?_ (Xa (still_cons (X08 false) _ _) _)⟩;first|(simp;done)|(simp;rfl)|(simp[*];done))
    |(refine⟨_,rfl,rfl,Eq.trans ?_ (Xa (X09 (λ_=>Xer) _) _)⟩;first|(simp;done)|(simp;rfl)|(exact Eq.symm (Eq.trans List.map_append rfl))|(rw[List.map_append];rfl)|(rw[List.map_set];rfl)|(simp[*];done)|(rw[List.map_replicate];rfl))
    |(refine⟨_,rfl,rfl,Eq.trans ?_ (Xa (still_cons (λ_=>Xer) _ _) _)⟩;first|(simp;done)|(simp;rfl)|(simp[*];done))
    |(refine⟨_,rfl,rfl,Eq.trans ?_ (Xa (X09 (λ_=>X7b) _) _)⟩;first|(simp;done)|(simp;rfl)|(exact Eq.symm (Eq.trans List.map_append rfl))|(rw[List.map_append];rfl)|(rw[List.map_set];rfl)|(simp[*];done)|(rw[List.map_replicate];rfl))
    |(refine⟨_,rfl,rfl,Eq.trans ?_ (Xa (still_cons (λ_=>X7b) _ _) _)⟩;first|(simp;done)|(simp;rfl)|(simp[*];done))
    |(refine⟨_,rfl,rfl,Eq.trans ?_ (Xa (still_one (X7d _)) _)⟩;simp only[List.length_cons,List.length_map];rfl)
    |(refine⟨_,rfl,rfl,Eq.trans ?_ (Xa (still_one (X5c _)) _)⟩;simp only[List.length_cons,List.length_map];rfl)
    |(refine⟨_,rfl,rfl,Eq.trans ?_ (Xa (still_one ((X2f true) _)) _)⟩;simp only[List.length_cons,List.length_map];rfl)
    |(refine⟨_,rfl,rfl,Eq.trans ?_ (Xa (still_one ((X2f false) _)) _)⟩;simp only[List.length_cons,List.length_map];rfl)
    |(refine⟨_,rfl,rfl,Eq.trans ?_ (Xa (still_one (X5d _)) _)⟩;simp only[List.length_cons,List.length_map];rfl)
    |(refine⟨_,rfl,rfl,Eq.trans ?_ (Xa (still_one (X68 _)) _)⟩;simp only[List.length_cons,List.length_map];rfl)
    |(refine⟨_,rfl,rfl,Eq.trans ?_ (Xa (still_one (X7c _)) _)⟩;simp only[List.length_cons,List.length_map];rfl)
    |(refine⟨_,rfl,rfl,Eq.trans ?_ (Xa (still_one (still_V2i64 _)) _)⟩;simp only[List.length_cons,List.length_map];rfl)
    |(refine⟨_,rfl,rfl,Eq.trans ?_ (Xa (still_one (X8y _)) _)⟩;simp only[List.length_cons,List.length_map];rfl)
    |(refine⟨_,rfl,rfl,Eq.trans ?_ (Xa (still_one (X3e _)) _)⟩;simp only[List.length_cons,List.length_map];rfl)
    |(refine⟨_,rfl,rfl,Eq.trans ?_ (Xa (still_one (still_V2b _)) _)⟩;simp only[List.length_cons,List.length_map];rfl)
    |(refine⟨_,rfl,rfl,Eq.trans ?_ (Xa (still_one (X6a _)) _)⟩;simp only[List.length_cons,List.length_map];rfl)
    |(refine⟨_,rfl,rfl,Eq.trans ?_ (Xa (still_one (still_V2GAccum _)) _)⟩;simp only[List.length_cons,List.length_map];rfl)
    |(refine⟨_,rfl,rfl,Eq.trans ?_ (Xa (still_one (X69 _)) _)⟩;simp only[List.length_cons,List.length_map];rfl)
    |(refine⟨_,rfl,rfl,Eq.trans ?_ (Xa (still_one (still_V5i64 _)) _)⟩;simp only[List.length_cons,List.length_map];rfl)
    |(refine⟨_,rfl,rfl,Eq.trans ?_ (Xa (still_one ((X08 true) _)) _)⟩;simp only[List.length_cons,List.length_map];rfl)
    |(refine⟨_,rfl,rfl,Eq.trans ?_ (Xa (still_one ((X08 false) _)) _)⟩;simp only[List.length_cons,List.length_map];rfl)
    |(refine⟨_,rfl,rfl,Eq.trans ?_ (Xa (still_one ((λ_=>Xer) _)) _)⟩;simp only[List.length_cons,List.length_map];rfl)
    |(refine⟨_,rfl,rfl,Eq.trans ?_ (Xa (still_one ((λ_=>X7b) _)) _)⟩;simp only[List.length_cons,List.length_map];rfl)
    |(intro e he a ha;rw[List.mem_singleton.1 he] at ha;rw[List.mem_singleton.1 ha];first|exact .sc|exact .list|exact .nils|exact .ref (by decide)|exact .ptr (by decide)|exact Xzk|exact .fn (X14 (.ptr (by decide)) X74)|exact .fn (X14 (.ptr (by decide)) (X14 (.ptr (by decide)) X74)))
    |(intro e he a ha;simp at he;subst he;simp[AV.cells] at ha;first|(subst ha;exact .sc)|(rcases ha with rfl|rfl|rfl|rfl|rfl<;>exact .sc))
    | (refine focO ?_ ?_; · first | exact okSl (by decide) | exact .ref (by decide) | exact .nils | exact .list
       · first|rfl|exact slE_cells)
    |(refine⟨_,rfl,rfl,focR (λ_=>X7b) (by first|rfl|(simp;done)) ?_⟩;first|rfl|(refine focC rfl ?_;first|rfl|(simp;done)|(simp;omega))|(simp[slE,nbF,AV.ren,thL];done))
    |(refine⟨_,rfl,rfl,focR2 (λ_=>X7b) (by first|rfl|(simp;done)) (by first|rfl|(simp;done)) ?_⟩;first|rfl|(refine focC rfl ?_;first|rfl|(simp;done)|(simp;omega))|(simp[slE,nbF,AV.ren,thL];done))
    |(refine⟨_,rfl,rfl,aggR ?_⟩;repeat' first|exact trivial|refine And.intro ?_ ?_|rfl|exact wkSl rfl|(refine refR rfl ?_;first|rfl|(simp;done)|(simp;omega)))
    |(refine okAgg ?_;repeat' first|exact X74|refine X14 ?_ ?_|exact .sc|exact .list|exact .nils|exact .ref (by decide)|exact .ptr (by decide)|exact okSl (by decide)|exact okF|exact okG|exact Xzk)):P:=h
theorem rn {P:Program} {T:Ty} {nt n0:Nat} {μ:Mu} {Q:Xr->St->Mu->Prop} {cf cf':Cf} {K K':List Kn} {L L':List (Nat×AV)} {G G':List (Nat×Obj)} {n n':Nat} {hs':List X4w} {ps':List Prop} (hT:X71 P T/\P.follows .mixedOrders=true) (hs:List X4w) (h:Xay P T nt 4000 cf K L G n hs []=some (cf',K',L',G',n',hs',ps')) (hp':X4q ps') (k:X7 P nt n0 Q cf' K' ⟨fr L',hp G',n'⟩ μ):X7 P nt n0 Q cf K ⟨fr L,hp G,n⟩ μ:=Xcj hT 4000 hs h hp' k
abbrev cc:=@Cvs.cons
abbrev cn:=@Cvs.nil
abbrev pn:=@X4e.none
abbrev Bt:X4w:=.br true
abbrev Bf:X4w:=.br false
abbrev Ob (e:List AV) (n:Nat):Obj:={ es:=e,esz:=n }
abbrev Lf:=AV.list false
abbrev Lt:=AV.list true
abbrev Gt:X4w:=.go true
abbrev Gf:X4w:=.go false
theorem Zn {α:Type} {m:Bool} {H:Xz} (f:α->AV):Cv m H .nils (.list m (List.map f ([]:List α))):=.nils
theorem wkT {P : Program} {nt n0 : Nat} {Q : Xr -> St -> Mu -> Prop} {cf : Cf} {K : List Kn} {μ : Mu} {L L' : List (Nat × AV)} {G G' : List (Nat × Obj)} {n n' : Nat} (θ : List (Nat × Nat)) (h : X7 P nt n0 Q cf K ⟨fr L', hp G', n'⟩ μ)
    (hb:(fixB θ n0&&injB θ (G'.map (·.1))&&Nat.ble n0 n')=true:=by rfl) (hL:wkL L θ n' L':=by repeat' first|refine And.intro ?_ ?_|exact wkA) (hG:wkG G θ n' G':=by repeat' first|refine And.intro ?_ ?_|exact wkB):X7 P nt n0 Q cf K ⟨fr L,hp G,n⟩ μ:=X7.weakTo θ h hb hL hG
theorem wkI {A : Prop} {P : Program} {nt n0 : Nat} {Q : Xr -> St -> Mu -> Prop} {cf : Cf} {K : List Kn} {μ : Mu} {L L' : List (Nat × AV)} {G G' : List (Nat × Obj)} {n n' : Nat} (θ : List (Nat × Nat)) (h : A -> X7 P nt n0 Q cf K ⟨fr L', hp G', n'⟩ μ)
    (hb:(fixB θ n0&&injB θ (G'.map (·.1))&&Nat.ble n0 n')=true:=by rfl) (hL:wkL L θ n' L':=by repeat' first|refine And.intro ?_ ?_|exact wkA) (hG:wkG G θ n' G':=by repeat' first|refine And.intro ?_ ?_|exact wkB):A->X7 P nt n0 Q cf K ⟨fr L,hp G,n⟩ μ:=λa=>wkT θ (h a) hb hL hG
theorem wC {P : Program} {nt n0 : Nat} {Q : Xr -> St -> Mu -> Prop} {e : Xr} {μ : Mu} {O : Type} {a o : O} {out : O -> Xr × St} {L L' : List (Nat × AV)} {G G' : List (Nat × Obj)} {n n' : Nat} (h : some a = some o) (C : Lc P nt n0 Q μ o out)
    (r:out a=(e,⟨fr L',hp G',n'⟩):=by exact rfl) (hb:(fixB [] n0&&injB [] (G'.map (·.1))&&Nat.ble n0 n')=true:=by rfl) (hL:wkL L [] n' L':=by repeat' first|refine And.intro ?_ ?_|exact wkA) (hG:wkG G [] n' G':=by repeat' first|refine And.intro ?_ ?_|exact wkB):X7 P nt n0 Q (.exit e) [] ⟨fr L,hp G,n⟩ μ:=wkT [] (lE h C r) hb hL hG
theorem wJ {P : Program} {nt n0 : Nat} {Q : Xr -> St -> Mu -> Prop} {x : Xr} {K : List Kn} {μ : Mu} {s' : St} {L L' : List (Nat × AV)} {G G' : List (Nat × Obj)} {n n' : Nat} (θ : List (Nat × Nat)) (J : X7 P nt n0 Q (.exit x) K s' μ)
    (r:s'=⟨fr L',hp G',n'⟩:=by first|rw[<-oj1 e,<-oj2 e]|rw[<-oj e]|(cases oj e;exact rfl)) (hb:(fixB θ n0&&injB θ (G'.map (·.1))&&Nat.ble n0 n')=true:=by rfl) (hL:wkL L θ n' L':=by repeat' first|refine And.intro ?_ ?_|exact wkA) (hG:wkG G θ n' G':=by repeat' first|refine And.intro ?_ ?_|exact wkB):X7 P nt n0 (Xcn P nt n0 Q K) (.exit x) [] ⟨fr L,hp G,n⟩ μ:=wkT θ (gJ J r) hb hL hG
end Go.Av
namespace Go.D
open Go.Av
def X25 (x y:X4):Bool:=((x.Kind==y.Kind)&&((x.N==y.N)&&((x.A==y.A)&&((x.B==y.B)&&((x.At==y.At)&&true)))))
def Xf6 (x y:Xn):Bool:=((x.Kind==y.Kind)&&((x.Size==y.Size)&&((x.Every==y.Every)&&true)))
def X38 (x y:X9):Bool:=((x.Key==y.Key)&&((x.Time==y.Time)&&((x.Value==y.Value)&&true)))
def Xr6 (x y:X0s):Bool:=((x.Start==y.Start)&&((x.End==y.End)&&true))
def Xr5 (x y:(V2 Int)):Bool:=((x.e0==y.e0)&&((x.e1==y.e1)&&true))
def Xp8 (x y:X5v):Bool:=((x.Key==y.Key)&&((Xr6 x.Span y.Span)&&((Xr5 x.Values y.Values)&&true)))
def Xxp (x y:X0z):Bool:=((x.Count==y.Count)&&((x.Sum==y.Sum)&&((x.Min==y.Min)&&((x.Max==y.Max)&&true))))
def Xj0 (x:X4):Prop:=wfI .u8 x.Kind/\wfI .i64 x.N/\wfI .i64 x.A/\wfI .i64 x.B/\wfI .i64 x.At
def Xmq (x:Xn):Prop:=wfI .u8 x.Kind/\wfI .i64 x.Size/\wfI .i64 x.Every
def Xfa (x:Xb):Prop:=wfI .u8 x.Agg/\(List.length x.Arg<=maxLen/\∀ y∈x.Arg,Xj0 y)/\(List.length x.Sources<=maxLen/\∀ y∈x.Sources,wfI .i64 y)/\True/\(List.length x.Where<=maxLen/\∀ y∈x.Where,Xj0 y)/\Xmq x.Window/\True/\wfI .u8 x.Late
def Xmr (x:X9):Prop:=wfI .i64 x.Key/\wfI .i64 x.Time/\wfI .i64 x.Value
def Xfb (x:Xs):Prop:=True/\wfI .i64 x.Time/\Xmr x.Record
end Go.D
