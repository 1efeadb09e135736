/- Printed by decomp.py: the types of the Go program, as data; their encodings. -/
import Derived.Test.YtiabgnmhobiooaaAvc
set_option linter.all false

namespace Go.D
theorem Yo {α β:Type} {a:α} {f:α->Option β}:(some a).bind f=f a:=rfl
theorem Yf {p:Prop} [Decidable p] (h:¬ p):decide p=false:=decide_eq_false h
theorem Yt {p:Prop} [Decidable p] (h:p):decide p=true:=decide_eq_true h
theorem Ym {α β:Type} {f:α->β} {l:List α} {i:Nat}:List.map f (List.take i l)=List.take i (List.map f l):=List.map_take
theorem Yd {α β:Type} {f:α->β} {l:List α} {i:Nat}:List.map f (List.drop i l)=List.drop i (List.map f l):=List.map_drop
theorem Ya {a b:Prop} (x:a) (y:b):a/\b:=⟨x,y⟩
theorem Ye {α:Type} {l:List α} {i:Nat} (h:i<l.length):l[i]?=some l[i]:=List.getElem?_eq_getElem h
theorem Ys {α:Type} {l:List α} {i:Nat} {a:α}:l[i]?=some a↔∃ h:i<l.length,l[i]=a:=List.getElem?_eq_some_iff
theorem Yg {α:Type} {l:List α} {i:Nat} {a:α} (h:l[i]?=some a):a∈l:=List.mem_of_getElem? h
structure X1 where
  Kind:Int
  N:Int
  A:Int
  B:Int
  At:Int
  deriving DecidableEq,Inhabited
structure X3 where
  Kind:Int
  Size:Int
  Every:Int
  deriving DecidableEq,Inhabited
structure X2 where
  Agg:Int
  Arg:(List X1)
  Sources:(List Int)
  Join:Bool
  Where:(List X1)
  Window:X3
  ByKey:Bool
  Late:Int
  deriving DecidableEq,Inhabited
structure Xb where
  at_:Int
  size:Int
  depth:Int
  deriving DecidableEq,Inhabited
structure X0z where
  Key:Int
  Time:Int
  Value:Int
  deriving DecidableEq,Inhabited
structure X9 where
  value:(List X1)
  there:Bool
  deriving DecidableEq,Inhabited
end Go.D
namespace Go.Av
open Go.D
def X0 (x:X1):AV:=.agg [(aI .u8 x.Kind),(aI .i64 x.N),(aI .i64 x.A),(aI .i64 x.B),(aI .i64 x.At)]
theorem Xz (x:X1):Xad (X0 x):=(X7n (X7n (X7n (X7n (X7n Xkd)))))
theorem X59 (x:X1):X84 (X0 x):=λ_=>rfl
theorem X9o (x:X1):Xb1 (X0 x):=X81 (Xz x) rfl
instance Xv4:Xdx X0:=⟨Xz,λ_=>rfl,X59⟩
def X5o (x:X3):AV:=.agg [(aI .u8 x.Kind),(aI .i64 x.Size),(aI .i64 x.Every)]
theorem Xh2 (x:X3):Xad (X5o x):=(X7n (X7n (X7n Xkd)))
theorem X3v (x:X3):X84 (X5o x):=λ_=>rfl
instance Xtp:Xdx X5o:=⟨Xh2,λ_=>rfl,X3v⟩
def X7 (o:Bool) (x:X2):AV:=.agg [(aI .u8 x.Agg),(AV.list o (List.map X0 x.Arg)),(AV.list o (List.map (aI .i64) x.Sources)),(aB x.Join),(AV.list o (List.map X0 x.Where)),(aI .u8 x.Window.Kind),(aI .i64 x.Window.Size),(aI .i64 x.Window.Every),(aB x.ByKey),(aI .u8 x.Late)]
theorem X1t (o:Bool) (x:X2):X84 (X7 o x):=λ_=>rfl
theorem X36 (o:Bool) (x:X2):Xb1 (X7 o x):=Xjd (λ_=>(X0q .sc (X0q .list (X0q .list (X0q .sc (X0q .list (X0q .sc (X0q .sc (X0q .sc (X0q .sc (X0q .sc X61)))))))))))
theorem Xkh {H:X07} {o:Bool} {x:X2}:Cv false H (X7 o x) (X7 false x):=Xjs (Cvs.cons .sc (Cvs.cons (X1m (X0c Xz _)) (Cvs.cons (X1m (X0c (λ_=>Xc1) _)) (Cvs.cons .sc (Cvs.cons (X1m (X0c Xz _)) (Cvs.cons .sc (Cvs.cons .sc (Cvs.cons .sc (Cvs.cons .sc (Cvs.cons .sc Cvs.nil))))))))))
theorem Xkg {H:X07} {o:Bool} {x:X2}:Cv true H (X7 o x) (X7 o x):=Xjs (Cvs.cons .sc (Cvs.cons (.listS rfl) (Cvs.cons (.listS rfl) (Cvs.cons .sc (Cvs.cons (.listS rfl) (Cvs.cons .sc (Cvs.cons .sc (Cvs.cons .sc (Cvs.cons .sc (Cvs.cons .sc Cvs.nil))))))))))
instance Xuc:Xuy X7:=⟨Xkh,Xkg,λ_ _ _=>rfl,X36,X1t⟩
def X5 (x:Xb):AV:=.agg [(aI .i64 x.at_),(aI .i64 x.size),(aI .i64 x.depth)]
theorem X9b (x:Xb):Xad (X5 x):=(X7n (X7n (X7n Xkd)))
theorem X2e (x:Xb):X84 (X5 x):=λ_=>rfl
theorem X4x (x:Xb):Xb1 (X5 x):=X81 (X9b x) rfl
instance Xqc:Xdx X5:=⟨X9b,λ_=>rfl,X2e⟩
def X6i (x:(V2 Bool)):AV:=.agg [(aB x.e0),(aB x.e1)]
theorem Xq9 (x:(V2 Bool)):Xad (X6i x):=(X7n (X7n Xkd))
theorem Xcp (x:(V2 Bool)):Xb1 (X6i x):=X81 (Xq9 x) rfl
def X1g (x:X0z):AV:=.agg [(aI .i64 x.Key),(aI .i64 x.Time),(aI .i64 x.Value)]
theorem X9c (x:X0z):Xad (X1g x):=(X7n (X7n (X7n Xkd)))
theorem X3w (x:X0z):X84 (X1g x):=λ_=>rfl
theorem X5y (x:X0z):Xb1 (X1g x):=X81 (X9c x) rfl
theorem X8l {m:Bool} {H:X07} {x:X0z}:Cv m H (X1g x) (X1g x):=Xt9 (X9c x)
instance Xtq:Xdx X1g:=⟨X9c,λ_=>rfl,X3w⟩
def X9p (x:(V5 Int)):AV:=.agg [(aI .i64 x.e0),(aI .i64 x.e1),(aI .i64 x.e2),(aI .i64 x.e3),(aI .i64 x.e4)]
theorem Xkc (x:(V5 Int)):Xad (X9p x):=(X7n (X7n (X7n (X7n (X7n Xkd)))))
theorem X9n (x:(V5 Int)):Xb1 (X9p x):=X81 (Xkc x) rfl
def X6 (o:Bool) (x:X9):AV:=.agg [(AV.list o (List.map X0 x.value)),(aB x.there)]
theorem Xq (o:Bool) (x:X9):X84 (X6 o x):=λ_=>rfl
theorem X0e (o:Bool) (x:X9):Xb1 (X6 o x):=Xjd (λ_=>(X0q .list (X0q .sc X61)))
theorem X1h {H:X07} {o:Bool} {x:X9}:Cv false H (X6 o x) (X6 false x):=Xjs (Cvs.cons (X1m (X0c Xz _)) (Cvs.cons .sc Cvs.nil))
theorem wkA {P:Prop} (h:P:=by
  first
    |exact trivial
    |rfl
    |exact .sc
    |exact .list
    |exact .nils
    |exact .ref (by decide)
    |exact .ptr (by decide)
    |exact Xln
    |(refine AV.Ok.tup ?_;repeat' first|exact X61|refine X0q ?_ ?_|exact .sc|exact .nils|exact .list|exact .ref (by decide)|exact .ptr (by decide))
    |(refine congrArg AV.tup ?_;repeat' first|rfl|(refine congrArg (λz=>AV.ref _ 0 z) ?_;first|rfl|omega|(simp;done)|(simp;omega))|(show AV.ref _ 0 _=AV.ref _ 0 _;congr 1;first|omega|(simp;done))|(refine congrArg (λz=>AV.sc (Value.int IntKind.i64 z)) ?_;first|rfl|omega|assumption|(simp;done))|refine congr (congrArg List.cons ?_) ?_|(show(_::_:List AV)=_::_;refine congr (congrArg List.cons ?_) ?_))
    |exact .fn (X0q (.ptr (by decide)) X61)
    |exact .fn (X0q (.ptr (by decide)) (X0q (.ptr (by decide)) X61))
    |exact .fn (X0q (.ptr (by decide)) (X0q (.ptr (by decide)) (X0q (.ptr (by decide)) X61)))
    |assumption
    |exact(X9o _ _).1
    |exact(free_GWindow _ _).1
    |exact(X36 true _ _).1
    |exact(X36 false _ _).1
    |exact(X4x _ _).1
    |exact(Xcp _ _).1
    |exact(X5y _ _).1
    |exact(X9n _ _).1
    |exact(X0e true _ _).1
    |exact(X0e false _ _).1
    |(refine congrArg (λz=>AV.sc (Value.int IntKind.i64 z)) ?_;first|rfl|omega|assumption|(simp;done)|(simp;omega))
    |(refine congrArg (λz=>AV.sc (Value.bool z)) ?_;first|rfl|assumption|(simp;done))
    |(refine congrArg (λz=>AV.ref _ 0 z) ?_;first|rfl|omega|(simp;done)|(simp;omega))
    |(show AV.ref _ 0 _=AV.ref _ 0 _;congr 1;first|(simp;done)|(simp;omega))
    |(simp[slE,opE,nbF,nbT,nbS,AV.ren,List.map_take,List.map_drop];done)
    |(simp[slE,opE,nbF,nbT,nbS,AV.ren,List.map_take,List.map_drop, *];done)
    |(simp[AV.ren, *];done)
    |exact wkSl rfl
    |exact okSl (by decide)
    |(refine aggV ?_;repeat' first|exact trivial|refine And.intro ?_ ?_|rfl|exact wkSl rfl|(refine refR rfl ?_;first|rfl|(simp;done)|(simp;omega)))
    |(refine aggOk ?_;repeat' first|exact X61|refine X0q ?_ ?_|exact .sc|exact .list|exact .nils|exact .ref (by decide)|exact .ptr (by decide)|exact okSl (by decide)|exact okF|exact okG|exact Xln)):P:=h
theorem wkB {P:Prop} (h:P:=by
  first
    |exact trivial
    |rfl
    |decide
    |exact⟨_,rfl,rfl,rfl⟩
    |exact Xu7 rfl
    |(refine⟨_,rfl,rfl,Xwg ?_⟩;first|rfl|omega|(simp;done)|(simp;omega))
    |exact X4c X9o _ _
    |exact X4b (X9o _) _
    |exact free_cons X9o _ _ _
    |exact X4c free_GWindow _ _
    |exact X4b (free_GWindow _) _
    |exact free_cons free_GWindow _ _ _
    |exact X4c (X36 true) _ _
    |exact X4b ((X36 true) _) _
    |exact free_cons (X36 true) _ _ _
    |exact X4c (X36 false) _ _
    |exact X4b ((X36 false) _) _
    |exact free_cons (X36 false) _ _ _
    |exact X4c X4x _ _
    |exact X4b (X4x _) _
    |exact free_cons X4x _ _ _
    |exact X4c Xcp _ _
    |exact X4b (Xcp _) _
    |exact free_cons Xcp _ _ _
    |exact X4c X5y _ _
    |exact X4b (X5y _) _
    |exact free_cons X5y _ _ _
    |exact X4c X9n _ _
    |exact X4b (X9n _) _
    |exact free_cons X9n _ _ _
    |exact X4c (X0e true) _ _
    |exact X4b ((X0e true) _) _
    |exact free_cons (X0e true) _ _ _
    |exact X4c (X0e false) _ _
    |exact X4b ((X0e false) _) _
    |exact free_cons (X0e false) _ _ _
    |exact X4c (λ_=>Xmy) _ _
    |exact X4b ((λ_=>Xmy) _) _
    |exact free_cons (λ_=>Xmy) _ _ _
    |exact X4c (λ_=>Xdk) _ _
    |exact X4b ((λ_=>Xdk) _) _
    |exact free_cons (λ_=>Xdk) _ _ _
    |(refine⟨_,rfl,rfl,Eq.trans ?_ (Xd (X0r X59 _) _)⟩;rfl)
    |(refine⟨_,rfl,rfl,Eq.trans ?_ (Xd (still_cons X59 _ _) _)⟩;rfl)
    |(refine⟨_,rfl,rfl,Eq.trans ?_ (Xd (X0r X3v _) _)⟩;rfl)
    |(refine⟨_,rfl,rfl,Eq.trans ?_ (Xd (still_cons X3v _ _) _)⟩;rfl)
    |(refine⟨_,rfl,rfl,Eq.trans ?_ (Xd (X0r (X1t true) _) _)⟩;rfl)
    |(refine⟨_,rfl,rfl,Eq.trans ?_ (Xd (still_cons (X1t true) _ _) _)⟩;rfl)
    |(refine⟨_,rfl,rfl,Eq.trans ?_ (Xd (X0r (X1t false) _) _)⟩;rfl)
    |(refine⟨_,rfl,rfl,Eq.trans ?_ (Xd (still_cons (X1t false) _ _) _)⟩;rfl)
    |(refine⟨_,rfl,rfl,Eq.trans ?_ (Xd (X0r X2e _) _)⟩;rfl)
    |(refine⟨_,rfl,rfl,Eq.trans ?_ (Xd (still_cons X2e _ _) _)⟩;rfl)
    |(refine⟨_,rfl,rfl,Eq.trans ?_ (Xd (X0r still_V2b _) _)⟩;rfl)
    |(refine⟨_,rfl,rfl,Eq.trans ?_ (Xd (still_cons still_V2b _ _) _)⟩;rfl)
    |(refine⟨_,rfl,rfl,Eq.trans ?_ (Xd (X0r X3w _) _)⟩;rfl)
    |(refine⟨_,rfl,rfl,Eq.trans ?_ (Xd (still_cons X3w _ _) _)⟩;rfl)
    |(refine⟨_,rfl,rfl,Eq.trans ?_ (Xd (X0r still_V5i64 _) _)⟩;rfl)
    |(refine⟨_,rfl,rfl,Eq.trans ?_ (Xd (still_cons still_V5i64 _ _) _)⟩;rfl)
    |(refine⟨_,rfl,rfl,Eq.trans ?_ (Xd (X0r (Xq true) _) _)⟩;rfl)
    |(refine⟨_,rfl,rfl,Eq.trans ?_ (Xd (still_cons (Xq true) _ _) _)⟩;rfl)
    |(refine⟨_,rfl,rfl,Eq.trans ?_ (Xd (X0r (Xq false) _) _)⟩;rfl)
    |(refine⟨_,rfl,rfl,Eq.trans ?_ (Xd (still_cons (Xq false) _ _) _)⟩;rfl)
    |(refine⟨_,rfl,rfl,Eq.trans ?_ (Xd (X0r (λ_=>Xa2) _) _)⟩;rfl)
    |(refine⟨_,rfl,rfl,Eq.trans ?_ (Xd (still_cons (λ_=>Xa2) _ _) _)⟩;rfl)
    |(refine⟨_,rfl,rfl,Eq.trans ?_ (Xd (X0r (λ_=>X58) _) _)⟩;rfl)
    |(refine⟨_,rfl,rfl,Eq.trans ?_ (Xd (still_cons (λ_=>X58) _ _) _)⟩;rfl)
    |(refine⟨_,rfl,rfl,Eq.trans ?_ (Xd (X0r X59 _) _)⟩;first|(simp;done)|(simp;rfl)|(exact Eq.symm (Eq.trans List.map_append rfl))|(rw[List.map_append];rfl)|(rw[List.map_set];rfl)|(simp[*];done)|(rw[List.map_replicate];rfl))
    |(refine⟨_,rfl,rfl,Eq.trans ?_ (Xd (still_cons X59 _ _) _)⟩;first|(simp;done)|(simp;rfl)|(simp[*];done))
    |(refine⟨_,rfl,rfl,Eq.trans ?_ (Xd (X0r X3v _) _)⟩;first|(simp;done)|(simp;rfl)|(exact Eq.symm (Eq.trans List.map_append rfl))|(rw[List.map_append];rfl)|(rw[List.map_set];rfl)|(simp[*];done)|(rw[List.map_replicate];rfl))
    |(refine⟨_,rfl,rfl,Eq.trans ?_ (Xd (still_cons X3v _ _) _)⟩;first|(simp;done)|(simp;rfl)|(simp[*];done))
    |(refine⟨_,rfl,rfl,Eq.trans ?_ (Xd (X0r (X1t true) _) _)⟩;first|(simp;done)|(simp;rfl)|(exact Eq.symm (Eq.trans List.map_append rfl))|(rw[List.map_append];rfl)|(rw[List.map_set];rfl)|(simp[*];done)|(rw[List.map_replicate];rfl))
    |(refine⟨_,rfl,rfl,Eq.trans ?_ (Xd (still_cons (X1t true) _ _) _)⟩;first|(simp;done)|(simp;rfl)|(simp[*];done))
    |(refine⟨_,rfl,rfl,Eq.trans ?_ (Xd (X0r (X1t false) _) _)⟩;first|(simp;done)|(simp;rfl)|(exact Eq.symm (Eq.trans List.map_append rfl))|(rw[List.map_append];rfl)|(rw[List.map_set];rfl)|(simp[*];done)|(rw[List.map_replicate];rfl))
    |(refine⟨_,rfl,rfl,Eq.trans ?_ (Xd (still_cons (X1t false) _ _) _)⟩;first|(simp;done)|(simp;rfl)|(simp[*];done))
    |(refine⟨_,rfl,rfl,Eq.trans ?_ (Xd (X0r X2e _) _)⟩;first|(simp;done)|(simp;rfl)|(exact Eq.symm (Eq.trans List.map_append rfl))|(rw[List.map_append];rfl)|(rw[List.map_set];rfl)|(simp[*];done)|(rw[List.map_replicate];rfl))
    |(refine⟨_,rfl,rfl,Eq.trans ?_ (Xd (still_cons X2e _ _) _)⟩;first|(simp;done)|(simp;rfl)|(simp[*];done))
    |(refine⟨_,rfl,rfl,Eq.trans ?_ (Xd (X0r still_V2b _) _)⟩;first|(simp;done)|(simp;rfl)|(exact Eq.symm (Eq.trans List.map_append rfl))|(rw[List.map_append];rfl)|(rw[List.map_set];rfl)|(simp[*];done)|(rw[List.map_replicate];rfl))
    |(refine⟨_,rfl,rfl,Eq.trans ?_ (Xd (still_cons still_V2b _ _) _)⟩;first|(simp;done)|(simp;rfl)|(simp[*];done))
    |(refine⟨_,rfl,rfl,Eq.trans ?_ (Xd (X0r X3w _) _)⟩;first|(simp;done)|(simp;rfl)|(exact Eq.symm (Eq.trans List.map_append rfl))|(rw[List.map_append];rfl)|(rw[List.map_set];rfl)|(simp[*];done)|(rw[List.map_replicate];rfl))
    |(refine⟨_,rfl,rfl,Eq.trans ?_ (Xd (still_cons X3w _ _) _)⟩;first|(simp;done)|(simp;rfl)|(simp[*];done))
    |(refine⟨_,rfl,rfl,Eq.trans ?_ (Xd (X0r still_V5i64 _) _)⟩;first|(simp;done)|(simp;rfl)|(exact Eq.symm (Eq.trans List.map_append rfl))|(rw[List.map_append];rfl)|(rw[List.map_set];rfl)|(simp[*];done)|(rw[List.map_replicate];rfl))
    |(refine⟨_,rfl,rfl,Eq.trans ?_ (Xd (still_cons still_V5i64 _ _) _)⟩;first|(simp;done)|(simp;rfl)|(simp[*];done))
    |(refine⟨_,rfl,rfl,Eq.trans ?_ (Xd (X0r (Xq true) _) _)⟩;first|(simp;done)|(simp;rfl)|(exact Eq.symm (Eq.trans List.map_append rfl))|(rw[List.map_append];rfl)|(rw[List.map_set];rfl)|(simp[*];done)|(rw[List.map_replicate];rfl))
    |(refine⟨_,rfl,rfl,Eq.trans ?_ (Xd (still_cons (Xq true) _ _) _)⟩;first|(simp;done)|(simp;rfl)|(simp[*];done))
    |(refine⟨_,rfl,rfl,Eq.trans ?_ (Xd (X0r (Xq false) _) _)⟩;first|(simp;done)|(simp;rfl)|(exact Eq.symm (Eq.trans List.map_append rfl))|(rw[List.map_append];rfl)|(rw[List.map_set];rfl)|(simp[*];done)|(rw[List.map_replicate];rfl))
    |(refine⟨_,rfl,rfl,Eq.trans ?_ (Xd (still_cons (Xq false) _ _) _)⟩;first|(simp;done)|(simp;rfl)|(simp[*];done))
    |(refine⟨_,rfl,rfl,Eq.trans ?_ (Xd (X0r (λ_=>Xa2) _) _)⟩;first|(simp;done)|(simp;rfl)|(exact Eq.symm (Eq.trans List.map_append rfl))|(rw[List.map_append];rfl)|(rw[List.map_set];rfl)|(simp[*];done)|(rw[List.map_replicate];rfl))
    |(refine⟨_,rfl,rfl,Eq.trans ?_ (Xd (still_cons (λ_=>Xa2) _ _) _)⟩;first|(simp;done)|(simp;rfl)|(simp[*];done))
    |(refine⟨_,rfl,rfl,Eq.trans ?_ (Xd (X0r (λ_=>X58) _) _)⟩;first|(simp;done)|(simp;rfl)|(exact Eq.symm (Eq.trans List.map_append rfl))|(rw[List.map_append];rfl)|(rw[List.map_set];rfl)|(simp[*];done)|(rw[List.map_replicate];rfl))
    |(refine⟨_,rfl,rfl,Eq.trans ?_ (Xd (still_cons (λ_=>X58) _ _) _)⟩;first|(simp;done)|(simp;rfl)|(simp[*];done))
    |(refine⟨_,rfl,rfl,Eq.trans ?_ (Xd (still_one (X59 _)) _)⟩;simp only[List.length_cons,List.length_map];rfl)
    |(refine⟨_,rfl,rfl,Eq.trans ?_ (Xd (still_one (X3v _)) _)⟩;simp only[List.length_cons,List.length_map];rfl)
    |(refine⟨_,rfl,rfl,Eq.trans ?_ (Xd (still_one ((X1t true) _)) _)⟩;simp only[List.length_cons,List.length_map];rfl)
    |(refine⟨_,rfl,rfl,Eq.trans ?_ (Xd (still_one ((X1t false) _)) _)⟩;simp only[List.length_cons,List.length_map];rfl)
    |(refine⟨_,rfl,rfl,Eq.trans ?_ (Xd (still_one (X2e _)) _)⟩;simp only[List.length_cons,List.length_map];rfl)
    |(refine⟨_,rfl,rfl,Eq.trans ?_ (Xd (still_one (still_V2b _)) _)⟩;simp only[List.length_cons,List.length_map];rfl)
    |(refine⟨_,rfl,rfl,Eq.trans ?_ (Xd (still_one (X3w _)) _)⟩;simp only[List.length_cons,List.length_map];rfl)
    |(refine⟨_,rfl,rfl,Eq.trans ?_ (Xd (still_one (still_V5i64 _)) _)⟩;simp only[List.length_cons,List.length_map];rfl)
    |(refine⟨_,rfl,rfl,Eq.trans ?_ (Xd (still_one ((Xq true) _)) _)⟩;simp only[List.length_cons,List.length_map];rfl)
    |(refine⟨_,rfl,rfl,Eq.trans ?_ (Xd (still_one ((Xq false) _)) _)⟩;simp only[List.length_cons,List.length_map];rfl)
    |(refine⟨_,rfl,rfl,Eq.trans ?_ (Xd (still_one ((λ_=>Xa2) _)) _)⟩;simp only[List.length_cons,List.length_map];rfl)
    |(refine⟨_,rfl,rfl,Eq.trans ?_ (Xd (still_one ((λ_=>X58) _)) _)⟩;simp only[List.length_cons,List.length_map];rfl)
    |(intro e he a ha;rw[List.mem_singleton.1 he] at ha;rw[List.mem_singleton.1 ha];first|exact .sc|exact .list|exact .nils|exact .ref (by decide)|exact .ptr (by decide)|exact Xln|exact .fn (X0q (.ptr (by decide)) X61)|exact .fn (X0q (.ptr (by decide)) (X0q (.ptr (by decide)) X61)))
    |(intro e he a ha;simp at he;subst he;simp[AV.cells] at ha;first|(subst ha;exact .sc)|(rcases ha with rfl|rfl|rfl|rfl|rfl<;>exact .sc))
    | (refine focO ?_ ?_; · first | exact okSl (by decide) | exact .ref (by decide) | exact .nils | exact .list
       · first|rfl|exact slE_cells)
    |(refine⟨_,rfl,rfl,focR (λ_=>X58) (by first|rfl|(simp;done)) ?_⟩;first|rfl|(refine focC rfl ?_;first|rfl|(simp;done)|(simp;omega))|(simp[slE,nbF,AV.ren,thL];done))
    |(refine⟨_,rfl,rfl,focR2 (λ_=>X58) (by first|rfl|(simp;done)) (by first|rfl|(simp;done)) ?_⟩;first|rfl|(refine focC rfl ?_;first|rfl|(simp;done)|(simp;omega))|(simp[slE,nbF,AV.ren,thL];done))
    |(refine⟨_,rfl,rfl,aggR ?_⟩;repeat' first|exact trivial|refine And.intro ?_ ?_|rfl|exact wkSl rfl|(refine refR rfl ?_;first|rfl|(simp;done)|(simp;omega)))
    |(refine okAgg ?_;repeat' first|exact X61|refine X0q ?_ ?_|exact .sc|exact .list|exact .nils|exact .ref (by decide)|exact .ptr (by decide)|exact okSl (by decide)|exact okF|exact okG|exact Xln)):P:=h
theorem rn {P:Program} {T:Ty} {nt n0:Nat} {μ:Mu} {Q:Xr->St->Mu->Prop} {cf cf':Cf} {K K':List Kn} {L L':List (Nat×AV)} {G G':List (Nat×Obj)} {n n':Nat} {hs':List X3t} {ps':List Prop} (hT:X9r P T/\P.follows .mixedOrders=true) (hs:List X3t) (h:X7s P T nt 4000 cf K L G n hs []=some (cf',K',L',G',n',hs',ps')) (hp':X3s ps') (k:X4 P nt n0 Q cf' K' ⟨fr L',hp G',n'⟩ μ):X4 P nt n0 Q cf K ⟨fr L,hp G,n⟩ μ:=Xiu hT 4000 hs h hp' k
abbrev cc:=@Cvs.cons
abbrev cn:=@Cvs.nil
abbrev pn:=@X2j.none
abbrev Bt:X3t:=.br true
abbrev Bf:X3t:=.br false
abbrev Ob (e:List AV) (n:Nat):Obj:={ es:=e,esz:=n }
abbrev Lf:=AV.list false
abbrev Lt:=AV.list true
abbrev Gt:X3t:=.go true
abbrev Gf:X3t:=.go false
theorem Zn {α:Type} {m:Bool} {H:X07} (f:α->AV):Cv m H .nils (.list m (List.map f ([]:List α))):=.nils
theorem wkT {P : Program} {nt n0 : Nat} {Q : Xr -> St -> Mu -> Prop} {cf : Cf} {K : List Kn} {μ : Mu} {L L' : List (Nat × AV)} {G G' : List (Nat × Obj)} {n n' : Nat} (θ : List (Nat × Nat)) (h : X4 P nt n0 Q cf K ⟨fr L', hp G', n'⟩ μ)
    (hb:(Xuo θ n0&&Xtn θ (G'.map (·.1))&&Nat.ble n0 n')=true:=by rfl) (hL:wkL L θ n' L':=by repeat' first|refine And.intro ?_ ?_|exact wkA) (hG:wkG G θ n' G':=by repeat' first|refine And.intro ?_ ?_|exact wkB):X4 P nt n0 Q cf K ⟨fr L,hp G,n⟩ μ:=X4.weakTo θ h hb hL hG
end Go.Av
namespace Go.D
open Go.Av
def X1f (x y:X1):Bool:=((x.Kind==y.Kind)&&((x.N==y.N)&&((x.A==y.A)&&((x.B==y.B)&&((x.At==y.At)&&true)))))
def X4m (x y:X3):Bool:=((x.Kind==y.Kind)&&((x.Size==y.Size)&&((x.Every==y.Every)&&true)))
def Xcg (x:X1):Prop:=wfI .u8 x.Kind/\wfI .i64 x.N/\wfI .i64 x.A/\wfI .i64 x.B/\wfI .i64 x.At
def Xet (x:X3):Prop:=wfI .u8 x.Kind/\wfI .i64 x.Size/\wfI .i64 x.Every
def Xag (x:X2):Prop:=wfI .u8 x.Agg/\(List.length x.Arg<=maxLen/\∀ y∈x.Arg,Xcg y)/\(List.length x.Sources<=maxLen/\∀ y∈x.Sources,wfI .i64 y)/\True/\(List.length x.Where<=maxLen/\∀ y∈x.Where,Xcg y)/\Xet x.Window/\True/\wfI .u8 x.Late
end Go.D
