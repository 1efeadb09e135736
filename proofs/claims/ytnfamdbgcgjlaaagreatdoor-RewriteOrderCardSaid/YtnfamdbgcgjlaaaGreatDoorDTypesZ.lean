/- Printed by decomp.py: the types of the Go program, as data; their encodings. -/
import Derived.Test.YtnfamdbgcgjlaaaGreatDoorGlX
import Derived.Test.YtnfamdbgcgjlaaaGreatDoorAvc
set_option linter.all false

namespace Go.D
theorem Yo {α β:Type} {a:α} {f:α->Option β}:(some a).bind f=f a:=rfl
theorem Yf {p:Prop} [Decidable p] (h:¬ p):decide p=false:=decide_eq_false h
theorem Yt {p:Prop} [Decidable p] (h:p):decide p=true:=decide_eq_true h
theorem Ym {α β:Type} {f:α->β} {l:List α} {i:Nat}:List.map f (List.take i l)=List.take i (List.map f l):=List.map_take
theorem Yd {α β:Type} {f:α->β} {l:List α} {i:Nat}:List.map f (List.drop i l)=List.drop i (List.map f l):=List.map_drop
theorem Ya {a b:Prop} (x:a) (y:b):a/\b:=⟨x,y⟩
theorem Ye {α:Type} {l:List α} {i:Nat} (h:i<l.length):l[i]?=some l[i]:=List.getElem?_eq_getElem h
theorem Ys {α:Type} {l:List α} {i:Nat} {a:α}:l[i]?=some a↔∃ h:i<l.length,l[i]=a:=List.getElem?_eq_some_iff
theorem Yg {α:Type} {l:List α} {i:Nat} {a:α} (h:l[i]?=some a):a∈l:=List.mem_of_getElem? h
structure X1 where
  Kind:Int
  N:Int
  A:Int
  B:Int
  At:Int
  deriving DecidableEq,Inhabited
structure Xk where
  Kind:Int
  Size:Int
  Every:Int
  deriving DecidableEq,Inhabited
structure Xa where
  Agg:Int
  Arg:(List X1)
  Sources:(List Int)
  Join:Bool
  Where:(List X1)
  Window:Xk
  ByKey:Bool
  Late:Int
  deriving DecidableEq,Inhabited
structure Xe where
  at_:Int
  size:Int
  depth:Int
  deriving DecidableEq,Inhabited
structure X1w where
  Key:Int
  Time:Int
  Value:Int
  deriving DecidableEq,Inhabited
structure Xb where
  value:(List X1)
  there:Bool
  deriving DecidableEq,Inhabited
end Go.D
namespace Go.Av
open Go.D
def X0 (x:X1):AV:=.agg [(aI .u8 x.Kind),(aI .i64 x.N),(aI .i64 x.A),(aI .i64 x.B),(aI .i64 x.At)]
theorem X11 (x:X1):Xc3 (X0 x):=(X81 (X81 (X81 (X81 (X81 Xmu)))))
theorem X5n (x:X1):X8k (X0 x):=λ_=>rfl
theorem Xaf (x:X1):Xcx (X0 x):=X9y (X11 x) rfl
instance X037:Xfs X0:=⟨X11,λ_=>rfl,X5n⟩
def X45 (x:Xk):AV:=.agg [(aI .u8 x.Kind),(aI .i64 x.Size),(aI .i64 x.Every)]
theorem Xj5 (x:Xk):Xc3 (X45 x):=(X81 (X81 (X81 Xmu)))
theorem X4b (x:Xk):X8k (X45 x):=λ_=>rfl
instance Xzq:Xfs X45:=⟨Xj5,λ_=>rfl,X4b⟩
def X8 (o:Bool) (x:Xa):AV:=.agg [(aI .u8 x.Agg),(AV.list o (List.map X0 x.Arg)),(AV.list o (List.map (aI .i64) x.Sources)),(aB x.Join),(AV.list o (List.map X0 x.Where)),(aI .u8 x.Window.Kind),(aI .i64 x.Window.Size),(aI .i64 x.Window.Every),(aB x.ByKey),(aI .u8 x.Late)]
theorem X1z (o:Bool) (x:Xa):X8k (X8 o x):=λ_=>rfl
theorem X3c (o:Bool) (x:Xa):Xcx (X8 o x):=Xln (λ_=>(X12 .sc (X12 .list (X12 .list (X12 .sc (X12 .list (X12 .sc (X12 .sc (X12 .sc (X12 .sc (X12 .sc X6l)))))))))))
theorem Xn2 {H:Xs} {o:Bool} {x:Xa}:Cv false H (X8 o x) (X8 false x):=Xm3 (Cvs.cons .sc (Cvs.cons (X48 (X18 X11 _)) (Cvs.cons (X48 (X18 (λ_=>Xd9) _)) (Cvs.cons .sc (Cvs.cons (X48 (X18 X11 _)) (Cvs.cons .sc (Cvs.cons .sc (Cvs.cons .sc (Cvs.cons .sc (Cvs.cons .sc Cvs.nil))))))))))
theorem Xn1 {H:Xs} {o:Bool} {x:Xa}:Cv true H (X8 o x) (X8 o x):=Xm3 (Cvs.cons .sc (Cvs.cons (.listS rfl) (Cvs.cons (.listS rfl) (Cvs.cons .sc (Cvs.cons (.listS rfl) (Cvs.cons .sc (Cvs.cons .sc (Cvs.cons .sc (Cvs.cons .sc (Cvs.cons .sc Cvs.nil))))))))))
instance X01a:X02r X8:=⟨Xn2,Xn1,λ_ _ _=>rfl,X3c,X1z⟩
def X2 (x:Xe):AV:=.agg [(aI .i64 x.at_),(aI .i64 x.size),(aI .i64 x.depth)]
theorem X9z (x:Xe):Xc3 (X2 x):=(X81 (X81 (X81 Xmu)))
theorem X2p (x:Xe):X8k (X2 x):=λ_=>rfl
theorem X5a (x:Xe):Xcx (X2 x):=X9y (X9z x) rfl
instance Xtr:Xfs X2:=⟨X9z,λ_=>rfl,X2p⟩
def X6s (x:(V2 Bool)):AV:=.agg [(aB x.e0),(aB x.e1)]
theorem Xtn (x:(V2 Bool)):Xc3 (X6s x):=(X81 (X81 Xmu))
theorem Xe5 (x:(V2 Bool)):Xcx (X6s x):=X9y (Xtn x) rfl
def X7f (x:X1w):AV:=.agg [(aI .i64 x.Key),(aI .i64 x.Time),(aI .i64 x.Value)]
theorem Xj6 (x:X1w):Xc3 (X7f x):=(X81 (X81 (X81 Xmu)))
theorem X4c (x:X1w):X8k (X7f x):=λ_=>rfl
instance Xzr:Xfs X7f:=⟨Xj6,λ_=>rfl,X4c⟩
def Xag (x:(V5 Int)):AV:=.agg [(aI .i64 x.e0),(aI .i64 x.e1),(aI .i64 x.e2),(aI .i64 x.e3),(aI .i64 x.e4)]
theorem Xmt (x:(V5 Int)):Xc3 (Xag x):=(X81 (X81 (X81 (X81 (X81 Xmu)))))
theorem Xae (x:(V5 Int)):Xcx (Xag x):=X9y (Xmt x) rfl
def X5 (o:Bool) (x:Xb):AV:=.agg [(AV.list o (List.map X0 x.value)),(aB x.there)]
theorem Xw (o:Bool) (x:Xb):X8k (X5 o x):=λ_=>rfl
theorem X0f (o:Bool) (x:Xb):Xcx (X5 o x):=Xln (λ_=>(X12 .list (X12 .sc X6l)))
theorem X1q {H:Xs} {o:Bool} {x:Xb}:Cv false H (X5 o x) (X5 false x):=Xm3 (Cvs.cons (X48 (X18 X11 _)) (Cvs.cons .sc Cvs.nil))
theorem wkA {P:Prop} (h:P:=by
  first
    |exact trivial
    |rfl
    |exact .sc
    |exact .list
    |exact .nils
    |exact .ref (by decide)
    |exact .ptr (by decide)
    |exact Xoh
    |(refine AV.Ok.tup ?_;repeat' first|exact X6l|refine X12 ?_ ?_|exact .sc|exact .nils|exact .list|exact .ref (by decide)|exact .ptr (by decide))
    |(refine congrArg AV.tup ?_;repeat' first|rfl|(refine congrArg (λz=>AV.ref _ 0 z) ?_;first|rfl|omega|(simp;done)|(simp;omega))|(show AV.ref _ 0 _=AV.ref _ 0 _;congr 1;first|omega|(simp;done))|(refine congrArg (λz=>AV.sc (Value.int IntKind.i64 z)) ?_;first|rfl|omega|assumption|(simp;done))|refine congr (congrArg List.cons ?_) ?_|(show(_::_:List AV)=_::_;refine congr (congrArg List.cons ?_) ?_))
    |exact .fn (X12 (.ptr (by decide)) X6l)
    |exact .fn (X12 (.ptr (by decide)) (X12 (.ptr (by decide)) X6l))
    |exact .fn (X12 (.ptr (by decide)) (X12 (.ptr (by decide)) (X12 (.ptr (by decide)) X6l)))
    |assumption
    |exact(Xaf _ _).1
    |exact(free_GWindow _ _).1
    |exact(X3c true _ _).1
    |exact(X3c false _ _).1
    |exact(X5a _ _).1
    |exact(Xe5 _ _).1
    |exact(free_GRecord _ _).1
    |exact(Xae _ _).1
    |exact(X0f true _ _).1
    |exact(X0f false _ _).1
    |(refine congrArg (λz=>AV.sc (Value.int IntKind.i64 z)) ?_;first|rfl|omega|assumption|(simp;done)|(simp;omega))
    |(refine congrArg (λz=>AV.sc (Value.bool z)) ?_;first|rfl|assumption|(simp;done))
    |(refine congrArg (λz=>AV.ref _ 0 z) ?_;first|rfl|omega|(simp;done)|(simp;omega))
    |(show AV.ref _ 0 _=AV.ref _ 0 _;congr 1;first|(simp;done)|(simp;omega))
    |(simp[slE,opE,nbF,nbT,nbS,AV.ren,List.map_take,List.map_drop];done)
    |(simp[slE,opE,nbF,nbT,nbS,AV.ren,List.map_take,List.map_drop, *];done)
    |(simp[AV.ren, *];done)
    |exact wkSl rfl
    |exact okSl (by decide)
    |(refine aggV ?_;repeat' first|exact trivial|refine And.intro ?_ ?_|rfl|exact wkSl rfl|(refine refR rfl ?_;first|rfl|(simp;done)|(simp;omega)))
    |(refine aggOk ?_;repeat' first|exact X6l|refine X12 ?_ ?_|exact .sc|exact .list|exact .nils|exact .ref (by decide)|exact .ptr (by decide)|exact okSl (by decide)|exact okF|exact okG|exact Xoh)):P:=h
theorem wkB {P:Prop} (h:P:=by
  first
    |exact trivial
    |rfl
    |decide
    |exact⟨_,rfl,rfl,rfl⟩
    |exact X00z rfl
    |(refine⟨_,rfl,rfl,ref1 ?_⟩;first|rfl|omega|(simp;done)|(simp;omega))
    |exact X4p Xaf _ _
    |exact X4o (Xaf _) _
    |exact free_cons Xaf _ _ _
    |exact X4p free_GWindow _ _
    |exact X4o (free_GWindow _) _
    |exact free_cons free_GWindow _ _ _
    |exact X4p (X3c true) _ _
    |exact X4o ((X3c true) _) _
    |exact free_cons (X3c true) _ _ _
    |exact X4p (X3c false) _ _
    |exact X4o ((X3c false) _) _
    |exact free_cons (X3c false) _ _ _
    |exact X4p X5a _ _
    |exact X4o (X5a _) _
    |exact free_cons X5a _ _ _
    |exact X4p Xe5 _ _
    |exact X4o (Xe5 _) _
    |exact free_cons Xe5 _ _ _
    |exact X4p free_GRecord _ _
    |exact X4o (free_GRecord _) _
    |exact free_cons free_GRecord _ _ _
    |exact X4p Xae _ _
    |exact X4o (Xae _) _
    |exact free_cons Xae _ _ _
    |exact X4p (X0f true) _ _
    |exact X4o ((X0f true) _) _
    |exact free_cons (X0f true) _ _ _
    |exact X4p (X0f false) _ _
    |exact X4o ((X0f false) _) _
    |exact free_cons (X0f false) _ _ _
    |exact X4p (λ_=>Xpn) _ _
    |exact X4o ((λ_=>Xpn) _) _
    |exact free_cons (λ_=>Xpn) _ _ _
    |exact X4p (λ_=>Xf9) _ _
    |exact X4o ((λ_=>Xf9) _) _
    |exact free_cons (λ_=>Xf9) _ _ _
    |(refine⟨_,rfl,rfl,Eq.trans ?_ (Xj (X0s X5n _) _)⟩;rfl)
    |(refine⟨_,rfl,rfl,Eq.trans ?_ (Xj (still_cons X5n _ _) _)⟩;rfl)
    |(refine⟨_,rfl,rfl,Eq.trans ?_ (Xj (X0s X4b _) _)⟩;rfl)
    |(refine⟨_,rfl,rfl,Eq.trans ?_ (Xj (still_cons X4b _ _) _)⟩;rfl)
    |(refine⟨_,rfl,rfl,Eq.trans ?_ (Xj (X0s (X1z true) _) _)⟩;rfl)
    |(refine⟨_,rfl,rfl,Eq.trans ?_ (Xj (still_cons (X1z true) _ _) _)⟩;rfl)
    |(refine⟨_,rfl,rfl,Eq.trans ?_ (Xj (X0s (X1z false) _) _)⟩;rfl)
    |(refine⟨_,rfl,rfl,Eq.trans ?_ (Xj (still_cons (X1z false) _ _) _)⟩;rfl)
    |(refine⟨_,rfl,rfl,Eq.trans ?_ (Xj (X0s X2p _) _)⟩;rfl)
    |(refine⟨_,rfl,rfl,Eq.trans ?_ (Xj (still_cons X2p _ _) _)⟩;rfl)
    |(refine⟨_,rfl,rfl,Eq.trans ?_ (Xj (X0s still_V2b _) _)⟩;rfl)
    |(refine⟨_,rfl,rfl,Eq.trans ?_ (Xj (still_cons still_V2b _ _) _)⟩;rfl)
    |(refine⟨_,rfl,rfl,Eq.trans ?_ (Xj (X0s X4c _) _)⟩;rfl)
    |(refine⟨_,rfl,rfl,Eq.trans ?_ (Xj (still_cons X4c _ _) _)⟩;rfl)
    |(refine⟨_,rfl,rfl,Eq.trans ?_ (Xj (X0s still_V5i64 _) _)⟩;rfl)
    |(refine⟨_,rfl,rfl,Eq.trans ?_ (Xj (still_cons still_V5i64 _ _) _)⟩;rfl)
    |(refine⟨_,rfl,rfl,Eq.trans ?_ (Xj (X0s (Xw true) _) _)⟩;rfl)
    |(refine⟨_,rfl,rfl,Eq.trans ?_ (Xj (still_cons (Xw true) _ _) _)⟩;rfl)
    |(refine⟨_,rfl,rfl,Eq.trans ?_ (Xj (X0s (Xw false) _) _)⟩;rfl)
    |(refine⟨_,rfl,rfl,Eq.trans ?_ (Xj (still_cons (Xw false) _ _) _)⟩;rfl)
    |(refine⟨_,rfl,rfl,Eq.trans ?_ (Xj (X0s (λ_=>Xaw) _) _)⟩;rfl)
    |(refine⟨_,rfl,rfl,Eq.trans ?_ (Xj (still_cons (λ_=>Xaw) _ _) _)⟩;rfl)
    |(refine⟨_,rfl,rfl,Eq.trans ?_ (Xj (X0s (λ_=>X5m) _) _)⟩;rfl)
    |(refine⟨_,rfl,rfl,Eq.trans ?_ (Xj (still_cons (λ_=>X5m) _ _) _)⟩;rfl)
    |(refine⟨_,rfl,rfl,Eq.trans ?_ (Xj (X0s X5n _) _)⟩;first|(simp;done)|(simp;rfl)|(exact Eq.symm (Eq.trans List.map_append rfl))|(rw[List.map_append];rfl)|(rw[List.map_set];rfl)|(simp[*];done)|(rw[List.map_replicate];rfl))
    |(refine⟨_,rfl,rfl,Eq.trans ?_ (Xj (still_cons X5n _ _) _)⟩;first|(simp;done)|(simp;rfl)|(simp[*];done))
    |(refine⟨_,rfl,rfl,Eq.trans ?_ (Xj (X0s X4b _) _)⟩;first|(simp;done)|(simp;rfl)|(exact Eq.symm (Eq.trans List.map_append rfl))|(rw[List.map_append];rfl)|(rw[List.map_set];rfl)|(simp[*];done)|(rw[List.map_replicate];rfl))
    |(refine⟨_,rfl,rfl,Eq.trans ?_ (Xj (still_cons X4b _ _) _)⟩;first|(simp;done)|(simp;rfl)|(simp[*];done))
    |(refine⟨_,rfl,rfl,Eq.trans ?_ (Xj (X0s (X1z true) _) _)⟩;first|(simp;done)|(simp;rfl)|(exact Eq.symm (Eq.trans List.map_append rfl))|(rw[List.map_append];rfl)|(rw[List.map_set];rfl)|(simp[*];done)|(rw[List.map_replicate];rfl))
    |(refine⟨_,rfl,rfl,Eq.trans ?_ (Xj (still_cons (X1z true) _ _) _)⟩;first|(simp;done)|(simp;rfl)|(simp[*];done))
    |(refine⟨_,rfl,rfl,Eq.trans ?_ (Xj (X0s (X1z false) _) _)⟩;first|(simp;done)|(simp;rfl)|(exact Eq.symm (Eq.trans List.map_append rfl))|(rw[List.map_append];rfl)|(rw[List.map_set];rfl)|(simp[*];done)|(rw[List.map_replicate];rfl))
    |(refine⟨_,rfl,rfl,Eq.trans ?_ (Xj (still_cons (X1z false) _ _) _)⟩;first|(simp;done)|(simp;rfl)|(simp[*];done))
    |(refine⟨_,rfl,rfl,Eq.trans ?_ (Xj (X0s X2p _) _)⟩;first|(simp;done)|(simp;rfl)|(exact Eq.symm (Eq.trans List.map_append rfl))|(rw[List.map_append];rfl)|(rw[List.map_set];rfl)|(simp[*];done)|(rw[List.map_replicate];rfl))
    |(refine⟨_,rfl,rfl,Eq.trans ?_ (Xj (still_cons X2p _ _) _)⟩;first|(simp;done)|(simp;rfl)|(simp[*];done))
    |(refine⟨_,rfl,rfl,Eq.trans ?_ (Xj (X0s still_V2b _) _)⟩;first|(simp;done)|(simp;rfl)|(exact Eq.symm (Eq.trans List.map_append rfl))|(rw[List.map_append];rfl)|(rw[List.map_set];rfl)|(simp[*];done)|(rw[List.map_replicate];rfl))
    |(refine⟨_,rfl,rfl,Eq.trans ?_ (Xj (still_cons still_V2b _ _) _)⟩;first|(simp;done)|(simp;rfl)|(simp[*];done))
    |(refine⟨_,rfl,rfl,Eq.trans ?_ (Xj (X0s X4c _) _)⟩;first|(simp;done)|(simp;rfl)|(exact Eq.symm (Eq.trans List.map_append rfl))|(rw[List.map_append];rfl)|(rw[List.map_set];rfl)|(simp[*];done)|(rw[List.map_replicate];rfl))
    |(refine⟨_,rfl,rfl,Eq.trans ?_ (Xj (still_cons X4c _ _) _)⟩;first|(simp;done)|(simp;rfl)|(simp[*];done))
    |(refine⟨_,rfl,rfl,Eq.trans ?_ (Xj (X0s still_V5i64 _) _)⟩;first|(simp;done)|(simp;rfl)|(exact Eq.symm (Eq.trans List.map_append rfl))|(rw[List.map_append];rfl)|(rw[List.map_set];rfl)|(simp[*];done)|(rw[List.map_replicate];rfl))
    |(refine⟨_,rfl,rfl,Eq.trans ?_ (Xj (still_cons still_V5i64 _ _) _)⟩;first|(simp;done)|(simp;rfl)|(simp[*];done))
    |(refine⟨_,rfl,rfl,Eq.trans ?_ (Xj (X0s (Xw true) _) _)⟩;first|(simp;done)|(simp;rfl)|(exact Eq.symm (Eq.trans List.map_append rfl))|(rw[List.map_append];rfl)|(rw[List.map_set];rfl)|(simp[*];done)|(rw[List.map_replicate];rfl))
    |(refine⟨_,rfl,rfl,Eq.trans ?_ (Xj (still_cons (Xw true) _ _) _)⟩;first|(simp;done)|(simp;rfl)|(simp[*];done))
    |(refine⟨_,rfl,rfl,Eq.trans ?_ (Xj (X0s (Xw false) _) _)⟩;first|(simp;done)|(simp;rfl)|(exact Eq.symm (Eq.trans List.map_append rfl))|(rw[List.map_append];rfl)|(rw[List.map_set];rfl)|(simp[*];done)|(rw[List.map_replicate];rfl))
    |(refine⟨_,rfl,rfl,Eq.trans ?_ (Xj (still_cons (Xw false) _ _) _)⟩;first|(simp;done)|(simp;rfl)|(simp[*];done))
    |(refine⟨_,rfl,rfl,Eq.trans ?_ (Xj (X0s (λ_=>Xaw) _) _)⟩;first|(simp;done)|(simp;rfl)|(exact Eq.symm (Eq.trans List.map_append rfl))|(rw[List.map_append];rfl)|(rw[List.map_set];rfl)|(simp[*];done)|(rw[List.map_replicate];rfl))
    |(refine⟨_,rfl,rfl,Eq.trans ?_ (Xj (still_cons (λ_=>Xaw) _ _) _)⟩;first|(simp;done)|(simp;rfl)|(simp[*];done))
    |(refine⟨_,rfl,rfl,Eq.trans ?_ (Xj (X0s (λ_=>X5m) _) _)⟩;first|(simp;done)|(simp;rfl)|(exact Eq.symm (Eq.trans List.map_append rfl))|(rw[List.map_append];rfl)|(rw[List.map_set];rfl)|(simp[*];done)|(rw[List.map_replicate];rfl))
    |(refine⟨_,rfl,rfl,Eq.trans ?_ (Xj (still_cons (λ_=>X5m) _ _) _)⟩;first|(simp;done)|(simp;rfl)|(simp[*];done))
    |(refine⟨_,rfl,rfl,Eq.trans ?_ (Xj (still_one (X5n _)) _)⟩;simp only[List.length_cons,List.length_map];rfl)
    |(refine⟨_,rfl,rfl,Eq.trans ?_ (Xj (still_one (X4b _)) _)⟩;simp only[List.length_cons,List.length_map];rfl)
    |(refine⟨_,rfl,rfl,Eq.trans ?_ (Xj (still_one ((X1z true) _)) _)⟩;simp only[List.length_cons,List.length_map];rfl)
    |(refine⟨_,rfl,rfl,Eq.trans ?_ (Xj (still_one ((X1z false) _)) _)⟩;simp only[List.length_cons,List.length_map];rfl)
    |(refine⟨_,rfl,rfl,Eq.trans ?_ (Xj (still_one (X2p _)) _)⟩;simp only[List.length_cons,List.length_map];rfl)
    |(refine⟨_,rfl,rfl,Eq.trans ?_ (Xj (still_one (still_V2b _)) _)⟩;simp only[List.length_cons,List.length_map];rfl)
    |(refine⟨_,rfl,rfl,Eq.trans ?_ (Xj (still_one (X4c _)) _)⟩;simp only[List.length_cons,List.length_map];rfl)
    |(refine⟨_,rfl,rfl,Eq.trans ?_ (Xj (still_one (still_V5i64 _)) _)⟩;simp only[List.length_cons,List.length_map];rfl)
    |(refine⟨_,rfl,rfl,Eq.trans ?_ (Xj (still_one ((Xw true) _)) _)⟩;simp only[List.length_cons,List.length_map];rfl)
    |(refine⟨_,rfl,rfl,Eq.trans ?_ (Xj (still_one ((Xw false) _)) _)⟩;simp only[List.length_cons,List.length_map];rfl)
    |(refine⟨_,rfl,rfl,Eq.trans ?_ (Xj (still_one ((λ_=>Xaw) _)) _)⟩;simp only[List.length_cons,List.length_map];rfl)
    |(refine⟨_,rfl,rfl,Eq.trans ?_ (Xj (still_one ((λ_=>X5m) _)) _)⟩;simp only[List.length_cons,List.length_map];rfl)
    |(intro e he a ha;rw[List.mem_singleton.1 he] at ha;rw[List.mem_singleton.1 ha];first|exact .sc|exact .list|exact .nils|exact .ref (by decide)|exact .ptr (by decide)|exact Xoh|exact .fn (X12 (.ptr (by decide)) X6l)|exact .fn (X12 (.ptr (by decide)) (X12 (.ptr (by decide)) X6l)))
    |(intro e he a ha;simp at he;subst he;simp[AV.cells] at ha;first|(subst ha;exact .sc)|(rcases ha with rfl|rfl|rfl|rfl|rfl<;>exact .sc))
    | (refine focO ?_ ?_; · first | exact okSl (by decide) | exact .ref (by decide) | exact .nils | exact .list
       · first|rfl|exact slE_cells)
    |(refine⟨_,rfl,rfl,focR (λ_=>X5m) (by first|rfl|(simp;done)) ?_⟩;first|rfl|(refine focC rfl ?_;first|rfl|(simp;done)|(simp;omega))|(simp[slE,nbF,AV.ren,thL];done))
    |(refine⟨_,rfl,rfl,focR2 (λ_=>X5m) (by first|rfl|(simp;done)) (by first|rfl|(simp;done)) ?_⟩;first|rfl|(refine focC rfl ?_;first|rfl|(simp;done)|(simp;omega))|(simp[slE,nbF,AV.ren,thL];done))
    |(refine⟨_,rfl,rfl,aggR ?_⟩;repeat' first|exact trivial|refine And.intro ?_ ?_|rfl|exact wkSl rfl|(refine refR rfl ?_;first|rfl|(simp;done)|(simp;omega)))
    |(refine okAgg ?_;repeat' first|exact X6l|refine X12 ?_ ?_|exact .sc|exact .list|exact .nils|exact .ref (by decide)|exact .ptr (by decide)|exact okSl (by decide)|exact okF|exact okG|exact Xoh)):P:=h
theorem rn {P:Program} {T:Ty} {nt n0:Nat} {μ:Mu} {Q:Xi->St->Mu->Prop} {cf cf':Cf} {K K':List Kn} {L L':List (Nat×AV)} {G G':List (Nat×Obj)} {n n':Nat} {hs':List X3t} {ps':List Prop} (hT:X5e P T/\P.follows .mixedOrders=true) (hs:List X3t) (h:X89 P T nt 4000 cf K L G n hs []=some (cf',K',L',G',n',hs',ps')) (hp':X3u ps') (k:X4 P nt n0 Q cf' K' ⟨fr L',hp G',n'⟩ μ):X4 P nt n0 Q cf K ⟨fr L,hp G,n⟩ μ:=X9k hT 4000 hs h hp' k
abbrev cc:=@Cvs.cons
abbrev cn:=@Cvs.nil
abbrev pn:=@X2v.none
abbrev Bt:X3t:=.br true
abbrev Bf:X3t:=.br false
abbrev Ob (e:List AV) (n:Nat):Obj:={ es:=e,esz:=n }
abbrev Lf:=AV.list false
abbrev Lt:=AV.list true
abbrev Gt:X3t:=.go true
abbrev Gf:X3t:=.go false
theorem Zn {α:Type} {m:Bool} {H:Xs} (f:α->AV):Cv m H .nils (.list m (List.map f ([]:List α))):=.nils
theorem wkT {P : Program} {nt n0 : Nat} {Q : Xi -> St -> Mu -> Prop} {cf : Cf} {K : List Kn} {μ : Mu} {L L' : List (Nat × AV)} {G G' : List (Nat × Obj)} {n n' : Nat} (θ : List (Nat × Nat)) (h : X4 P nt n0 Q cf K ⟨fr L', hp G', n'⟩ μ)
    (hb:(fixB θ n0&&Xzm θ (G'.map (·.1))&&Nat.ble n0 n')=true:=by rfl) (hL:wkL L θ n' L':=by repeat' first|refine And.intro ?_ ?_|exact wkA) (hG:wkG G θ n' G':=by repeat' first|refine And.intro ?_ ?_|exact wkB):X4 P nt n0 Q cf K ⟨fr L,hp G,n⟩ μ:=X4.weakTo θ h hb hL hG
end Go.Av
namespace Go.D
open Go.Av
def X1p (x y:X1):Bool:=((x.Kind==y.Kind)&&((x.N==y.N)&&((x.A==y.A)&&((x.B==y.B)&&((x.At==y.At)&&true)))))
def X3d (x y:Xk):Bool:=((x.Kind==y.Kind)&&((x.Size==y.Size)&&((x.Every==y.Every)&&true)))
def X7k (x:X1):Prop:=wfI .u8 x.Kind/\wfI .i64 x.N/\wfI .i64 x.A/\wfI .i64 x.B/\wfI .i64 x.At
def Xa7 (x:Xk):Prop:=wfI .u8 x.Kind/\wfI .i64 x.Size/\wfI .i64 x.Every
def X65 (x:Xa):Prop:=wfI .u8 x.Agg/\(List.length x.Arg<=maxLen/\∀ y∈x.Arg,X7k y)/\(List.length x.Sources<=maxLen/\∀ y∈x.Sources,wfI .i64 y)/\True/\(List.length x.Where<=maxLen/\∀ y∈x.Where,X7k y)/\Xa7 x.Window/\True/\wfI .u8 x.Late
end Go.D
