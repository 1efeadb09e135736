/- Printed by decomp.py: the types of the Go program, as data; their encodings. -/
import Derived.Test.YtoodllakhlkekaaGreatDoorGlX
import Derived.Test.YtoodllakhlkekaaGreatDoorAvc
set_option linter.all false

namespace Go.D
theorem Yo {α β:Type} {a:α} {f:α->Option β}:(some a).bind f=f a:=rfl
theorem Yf {p:Prop} [Decidable p] (h:¬ p):decide p=false:=decide_eq_false h
theorem Yt {p:Prop} [Decidable p] (h:p):decide p=true:=decide_eq_true h
theorem Ym {α β:Type} {f:α->β} {l:List α} {i:Nat}:List.map f (List.take i l)=List.take i (List.map f l):=List.map_take
theorem Yd {α β:Type} {f:α->β} {l:List α} {i:Nat}:List.map f (List.drop i l)=List.drop i (List.map f l):=List.map_drop
theorem Ya {a b:Prop} (x:a) (y:b):a/\b:=⟨x,y⟩
theorem Ye {α:Type} {l:List α} {i:Nat} (h:i<l.length):l[i]?=some l[i]:=List.getElem?_eq_getElem h
theorem Ys {α:Type} {l:List α} {i:Nat} {a:α}:l[i]?=some a↔∃ h:i<l.length,l[i]=a:=List.getElem?_eq_some_iff
theorem Yg {α:Type} {l:List α} {i:Nat} {a:α} (h:l[i]?=some a):a∈l:=List.mem_of_getElem? h
structure Xkn where
  Start:Int
  End:Int
  deriving DecidableEq,Inhabited
structure X1v where
  Key:Int
  Span:Xkn
  Values:(V2 Int)
  deriving DecidableEq,Inhabited
structure Xk where
  Key:Int
  Time:Int
  Value:Int
  deriving DecidableEq,Inhabited
structure Xb where
  Rows:(List X1v)
  Late:(List Xk)
  deriving DecidableEq,Inhabited
structure GOp where
  Kind:Int
  N:Int
  deriving DecidableEq,Inhabited
structure X3h where
  From:Int
  Out:Int
  To:Int
  In:Int
  Room:Int
  deriving DecidableEq,Inhabited
structure X4j where
  Ops:(List GOp)
  Channels:(List X3h)
  deriving DecidableEq,Inhabited
end Go.D
namespace Go.Av
open Go.D
def Xib (x:Xkn):AV:=.agg [(aI .i64 x.Start),(aI .i64 x.End)]
def Xe1 (x:(V2 Int)):AV:=.agg [(aI .i64 x.e0),(aI .i64 x.e1)]
def Xj (x:X1v):AV:=.agg [(aI .i64 x.Key),(aI .i64 x.Span.Start),(aI .i64 x.Span.End),(aI .i64 x.Values.e0),(aI .i64 x.Values.e1)]
theorem X31 (x:X1v):X8o (Xj x):=(X5s (X5s (X5s (X5s (X5s Xmm)))))
theorem X2q (x:X1v):X5l (Xj x):=λ_=>rfl
theorem X6f (x:X1v):X99 (Xj x):=X8h (X31 x) rfl
instance Xxk:Xep Xj:=⟨X31,λ_=>rfl,X2q⟩
def Xg (x:Xk):AV:=.agg [(aI .i64 x.Key),(aI .i64 x.Time),(aI .i64 x.Value)]
theorem X2h (x:Xk):X8o (Xg x):=(X5s (X5s (X5s Xmm)))
theorem X1d (x:Xk):X5l (Xg x):=λ_=>rfl
theorem X3e (x:Xk):X99 (Xg x):=X8h (X2h x) rfl
instance Xs6:Xep Xg:=⟨X2h,λ_=>rfl,X1d⟩
def Xe (o:Bool) (x:Xb):AV:=.agg [(AV.list o (List.map Xj x.Rows)),(AV.list o (List.map Xg x.Late))]
theorem X04 (o:Bool) (x:Xb):X5l (Xe o x):=λ_=>rfl
theorem X0h (o:Bool) (x:Xb):X99 (Xe o x):=Xcp (λ_=>(X0o .list (X0o .list X35)))
theorem Xbb {H:Xh} {o:Bool} {x:Xb}:Cv false H (Xe o x) (Xe false x):=Xbc (Cvs.cons (X32 (X1o X31 _)) (Cvs.cons (X32 (X1o X2h _)) Cvs.nil))
theorem Xba {H:Xh} {o:Bool} {x:Xb}:Cv true H (Xe o x) (Xe o x):=Xbc (Cvs.cons (.listS rfl) (Cvs.cons (.listS rfl) Cvs.nil))
instance Xqb:Xnw Xe:=⟨Xbb,Xba,λ_ _ _=>rfl,X0h,X04⟩
def Xic (x:GOp):AV:=.agg [(aI .u8 x.Kind),(aI .i64 x.N)]
theorem Xml (x:GOp):X8o (Xic x):=(X5s (X5s Xmm))
def X19 (x:X3h):AV:=.agg [(aI .i64 x.From),(aI .i64 x.Out),(aI .i64 x.To),(aI .i64 x.In),(aI .i64 x.Room)]
theorem Xa6 (x:X3h):X8o (X19 x):=(X5s (X5s (X5s (X5s (X5s Xmm)))))
def X00 (o:Bool) (x:X4j):AV:=.agg [(AV.list o (List.map Xic x.Ops)),(AV.list o (List.map X19 x.Channels))]
theorem X0d (o:Bool) (x:X4j):X5l (X00 o x):=λ_=>rfl
theorem X10 (o:Bool) (x:X4j):X99 (X00 o x):=Xcp (λ_=>(X0o .list (X0o .list X35)))
theorem Xe5 {H:Xh} {o:Bool} {x:X4j}:Cv false H (X00 o x) (X00 false x):=Xbc (Cvs.cons (X32 (X1o Xml _)) (Cvs.cons (X32 (X1o Xa6 _)) Cvs.nil))
theorem Xe4 {H:Xh} {o:Bool} {x:X4j}:Cv true H (X00 o x) (X00 o x):=Xbc (Cvs.cons (.listS rfl) (Cvs.cons (.listS rfl) Cvs.nil))
instance Xu5:Xnw X00:=⟨Xe5,Xe4,λ_ _ _=>rfl,X10,X0d⟩
theorem wkA {P:Prop} (h:P:=by
  first
    |exact trivial
    |rfl
    |exact .sc
    |exact .list
    |exact .nils
    |exact .ref (by decide)
    |exact .ptr (by decide)
    |exact Xha
    |(refine AV.Ok.tup ?_;repeat' first|exact X35|refine X0o ?_ ?_|exact .sc|exact .nils|exact .list|exact .ref (by decide)|exact .ptr (by decide))
    |(refine congrArg AV.tup ?_;repeat' first|rfl|(refine congrArg (λz=>AV.ref _ 0 z) ?_;first|rfl|omega|(simp;done)|(simp;omega))|(show AV.ref _ 0 _=AV.ref _ 0 _;congr 1;first|omega|(simp;done))|(refine congrArg (λz=>AV.sc (Value.int IntKind.i64 z)) ?_;first|rfl|omega|assumption|(simp;done))|refine congr (congrArg List.cons ?_) ?_|(show(_::_:List AV)=_::_;refine congr (congrArg List.cons ?_) ?_))
    |exact .fn (X0o (.ptr (by decide)) X35)
    |exact .fn (X0o (.ptr (by decide)) (X0o (.ptr (by decide)) X35))
    |exact .fn (X0o (.ptr (by decide)) (X0o (.ptr (by decide)) (X0o (.ptr (by decide)) X35)))
    |assumption
    |exact(free_GSpan _ _).1
    |exact(free_V2i64 _ _).1
    |exact(X6f _ _).1
    |exact(X3e _ _).1
    |exact(X0h true _ _).1
    |exact(X0h false _ _).1
    |exact(free_GOp _ _).1
    |exact(free_GChannel _ _).1
    |exact(X10 true _ _).1
    |exact(X10 false _ _).1
    |(refine congrArg (λz=>AV.sc (Value.int IntKind.i64 z)) ?_;first|rfl|omega|assumption|(simp;done)|(simp;omega))
    |(refine congrArg (λz=>AV.sc (Value.bool z)) ?_;first|rfl|assumption|(simp;done))
    |(refine congrArg (λz=>AV.ref _ 0 z) ?_;first|rfl|omega|(simp;done)|(simp;omega))
    |(show AV.ref _ 0 _=AV.ref _ 0 _;congr 1;first|(simp;done)|(simp;omega))
    |(simp[slE,opE,nbF,nbT,nbS,AV.ren,List.map_take,List.map_drop];done)
    |(simp[slE,opE,nbF,nbT,nbS,AV.ren,List.map_take,List.map_drop, *];done)
    |(simp[AV.ren, *];done)
    |exact wkSl rfl
    |exact okSl (by decide)
    |(refine Xys ?_;repeat' first|exact trivial|refine And.intro ?_ ?_|rfl|exact wkSl rfl|(refine Xyf rfl ?_;first|rfl|(simp;done)|(simp;omega)))
    |(refine aggOk ?_;repeat' first|exact X35|refine X0o ?_ ?_|exact .sc|exact .list|exact .nils|exact .ref (by decide)|exact .ptr (by decide)|exact okSl (by decide)|exact okF|exact okG|exact Xha)):P:=h
theorem wkB {P:Prop} (h:P:=by
  first
    |exact trivial
    |rfl
    |decide
    |exact⟨_,rfl,rfl,rfl⟩
    |exact okScs rfl
    |(refine⟨_,rfl,rfl,ref1 ?_⟩;first|rfl|omega|(simp;done)|(simp;omega))
    |exact X1n free_GSpan _ _
    |exact X1m (free_GSpan _) _
    |exact free_cons free_GSpan _ _ _
    |exact X1n free_V2i64 _ _
    |exact X1m (free_V2i64 _) _
    |exact free_cons free_V2i64 _ _ _
    |exact X1n X6f _ _
    |exact X1m (X6f _) _
    |exact free_cons X6f _ _ _
    |exact X1n X3e _ _
    |exact X1m (X3e _) _
    |exact free_cons X3e _ _ _
    |exact X1n (X0h true) _ _
    |exact X1m ((X0h true) _) _
    |exact free_cons (X0h true) _ _ _
    |exact X1n (X0h false) _ _
    |exact X1m ((X0h false) _) _
    |exact free_cons (X0h false) _ _ _
    |exact X1n free_GOp _ _
    |exact X1m (free_GOp _) _
    |exact free_cons free_GOp _ _ _
    |exact X1n free_GChannel _ _
    |exact X1m (free_GChannel _) _
    |exact free_cons free_GChannel _ _ _
    |exact X1n (X10 true) _ _
    |exact X1m ((X10 true) _) _
    |exact free_cons (X10 true) _ _ _
    |exact X1n (X10 false) _ _
    |exact X1m ((X10 false) _) _
    |exact free_cons (X10 false) _ _ _
    |exact X1n (λ_=>Xhz) _ _
    |exact X1m ((λ_=>Xhz) _) _
    |exact free_cons (λ_=>Xhz) _ _ _
    |exact X1n (λ_=>free_encl) _ _
    |exact X1m ((λ_=>free_encl) _) _
    |exact free_cons (λ_=>free_encl) _ _ _
    |(refine⟨_,rfl,rfl,Eq.trans ?_ (Xa (Xx still_GSpan _) _)⟩;rfl)
    |(refine⟨_,rfl,rfl,Eq.trans ?_ (Xa (still_cons still_GSpan _ _) _)⟩;rfl)
    |(refine⟨_,rfl,rfl,Eq.trans ?_ (Xa (Xx still_V2i64 _) _)⟩;rfl)
    |(refine⟨_,rfl,rfl,Eq.trans ?_ (Xa (still_cons still_V2i64 _ _) _)⟩;rfl)
    |(refine⟨_,rfl,rfl,Eq.trans ?_ (Xa (Xx X2q _) _)⟩;rfl)
    |(refine⟨_,rfl,rfl,Eq.trans ?_ (Xa (still_cons X2q _ _) _)⟩;rfl)
    |(refine⟨_,rfl,rfl,Eq.trans ?_ (Xa (Xx X1d _) _)⟩;rfl)
    |(refine⟨_,rfl,rfl,Eq.trans ?_ (Xa (still_cons X1d _ _) _)⟩;rfl)
    |(refine⟨_,rfl,rfl,Eq.trans ?_ (Xa (Xx (X04 true) _) _)⟩;rfl)
    |(refine⟨_,rfl,rfl,Eq.trans ?_ (Xa (still_cons (X04 true) _ _) _)⟩;rfl)
    |(refine⟨_,rfl,rfl,Eq.trans ?_ (Xa (Xx (X04 false) _) _)⟩;rfl)
    |(refine⟨_,rfl,rfl,Eq.trans ?_ (Xa (still_cons (X04 false) _ _) _)⟩;rfl)
    |(refine⟨_,rfl,rfl,Eq.trans ?_ (Xa (Xx still_GOp _) _)⟩;rfl)
    |(refine⟨_,rfl,rfl,Eq.trans ?_ (Xa (still_cons still_GOp _ _) _)⟩;rfl)
    |(refine⟨_,rfl,rfl,Eq.trans ?_ (Xa (Xx still_GChannel _) _)⟩;rfl)
    |(refine⟨_,rfl,rfl,Eq.trans ?_ (Xa (still_cons still_GChannel _ _) _)⟩;rfl)
    |(refine⟨_,rfl,rfl,Eq.trans ?_ (Xa (Xx (X0d true) _) _)⟩;rfl)
    |(refine⟨_,rfl,rfl,Eq.trans ?_ (Xa (still_cons (X0d true) _ _) _)⟩;rfl)
    |(refine⟨_,rfl,rfl,Eq.trans ?_ (Xa (Xx (X0d false) _) _)⟩;rfl)
    |(refine⟨_,rfl,rfl,Eq.trans ?_ (Xa (still_cons (X0d false) _ _) _)⟩;rfl)
    |(refine⟨_,rfl,rfl,Eq.trans ?_ (Xa (Xx (λ_=>X6q) _) _)⟩;rfl)
    |(refine⟨_,rfl,rfl,Eq.trans ?_ (Xa (still_cons (λ_=>X6q) _ _) _)⟩;rfl)
    |(refine⟨_,rfl,rfl,Eq.trans ?_ (Xa (Xx (λ_=>still_encl) _) _)⟩;rfl)
    |(refine⟨_,rfl,rfl,Eq.trans ?_ (Xa (still_cons (λ_=>still_encl) _ _) _)⟩;rfl)
    |(refine⟨_,rfl,rfl,Eq.trans ?_ (Xa (Xx still_GSpan _) _)⟩;first|(simp;done)|(simp;rfl)|(exact Eq.symm (Eq.trans List.map_append rfl))|(rw[List.map_append];rfl)|(rw[List.map_set];rfl)|(simp[*];done)|(rw[List.map_replicate];rfl))
    |(refine⟨_,rfl,rfl,Eq.trans ?_ (Xa (still_cons still_GSpan _ _) _)⟩;first|(simp;done)|(simp;rfl)|(simp[*];done))
    |(refine⟨_,rfl,rfl,Eq.trans ?_ (Xa (Xx still_V2i64 _) _)⟩;first|(simp;done)|(simp;rfl)|(exact Eq.symm (Eq.trans List.map_append rfl))|(rw[List.map_append];rfl)|(rw[List.map_set];rfl)|(simp[*];done)|(rw[List.map_replicate];rfl))
    |(refine⟨_,rfl,rfl,Eq.trans ?_ (Xa (still_cons still_V2i64 _ _) _)⟩;first|(simp;done)|(simp;rfl)|(simp[*];done))
    |(refine⟨_,rfl,rfl,Eq.trans ?_ (Xa (Xx X2q _) _)⟩;first|(simp;done)|(simp;rfl)|(exact Eq.symm (Eq.trans List.map_append rfl))|(rw[List.map_append];rfl)|(rw[List.map_set];rfl)|(simp[*];done)|(rw[List.map_replicate];rfl))
    |(refine⟨_,rfl,rfl,Eq.trans ?_ (Xa (still_cons X2q _ _) _)⟩;first|(simp;done)|(simp;rfl)|(simp[*];done))
    |(refine⟨_,rfl,rfl,Eq.trans ?_ (Xa (Xx X1d _) _)⟩;first|(simp;done)|(simp;rfl)|(exact Eq.symm (Eq.trans List.map_append rfl))|(rw[List.map_append];rfl)|(rw[List.map_set];rfl)|(simp[*];done)|(rw[List.map_replicate];rfl))
    |(refine⟨_,rfl,rfl,Eq.trans ?_ (Xa (still_cons X1d _ _) _)⟩;first|(simp;done)|(simp;rfl)|(simp[*];done))
    |(refine⟨_,rfl,rfl,Eq.trans ?_ (Xa (Xx (X04 true) _) _)⟩;first|(simp;done)|(simp;rfl)|(exact Eq.symm (Eq.trans List.map_append rfl))|(rw[List.map_append];rfl)|(rw[List.map_set];rfl)|(simp[*];done)|(rw[List.map_replicate];rfl))
    |(refine⟨_,rfl,rfl,Eq.trans ?_ (Xa (still_cons (X04 true) _ _) _)⟩;first|(simp;done)|(simp;rfl)|(simp[*];done))
    |(refine⟨_,rfl,rfl,Eq.trans ?_ (Xa (Xx (X04 false) _) _)⟩;first|(simp;done)|(simp;rfl)|(exact Eq.symm (Eq.trans List.map_append rfl))|(rw[List.map_append];rfl)|(rw[List.map_set];rfl)|(simp[*];done)|(rw[List.map_replicate];rfl))
    |(refine⟨_,rfl,rfl,Eq.trans ?_ (Xa (still_cons (X04 false) _ _) _)⟩;first|(simp;done)|(simp;rfl)|(simp[*];done))
    |(refine⟨_,rfl,rfl,Eq.trans ?_ (Xa (Xx still_GOp _) _)⟩;first|(simp;done)|(simp;rfl)|(exact Eq.symm (Eq.trans List.map_append rfl))|(rw[List.map_append];rfl)|(rw[List.map_set];rfl)|(simp[*];done)|(rw[List.map_replicate];rfl))
    |(refine⟨_,rfl,rfl,Eq.trans ?_ (Xa (still_cons still_GOp _ _) _)⟩;first|(simp;done)|(simp;rfl)|(simp[*];done))
    |(refine⟨_,rfl,rfl,Eq.trans ?_ (Xa (Xx still_GChannel _) _)⟩;first|(simp;done)|(simp;rfl)|(exact Eq.symm (Eq.trans List.map_append rfl))|(rw[List.map_append];rfl)|(rw[List.map_set];rfl)|(simp[*];done)|(rw[List.map_replicate];rfl))
    |(refine⟨_,rfl,rfl,Eq.trans ?_ (Xa (still_cons still_GChannel _ _) _)⟩;first|(simp;done)|(simp;rfl)|(simp[*];done))
    |(refine⟨_,rfl,rfl,Eq.trans ?_ (Xa (Xx (X0d true) _) _)⟩;first|(simp;done)|(simp;rfl)|(exact Eq.symm (Eq.trans List.map_append rfl))|(rw[List.map_append];rfl)|(rw[List.map_set];rfl)|(simp[*];done)|(rw[List.map_replicate];rfl))
    |(refine⟨_,rfl,rfl,Eq.trans ?_ (Xa (still_cons (X0d true) _ _) _)⟩;first|(simp;done)|(simp;rfl)|(simp[*];done))
    |(refine⟨_,rfl,rfl,Eq.trans ?_ (Xa (Xx (X0d false) _) _)⟩;first|(simp;done)|(simp;rfl)|(exact Eq.symm (Eq.trans List.map_append rfl))|(rw[List.map_append];rfl)|(rw[List.map_set];rfl)|(simp[*];done)|(rw[List.map_replicate];rfl))
    |(refine⟨_,rfl,rfl,Eq.trans ?_ (Xa (still_cons (X0d false) _ _) _)⟩;first|(simp;done)|(simp;rfl)|(simp[*];done))
    |(refine⟨_,rfl,rfl,Eq.trans ?_ (Xa (Xx (λ_=>X6q) _) _)⟩;first|(simp;done)|(simp;rfl)|(exact Eq.symm (Eq.trans List.map_append rfl))|(rw[List.map_append];rfl)|(rw[List.map_set];rfl)|(simp[*];done)|(rw[List.map_replicate];rfl))
    |(refine⟨_,rfl,rfl,Eq.trans ?_ (Xa (still_cons (λ_=>X6q) _ _) _)⟩;first|(simp;done)|(simp;rfl)|(simp[*];done))
    |(refine⟨_,rfl,rfl,Eq.trans ?_ (Xa (Xx (λ_=>still_encl) _) _)⟩;first|(simp;done)|(simp;rfl)|(exact Eq.symm (Eq.trans List.map_append rfl))|(rw[List.map_append];rfl)|(rw[List.map_set];rfl)|(simp[*];done)|(rw[List.map_replicate];rfl))
    |(refine⟨_,rfl,rfl,Eq.trans ?_ (Xa (still_cons (λ_=>still_encl) _ _) _)⟩;first|(simp;done)|(simp;rfl)|(simp[*];done))
    |(refine⟨_,rfl,rfl,Eq.trans ?_ (Xa (still_one (still_GSpan _)) _)⟩;simp only[List.length_cons,List.length_map];rfl)
    |(refine⟨_,rfl,rfl,Eq.trans ?_ (Xa (still_one (still_V2i64 _)) _)⟩;simp only[List.length_cons,List.length_map];rfl)
    |(refine⟨_,rfl,rfl,Eq.trans ?_ (Xa (still_one (X2q _)) _)⟩;simp only[List.length_cons,List.length_map];rfl)
    |(refine⟨_,rfl,rfl,Eq.trans ?_ (Xa (still_one (X1d _)) _)⟩;simp only[List.length_cons,List.length_map];rfl)
    |(refine⟨_,rfl,rfl,Eq.trans ?_ (Xa (still_one ((X04 true) _)) _)⟩;simp only[List.length_cons,List.length_map];rfl)
    |(refine⟨_,rfl,rfl,Eq.trans ?_ (Xa (still_one ((X04 false) _)) _)⟩;simp only[List.length_cons,List.length_map];rfl)
    |(refine⟨_,rfl,rfl,Eq.trans ?_ (Xa (still_one (still_GOp _)) _)⟩;simp only[List.length_cons,List.length_map];rfl)
    |(refine⟨_,rfl,rfl,Eq.trans ?_ (Xa (still_one (still_GChannel _)) _)⟩;simp only[List.length_cons,List.length_map];rfl)
    |(refine⟨_,rfl,rfl,Eq.trans ?_ (Xa (still_one ((X0d true) _)) _)⟩;simp only[List.length_cons,List.length_map];rfl)
    |(refine⟨_,rfl,rfl,Eq.trans ?_ (Xa (still_one ((X0d false) _)) _)⟩;simp only[List.length_cons,List.length_map];rfl)
    |(refine⟨_,rfl,rfl,Eq.trans ?_ (Xa (still_one ((λ_=>X6q) _)) _)⟩;simp only[List.length_cons,List.length_map];rfl)
    |(refine⟨_,rfl,rfl,Eq.trans ?_ (Xa (still_one ((λ_=>still_encl) _)) _)⟩;simp only[List.length_cons,List.length_map];rfl)
    |(intro e he a ha;rw[List.mem_singleton.1 he] at ha;rw[List.mem_singleton.1 ha];first|exact .sc|exact .list|exact .nils|exact .ref (by decide)|exact .ptr (by decide)|exact Xha|exact .fn (X0o (.ptr (by decide)) X35)|exact .fn (X0o (.ptr (by decide)) (X0o (.ptr (by decide)) X35)))
    |(intro e he a ha;simp at he;subst he;simp[AV.cells] at ha;first|(subst ha;exact .sc)|(rcases ha with rfl|rfl|rfl|rfl|rfl<;>exact .sc))
    | (refine focO ?_ ?_; · first | exact okSl (by decide) | exact .ref (by decide) | exact .nils | exact .list
       · first|rfl|exact slE_cells)
    |(refine⟨_,rfl,rfl,focR (λ_=>still_encl) (by first|rfl|(simp;done)) ?_⟩;first|rfl|(refine focC rfl ?_;first|rfl|(simp;done)|(simp;omega))|(simp[slE,nbF,AV.ren,thL];done))
    |(refine⟨_,rfl,rfl,focR2 (λ_=>still_encl) (by first|rfl|(simp;done)) (by first|rfl|(simp;done)) ?_⟩;first|rfl|(refine focC rfl ?_;first|rfl|(simp;done)|(simp;omega))|(simp[slE,nbF,AV.ren,thL];done))
    |(refine⟨_,rfl,rfl,aggR ?_⟩;repeat' first|exact trivial|refine And.intro ?_ ?_|rfl|exact wkSl rfl|(refine Xyf rfl ?_;first|rfl|(simp;done)|(simp;omega)))
    |(refine Xwp ?_;repeat' first|exact X35|refine X0o ?_ ?_|exact .sc|exact .list|exact .nils|exact .ref (by decide)|exact .ptr (by decide)|exact okSl (by decide)|exact okF|exact okG|exact Xha)):P:=h
theorem rn {P:Program} {T:Ty} {nt n0:Nat} {μ:Mu} {Q:Xc->St->Mu->Prop} {cf cf':Cf} {K K':List Kn} {L L':List (Nat×AV)} {G G':List (Nat×Obj)} {n n':Nat} {hs':List X11} {ps':List Prop} (hT:X1h P T/\P.follows .mixedOrders=true) (hs:List X11) (h:X3r P T nt 4000 cf K L G n hs []=some (cf',K',L',G',n',hs',ps')) (hp':X0w ps') (k:Xd P nt n0 Q cf' K' ⟨fr L',hp G',n'⟩ μ):Xd P nt n0 Q cf K ⟨fr L,hp G,n⟩ μ:=X4q hT 4000 hs h hp' k
abbrev cc:=@Cvs.cons
abbrev cn:=@Cvs.nil
abbrev pn:=@X2c.none
abbrev Bt:X11:=.br true
abbrev Bf:X11:=.br false
abbrev Ob (e:List AV) (n:Nat):Obj:={ es:=e,esz:=n }
abbrev Lf:=AV.list false
abbrev Lt:=AV.list true
abbrev Gt:X11:=.go true
abbrev Gf:X11:=.go false
theorem Zn {α:Type} {m:Bool} {H:Xh} (f:α->AV):Cv m H .nils (.list m (List.map f ([]:List α))):=.nils
theorem wkT {P : Program} {nt n0 : Nat} {Q : Xc -> St -> Mu -> Prop} {cf : Cf} {K : List Kn} {μ : Mu} {L L' : List (Nat × AV)} {G G' : List (Nat × Obj)} {n n' : Nat} (θ : List (Nat × Nat)) (h : Xd P nt n0 Q cf K ⟨fr L', hp G', n'⟩ μ)
    (hb:(Xuu θ n0&&Xs3 θ (G'.map (·.1))&&Nat.ble n0 n')=true:=by rfl) (hL:wkL L θ n' L':=by repeat' first|refine And.intro ?_ ?_|exact wkA) (hG:wkG G θ n' G':=by repeat' first|refine And.intro ?_ ?_|exact wkB):Xd P nt n0 Q cf K ⟨fr L,hp G,n⟩ μ:=Xd.weakTo θ h hb hL hG
end Go.Av
namespace Go.D
open Go.Av
def Xc7 (x:Xkn):Prop:=wfI .i64 x.Start/\wfI .i64 x.End
def Xc6 (x:(V2 Int)):Prop:=wfI .i64 x.e0/\wfI .i64 x.e1
def X3x (x:X1v):Prop:=wfI .i64 x.Key/\Xc7 x.Span/\Xc6 x.Values
def X1t (x:Xk):Prop:=wfI .i64 x.Key/\wfI .i64 x.Time/\wfI .i64 x.Value
def X2v (x:Xb):Prop:=(List.length x.Rows<=maxLen/\∀ y∈x.Rows,X3x y)/\(List.length x.Late<=maxLen/\∀ y∈x.Late,X1t y)
end Go.D
