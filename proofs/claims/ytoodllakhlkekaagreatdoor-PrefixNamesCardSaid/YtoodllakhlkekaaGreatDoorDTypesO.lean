/- Printed by decomp.py: the types of the Go program, as data; their encodings. -/
import Derived.Test.YtoodllakhlkekaaGreatDoorGlX
import Derived.Test.YtoodllakhlkekaaGreatDoorAvd
set_option linter.all false

namespace Go.D
theorem Yo {α β:Type} {a:α} {f:α->Option β}:(some a).bind f=f a:=rfl
theorem Yf {p:Prop} [Decidable p] (h:¬ p):decide p=false:=decide_eq_false h
theorem Yt {p:Prop} [Decidable p] (h:p):decide p=true:=decide_eq_true h
theorem Ym {α β:Type} {f:α->β} {l:List α} {i:Nat}:List.map f (List.take i l)=List.take i (List.map f l):=List.map_take
theorem Yd {α β:Type} {f:α->β} {l:List α} {i:Nat}:List.map f (List.drop i l)=List.drop i (List.map f l):=List.map_drop
theorem Ya {a b:Prop} (x:a) (y:b):a/\b:=⟨x,y⟩
theorem Ye {α:Type} {l:List α} {i:Nat} (h:i<l.length):l[i]?=some l[i]:=List.getElem?_eq_getElem h
theorem Ys {α:Type} {l:List α} {i:Nat} {a:α}:l[i]?=some a↔∃ h:i<l.length,l[i]=a:=List.getElem?_eq_some_iff
theorem Yg {α:Type} {l:List α} {i:Nat} {a:α} (h:l[i]?=some a):a∈l:=List.mem_of_getElem? h
structure GOp where
  Kind:Int
  N:Int
  deriving DecidableEq,Inhabited
structure X2b where
  From:Int
  Out:Int
  To:Int
  In:Int
  Room:Int
  deriving DecidableEq,Inhabited
structure X3d where
  Ops:(List GOp)
  Channels:(List X2b)
  deriving DecidableEq,Inhabited
structure Xwx where
  Start:Int
  End:Int
  deriving DecidableEq,Inhabited
structure Xcf where
  Key:Int
  Span:Xwx
  Values:(V2 Int)
  deriving DecidableEq,Inhabited
structure X0o where
  Key:Int
  Time:Int
  Value:Int
  deriving DecidableEq,Inhabited
end Go.D
namespace Go.Av
open Go.D
def Xl3 (x:GOp):AV:=.agg [(aI .u8 x.Kind),(aI .i64 x.N)]
theorem Xnz (x:GOp):Xaf (Xl3 x):=(Xd9 (Xd9 Xwd))
def X0m (x:X2b):AV:=.agg [(aI .i64 x.From),(aI .i64 x.Out),(aI .i64 x.To),(aI .i64 x.In),(aI .i64 x.Room)]
theorem Xa7 (x:X2b):Xaf (X0m x):=(Xd9 (Xd9 (Xd9 (Xd9 (Xd9 Xwd)))))
def Xu (o:Bool) (x:X3d):AV:=.agg [(AV.list o (List.map Xl3 x.Ops)),(AV.list o (List.map X0m x.Channels))]
theorem X02 (o:Bool) (x:X3d):X6w (Xu o x):=λ_=>rfl
theorem X0g (o:Bool) (x:X3d):Xdo (Xu o x):=Xny (λ_=>(X0e .list (X0e .list X2m)))
theorem Xgt {H:Xb} {o:Bool} {x:X3d}:Cv false H (Xu o x) (Xu false x):=Xlf (Cvs.cons (Xle (Xa6 Xnz _)) (Cvs.cons (Xle (Xa6 Xa7 _)) Cvs.nil))
theorem Xgs {H:Xb} {o:Bool} {x:X3d}:Cv true H (Xu o x) (Xu o x):=Xlf (Cvs.cons (.listS rfl) (Cvs.cons (.listS rfl) Cvs.nil))
instance Xvq:Xww Xu:=⟨Xgt,Xgs,λ_ _ _=>rfl,X0g,X02⟩
def X1j (x:Xcf):AV:=.agg [(aI .i64 x.Key),(aI .i64 x.Span.Start),(aI .i64 x.Span.End),(aI .i64 x.Values.e0),(aI .i64 x.Values.e1)]
def X0b (x:X0o):AV:=.agg [(aI .i64 x.Key),(aI .i64 x.Time),(aI .i64 x.Value)]
theorem wkA {P:Prop} (h:P:=by
  first
    |exact trivial
    |rfl
    |exact .sc
    |exact .list
    |exact .nils
    |exact .ref (by decide)
    |exact .ptr (by decide)
    |exact Xk4
    |(refine AV.Ok.tup ?_;repeat' first|exact X2m|refine X0e ?_ ?_|exact .sc|exact .nils|exact .list|exact .ref (by decide)|exact .ptr (by decide))
    |(refine congrArg AV.tup ?_;repeat' first|rfl|(refine congrArg (λz=>AV.ref _ 0 z) ?_;first|rfl|omega|(simp;done)|(simp;omega))|(show AV.ref _ 0 _=AV.ref _ 0 _;congr 1;first|omega|(simp;done))|(refine congrArg (λz=>AV.sc (Value.int IntKind.i64 z)) ?_;first|rfl|omega|assumption|(simp;done))|refine congr (congrArg List.cons ?_) ?_|(show(_::_:List AV)=_::_;refine congr (congrArg List.cons ?_) ?_))
    |exact .fn (X0e (.ptr (by decide)) X2m)
    |exact .fn (X0e (.ptr (by decide)) (X0e (.ptr (by decide)) X2m))
    |exact .fn (X0e (.ptr (by decide)) (X0e (.ptr (by decide)) (X0e (.ptr (by decide)) X2m)))
    |assumption
    |exact(free_GOp _ _).1
    |exact(free_GChannel _ _).1
    |exact(X0g true _ _).1
    |exact(X0g false _ _).1
    |exact(free_V2i64 _ _).1
    |exact(free_GSpan _ _).1
    |exact(free_GRow _ _).1
    |exact(free_GRecord _ _).1
    |exact(free_GOutputs true _ _).1
    |exact(free_GOutputs false _ _).1
    |(refine congrArg (λz=>AV.sc (Value.int IntKind.i64 z)) ?_;first|rfl|omega|assumption|(simp;done)|(simp;omega))
    |(refine congrArg (λz=>AV.sc (Value.bool z)) ?_;first|rfl|assumption|(simp;done))
    |(refine congrArg (λz=>AV.ref _ 0 z) ?_;first|rfl|omega|(simp;done)|(simp;omega))
    |(show AV.ref _ 0 _=AV.ref _ 0 _;congr 1;first|(simp;done)|(simp;omega))
    |(simp[slE,opE,nbF,nbT,nbS,AV.ren,List.map_take,List.map_drop];done)
    |(simp[slE,opE,nbF,nbT,nbS,AV.ren,List.map_take,List.map_drop, *];done)
    |(simp[AV.ren, *];done)
    |exact wkSl rfl
    |exact okSl (by decide)
    |(refine aggV ?_;repeat' first|exact trivial|refine And.intro ?_ ?_|rfl|exact wkSl rfl|(refine refR rfl ?_;first|rfl|(simp;done)|(simp;omega)))
    |(refine aggOk ?_;repeat' first|exact X2m|refine X0e ?_ ?_|exact .sc|exact .list|exact .nils|exact .ref (by decide)|exact .ptr (by decide)|exact okSl (by decide)|exact okF|exact okG|exact Xk4)):P:=h
theorem wkB {P:Prop} (h:P:=by
  first
    |exact trivial
    |rfl
    |decide
    |exact⟨_,rfl,rfl,rfl⟩
    |exact okScs rfl
    |(refine⟨_,rfl,rfl,ref1 ?_⟩;first|rfl|omega|(simp;done)|(simp;omega))
    |exact X11 free_GOp _ _
    |exact X10 (free_GOp _) _
    |exact free_cons free_GOp _ _ _
    |exact X11 free_GChannel _ _
    |exact X10 (free_GChannel _) _
    |exact free_cons free_GChannel _ _ _
    |exact X11 (X0g true) _ _
    |exact X10 ((X0g true) _) _
    |exact free_cons (X0g true) _ _ _
    |exact X11 (X0g false) _ _
    |exact X10 ((X0g false) _) _
    |exact free_cons (X0g false) _ _ _
    |exact X11 free_V2i64 _ _
    |exact X10 (free_V2i64 _) _
    |exact free_cons free_V2i64 _ _ _
    |exact X11 free_GSpan _ _
    |exact X10 (free_GSpan _) _
    |exact free_cons free_GSpan _ _ _
    |exact X11 free_GRow _ _
    |exact X10 (free_GRow _) _
    |exact free_cons free_GRow _ _ _
    |exact X11 free_GRecord _ _
    |exact X10 (free_GRecord _) _
    |exact free_cons free_GRecord _ _ _
    |exact X11 (free_GOutputs true) _ _
    |exact X10 ((free_GOutputs true) _) _
    |exact free_cons (free_GOutputs true) _ _ _
    |exact X11 (free_GOutputs false) _ _
    |exact X10 ((free_GOutputs false) _) _
    |exact free_cons (free_GOutputs false) _ _ _
    |exact X11 (λ_=>Xkq) _ _
    |exact X10 ((λ_=>Xkq) _) _
    |exact free_cons (λ_=>Xkq) _ _ _
    |exact X11 (λ_=>free_encl) _ _
    |exact X10 ((λ_=>free_encl) _) _
    |exact free_cons (λ_=>free_encl) _ _ _
    |(refine⟨_,rfl,rfl,Eq.trans ?_ (X8 (Xp still_GOp _) _)⟩;rfl)
    |(refine⟨_,rfl,rfl,Eq.trans ?_ (X8 (still_cons still_GOp _ _) _)⟩;rfl)
    |(refine⟨_,rfl,rfl,Eq.trans ?_ (X8 (Xp still_GChannel _) _)⟩;rfl)
    |(refine⟨_,rfl,rfl,Eq.trans ?_ (X8 (still_cons still_GChannel _ _) _)⟩;rfl)
    |(refine⟨_,rfl,rfl,Eq.trans ?_ (X8 (Xp (X02 true) _) _)⟩;rfl)
    |(refine⟨_,rfl,rfl,Eq.trans ?_ (X8 (still_cons (X02 true) _ _) _)⟩;rfl)
    |(refine⟨_,rfl,rfl,Eq.trans ?_ (X8 (Xp (X02 false) _) _)⟩;rfl)
    |(refine⟨_,rfl,rfl,Eq.trans ?_ (X8 (still_cons (X02 false) _ _) _)⟩;rfl)
    |(refine⟨_,rfl,rfl,Eq.trans ?_ (X8 (Xp still_V2i64 _) _)⟩;rfl)
    |(refine⟨_,rfl,rfl,Eq.trans ?_ (X8 (still_cons still_V2i64 _ _) _)⟩;rfl)
    |(refine⟨_,rfl,rfl,Eq.trans ?_ (X8 (Xp still_GSpan _) _)⟩;rfl)
    |(refine⟨_,rfl,rfl,Eq.trans ?_ (X8 (still_cons still_GSpan _ _) _)⟩;rfl)
    |(refine⟨_,rfl,rfl,Eq.trans ?_ (X8 (Xp still_GRow _) _)⟩;rfl)
    |(refine⟨_,rfl,rfl,Eq.trans ?_ (X8 (still_cons still_GRow _ _) _)⟩;rfl)
    |(refine⟨_,rfl,rfl,Eq.trans ?_ (X8 (Xp still_GRecord _) _)⟩;rfl)
    |(refine⟨_,rfl,rfl,Eq.trans ?_ (X8 (still_cons still_GRecord _ _) _)⟩;rfl)
    |(refine⟨_,rfl,rfl,Eq.trans ?_ (X8 (Xp (still_GOutputs true) _) _)⟩;rfl)
    |(refine⟨_,rfl,rfl,Eq.trans ?_ (X8 (still_cons (still_GOutputs true) _ _) _)⟩;rfl)
    |(refine⟨_,rfl,rfl,Eq.trans ?_ (X8 (Xp (still_GOutputs false) _) _)⟩;rfl)
    |(refine⟨_,rfl,rfl,Eq.trans ?_ (X8 (still_cons (still_GOutputs false) _ _) _)⟩;rfl)
    |(refine⟨_,rfl,rfl,Eq.trans ?_ (X8 (Xp (λ_=>X57) _) _)⟩;rfl)
    |(refine⟨_,rfl,rfl,Eq.trans ?_ (X8 (still_cons (λ_=>X57) _ _) _)⟩;rfl)
    |(refine⟨_,rfl,rfl,Eq.trans ?_ (X8 (Xp (λ_=>still_encl) _) _)⟩;rfl)
    |(refine⟨_,rfl,rfl,Eq.trans ?_ (X8 (still_cons (λ_=>still_encl) _ _) _)⟩;rfl)
    |(refine⟨_,rfl,rfl,Eq.trans ?_ (X8 (Xp still_GOp _) _)⟩;first|(simp;done)|(simp;rfl)|(exact Eq.symm (Eq.trans List.map_append rfl))|(rw[List.map_append];rfl)|(rw[List.map_set];rfl)|(simp[*];done)|(rw[List.map_replicate];rfl))
    |(refine⟨_,rfl,rfl,Eq.trans ?_ (X8 (still_cons still_GOp _ _) _)⟩;first|(simp;done)|(simp;rfl)|(simp[*];done))
    |(refine⟨_,rfl,rfl,Eq.trans ?_ (X8 (Xp still_GChannel _) _)⟩;first|(simp;done)|(simp;rfl)|(exact Eq.symm (Eq.trans List.map_append rfl))|(rw[List.map_append];rfl)|(rw[List.map_set];rfl)|(simp[*];done)|(rw[List.map_replicate];rfl))
    |(refine⟨_,rfl,rfl,Eq.trans ?_ (X8 (still_cons still_GChannel _ _) _)⟩;first|(simp;done)|(simp;rfl)|(simp[*];done))
    |(refine⟨_,rfl,rfl,Eq.trans ?_ (X8 (Xp (X02 true) _) _)⟩;first|(simp;done)|(simp;rfl)|(exact Eq.symm (Eq.trans List.map_append rfl))|(rw[List.map_append];rfl)|(rw[List.map_set];rfl)|(simp[*];done)|(rw[List.map_replicate];rfl))
    |(refine⟨_,rfl,rfl,Eq.trans ?_ (X8 (still_cons (X02 true) _ _) _)⟩;first|(simp;done)|(simp;rfl)|(simp[*];done))
    |(refine⟨_,rfl,rfl,Eq.trans ?_ (X8 (Xp (X02 false) _) _)⟩;first|(simp;done)|(simp;rfl)|(exact Eq.symm (Eq.trans List.map_append rfl))|(rw[List.map_append];rfl)|(rw[List.map_set];rfl)|(simp[*];done)|(rw[List.map_replicate];rfl))
    |(refine⟨_,rfl,rfl,Eq.trans ?_ (X8 (still_cons (X02 false) _ _) _)⟩;first|(simp;done)|(simp;rfl)|(simp[*];done))
    |(refine⟨_,rfl,rfl,Eq.trans ?_ (X8 (Xp still_V2i64 _) _)⟩;first|(simp;done)|(simp;rfl)|(exact Eq.symm (Eq.trans List.map_append rfl))|(rw[List.map_append];rfl)|(rw[List.map_set];rfl)|(simp[*];done)|(rw[List.map_replicate];rfl))
    |(refine⟨_,rfl,rfl,Eq.trans ?_ (X8 (still_cons still_V2i64 _ _) _)⟩;first|(simp;done)|(simp;rfl)|(simp[*];done))
    |(refine⟨_,rfl,rfl,Eq.trans ?_ (X8 (Xp still_GSpan _) _)⟩;first|(simp;done)|(simp;rfl)|(exact Eq.symm (Eq.trans List.map_append rfl))|(rw[List.map_append];rfl)|(rw[List.map_set];rfl)|(simp[*];done)|(rw[List.map_replicate];rfl))
    |(refine⟨_,rfl,rfl,Eq.trans ?_ (X8 (still_cons still_GSpan _ _) _)⟩;first|(simp;done)|(simp;rfl)|(simp[*];done))
    |(refine⟨_,rfl,rfl,Eq.trans ?_ (X8 (Xp still_GRow _) _)⟩;first|(simp;done)|(simp;rfl)|(exact Eq.symm (Eq.trans List.map_append rfl))|(rw[List.map_append];rfl)|(rw[List.map_set];rfl)|(simp[*];done)|(rw[List.map_replicate];rfl))
    |(refine⟨_,rfl,rfl,Eq.trans ?_ (X8 (still_cons still_GRow _ _) _)⟩;first|(simp;done)|(simp;rfl)|(simp[*];done))
    |(refine⟨_,rfl,rfl,Eq.trans ?_ (X8 (Xp still_GRecord _) _)⟩;first|(simp;done)|(simp;rfl)|(exact Eq.symm (Eq.trans List.map_append rfl))|(rw[List.map_append];rfl)|(rw[List.map_set];rfl)|(simp[*];done)|(rw[List.map_replicate];rfl))
    |(refine⟨_,rfl,rfl,Eq.trans ?_ (X8 (still_cons still_GRecord _ _) _)⟩;first|(simp;done)|(simp;rfl)|(simp[*];done))
    |(refine⟨_,rfl,rfl,Eq.trans ?_ (X8 (Xp (still_GOutputs true) _) _)⟩;first|(simp;done)|(simp;rfl)|(exact Eq.symm (Eq.trans List.map_append rfl))|(rw[List.map_append];rfl)|(rw[List.map_set];rfl)|(simp[*];done)|(rw[List.map_replicate];rfl))
    |(refine⟨_,rfl,rfl,Eq.trans ?_ (X8 (still_cons (still_GOutputs true) _ _) _)⟩;first|(simp;done)|(simp;rfl)|(simp[*];done))
    |(refine⟨_,rfl,rfl,Eq.trans ?_ (X8 (Xp (still_GOutputs false) _) _)⟩;first|(simp;done)|(simp;rfl)|(exact Eq.symm (Eq.trans List.map_append rfl))|(rw[List.map_append];rfl)|(rw[List.map_set];rfl)|(simp[*];done)|(rw[List.map_replicate];rfl))
    |(refine⟨_,rfl,rfl,Eq.trans ?_ (X8 (still_cons (still_GOutputs false) _ _) _)⟩;first|(simp;done)|(simp;rfl)|(simp[*];done))
    |(refine⟨_,rfl,rfl,Eq.trans ?_ (X8 (Xp (λ_=>X57) _) _)⟩;first|(simp;done)|(simp;rfl)|(exact Eq.symm (Eq.trans List.map_append rfl))|(rw[List.map_append];rfl)|(rw[List.map_set];rfl)|(simp[*];done)|(rw[List.map_replicate];rfl))
    |(refine⟨_,rfl,rfl,Eq.trans ?_ (X8 (still_cons (λ_=>X57) _ _) _)⟩;first|(simp;done)|(simp;rfl)|(simp[*];done))
    |(refine⟨_,rfl,rfl,Eq.trans ?_ (X8 (Xp (λ_=>still_encl) _) _)⟩;first|(simp;done)|(simp;rfl)|(exact Eq.symm (Eq.trans List.map_append rfl))|(rw[List.map_append];rfl)|(rw[List.map_set];rfl)|(simp[*];done)|(rw[List.map_replicate];rfl))
    |(refine⟨_,rfl,rfl,Eq.trans ?_ (X8 (still_cons (λ_=>still_encl) _ _) _)⟩;first|(simp;done)|(simp;rfl)|(simp[*];done))
    |(refine⟨_,rfl,rfl,Eq.trans ?_ (X8 (still_one (still_GOp _)) _)⟩;simp only[List.length_cons,List.length_map];rfl)
    |(refine⟨_,rfl,rfl,Eq.trans ?_ (X8 (still_one (still_GChannel _)) _)⟩;simp only[List.length_cons,List.length_map];rfl)
    |(refine⟨_,rfl,rfl,Eq.trans ?_ (X8 (still_one ((X02 true) _)) _)⟩;simp only[List.length_cons,List.length_map];rfl)
    |(refine⟨_,rfl,rfl,Eq.trans ?_ (X8 (still_one ((X02 false) _)) _)⟩;simp only[List.length_cons,List.length_map];rfl)
    |(refine⟨_,rfl,rfl,Eq.trans ?_ (X8 (still_one (still_V2i64 _)) _)⟩;simp only[List.length_cons,List.length_map];rfl)
    |(refine⟨_,rfl,rfl,Eq.trans ?_ (X8 (still_one (still_GSpan _)) _)⟩;simp only[List.length_cons,List.length_map];rfl)
    |(refine⟨_,rfl,rfl,Eq.trans ?_ (X8 (still_one (still_GRow _)) _)⟩;simp only[List.length_cons,List.length_map];rfl)
    |(refine⟨_,rfl,rfl,Eq.trans ?_ (X8 (still_one (still_GRecord _)) _)⟩;simp only[List.length_cons,List.length_map];rfl)
    |(refine⟨_,rfl,rfl,Eq.trans ?_ (X8 (still_one ((still_GOutputs true) _)) _)⟩;simp only[List.length_cons,List.length_map];rfl)
    |(refine⟨_,rfl,rfl,Eq.trans ?_ (X8 (still_one ((still_GOutputs false) _)) _)⟩;simp only[List.length_cons,List.length_map];rfl)
    |(refine⟨_,rfl,rfl,Eq.trans ?_ (X8 (still_one ((λ_=>X57) _)) _)⟩;simp only[List.length_cons,List.length_map];rfl)
    |(refine⟨_,rfl,rfl,Eq.trans ?_ (X8 (still_one ((λ_=>still_encl) _)) _)⟩;simp only[List.length_cons,List.length_map];rfl)
    |(intro e he a ha;rw[List.mem_singleton.1 he] at ha;rw[List.mem_singleton.1 ha];first|exact .sc|exact .list|exact .nils|exact .ref (by decide)|exact .ptr (by decide)|exact Xk4|exact .fn (X0e (.ptr (by decide)) X2m)|exact .fn (X0e (.ptr (by decide)) (X0e (.ptr (by decide)) X2m)))
    |(intro e he a ha;simp at he;subst he;simp[AV.cells] at ha;first|(subst ha;exact .sc)|(rcases ha with rfl|rfl|rfl|rfl|rfl<;>exact .sc))
    | (refine focO ?_ ?_; · first | exact okSl (by decide) | exact .ref (by decide) | exact .nils | exact .list
       · first|rfl|exact slE_cells)
    |(refine⟨_,rfl,rfl,focR (λ_=>still_encl) (by first|rfl|(simp;done)) ?_⟩;first|rfl|(refine focC rfl ?_;first|rfl|(simp;done)|(simp;omega))|(simp[slE,nbF,AV.ren,thL];done))
    |(refine⟨_,rfl,rfl,focR2 (λ_=>still_encl) (by first|rfl|(simp;done)) (by first|rfl|(simp;done)) ?_⟩;first|rfl|(refine focC rfl ?_;first|rfl|(simp;done)|(simp;omega))|(simp[slE,nbF,AV.ren,thL];done))
    |(refine⟨_,rfl,rfl,aggR ?_⟩;repeat' first|exact trivial|refine And.intro ?_ ?_|rfl|exact wkSl rfl|(refine refR rfl ?_;first|rfl|(simp;done)|(simp;omega)))
    |(refine okAgg ?_;repeat' first|exact X2m|refine X0e ?_ ?_|exact .sc|exact .list|exact .nils|exact .ref (by decide)|exact .ptr (by decide)|exact okSl (by decide)|exact okF|exact okG|exact Xk4)):P:=h
theorem rn {P:Program} {T:Ty} {nt n0:Nat} {μ:Mu} {Q:X9->St->Mu->Prop} {cf cf':Cf} {K K':List Kn} {L L':List (Nat×AV)} {G G':List (Nat×Obj)} {n n':Nat} {hs':List X0p} {ps':List Prop} (hT:X0w P T/\P.follows .mixedOrders=true) (hs:List X0p) (h:X2n P T nt 4000 cf K L G n hs []=some (cf',K',L',G',n',hs',ps')) (hp':X0d ps') (k:Xd P nt n0 Q cf' K' ⟨fr L',hp G',n'⟩ μ):Xd P nt n0 Q cf K ⟨fr L,hp G,n⟩ μ:=X00 hT 4000 hs h hp' k
abbrev cc:=@Cvs.cons
abbrev cn:=@Cvs.nil
abbrev pn:=@X3u.none
abbrev Bt:X0p:=.br true
abbrev Bf:X0p:=.br false
abbrev Ob (e:List AV) (n:Nat):Obj:={ es:=e,esz:=n }
abbrev Lf:=AV.list false
abbrev Lt:=AV.list true
abbrev Gt:X0p:=.go true
abbrev Gf:X0p:=.go false
theorem Zn {α:Type} {m:Bool} {H:Xb} (f:α->AV):Cv m H .nils (.list m (List.map f ([]:List α))):=.nils
theorem wkT {P : Program} {nt n0 : Nat} {Q : X9 -> St -> Mu -> Prop} {cf : Cf} {K : List Kn} {μ : Mu} {L L' : List (Nat × AV)} {G G' : List (Nat × Obj)} {n n' : Nat} (θ : List (Nat × Nat)) (h : Xd P nt n0 Q cf K ⟨fr L', hp G', n'⟩ μ)
    (hb:(Xwe θ n0&&Xt7 θ (G'.map (·.1))&&Nat.ble n0 n')=true:=by rfl) (hL:wkL L θ n' L':=by repeat' first|refine And.intro ?_ ?_|exact wkA) (hG:wkG G θ n' G':=by repeat' first|refine And.intro ?_ ?_|exact wkB):Xd P nt n0 Q cf K ⟨fr L,hp G,n⟩ μ:=Xd.weakTo θ h hb hL hG
end Go.Av
namespace Go.D
open Go.Av
def Xn0 (x:(V2 Int)):Prop:=wfI .i64 x.e0/\wfI .i64 x.e1
def Xn1 (x:Xwx):Prop:=wfI .i64 x.Start/\wfI .i64 x.End
def X54 (x:Xcf):Prop:=wfI .i64 x.Key/\Xn1 x.Span/\Xn0 x.Values
def X1t (x:X0o):Prop:=wfI .i64 x.Key/\wfI .i64 x.Time/\wfI .i64 x.Value
end Go.D
