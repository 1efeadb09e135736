/- Printed by decomp.py: the types of the Go program, as data; their encodings. -/
import Derived.Test.YtmodjehiebcejaaGreatDoorGlX
import Derived.Test.YtmodjehiebcejaaGreatDoorAvd
set_option linter.all false

namespace Go.D
theorem Yo {α β:Type} {a:α} {f:α->Option β}:(some a).bind f=f a:=rfl
theorem Yf {p:Prop} [Decidable p] (h:¬ p):decide p=false:=decide_eq_false h
theorem Yt {p:Prop} [Decidable p] (h:p):decide p=true:=decide_eq_true h
theorem Ym {α β:Type} {f:α->β} {l:List α} {i:Nat}:List.map f (List.take i l)=List.take i (List.map f l):=List.map_take
theorem Yd {α β:Type} {f:α->β} {l:List α} {i:Nat}:List.map f (List.drop i l)=List.drop i (List.map f l):=List.map_drop
theorem Ya {a b:Prop} (x:a) (y:b):a/\b:=⟨x,y⟩
theorem Ye {α:Type} {l:List α} {i:Nat} (h:i<l.length):l[i]?=some l[i]:=List.getElem?_eq_getElem h
theorem Ys {α:Type} {l:List α} {i:Nat} {a:α}:l[i]?=some a↔∃ h:i<l.length,l[i]=a:=List.getElem?_eq_some_iff
theorem Yg {α:Type} {l:List α} {i:Nat} {a:α} (h:l[i]?=some a):a∈l:=List.mem_of_getElem? h
structure GOp where
  Kind:Int
  N:Int
  deriving DecidableEq,Inhabited
structure X1y where
  From:Int
  Out:Int
  To:Int
  In:Int
  Room:Int
  deriving DecidableEq,Inhabited
structure X36 where
  Ops:(List GOp)
  Channels:(List X1y)
  deriving DecidableEq,Inhabited
end Go.D
namespace Go.Av
open Go.D
def Xgn (x:GOp):AV:=.agg [(aI .u8 x.Kind),(aI .i64 x.N)]
theorem Xit (x:GOp):X9h (Xgn x):=(Xb5 (Xb5 Xq0))
def X0h (x:X1y):AV:=.agg [(aI .i64 x.From),(aI .i64 x.Out),(aI .i64 x.To),(aI .i64 x.In),(aI .i64 x.Room)]
theorem X96 (x:X1y):X9h (X0h x):=(Xb5 (Xb5 (Xb5 (Xb5 (Xb5 Xq0)))))
def Xm (o:Bool) (x:X36):AV:=.agg [(AV.list o (List.map Xgn x.Ops)),(AV.list o (List.map X0h x.Channels))]
theorem Xy (o:Bool) (x:X36):X7u (Xm o x):=λ_=>rfl
theorem X08 (o:Bool) (x:X36):Xbh (Xm o x):=Xir (λ_=>(X0l .list (X0l .list X40)))
theorem Xdw {H:X7} {o:Bool} {x:X36}:Cv false H (Xm o x) (Xm false x):=Xgz (Cvs.cons (Xgy (X95 Xit _)) (Cvs.cons (Xgy (X95 X96 _)) Cvs.nil))
theorem Xdv {H:X7} {o:Bool} {x:X36}:Cv true H (Xm o x) (Xm o x):=Xgz (Cvs.cons (.listS rfl) (Cvs.cons (.listS rfl) Cvs.nil))
instance Xpf:Xrk Xm:=⟨Xdw,Xdv,λ_ _ _=>rfl,X08,Xy⟩
theorem wkA {P:Prop} (h:P:=by
  first
    |exact trivial
    |rfl
    |exact .sc
    |exact .list
    |exact .nils
    |exact .ref (by decide)
    |exact .ptr (by decide)
    |exact Xfn
    |(refine AV.Ok.tup ?_;repeat' first|exact X40|refine X0l ?_ ?_|exact .sc|exact .nils|exact .list|exact .ref (by decide)|exact .ptr (by decide))
    |(refine congrArg AV.tup ?_;repeat' first|rfl|(refine congrArg (λz=>AV.ref _ 0 z) ?_;first|rfl|omega|(simp;done)|(simp;omega))|(show AV.ref _ 0 _=AV.ref _ 0 _;congr 1;first|omega|(simp;done))|(refine congrArg (λz=>AV.sc (Value.int IntKind.i64 z)) ?_;first|rfl|omega|assumption|(simp;done))|refine congr (congrArg List.cons ?_) ?_|(show(_::_:List AV)=_::_;refine congr (congrArg List.cons ?_) ?_))
    |exact .fn (X0l (.ptr (by decide)) X40)
    |exact .fn (X0l (.ptr (by decide)) (X0l (.ptr (by decide)) X40))
    |exact .fn (X0l (.ptr (by decide)) (X0l (.ptr (by decide)) (X0l (.ptr (by decide)) X40)))
    |assumption
    |exact(free_GOp _ _).1
    |exact(free_GChannel _ _).1
    |exact(X08 true _ _).1
    |exact(X08 false _ _).1
    |exact(free_V2i64 _ _).1
    |(refine congrArg (λz=>AV.sc (Value.int IntKind.i64 z)) ?_;first|rfl|omega|assumption|(simp;done)|(simp;omega))
    |(refine congrArg (λz=>AV.sc (Value.bool z)) ?_;first|rfl|assumption|(simp;done))
    |(refine congrArg (λz=>AV.ref _ 0 z) ?_;first|rfl|omega|(simp;done)|(simp;omega))
    |(show AV.ref _ 0 _=AV.ref _ 0 _;congr 1;first|(simp;done)|(simp;omega))
    |(simp[slE,opE,nbF,nbT,nbS,AV.ren,List.map_take,List.map_drop];done)
    |(simp[slE,opE,nbF,nbT,nbS,AV.ren,List.map_take,List.map_drop, *];done)
    |(simp[AV.ren, *];done)
    |exact wkSl rfl
    |exact okSl (by decide)
    |(refine aggV ?_;repeat' first|exact trivial|refine And.intro ?_ ?_|rfl|exact wkSl rfl|(refine refR rfl ?_;first|rfl|(simp;done)|(simp;omega)))
    |(refine aggOk ?_;repeat' first|exact X40|refine X0l ?_ ?_|exact .sc|exact .list|exact .nils|exact .ref (by decide)|exact .ptr (by decide)|exact okSl (by decide)|exact okF|exact okG|exact Xfn)):P:=h
theorem wkB {P:Prop} (h:P:=by
  first
    |exact trivial
    |rfl
    |decide
    |exact⟨_,rfl,rfl,rfl⟩
    |exact okScs rfl
    |(refine⟨_,rfl,rfl,ref1 ?_⟩;first|rfl|omega|(simp;done)|(simp;omega))
    |exact X2w free_GOp _ _
    |exact X2v (free_GOp _) _
    |exact free_cons free_GOp _ _ _
    |exact X2w free_GChannel _ _
    |exact X2v (free_GChannel _) _
    |exact free_cons free_GChannel _ _ _
    |exact X2w (X08 true) _ _
    |exact X2v ((X08 true) _) _
    |exact free_cons (X08 true) _ _ _
    |exact X2w (X08 false) _ _
    |exact X2v ((X08 false) _) _
    |exact free_cons (X08 false) _ _ _
    |exact X2w free_V2i64 _ _
    |exact X2v (free_V2i64 _) _
    |exact free_cons free_V2i64 _ _ _
    |exact X2w (λ_=>Xg9) _ _
    |exact X2v ((λ_=>Xg9) _) _
    |exact free_cons (λ_=>Xg9) _ _ _
    |exact X2w (λ_=>free_encl) _ _
    |exact X2v ((λ_=>free_encl) _) _
    |exact free_cons (λ_=>free_encl) _ _ _
    |(refine⟨_,rfl,rfl,Eq.trans ?_ (X9 (X03 still_GOp _) _)⟩;rfl)
    |(refine⟨_,rfl,rfl,Eq.trans ?_ (X9 (still_cons still_GOp _ _) _)⟩;rfl)
    |(refine⟨_,rfl,rfl,Eq.trans ?_ (X9 (X03 still_GChannel _) _)⟩;rfl)
    |(refine⟨_,rfl,rfl,Eq.trans ?_ (X9 (still_cons still_GChannel _ _) _)⟩;rfl)
    |(refine⟨_,rfl,rfl,Eq.trans ?_ (X9 (X03 (Xy true) _) _)⟩;rfl)
    |(refine⟨_,rfl,rfl,Eq.trans ?_ (X9 (still_cons (Xy true) _ _) _)⟩;rfl)
    |(refine⟨_,rfl,rfl,Eq.trans ?_ (X9 (X03 (Xy false) _) _)⟩;rfl)
    |(refine⟨_,rfl,rfl,Eq.trans ?_ (X9 (still_cons (Xy false) _ _) _)⟩;rfl)
    |(refine⟨_,rfl,rfl,Eq.trans ?_ (X9 (X03 still_V2i64 _) _)⟩;rfl)
    |(refine⟨_,rfl,rfl,Eq.trans ?_ (X9 (still_cons still_V2i64 _ _) _)⟩;rfl)
    |(refine⟨_,rfl,rfl,Eq.trans ?_ (X9 (X03 (λ_=>X5j) _) _)⟩;rfl)
    |(refine⟨_,rfl,rfl,Eq.trans ?_ (X9 (still_cons (λ_=>X5j) _ _) _)⟩;rfl)
    |(refine⟨_,rfl,rfl,Eq.trans ?_ (X9 (X03 (λ_=>still_encl) _) _)⟩;rfl)
    |(refine⟨_,rfl,rfl,Eq.trans ?_ (X9 (still_cons (λ_=>still_encl) _ _) _)⟩;rfl)
    |(refine⟨_,rfl,rfl,Eq.trans ?_ (X9 (X03 still_GOp _) _)⟩;first|(simp;done)|(simp;rfl)|(exact Eq.symm (Eq.trans List.map_append rfl))|(rw[List.map_append];rfl)|(rw[List.map_set];rfl)|(simp[*];done)|(rw[List.map_replicate];rfl))
    |(refine⟨_,rfl,rfl,Eq.trans ?_ (X9 (still_cons still_GOp _ _) _)⟩;first|(simp;done)|(simp;rfl)|(simp[*];done))
    |(refine⟨_,rfl,rfl,Eq.trans ?_ (X9 (X03 still_GChannel _) _)⟩;first|(simp;done)|(simp;rfl)|(exact Eq.symm (Eq.trans List.map_append rfl))|(rw[List.map_append];rfl)|(rw[List.map_set];rfl)|(simp[*];done)|(rw[List.map_replicate];rfl))
    |(refine⟨_,rfl,rfl,Eq.trans ?_ (X9 (still_cons still_GChannel _ _) _)⟩;first|(simp;done)|(simp;rfl)|(simp[*];done))
    |(refine⟨_,rfl,rfl,Eq.trans ?_ (X9 (X03 (Xy true) _) _)⟩;first|(simp;done)|(simp;rfl)|(exact Eq.symm (Eq.trans List.map_append rfl))|(rw[List.map_append];rfl)|(rw[List.map_set];rfl)|(simp[*];done)|(rw[List.map_replicate];rfl))
    |(refine⟨_,rfl,rfl,Eq.trans ?_ (X9 (still_cons (Xy true) _ _) _)⟩;first|(simp;done)|(simp;rfl)|(simp[*];done))
    |(refine⟨_,rfl,rfl,Eq.trans ?_ (X9 (X03 (Xy false) _) _)⟩;first|(simp;done)|(simp;rfl)|(exact Eq.symm (Eq.trans List.map_append rfl))|(rw[List.map_append];rfl)|(rw[List.map_set];rfl)|(simp[*];done)|(rw[List.map_replicate];rfl))
    |(refine⟨_,rfl,rfl,Eq.trans ?_ (X9 (still_cons (Xy false) _ _) _)⟩;first|(simp;done)|(simp;rfl)|(simp[*];done))
    |(refine⟨_,rfl,rfl,Eq.trans ?_ (X9 (X03 still_V2i64 _) _)⟩;first|(simp;done)|(simp;rfl)|(exact Eq.symm (Eq.trans List.map_append rfl))|(rw[List.map_append];rfl)|(rw[List.map_set];rfl)|(simp[*];done)|(rw[List.map_replicate];rfl))
    |(refine⟨_,rfl,rfl,Eq.trans ?_ (X9 (still_cons still_V2i64 _ _) _)⟩;first|(simp;done)|(simp;rfl)|(simp[*];done))
    |(refine⟨_,rfl,rfl,Eq.trans ?_ (X9 (X03 (λ_=>X5j) _) _)⟩;first|(simp;done)|(simp;rfl)|(exact Eq.symm (Eq.trans List.map_append rfl))|(rw[List.map_append];rfl)|(rw[List.map_set];rfl)|(simp[*];done)|(rw[List.map_replicate];rfl))
    |(refine⟨_,rfl,rfl,Eq.trans ?_ (X9 (still_cons (λ_=>X5j) _ _) _)⟩;first|(simp;done)|(simp;rfl)|(simp[*];done))
    |(refine⟨_,rfl,rfl,Eq.trans ?_ (X9 (X03 (λ_=>still_encl) _) _)⟩;first|(simp;done)|(simp;rfl)|(exact Eq.symm (Eq.trans List.map_append rfl))|(rw[List.map_append];rfl)|(rw[List.map_set];rfl)|(simp[*];done)|(rw[List.map_replicate];rfl))
    |(refine⟨_,rfl,rfl,Eq.trans ?_ (X9 (still_cons (λ_=>still_encl) _ _) _)⟩;first|(simp;done)|(simp;rfl)|(simp[*];done))
    |(refine⟨_,rfl,rfl,Eq.trans ?_ (X9 (still_one (still_GOp _)) _)⟩;simp only[List.length_cons,List.length_map];rfl)
    |(refine⟨_,rfl,rfl,Eq.trans ?_ (X9 (still_one (still_GChannel _)) _)⟩;simp only[List.length_cons,List.length_map];rfl)
    |(refine⟨_,rfl,rfl,Eq.trans ?_ (X9 (still_one ((Xy true) _)) _)⟩;simp only[List.length_cons,List.length_map];rfl)
    |(refine⟨_,rfl,rfl,Eq.trans ?_ (X9 (still_one ((Xy false) _)) _)⟩;simp only[List.length_cons,List.length_map];rfl)
    |(refine⟨_,rfl,rfl,Eq.trans ?_ (X9 (still_one (still_V2i64 _)) _)⟩;simp only[List.length_cons,List.length_map];rfl)
    |(refine⟨_,rfl,rfl,Eq.trans ?_ (X9 (still_one ((λ_=>X5j) _)) _)⟩;simp only[List.length_cons,List.length_map];rfl)
    |(refine⟨_,rfl,rfl,Eq.trans ?_ (X9 (still_one ((λ_=>still_encl) _)) _)⟩;simp only[List.length_cons,List.length_map];rfl)
    |(intro e he a ha;rw[List.mem_singleton.1 he] at ha;rw[List.mem_singleton.1 ha];first|exact .sc|exact .list|exact .nils|exact .ref (by decide)|exact .ptr (by decide)|exact Xfn|exact .fn (X0l (.ptr (by decide)) X40)|exact .fn (X0l (.ptr (by decide)) (X0l (.ptr (by decide)) X40)))
    |(intro e he a ha;simp at he;subst he;simp[AV.cells] at ha;first|(subst ha;exact .sc)|(rcases ha with rfl|rfl|rfl|rfl|rfl<;>exact .sc))
    | (refine focO ?_ ?_; · first | exact okSl (by decide) | exact .ref (by decide) | exact .nils | exact .list
       · first|rfl|exact slE_cells)
    |(refine⟨_,rfl,rfl,focR (λ_=>still_encl) (by first|rfl|(simp;done)) ?_⟩;first|rfl|(refine focC rfl ?_;first|rfl|(simp;done)|(simp;omega))|(simp[slE,nbF,AV.ren,thL];done))
    |(refine⟨_,rfl,rfl,focR2 (λ_=>still_encl) (by first|rfl|(simp;done)) (by first|rfl|(simp;done)) ?_⟩;first|rfl|(refine focC rfl ?_;first|rfl|(simp;done)|(simp;omega))|(simp[slE,nbF,AV.ren,thL];done))
    |(refine⟨_,rfl,rfl,aggR ?_⟩;repeat' first|exact trivial|refine And.intro ?_ ?_|rfl|exact wkSl rfl|(refine refR rfl ?_;first|rfl|(simp;done)|(simp;omega)))
    |(refine okAgg ?_;repeat' first|exact X40|refine X0l ?_ ?_|exact .sc|exact .list|exact .nils|exact .ref (by decide)|exact .ptr (by decide)|exact okSl (by decide)|exact okF|exact okG|exact Xfn)):P:=h
theorem rn {P:Program} {T:Ty} {nt n0:Nat} {μ:Mu} {Q:X5->St->Mu->Prop} {cf cf':Cf} {K K':List Kn} {L L':List (Nat×AV)} {G G':List (Nat×Obj)} {n n':Nat} {hs':List X0d} {ps':List Prop} (hT:X0j P T/\P.follows .mixedOrders=true) (hs:List X0d) (h:X2k P T nt 4000 cf K L G n hs []=some (cf',K',L',G',n',hs',ps')) (hp':X05 ps') (k:Xc P nt n0 Q cf' K' ⟨fr L',hp G',n'⟩ μ):Xc P nt n0 Q cf K ⟨fr L,hp G,n⟩ μ:=X4a hT 4000 hs h hp' k
abbrev cc:=@Cvs.cons
abbrev cn:=@Cvs.nil
abbrev pn:=@X46.none
abbrev Bt:X0d:=.br true
abbrev Bf:X0d:=.br false
abbrev Ob (e:List AV) (n:Nat):Obj:={ es:=e,esz:=n }
abbrev Lf:=AV.list false
abbrev Lt:=AV.list true
abbrev Gt:X0d:=.go true
abbrev Gf:X0d:=.go false
theorem Zn {α:Type} {m:Bool} {H:X7} (f:α->AV):Cv m H .nils (.list m (List.map f ([]:List α))):=.nils
theorem wkT {P : Program} {nt n0 : Nat} {Q : X5 -> St -> Mu -> Prop} {cf : Cf} {K : List Kn} {μ : Mu} {L L' : List (Nat × AV)} {G G' : List (Nat × Obj)} {n n' : Nat} (θ : List (Nat × Nat)) (h : Xc P nt n0 Q cf K ⟨fr L', hp G', n'⟩ μ)
    (hb:(Xq1 θ n0&&Xnw θ (G'.map (·.1))&&Nat.ble n0 n')=true:=by rfl) (hL:wkL L θ n' L':=by repeat' first|refine And.intro ?_ ?_|exact wkA) (hG:wkG G θ n' G':=by repeat' first|refine And.intro ?_ ?_|exact wkB):Xc P nt n0 Q cf K ⟨fr L,hp G,n⟩ μ:=Xc.weakTo θ h hb hL hG
end Go.Av
namespace Go.D
open Go.Av
end Go.D
