/- Printed by decomp.py: the types of the Go program, as data; their encodings. -/
import Derived.Test.YtmodjehiebcejaaGreatDoorGlX
import Derived.Test.YtmodjehiebcejaaGreatDoorAvd
set_option linter.all false

namespace Go.D
theorem Yo {α β:Type} {a:α} {f:α->Option β}:(some a).bind f=f a:=rfl
theorem Yf {p:Prop} [Decidable p] (h:¬ p):decide p=false:=decide_eq_false h
theorem Yt {p:Prop} [Decidable p] (h:p):decide p=true:=decide_eq_true h
theorem Ym {α β:Type} {f:α->β} {l:List α} {i:Nat}:List.map f (List.take i l)=List.take i (List.map f l):=List.map_take
theorem Yd {α β:Type} {f:α->β} {l:List α} {i:Nat}:List.map f (List.drop i l)=List.drop i (List.map f l):=List.map_drop
theorem Ya {a b:Prop} (x:a) (y:b):a/\b:=⟨x,y⟩
theorem Ye {α:Type} {l:List α} {i:Nat} (h:i<l.length):l[i]?=some l[i]:=List.getElem?_eq_getElem h
theorem Ys {α:Type} {l:List α} {i:Nat} {a:α}:l[i]?=some a↔∃ h:i<l.length,l[i]=a:=List.getElem?_eq_some_iff
theorem Yg {α:Type} {l:List α} {i:Nat} {a:α} (h:l[i]?=some a):a∈l:=List.mem_of_getElem? h
structure GOp where
  Kind:Int
  N:Int
  deriving DecidableEq,Inhabited
structure X4i where
  From:Int
  Out:Int
  To:Int
  In:Int
  Room:Int
  deriving DecidableEq,Inhabited
structure X57 where
  Ops:(List GOp)
  Channels:(List X4i)
  deriving DecidableEq,Inhabited
end Go.D
namespace Go.Av
open Go.D
def Xgr (x:GOp):AV:=.agg [(aI .u8 x.Kind),(aI .i64 x.N)]
theorem Xj2 (x:GOp):Xai (Xgr x):=(Xc8 (Xc8 X079))
def X2p (x:X4i):AV:=.agg [(aI .i64 x.From),(aI .i64 x.Out),(aI .i64 x.To),(aI .i64 x.In),(aI .i64 x.Room)]
theorem Xaa (x:X4i):Xai (X2p x):=(Xc8 (Xc8 (Xc8 (Xc8 (Xc8 X079)))))
def X18 (o:Bool) (x:X57):AV:=.agg [(AV.list o (List.map Xgr x.Ops)),(AV.list o (List.map X2p x.Channels))]
theorem X1u (o:Bool) (x:X57):X8w (X18 o x):=λ_=>rfl
theorem X2b (o:Bool) (x:X57):Xcl (X18 o x):=Xj1 (λ_=>(X2t .list (X2t .list X5p)))
theorem Xeg {H:X3} {o:Bool} {x:X57}:Cv false H (X18 o x) (X18 false x):=Xh4 (Cvs.cons (Xh3 (Xa9 Xj2 _)) (Cvs.cons (Xh3 (Xa9 Xaa _)) Cvs.nil))
theorem Xef {H:X3} {o:Bool} {x:X57}:Cv true H (X18 o x) (X18 o x):=Xh4 (Cvs.cons (.listS rfl) (Cvs.cons (.listS rfl) Cvs.nil))
instance X06n:X0gv X18:=⟨Xeg,Xef,λ_ _ _=>rfl,X2b,X1u⟩
theorem wkA {P:Prop} (h:P:=by
  first
    |exact trivial
    |rfl
    |exact .sc
    |exact .list
    |exact .nils
    |exact .ref (by decide)
    |exact .ptr (by decide)
    |exact Xfq
    |(refine AV.Ok.tup ?_;repeat' first|exact X5p|refine X2t ?_ ?_|exact .sc|exact .nils|exact .list|exact .ref (by decide)|exact .ptr (by decide))
    |(refine congrArg AV.tup ?_;repeat' first|rfl|(refine congrArg (λz=>AV.ref _ 0 z) ?_;first|rfl|omega|(simp;done)|(simp;omega))|(show AV.ref _ 0 _=AV.ref _ 0 _;congr 1;first|omega|(simp;done))|(refine congrArg (λz=>AV.sc (Value.int IntKind.i64 z)) ?_;first|rfl|omega|assumption|(simp;done))|refine congr (congrArg List.cons ?_) ?_|(show(_::_:List AV)=_::_;refine congr (congrArg List.cons ?_) ?_))
    |exact .fn (X2t (.ptr (by decide)) X5p)
    |exact .fn (X2t (.ptr (by decide)) (X2t (.ptr (by decide)) X5p))
    |exact .fn (X2t (.ptr (by decide)) (X2t (.ptr (by decide)) (X2t (.ptr (by decide)) X5p)))
    |assumption
    |exact(free_GOp _ _).1
    |exact(free_GChannel _ _).1
    |exact(X2b true _ _).1
    |exact(X2b false _ _).1
    |exact(free_V2i64 _ _).1
    |(refine congrArg (λz=>AV.sc (Value.int IntKind.i64 z)) ?_;first|rfl|omega|assumption|(simp;done)|(simp;omega))
    |(refine congrArg (λz=>AV.sc (Value.bool z)) ?_;first|rfl|assumption|(simp;done))
    |(refine congrArg (λz=>AV.ref _ 0 z) ?_;first|rfl|omega|(simp;done)|(simp;omega))
    |(show AV.ref _ 0 _=AV.ref _ 0 _;congr 1;first|(simp;done)|(simp;omega))
    |(simp[slE,opE,nbF,nbT,nbS,AV.ren,List.map_take,List.map_drop];done)
    |(simp[slE,opE,nbF,nbT,nbS,AV.ren,List.map_take,List.map_drop, *];done)
    |(simp[AV.ren, *];done)
    |exact wkSl rfl
    |exact okSl (by decide)
    |(refine aggV ?_;repeat' first|exact trivial|refine And.intro ?_ ?_|rfl|exact wkSl rfl|(refine refR rfl ?_;first|rfl|(simp;done)|(simp;omega)))
    |(refine aggOk ?_;repeat' first|exact X5p|refine X2t ?_ ?_|exact .sc|exact .list|exact .nils|exact .ref (by decide)|exact .ptr (by decide)|exact okSl (by decide)|exact okF|exact okG|exact Xfq)):P:=h
theorem wkB {P:Prop} (h:P:=by
  first
    |exact trivial
    |rfl
    |decide
    |exact⟨_,rfl,rfl,rfl⟩
    |exact okScs rfl
    |(refine⟨_,rfl,rfl,ref1 ?_⟩;first|rfl|omega|(simp;done)|(simp;omega))
    |exact X50 free_GOp _ _
    |exact X4z (free_GOp _) _
    |exact free_cons free_GOp _ _ _
    |exact X50 free_GChannel _ _
    |exact X4z (free_GChannel _) _
    |exact free_cons free_GChannel _ _ _
    |exact X50 (X2b true) _ _
    |exact X4z ((X2b true) _) _
    |exact free_cons (X2b true) _ _ _
    |exact X50 (X2b false) _ _
    |exact X4z ((X2b false) _) _
    |exact free_cons (X2b false) _ _ _
    |exact X50 free_V2i64 _ _
    |exact X4z (free_V2i64 _) _
    |exact free_cons free_V2i64 _ _ _
    |exact X50 (λ_=>Xgd) _ _
    |exact X4z ((λ_=>Xgd) _) _
    |exact free_cons (λ_=>Xgd) _ _ _
    |exact X50 (λ_=>free_encl) _ _
    |exact X4z ((λ_=>free_encl) _) _
    |exact free_cons (λ_=>free_encl) _ _ _
    |(refine⟨_,rfl,rfl,Eq.trans ?_ (X5 (X26 still_GOp _) _)⟩;rfl)
    |(refine⟨_,rfl,rfl,Eq.trans ?_ (X5 (still_cons still_GOp _ _) _)⟩;rfl)
    |(refine⟨_,rfl,rfl,Eq.trans ?_ (X5 (X26 still_GChannel _) _)⟩;rfl)
    |(refine⟨_,rfl,rfl,Eq.trans ?_ (X5 (still_cons still_GChannel _ _) _)⟩;rfl)
    |(refine⟨_,rfl,rfl,Eq.trans ?_ (X5 (X26 (X1u true) _) _)⟩;rfl)
    |(refine⟨_,rfl,rfl,Eq.trans ?_ (X5 (still_cons (X1u true) _ _) _)⟩;rfl)
    |(refine⟨_,rfl,rfl,Eq.trans ?_ (X5 (X26 (X1u false) _) _)⟩;rfl)
    |(refine⟨_,rfl,rfl,Eq.trans ?_ (X5 (still_cons (X1u false) _ _) _)⟩;rfl)
    |(refine⟨_,rfl,rfl,Eq.trans ?_ (X5 (X26 still_V2i64 _) _)⟩;rfl)
    |(refine⟨_,rfl,rfl,Eq.trans ?_ (X5 (still_cons still_V2i64 _ _) _)⟩;rfl)
    |(refine⟨_,rfl,rfl,Eq.trans ?_ (X5 (X26 (λ_=>X74) _) _)⟩;rfl)
    |(refine⟨_,rfl,rfl,Eq.trans ?_ (X5 (still_cons (λ_=>X74) _ _) _)⟩;rfl)
    |(refine⟨_,rfl,rfl,Eq.trans ?_ (X5 (X26 (λ_=>still_encl) _) _)⟩;rfl)
    |(refine⟨_,rfl,rfl,Eq.trans ?_ (X5 (still_cons (λ_=>still_encl) _ _) _)⟩;rfl)
    |(refine⟨_,rfl,rfl,Eq.trans ?_ (X5 (X26 still_GOp _) _)⟩;first|(simp;done)|(simp;rfl)|(exact Eq.symm (Eq.trans List.map_append rfl))|(rw[List.map_append];rfl)|(rw[List.map_set];rfl)|(simp[*];done)|(rw[List.map_replicate];rfl))
    |(refine⟨_,rfl,rfl,Eq.trans ?_ (X5 (still_cons still_GOp _ _) _)⟩;first|(simp;done)|(simp;rfl)|(simp[*];done))
    |(refine⟨_,rfl,rfl,Eq.trans ?_ (X5 (X26 still_GChannel _) _)⟩;first|(simp;done)|(simp;rfl)|(exact Eq.symm (Eq.trans List.map_append rfl))|(rw[List.map_append];rfl)|(rw[List.map_set];rfl)|(simp[*];done)|(rw[List.map_replicate];rfl))
    |(refine⟨_,rfl,rfl,Eq.trans ?_ (X5 (still_cons still_GChannel _ _) _)⟩;first|(simp;done)|(simp;rfl)|(simp[*];done))
    |(refine⟨_,rfl,rfl,Eq.trans ?_ (X5 (X26 (X1u true) _) _)⟩;first|(simp;done)|(simp;rfl)|(exact Eq.symm (Eq.trans List.map_append rfl))|(rw[List.map_append];rfl)|(rw[List.map_set];rfl)|(simp[*];done)|(rw[List.map_replicate];rfl))
    |(refine⟨_,rfl,rfl,Eq.trans ?_ (X5 (still_cons (X1u true) _ _) _)⟩;first|(simp;done)|(simp;rfl)|(simp[*];done))
    |(refine⟨_,rfl,rfl,Eq.trans ?_ (X5 (X26 (X1u false) _) _)⟩;first|(simp;done)|(simp;rfl)|(exact Eq.symm (Eq.trans List.map_append rfl))|(rw[List.map_append];rfl)|(rw[List.map_set];rfl)|(simp[*];done)|(rw[List.map_replicate];rfl))
    |(refine⟨_,rfl,rfl,Eq.trans ?_ (X5 (still_cons (X1u false) _ _) _)⟩;first|(simp;done)|(simp;rfl)|(simp[*];done))
    |(refine⟨_,rfl,rfl,Eq.trans ?_ (X5 (X26 still_V2i64 _) _)⟩;first|(simp;done)|(simp;rfl)|(exact Eq.symm (Eq.trans List.map_append rfl))|(rw[List.map_append];rfl)|(rw[List.map_set];rfl)|(simp[*];done)|(rw[List.map_replicate];rfl))
    |(refine⟨_,rfl,rfl,Eq.trans ?_ (X5 (still_cons still_V2i64 _ _) _)⟩;first|(simp;done)|(simp;rfl)|(simp[*];done))
    |(refine⟨_,rfl,rfl,Eq.trans ?_ (X5 (X26 (λ_=>X74) _) _)⟩;first|(simp;done)|(simp;rfl)|(exact Eq.symm (Eq.trans List.map_append rfl))|(rw[List.map_append];rfl)|(rw[List.map_set];rfl)|(simp[*];done)|(rw[List.map_replicate];rfl))
    |(refine⟨_,rfl,rfl,Eq.trans ?_ (X5 (still_cons (λ_=>X74) _ _) _)⟩;first|(simp;done)|(simp;rfl)|(simp[*];done))
    |(refine⟨_,rfl,rfl,Eq.trans ?_ (X5 (X26 (λ_=>still_encl) _) _)⟩;first|(simp;done)|(simp;rfl)|(exact Eq.symm (Eq.trans List.map_append rfl))|(rw[List.map_append];rfl)|(rw[List.map_set];rfl)|(simp[*];done)|(rw[List.map_replicate];rfl))
    |(refine⟨_,rfl,rfl,Eq.trans ?_ (X5 (still_cons (λ_=>still_encl) _ _) _)⟩;first|(simp;done)|(simp;rfl)|(simp[*];done))
    |(refine⟨_,rfl,rfl,Eq.trans ?_ (X5 (still_one (still_GOp _)) _)⟩;simp only[List.length_cons,List.length_map];rfl)
    |(refine⟨_,rfl,rfl,Eq.trans ?_ (X5 (still_one (still_GChannel _)) _)⟩;simp only[List.length_cons,List.length_map];rfl)
    |(refine⟨_,rfl,rfl,Eq.trans ?_ (X5 (still_one ((X1u true) _)) _)⟩;simp only[List.length_cons,List.length_map];rfl)
    |(refine⟨_,rfl,rfl,Eq.trans ?_ (X5 (still_one ((X1u false) _)) _)⟩;simp only[List.length_cons,List.length_map];rfl)
    |(refine⟨_,rfl,rfl,Eq.trans ?_ (X5 (still_one (still_V2i64 _)) _)⟩;simp only[List.length_cons,List.length_map];rfl)
    |(refine⟨_,rfl,rfl,Eq.trans ?_ (X5 (still_one ((λ_=>X74) _)) _)⟩;simp only[List.length_cons,List.length_map];rfl)
    |(refine⟨_,rfl,rfl,Eq.trans ?_ (X5 (still_one ((λ_=>still_encl) _)) _)⟩;simp only[List.length_cons,List.length_map];rfl)
    |(intro e he a ha;rw[List.mem_singleton.1 he] at ha;rw[List.mem_singleton.1 ha];first|exact .sc|exact .list|exact .nils|exact .ref (by decide)|exact .ptr (by decide)|exact Xfq|exact .fn (X2t (.ptr (by decide)) X5p)|exact .fn (X2t (.ptr (by decide)) (X2t (.ptr (by decide)) X5p)))
    |(intro e he a ha;simp at he;subst he;simp[AV.cells] at ha;first|(subst ha;exact .sc)|(rcases ha with rfl|rfl|rfl|rfl|rfl<;>exact .sc))
    | (refine focO ?_ ?_; · first | exact okSl (by decide) | exact .ref (by decide) | exact .nils | exact .list
       · first|rfl|exact slE_cells)
    |(refine⟨_,rfl,rfl,focR (λ_=>still_encl) (by first|rfl|(simp;done)) ?_⟩;first|rfl|(refine focC rfl ?_;first|rfl|(simp;done)|(simp;omega))|(simp[slE,nbF,AV.ren,thL];done))
    |(refine⟨_,rfl,rfl,focR2 (λ_=>still_encl) (by first|rfl|(simp;done)) (by first|rfl|(simp;done)) ?_⟩;first|rfl|(refine focC rfl ?_;first|rfl|(simp;done)|(simp;omega))|(simp[slE,nbF,AV.ren,thL];done))
    |(refine⟨_,rfl,rfl,aggR ?_⟩;repeat' first|exact trivial|refine And.intro ?_ ?_|rfl|exact wkSl rfl|(refine refR rfl ?_;first|rfl|(simp;done)|(simp;omega)))
    |(refine okAgg ?_;repeat' first|exact X5p|refine X2t ?_ ?_|exact .sc|exact .list|exact .nils|exact .ref (by decide)|exact .ptr (by decide)|exact okSl (by decide)|exact okF|exact okG|exact Xfq)):P:=h
theorem rn {P:Program} {T:Ty} {nt n0:Nat} {μ:Mu} {Q:X2->St->Mu->Prop} {cf cf':Cf} {K K':List Kn} {L L':List (Nat×AV)} {G G':List (Nat×Obj)} {n n':Nat} {hs':List X2j} {ps':List Prop} (hT:X2i P T/\P.follows .mixedOrders=true) (hs:List X2j) (h:X4t P T nt 4000 cf K L G n hs []=some (cf',K',L',G',n',hs',ps')) (hp':X28 ps') (k:Xk P nt n0 Q cf' K' ⟨fr L',hp G',n'⟩ μ):Xk P nt n0 Q cf K ⟨fr L,hp G,n⟩ μ:=X5y hT 4000 hs h hp' k
abbrev cc:=@Cvs.cons
abbrev cn:=@Cvs.nil
abbrev pn:=@X5v.none
abbrev Bt:X2j:=.br true
abbrev Bf:X2j:=.br false
abbrev Ob (e:List AV) (n:Nat):Obj:={ es:=e,esz:=n }
abbrev Lf:=AV.list false
abbrev Lt:=AV.list true
abbrev Gt:X2j:=.go true
abbrev Gf:X2j:=.go false
theorem Zn {α:Type} {m:Bool} {H:X3} (f:α->AV):Cv m H .nils (.list m (List.map f ([]:List α))):=.nils
theorem wkT {P : Program} {nt n0 : Nat} {Q : X2 -> St -> Mu -> Prop} {cf : Cf} {K : List Kn} {μ : Mu} {L L' : List (Nat × AV)} {G G' : List (Nat × Obj)} {n n' : Nat} (θ : List (Nat × Nat)) (h : Xk P nt n0 Q cf K ⟨fr L', hp G', n'⟩ μ)
    (hb:(fixB θ n0&&Xv0 θ (G'.map (·.1))&&Nat.ble n0 n')=true:=by rfl) (hL:wkL L θ n' L':=by repeat' first|refine And.intro ?_ ?_|exact wkA) (hG:wkG G θ n' G':=by repeat' first|refine And.intro ?_ ?_|exact wkB):Xk P nt n0 Q cf K ⟨fr L,hp G,n⟩ μ:=Xk.weakTo θ h hb hL hG
end Go.Av
namespace Go.D
open Go.Av
end Go.D
