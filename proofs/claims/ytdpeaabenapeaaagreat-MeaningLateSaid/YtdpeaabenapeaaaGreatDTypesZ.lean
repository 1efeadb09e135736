/- Printed by decomp.py: the types of the Go program, as data; their encodings. -/
import Derived.Test.YtdpeaabenapeaaaGreatAvc
set_option linter.all false

namespace Go.D
theorem Yo {α β:Type} {a:α} {f:α->Option β}:(some a).bind f=f a:=rfl
theorem Yf {p:Prop} [Decidable p] (h:¬ p):decide p=false:=decide_eq_false h
theorem Yt {p:Prop} [Decidable p] (h:p):decide p=true:=decide_eq_true h
theorem Ym {α β:Type} {f:α->β} {l:List α} {i:Nat}:List.map f (List.take i l)=List.take i (List.map f l):=List.map_take
theorem Yd {α β:Type} {f:α->β} {l:List α} {i:Nat}:List.map f (List.drop i l)=List.drop i (List.map f l):=List.map_drop
theorem Ya {a b:Prop} (x:a) (y:b):a/\b:=⟨x,y⟩
theorem Ye {α:Type} {l:List α} {i:Nat} (h:i<l.length):l[i]?=some l[i]:=List.getElem?_eq_getElem h
theorem Ys {α:Type} {l:List α} {i:Nat} {a:α}:l[i]?=some a↔∃ h:i<l.length,l[i]=a:=List.getElem?_eq_some_iff
theorem Yg {α:Type} {l:List α} {i:Nat} {a:α} (h:l[i]?=some a):a∈l:=List.mem_of_getElem? h
structure Xu where
  Kind:Int
  N:Int
  A:Int
  B:Int
  At:Int
  deriving DecidableEq,Inhabited
structure X0g where
  Kind:Int
  Size:Int
  Every:Int
  deriving DecidableEq,Inhabited
structure Xt where
  Agg:Int
  Arg:(List Xu)
  Sources:(List Int)
  Join:Bool
  Where:(List Xu)
  Window:X0g
  ByKey:Bool
  Late:Int
  deriving DecidableEq,Inhabited
structure X9 where
  Key:Int
  Time:Int
  Value:Int
  deriving DecidableEq,Inhabited
structure Xa where
  Mark:Bool
  Time:Int
  Record:X9
  deriving DecidableEq,Inhabited
structure X0k where
  Start:Int
  End:Int
  deriving DecidableEq,Inhabited
structure X52 where
  Key:Int
  Span:X0k
  Values:(V2 Int)
  deriving DecidableEq,Inhabited
structure Xe where
  at_:Int
  size:Int
  depth:Int
  deriving DecidableEq,Inhabited
structure X0x where
  Count:Int
  Sum:Int
  Min:Int
  Max:Int
  deriving DecidableEq,Inhabited
structure X5 where
  Key:Int
  Span:X0k
  Values:(V2 X0x)
  deriving DecidableEq,Inhabited
end Go.D
namespace Go.Av
open Go.D
def X4 (x:Xu):AV:=.agg [(aI .u8 x.Kind),(aI .i64 x.N),(aI .i64 x.A),(aI .i64 x.B),(aI .i64 x.At)]
theorem Xc9 (x:Xu):X8o (X4 x):=(X2f (X2f (X2f (X2f (X2f Xh3)))))
theorem X6v (x:Xu):X6i (X4 x):=λ_=>rfl
theorem Xc8 (x:Xu):Xat (X4 x):=X3v (Xc9 x) rfl
instance X02e:Xbr X4:=⟨Xc9,λ_=>rfl,X6v⟩
def X2k (x:X0g):AV:=.agg [(aI .u8 x.Kind),(aI .i64 x.Size),(aI .i64 x.Every)]
theorem Xf2 (x:X0g):X8o (X2k x):=(X2f (X2f (X2f Xh3)))
theorem X4r (x:X0g):X6i (X2k x):=λ_=>rfl
theorem X90 (x:X0g):Xat (X2k x):=X3v (Xf2 x) rfl
instance X00v:Xbr X2k:=⟨Xf2,λ_=>rfl,X4r⟩
def Xk (o:Bool) (x:Xt):AV:=.agg [(aI .u8 x.Agg),(AV.list o (List.map X4 x.Arg)),(AV.list o (List.map (aI .i64) x.Sources)),(aB x.Join),(AV.list o (List.map X4 x.Where)),(aI .u8 x.Window.Kind),(aI .i64 x.Window.Size),(aI .i64 x.Window.Every),(aB x.ByKey),(aI .u8 x.Late)]
theorem X1z (o:Bool) (x:Xt):X6i (Xk o x):=λ_=>rfl
theorem X3o (o:Bool) (x:Xt):Xat (Xk o x):=Xx1 (λ_=>(X1a .sc (X1a .list (X1a .list (X1a .sc (X1a .list (X1a .sc (X1a .sc (X1a .sc (X1a .sc (X1a .sc X7j)))))))))))
theorem Xr8 {H:X08} {o:Bool} {x:Xt}:Cv false H (Xk o x) (Xk false x):=Xu4 (Cvs.cons .sc (Cvs.cons (Xaq (X23 Xc9 _)) (Cvs.cons (Xaq (X23 (λ_=>Xf4) _)) (Cvs.cons .sc (Cvs.cons (Xaq (X23 Xc9 _)) (Cvs.cons .sc (Cvs.cons .sc (Cvs.cons .sc (Cvs.cons .sc (Cvs.cons .sc Cvs.nil))))))))))
theorem Xr7 {H:X08} {o:Bool} {x:Xt}:Cv true H (Xk o x) (Xk o x):=Xu4 (Cvs.cons .sc (Cvs.cons (.listS rfl) (Cvs.cons (.listS rfl) (Cvs.cons .sc (Cvs.cons (.listS rfl) (Cvs.cons .sc (Cvs.cons .sc (Cvs.cons .sc (Cvs.cons .sc (Cvs.cons .sc Cvs.nil))))))))))
instance X01g:X023 Xk:=⟨Xr8,Xr7,λ_ _ _=>rfl,X3o,X1z⟩
def X1 (x:X9):AV:=.agg [(aI .i64 x.Key),(aI .i64 x.Time),(aI .i64 x.Value)]
theorem Xf3 (x:X9):X8o (X1 x):=(X2f (X2f (X2f Xh3)))
theorem X4s (x:X9):X6i (X1 x):=λ_=>rfl
theorem X91 (x:X9):Xat (X1 x):=X3v (Xf3 x) rfl
instance X00w:Xbr X1:=⟨Xf3,λ_=>rfl,X4s⟩
def X0 (x:Xa):AV:=.agg [(aB x.Mark),(aI .i64 x.Time),(aI .i64 x.Record.Key),(aI .i64 x.Record.Time),(aI .i64 x.Record.Value)]
theorem X5o (x:Xa):X8o (X0 x):=(X2f (X2f (X2f (X2f (X2f Xh3)))))
theorem X5t (x:Xa):X6i (X0 x):=λ_=>rfl
theorem Xam (x:Xa):Xat (X0 x):=X3v (X5o x) rfl
instance X01s:Xbr X0:=⟨X5o,λ_=>rfl,X5t⟩
def Xw (x:X0k):AV:=.agg [(aI .i64 x.Start),(aI .i64 x.End)]
theorem Xin (x:X0k):X8o (Xw x):=(X2f (X2f Xh3))
theorem X6u (x:X0k):X6i (Xw x):=λ_=>rfl
theorem Xc7 (x:X0k):Xat (Xw x):=X3v (Xin x) rfl
instance X02d:Xbr Xw:=⟨Xin,λ_=>rfl,X6u⟩
def Xi (x:X52):AV:=.agg [(aI .i64 x.Key),(aI .i64 x.Span.Start),(aI .i64 x.Span.End),(aI .i64 x.Values.e0),(aI .i64 x.Values.e1)]
theorem Xlm (x:X52):X8o (Xi x):=(X2f (X2f (X2f (X2f (X2f Xh3)))))
theorem X7p (x:X52):X6i (Xi x):=λ_=>rfl
theorem Xdl (x:X52):Xat (Xi x):=X3v (Xlm x) rfl
instance X03c:Xbr Xi:=⟨Xlm,λ_=>rfl,X7p⟩
def X6 (x:Xe):AV:=.agg [(aI .i64 x.at_),(aI .i64 x.size),(aI .i64 x.depth)]
theorem Xbn (x:Xe):X8o (X6 x):=(X2f (X2f (X2f Xh3)))
theorem X2o (x:Xe):X6i (X6 x):=λ_=>rfl
theorem X6b (x:Xe):Xat (X6 x):=X3v (Xbn x) rfl
instance Xx5:Xbr X6:=⟨Xbn,λ_=>rfl,X2o⟩
def X7n (x:(V2 Bool)):AV:=.agg [(aB x.e0),(aB x.e1)]
theorem Xx3 (x:(V2 Bool)):X8o (X7n x):=(X2f (X2f Xh3))
theorem Xfv (x:(V2 Bool)):Xat (X7n x):=X3v (Xx3 x) rfl
def X0i (x:X0x):AV:=.agg [(aI .i64 x.Count),(aI .i64 x.Sum),(aI .i64 x.Min),(aI .i64 x.Max)]
theorem Xh2 (x:X0x):X8o (X0i x):=(X2f (X2f (X2f (X2f Xh3))))
theorem X5v (x:X0x):X6i (X0i x):=λ_=>rfl
theorem Xao (x:X0x):Xat (X0i x):=X3v (Xh2 x) rfl
instance X01u:Xbr X0i:=⟨Xh2,λ_=>rfl,X5v⟩
def X3 (x:X5):AV:=.agg [(aI .i64 x.Key),(aI .i64 x.Span.Start),(aI .i64 x.Span.End),(aI .i64 x.Values.e0.Count),(aI .i64 x.Values.e0.Sum),(aI .i64 x.Values.e0.Min),(aI .i64 x.Values.e0.Max),(aI .i64 x.Values.e1.Count),(aI .i64 x.Values.e1.Sum),(aI .i64 x.Values.e1.Min),(aI .i64 x.Values.e1.Max)]
theorem X5p (x:X5):X8o (X3 x):=(X2f (X2f (X2f (X2f (X2f (X2f (X2f (X2f (X2f (X2f (X2f Xh3)))))))))))
theorem X5u (x:X5):X6i (X3 x):=λ_=>rfl
theorem Xan (x:X5):Xat (X3 x):=X3v (X5p x) rfl
theorem X75 {m:Bool} {H:X08} {x:X5}:Cv m H (X3 x) (X3 x):=X00a (X5p x)
instance X01t:Xbr X3:=⟨X5p,λ_=>rfl,X5u⟩
def X7w (x:(V5 Int)):AV:=.agg [(aI .i64 x.e0),(aI .i64 x.e1),(aI .i64 x.e2),(aI .i64 x.e3),(aI .i64 x.e4)]
theorem Xr1 (x:(V5 Int)):X8o (X7w x):=(X2f (X2f (X2f (X2f (X2f Xh3)))))
theorem Xc6 (x:(V5 Int)):Xat (X7w x):=X3v (Xr1 x) rfl
theorem wkA {P:Prop} (h:P:=by
  first
    |exact trivial
    |rfl
    |exact .sc
    |exact .list
    |exact .nils
    |exact .ref (by decide)
    |exact .ptr (by decide)
    |exact Xsg
    |(refine AV.Ok.tup ?_;repeat' first|exact X7j|refine X1a ?_ ?_|exact .sc|exact .nils|exact .list|exact .ref (by decide)|exact .ptr (by decide))
    |(refine congrArg AV.tup ?_;repeat' first|rfl|(refine congrArg (λz=>AV.ref _ 0 z) ?_;first|rfl|omega|(simp;done)|(simp;omega))|(show AV.ref _ 0 _=AV.ref _ 0 _;congr 1;first|omega|(simp;done))|(refine congrArg (λz=>AV.sc (Value.int IntKind.i64 z)) ?_;first|rfl|omega|assumption|(simp;done))|refine congr (congrArg List.cons ?_) ?_|(show(_::_:List AV)=_::_;refine congr (congrArg List.cons ?_) ?_))
    |exact .fn (X1a (.ptr (by decide)) X7j)
    |exact .fn (X1a (.ptr (by decide)) (X1a (.ptr (by decide)) X7j))
    |exact .fn (X1a (.ptr (by decide)) (X1a (.ptr (by decide)) (X1a (.ptr (by decide)) X7j)))
    |assumption
    |exact(Xc8 _ _).1
    |exact(X90 _ _).1
    |exact(X3o true _ _).1
    |exact(X3o false _ _).1
    |exact(X91 _ _).1
    |exact(Xam _ _).1
    |exact(Xc7 _ _).1
    |exact(free_V2i64 _ _).1
    |exact(Xdl _ _).1
    |exact(X6b _ _).1
    |exact(Xfv _ _).1
    |exact(Xao _ _).1
    |exact(free_V2GAccum _ _).1
    |exact(Xan _ _).1
    |exact(Xc6 _ _).1
    |(refine congrArg (λz=>AV.sc (Value.int IntKind.i64 z)) ?_;first|rfl|omega|assumption|(simp;done)|(simp;omega))
    |(refine congrArg (λz=>AV.sc (Value.bool z)) ?_;first|rfl|assumption|(simp;done))
    |(refine congrArg (λz=>AV.ref _ 0 z) ?_;first|rfl|omega|(simp;done)|(simp;omega))
    |(show AV.ref _ 0 _=AV.ref _ 0 _;congr 1;first|(simp;done)|(simp;omega))
    |(simp[slE,opE,nbF,nbT,nbS,AV.ren,List.map_take,List.map_drop];done)
    |(simp[slE,opE,nbF,nbT,nbS,AV.ren,List.map_take,List.map_drop, *];done)
    |(simp[AV.ren, *];done)
    |exact wkSl rfl
    |exact okSl (by decide)
    |(refine aggV ?_;repeat' first|exact trivial|refine And.intro ?_ ?_|rfl|exact wkSl rfl|(refine refR rfl ?_;first|rfl|(simp;done)|(simp;omega)))
    |(refine aggOk ?_;repeat' first|exact X7j|refine X1a ?_ ?_|exact .sc|exact .list|exact .nils|exact .ref (by decide)|exact .ptr (by decide)|exact okSl (by decide)|exact okF|exact okG|exact Xsg)):P:=h
theorem wkB {P:Prop} (h:P:=by
  first
    |exact trivial
    |rfl
    |decide
    |exact⟨_,rfl,rfl,rfl⟩
    |(refine⟨_,rfl,rfl,ref1 ?_⟩;first|rfl|omega|(simp;done)|(simp;omega))
    |exact X2x Xc8 _ _
    |exact X2w (Xc8 _) _
    |exact free_cons Xc8 _ _ _
    |exact X2x X90 _ _
    |exact X2w (X90 _) _
    |exact free_cons X90 _ _ _
    |exact X2x (X3o true) _ _
    |exact X2w ((X3o true) _) _
    |exact free_cons (X3o true) _ _ _
    |exact X2x (X3o false) _ _
    |exact X2w ((X3o false) _) _
    |exact free_cons (X3o false) _ _ _
    |exact X2x X91 _ _
    |exact X2w (X91 _) _
    |exact free_cons X91 _ _ _
    |exact X2x Xam _ _
    |exact X2w (Xam _) _
    |exact free_cons Xam _ _ _
    |exact X2x Xc7 _ _
    |exact X2w (Xc7 _) _
    |exact free_cons Xc7 _ _ _
    |exact X2x free_V2i64 _ _
    |exact X2w (free_V2i64 _) _
    |exact free_cons free_V2i64 _ _ _
    |exact X2x Xdl _ _
    |exact X2w (Xdl _) _
    |exact free_cons Xdl _ _ _
    |exact X2x X6b _ _
    |exact X2w (X6b _) _
    |exact free_cons X6b _ _ _
    |exact X2x Xfv _ _
    |exact X2w (Xfv _) _
    |exact free_cons Xfv _ _ _
    |exact X2x Xao _ _
    |exact X2w (Xao _) _
    |exact free_cons Xao _ _ _
    |exact X2x free_V2GAccum _ _
    |exact X2w (free_V2GAccum _) _
    |exact free_cons free_V2GAccum _ _ _
    |exact X2x Xan _ _
    |exact X2w (Xan _) _
    |exact free_cons Xan _ _ _
    |exact X2x Xc6 _ _
    |exact X2w (Xc6 _) _
    |exact free_cons Xc6 _ _ _
    |exact X2x (λ_=>Xtp) _ _
    |exact X2w ((λ_=>Xtp) _) _
    |exact free_cons (λ_=>Xtp) _ _ _
    |exact X2x (λ_=>Xh0) _ _
    |exact X2w ((λ_=>Xh0) _) _
    |exact free_cons (λ_=>Xh0) _ _ _
    |(refine⟨_,rfl,rfl,Eq.trans ?_ (Xd (X07 X6v _) _)⟩;rfl)
    |(refine⟨_,rfl,rfl,Eq.trans ?_ (Xd (still_cons X6v _ _) _)⟩;rfl)
    |(refine⟨_,rfl,rfl,Eq.trans ?_ (Xd (X07 X4r _) _)⟩;rfl)
    |(refine⟨_,rfl,rfl,Eq.trans ?_ (Xd (still_cons X4r _ _) _)⟩;rfl)
    |(refine⟨_,rfl,rfl,Eq.trans ?_ (Xd (X07 (X1z true) _) _)⟩;rfl)
    |(refine⟨_,rfl,rfl,Eq.trans ?_ (Xd (still_cons (X1z true) _ _) _)⟩;rfl)
    |(refine⟨_,rfl,rfl,Eq.trans ?_ (Xd (X07 (X1z false) _) _)⟩;rfl)
    |(refine⟨_,rfl,rfl,Eq.trans ?_ (Xd (still_cons (X1z false) _ _) _)⟩;rfl)
    |(refine⟨_,rfl,rfl,Eq.trans ?_ (Xd (X07 X4s _) _)⟩;rfl)
    |(refine⟨_,rfl,rfl,Eq.trans ?_ (Xd (still_cons X4s _ _) _)⟩;rfl)
    |(refine⟨_,rfl,rfl,Eq.trans ?_ (Xd (X07 X5t _) _)⟩;rfl)
    |(refine⟨_,rfl,rfl,Eq.trans ?_ (Xd (still_cons X5t _ _) _)⟩;rfl)
    |(refine⟨_,rfl,rfl,Eq.trans ?_ (Xd (X07 X6u _) _)⟩;rfl)
    |(refine⟨_,rfl,rfl,Eq.trans ?_ (Xd (still_cons X6u _ _) _)⟩;rfl)
    |(refine⟨_,rfl,rfl,Eq.trans ?_ (Xd (X07 still_V2i64 _) _)⟩;rfl)
    |(refine⟨_,rfl,rfl,Eq.trans ?_ (Xd (still_cons still_V2i64 _ _) _)⟩;rfl)
    |(refine⟨_,rfl,rfl,Eq.trans ?_ (Xd (X07 X7p _) _)⟩;rfl)
    |(refine⟨_,rfl,rfl,Eq.trans ?_ (Xd (still_cons X7p _ _) _)⟩;rfl)
    |(refine⟨_,rfl,rfl,Eq.trans ?_ (Xd (X07 X2o _) _)⟩;rfl)
    |(refine⟨_,rfl,rfl,Eq.trans ?_ (Xd (still_cons X2o _ _) _)⟩;rfl)
    |(refine⟨_,rfl,rfl,Eq.trans ?_ (Xd (X07 still_V2b _) _)⟩;rfl)
    |(refine⟨_,rfl,rfl,Eq.trans ?_ (Xd (still_cons still_V2b _ _) _)⟩;rfl)
    |(refine⟨_,rfl,rfl,Eq.trans ?_ (Xd (X07 X5v _) _)⟩;rfl)
    |(refine⟨_,rfl,rfl,Eq.trans ?_ (Xd (still_cons X5v _ _) _)⟩;rfl)
    |(refine⟨_,rfl,rfl,Eq.trans ?_ (Xd (X07 still_V2GAccum _) _)⟩;rfl)
    |(refine⟨_,rfl,rfl,Eq.trans ?_ (Xd (still_cons still_V2GAccum _ _) _)⟩;rfl)
    |(refine⟨_,rfl,rfl,Eq.trans ?_ (Xd (X07 X5u _) _)⟩;rfl)
    |(refine⟨_,rfl,rfl,Eq.trans ?_ (Xd (still_cons X5u _ _) _)⟩;rfl)
    |(refine⟨_,rfl,rfl,Eq.trans ?_ (Xd (X07 still_V5i64 _) _)⟩;rfl)
    |(refine⟨_,rfl,rfl,Eq.trans ?_ (Xd (still_cons still_V5i64 _ _) _)⟩;rfl)
    |(refine⟨_,rfl,rfl,Eq.trans ?_ (Xd (X07 (λ_=>Xco) _) _)⟩;rfl)
    |(refine⟨_,rfl,rfl,Eq.trans ?_ (Xd (still_cons (λ_=>Xco) _ _) _)⟩;rfl)
    |(refine⟨_,rfl,rfl,Eq.trans ?_ (Xd (X07 (λ_=>X6t) _) _)⟩;rfl)
    |(refine⟨_,rfl,rfl,Eq.trans ?_ (Xd (still_cons (λ_=>X6t) _ _) _)⟩;rfl)
    |(refine⟨_,rfl,rfl,Eq.trans ?_ (Xd (X07 X6v _) _)⟩;first|(simp;done)|(simp;rfl)|(exact Eq.symm (Eq.trans List.map_append rfl))|(rw[List.map_append];rfl)|(rw[List.map_set];rfl)|(simp[*];done)|(rw[List.map_replicate];rfl))
    |(refine⟨_,rfl,rfl,Eq.trans ?_ (Xd (still_cons X6v _ _) _)⟩;first|(simp;done)|(simp;rfl)|(simp[*];done))
    |(refine⟨_,rfl,rfl,Eq.trans ?_ (Xd (X07 X4r _) _)⟩;first|(simp;done)|(simp;rfl)|(exact Eq.symm (Eq.trans List.map_append rfl))|(rw[List.map_append];rfl)|(rw[List.map_set];rfl)|(simp[*];done)|(rw[List.map_replicate];rfl))
    |(refine⟨_,rfl,rfl,Eq.trans ?_ (Xd (still_cons X4r _ _) _)⟩;first|(simp;done)|(simp;rfl)|(simp[*];done))
    |(refine⟨_,rfl,rfl,Eq.trans ?_ (Xd (X07 (X1z true) _) _)⟩;first|(simp;done)|(simp;rfl)|(exact Eq.symm (Eq.trans List.map_append rfl))|(rw[List.map_append];rfl)|(rw[List.map_set];rfl)|(simp[*];done)|(rw[List.map_replicate];rfl))
    |(refine⟨_,rfl,rfl,Eq.trans ?_ (Xd (still_cons (X1z true) _ _) _)⟩;first|(simp;done)|(simp;rfl)|(simp[*];done))
    |(refine⟨_,rfl,rfl,Eq.trans ?_ (Xd (X07 (X1z false) _) _)⟩;first|(simp;done)|(simp;rfl)|(exact Eq.symm (Eq.trans List.map_append rfl))|(rw[List.map_append];rfl)|(rw[List.map_set];rfl)|(simp[*];done)|(rw[List.map_replicate];rfl))
    |(refine⟨_,rfl,rfl,Eq.trans ?_ (Xd (still_cons (X1z false) _ _) _)⟩;first|(simp;done)|(simp;rfl)|(simp[*];done))
    |(refine⟨_,rfl,rfl,Eq.trans ?_ (Xd (X07 X4s _) _)⟩;first|(simp;done)|(simp;rfl)|(exact Eq.symm (Eq.trans List.map_append rfl))|(rw[List.map_append];rfl)|(rw[List.map_set];rfl)|(simp[*];done)|(rw[List.map_replicate];rfl))
    |(refine⟨_,rfl,rfl,Eq.trans ?_ (Xd (still_cons X4s _ _) _)⟩;first|(simp;done)|(simp;rfl)|(simp[*];done))
    |(refine⟨_,rfl,rfl,Eq.trans ?_ (Xd (X07 X5t _) _)⟩;first|(simp;done)|(simp;rfl)|(exact Eq.symm (Eq.trans List.map_append rfl))|(rw[List.map_append];rfl)|(rw[List.map_set];rfl)|(simp[*];done)|(rw[List.map_replicate];rfl))
    |(refine⟨_,rfl,rfl,Eq.trans ?_ (Xd (still_cons X5t _ _) _)⟩;first|(simp;done)|(simp;rfl)|(simp[*];done))
    |(refine⟨_,rfl,rfl,Eq.trans ?_ (Xd (X07 X6u _) _)⟩;first|(simp;done)|(simp;rfl)|(exact Eq.symm (Eq.trans List.map_append rfl))|(rw[List.map_append];rfl)|(rw[List.map_set];rfl)|(simp[*];done)|(rw[List.map_replicate];rfl))
    |(refine⟨_,rfl,rfl,Eq.trans ?_ (Xd (still_cons X6u _ _) _)⟩;first|(simp;done)|(simp;rfl)|(simp[*];done))
    |(refine⟨_,rfl,rfl,Eq.trans ?_ (Xd (X07 still_V2i64 _) _)⟩;first|(simp;done)|(simp;rfl)|(exact Eq.symm (Eq.trans List.map_append rfl))|(rw[List.map_append];rfl)|(rw[List.map_set];rfl)|(simp[*];done)|(rw[List.map_replicate];rfl))
    |(refine⟨_,rfl,rfl,Eq.trans ?_ (Xd (still_cons still_V2i64 _ _) _)⟩;first|(simp;done)|(simp;rfl)|(simp[*];done))
    |(refine⟨_,rfl,rfl,Eq.trans ?_ (Xd (X07 X7p _) _)⟩;first|(simp;done)|(simp;rfl)|(exact Eq.symm (Eq.trans List.map_append rfl))|(rw[List.map_append];rfl)|(rw[List.map_set];rfl)|(simp[*];done)|(rw[List.map_replicate];rfl))
    |(refine⟨_,rfl,rfl,Eq.trans ?_ (Xd (still_cons X7p _ _) _)⟩;first|(simp;done)|(simp;rfl)|(simp[*];done))
    |(refine⟨_,rfl,rfl,Eq.trans ?_ (Xd (X07 X2o _) _)⟩;first|(simp;done)|(simp;rfl)|(exact Eq.symm (Eq.trans List.map_append rfl))|(rw[List.map_append];rfl)|(rw[List.map_set];rfl)|(simp[*];done)|(rw[List.map_replicate];rfl))
    |(refine⟨_,rfl,rfl,Eq.trans ?_ (Xd (still_cons X2o _ _) _)⟩;first|(simp;done)|(simp;rfl)|(simp[*];done))
    |(refine⟨_,rfl,rfl,Eq.trans ?_ (Xd (X07 still_V2b _) _)⟩;first|(simp;done)|(simp;rfl)|(exact Eq.symm (Eq.trans List.map_append rfl))|(rw[List.map_append];rfl)|(rw[List.map_set];rfl)|(simp[*];done)|(rw[List.map_replicate];rfl))
    |(refine⟨_,rfl,rfl,Eq.trans ?_ (Xd (still_cons still_V2b _ _) _)⟩;first|(simp;done)|(simp;rfl)|(simp[*];done))
    |(refine⟨_,rfl,rfl,Eq.trans ?_ (Xd (X07 X5v _) _)⟩;first|(simp;done)|(simp;rfl)|(exact Eq.symm (Eq.trans List.map_append rfl))|(rw[List.map_append];rfl)|(rw[List.map_set];rfl)|(simp[*];done)|(rw[List.map_replicate];rfl))
    |(refine⟨_,rfl,rfl,Eq.trans ?_ (Xd (still_cons X5v _ _) _)⟩;first|(simp;done)|(simp;rfl)|(simp[*];done))
    |(refine⟨_,rfl,rfl,Eq.trans ?_ (Xd (X07 still_V2GAccum _) _)⟩;first|(simp;done)|(simp;rfl)|(exact Eq.symm (Eq.trans List.map_append rfl))|(rw[List.map_append];rfl)|(rw[List.map_set];rfl)|(simp[*];done)|(rw[List.map_replicate];rfl))
    |(refine⟨_,rfl,rfl,Eq.trans ?_ (Xd (still_cons still_V2GAccum _ _) _)⟩;first|(simp;done)|(simp;rfl)|(simp[*];done))
    |(refine⟨_,rfl,rfl,Eq.trans ?_ (Xd (X07 X5u _) _)⟩;first|(simp;done)|(simp;rfl)|(exact Eq.symm (Eq.trans List.map_append rfl))|(rw[List.map_append];rfl)|(rw[List.map_set];rfl)|(simp[*];done)|(rw[List.map_replicate];rfl))
    |(refine⟨_,rfl,rfl,Eq.trans ?_ (Xd (still_cons X5u _ _) _)⟩;first|(simp;done)|(simp;rfl)|(simp[*];done))
    |(refine⟨_,rfl,rfl,Eq.trans ?_ (Xd (X07 still_V5i64 _) _)⟩;first|(simp;done)|(simp;rfl)|(exact Eq.symm (Eq.trans List.map_append rfl))|(rw[List.map_append];rfl)|(rw[List.map_set];rfl)|(simp[*];done)|(rw[List.map_replicate];rfl))
    |(refine⟨_,rfl,rfl,Eq.trans ?_ (Xd (still_cons still_V5i64 _ _) _)⟩;first|(simp;done)|(simp;rfl)|(simp[*];done))
    |(refine⟨_,rfl,rfl,Eq.trans ?_ (Xd (X07 (λ_=>Xco) _) _)⟩;first|(simp;done)|(simp;rfl)|(exact Eq.symm (Eq.trans List.map_append rfl))|(rw[List.map_append];rfl)|(rw[List.map_set];rfl)|(simp[*];done)|(rw[List.map_replicate];rfl))
    |(refine⟨_,rfl,rfl,Eq.trans ?_ (Xd (still_cons (λ_=>Xco) _ _) _)⟩;first|(simp;done)|(simp;rfl)|(simp[*];done))
    |(refine⟨_,rfl,rfl,Eq.trans ?_ (Xd (X07 (λ_=>X6t) _) _)⟩;first|(simp;done)|(simp;rfl)|(exact Eq.symm (Eq.trans List.map_append rfl))|(rw[List.map_append];rfl)|(rw[List.map_set];rfl)|(simp[*];done)|(rw[List.map_replicate];rfl))
    |(refine⟨_,rfl,rfl,Eq.trans ?_ (Xd (still_cons (λ_=>X6t) _ _) _)⟩;first|(simp;done)|(simp;rfl)|(simp[*];done))
    |(refine⟨_,rfl,rfl,Eq.trans ?_ (Xd (still_one (X6v _)) _)⟩;simp only[List.length_cons,List.length_map];rfl)
    |(refine⟨_,rfl,rfl,Eq.trans ?_ (Xd (still_one (X4r _)) _)⟩;simp only[List.length_cons,List.length_map];rfl)
    |(refine⟨_,rfl,rfl,Eq.trans ?_ (Xd (still_one ((X1z true) _)) _)⟩;simp only[List.length_cons,List.length_map];rfl)
    |(refine⟨_,rfl,rfl,Eq.trans ?_ (Xd (still_one ((X1z false) _)) _)⟩;simp only[List.length_cons,List.length_map];rfl)
    |(refine⟨_,rfl,rfl,Eq.trans ?_ (Xd (still_one (X4s _)) _)⟩;simp only[List.length_cons,List.length_map];rfl)
    |(refine⟨_,rfl,rfl,Eq.trans ?_ (Xd (still_one (X5t _)) _)⟩;simp only[List.length_cons,List.length_map];rfl)
    |(refine⟨_,rfl,rfl,Eq.trans ?_ (Xd (still_one (X6u _)) _)⟩;simp only[List.length_cons,List.length_map];rfl)
    |(refine⟨_,rfl,rfl,Eq.trans ?_ (Xd (still_one (still_V2i64 _)) _)⟩;simp only[List.length_cons,List.length_map];rfl)
    |(refine⟨_,rfl,rfl,Eq.trans ?_ (Xd (still_one (X7p _)) _)⟩;simp only[List.length_cons,List.length_map];rfl)
    |(refine⟨_,rfl,rfl,Eq.trans ?_ (Xd (still_one (X2o _)) _)⟩;simp only[List.length_cons,List.length_map];rfl)
    |(refine⟨_,rfl,rfl,Eq.trans ?_ (Xd (still_one (still_V2b _)) _)⟩;simp only[List.length_cons,List.length_map];rfl)
    |(refine⟨_,rfl,rfl,Eq.trans ?_ (Xd (still_one (X5v _)) _)⟩;simp only[List.length_cons,List.length_map];rfl)
    |(refine⟨_,rfl,rfl,Eq.trans ?_ (Xd (still_one (still_V2GAccum _)) _)⟩;simp only[List.length_cons,List.length_map];rfl)
    |(refine⟨_,rfl,rfl,Eq.trans ?_ (Xd (still_one (X5u _)) _)⟩;simp only[List.length_cons,List.length_map];rfl)
    |(refine⟨_,rfl,rfl,Eq.trans ?_ (Xd (still_one (still_V5i64 _)) _)⟩;simp only[List.length_cons,List.length_map];rfl)
    |(refine⟨_,rfl,rfl,Eq.trans ?_ (Xd (still_one ((λ_=>Xco) _)) _)⟩;simp only[List.length_cons,List.length_map];rfl)
    |(refine⟨_,rfl,rfl,Eq.trans ?_ (Xd (still_one ((λ_=>X6t) _)) _)⟩;simp only[List.length_cons,List.length_map];rfl)
    |(intro e he a ha;rw[List.mem_singleton.1 he] at ha;rw[List.mem_singleton.1 ha];first|exact .sc|exact .list|exact .nils|exact .ref (by decide)|exact .ptr (by decide)|exact Xsg|exact .fn (X1a (.ptr (by decide)) X7j)|exact .fn (X1a (.ptr (by decide)) (X1a (.ptr (by decide)) X7j)))
    |(intro e he a ha;simp at he;subst he;simp[AV.cells] at ha;first|(subst ha;exact .sc)|(rcases ha with rfl|rfl|rfl|rfl|rfl<;>exact .sc))
    | (refine focO ?_ ?_; · first | exact okSl (by decide) | exact .ref (by decide) | exact .nils | exact .list
       · first|rfl|exact slE_cells)
    |(refine⟨_,rfl,rfl,focR (λ_=>X6t) (by first|rfl|(simp;done)) ?_⟩;first|rfl|(refine focC rfl ?_;first|rfl|(simp;done)|(simp;omega))|(simp[slE,nbF,AV.ren,thL];done))
    |(refine⟨_,rfl,rfl,X033 (λ_=>X6t) (by first|rfl|(simp;done)) (by first|rfl|(simp;done)) ?_⟩;first|rfl|(refine focC rfl ?_;first|rfl|(simp;done)|(simp;omega))|(simp[slE,nbF,AV.ren,thL];done))
    |(refine⟨_,rfl,rfl,aggR ?_⟩;repeat' first|exact trivial|refine And.intro ?_ ?_|rfl|exact wkSl rfl|(refine refR rfl ?_;first|rfl|(simp;done)|(simp;omega)))
    |(refine okAgg ?_;repeat' first|exact X7j|refine X1a ?_ ?_|exact .sc|exact .list|exact .nils|exact .ref (by decide)|exact .ptr (by decide)|exact okSl (by decide)|exact okF|exact okG|exact Xsg)):P:=h
theorem rn {P:Program} {T:Ty} {nt n0:Nat} {μ:Mu} {Q:Xx->St->Mu->Prop} {cf cf':Cf} {K K':List Kn} {L L':List (Nat×AV)} {G G':List (Nat×Obj)} {n n':Nat} {hs':List X4q} {ps':List Prop} (hT:Xb0 P T/\P.follows .mixedOrders=true) (hs:List X4q) (h:X9n P T nt 4000 cf K L G n hs []=some (cf',K',L',G',n',hs',ps')) (hp':X48 ps') (k:X2 P nt n0 Q cf' K' ⟨fr L',hp G',n'⟩ μ):X2 P nt n0 Q cf K ⟨fr L,hp G,n⟩ μ:=Xog hT 4000 hs h hp' k
abbrev cc:=@Cvs.cons
abbrev cn:=@Cvs.nil
abbrev pn:=@X4y.none
abbrev Bt:X4q:=.br true
abbrev Bf:X4q:=.br false
abbrev Ob (e:List AV) (n:Nat):Obj:={ es:=e,esz:=n }
abbrev Lf:=AV.list false
abbrev Lt:=AV.list true
abbrev Gt:X4q:=.go true
abbrev Gf:X4q:=.go false
theorem Zn {α:Type} {m:Bool} {H:X08} (f:α->AV):Cv m H .nils (.list m (List.map f ([]:List α))):=.nils
theorem wkT {P : Program} {nt n0 : Nat} {Q : Xx -> St -> Mu -> Prop} {cf : Cf} {K : List Kn} {μ : Mu} {L L' : List (Nat × AV)} {G G' : List (Nat × Obj)} {n n' : Nat} (θ : List (Nat × Nat)) (h : X2 P nt n0 Q cf K ⟨fr L', hp G', n'⟩ μ)
    (hb:(fixB θ n0&&injB θ (G'.map (·.1))&&Nat.ble n0 n')=true:=by rfl) (hL:wkL L θ n' L':=by repeat' first|refine And.intro ?_ ?_|exact wkA) (hG:wkG G θ n' G':=by repeat' first|refine And.intro ?_ ?_|exact wkB):X2 P nt n0 Q cf K ⟨fr L,hp G,n⟩ μ:=X2.weakTo θ h hb hL hG
end Go.Av
namespace Go.D
open Go.Av
def X6d (x y:Xu):Bool:=((x.Kind==y.Kind)&&((x.N==y.N)&&((x.A==y.A)&&((x.B==y.B)&&((x.At==y.At)&&true)))))
def X2j (x y:X9):Bool:=((x.Key==y.Key)&&((x.Time==y.Time)&&((x.Value==y.Value)&&true)))
def Xlp (x y:X0k):Bool:=((x.Start==y.Start)&&((x.End==y.End)&&true))
def Xlo (x y:(V2 Int)):Bool:=((x.e0==y.e0)&&((x.e1==y.e1)&&true))
def Xk4 (x y:X52):Bool:=((x.Key==y.Key)&&((Xlp x.Span y.Span)&&((Xlo x.Values y.Values)&&true)))
def Xr3 (x y:X0x):Bool:=((x.Count==y.Count)&&((x.Sum==y.Sum)&&((x.Min==y.Min)&&((x.Max==y.Max)&&true))))
def Xfl (x:Xu):Prop:=wfI .u8 x.Kind/\wfI .i64 x.N/\wfI .i64 x.A/\wfI .i64 x.B/\wfI .i64 x.At
def Xi8 (x:X0g):Prop:=wfI .u8 x.Kind/\wfI .i64 x.Size/\wfI .i64 x.Every
def Xg4 (x:Xt):Prop:=wfI .u8 x.Agg/\(List.length x.Arg<=maxLen/\∀ y∈x.Arg,Xfl y)/\(List.length x.Sources<=maxLen/\∀ y∈x.Sources,wfI .i64 y)/\True/\(List.length x.Where<=maxLen/\∀ y∈x.Where,Xfl y)/\Xi8 x.Window/\True/\wfI .u8 x.Late
def Xi9 (x:X9):Prop:=wfI .i64 x.Key/\wfI .i64 x.Time/\wfI .i64 x.Value
def Xg5 (x:Xa):Prop:=True/\wfI .i64 x.Time/\Xi9 x.Record
end Go.D
