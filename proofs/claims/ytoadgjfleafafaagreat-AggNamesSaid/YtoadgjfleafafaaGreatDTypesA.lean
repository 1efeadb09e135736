/- Printed by decomp.py: the types of the Go program, as data; their encodings. -/
import Derived.Test.YtoadgjfleafafaaGreatAvc
set_option linter.all false

namespace Go.D
theorem Yo {α β : Type} {a : α} {f : α -> Option β} : (some a).bind f = f a := rfl
theorem Yf {p : Prop} [Decidable p] (h : ¬ p) : decide p = false := decide_eq_false h
theorem Yt {p : Prop} [Decidable p] (h : p) : decide p = true := decide_eq_true h
theorem Ym {α β : Type} {f : α -> β} {l : List α} {i : Nat} : List.map f (List.take i l) = List.take i (List.map f l) := List.map_take
theorem Yd {α β : Type} {f : α -> β} {l : List α} {i : Nat} : List.map f (List.drop i l) = List.drop i (List.map f l) := List.map_drop
theorem Ya {a b : Prop} (x : a) (y : b) : a /\ b := ⟨x, y⟩
theorem Ye {α : Type} {l : List α} {i : Nat} (h : i < l.length) : l[i]? = some l[i] := List.getElem?_eq_getElem h
theorem Ys {α : Type} {l : List α} {i : Nat} {a : α} : l[i]? = some a ↔ ∃ h : i < l.length, l[i] = a := List.getElem?_eq_some_iff
theorem Yg {α : Type} {l : List α} {i : Nat} {a : α} (h : l[i]? = some a) : a ∈ l := List.mem_of_getElem? h
structure GOp where
  Kind : Int
  N : Int
  deriving DecidableEq, Inhabited
structure Xb where
  Key : Int
  Time : Int
  Value : Int
  deriving DecidableEq, Inhabited
structure X14 where
  Start : Int
  End : Int
  deriving DecidableEq, Inhabited
structure X0j where
  Key : Int
  Span : X14
  Values : (V2 Int)
  deriving DecidableEq, Inhabited
structure Xt where
  Kind : Int
  Record : Xb
  Time : Int
  Row : X0j
  deriving DecidableEq, Inhabited
structure Xz where
  Out : Int
  Message : Xt
  deriving DecidableEq, Inhabited
structure X1f where
  Count : Int
  Sum : Int
  Min : Int
  Max : Int
  deriving DecidableEq, Inhabited
structure X9 where
  Key : Int
  Span : X14
  Values : (V2 X1f)
  deriving DecidableEq, Inhabited
structure Xq where
  Mark : Bool
  Time : Int
  Record : Xb
  deriving DecidableEq, Inhabited
structure Xn where
  Op : GOp
  Turn : Int
  Pending : (List Xz)
  Marks : (List Int)
  Store : (List X9)
  Events : (List Xq)
  Rows : (List X0j)
  Late : (List Xb)
  deriving DecidableEq, Inhabited
structure X2r where
  Kind : Int
  N : Int
  A : Int
  B : Int
  At : Int
  deriving DecidableEq, Inhabited
structure X48 where
  Kind : Int
  Size : Int
  Every : Int
  deriving DecidableEq, Inhabited
structure X2n where
  Agg : Int
  Arg : (List X2r)
  Sources : (List Int)
  Join : Bool
  Where : (List X2r)
  Window : X48
  ByKey : Bool
  Late : Int
  deriving DecidableEq, Inhabited
structure Xw where
  at_ : Int
  size : Int
  depth : Int
  deriving DecidableEq, Inhabited
end Go.D
namespace Go.Av
open Go.D
def Xs (x : Xb) : AV := .agg [(aI .i64 x.Key), (aI .i64 x.Time), (aI .i64 x.Value)]
theorem X03 (x : Xb) : X8j (Xs x) := (X1x (X1x (X1x Xd3)))
theorem X6m (x : Xb) : X94 (Xs x) := X42 (X03 x) rfl
theorem Xid {m : Bool} {H : X0l} {x : Xb} : Cv m H (Xs x) (Xs x) := X9u (X03 x)
def X1z (x : X14) : AV := .agg [(aI .i64 x.Start), (aI .i64 x.End)]
theorem Xfd (x : X14) : X8j (X1z x) := (X1x (X1x Xd3))
theorem Xh9 {m : Bool} {H : X0l} {x : X14} : Cv m H (X1z x) (X1z x) := X9u (Xfd x)
def Xk (x : X0j) : AV := .agg [(aI .i64 x.Key), (aI .i64 x.Span.Start), (aI .i64 x.Span.End), (aI .i64 x.Values.e0), (aI .i64 x.Values.e1)]
theorem X07 (x : X0j) : X8j (Xk x) := (X1x (X1x (X1x (X1x (X1x Xd3)))))
theorem X2x (x : X0j) : Xcm (Xk x) := fun _ => rfl
theorem Xb7 (x : X0j) : X94 (Xk x) := X42 (X07 x) rfl
theorem Xgc {m : Bool} {H : X0l} {x : X0j} : Cv m H (Xk x) (Xk x) := X9u (X07 x)
def Xc (x : Xt) : AV := .agg [(aI .u8 x.Kind), (aI .i64 x.Record.Key), (aI .i64 x.Record.Time), (aI .i64 x.Record.Value), (aI .i64 x.Time), (aI .i64 x.Row.Key), (aI .i64 x.Row.Span.Start), (aI .i64 x.Row.Span.End), (aI .i64 x.Row.Values.e0), (aI .i64 x.Row.Values.e1)]
theorem X39 (x : Xt) : X8j (Xc x) := (X1x (X1x (X1x (X1x (X1x (X1x (X1x (X1x (X1x (X1x Xd3))))))))))
theorem X4b (x : Xt) : X94 (Xc x) := X42 (X39 x) rfl
theorem X0h {m : Bool} {H : X0l} {x : Xt} : Cv m H (Xc x) (Xc x) := X9u (X39 x)
def Xp (x : Xz) : AV := .agg [(aI .i64 x.Out), (aI .u8 x.Message.Kind), (aI .i64 x.Message.Record.Key), (aI .i64 x.Message.Record.Time), (aI .i64 x.Message.Record.Value), (aI .i64 x.Message.Time), (aI .i64 x.Message.Row.Key), (aI .i64 x.Message.Row.Span.Start), (aI .i64 x.Message.Row.Span.End), (aI .i64 x.Message.Row.Values.e0), (aI .i64 x.Message.Row.Values.e1)]
theorem X0b (x : Xz) : X8j (Xp x) := (X1x (X1x (X1x (X1x (X1x (X1x (X1x (X1x (X1x (X1x (X1x Xd3)))))))))))
theorem X2b (x : Xz) : Xcm (Xp x) := fun _ => rfl
theorem Xa8 (x : Xz) : X94 (Xp x) := X42 (X0b x) rfl
def X0g (x : X1f) : AV := .agg [(aI .i64 x.Count), (aI .i64 x.Sum), (aI .i64 x.Min), (aI .i64 x.Max)]
theorem Xe3 (x : X1f) : X8j (X0g x) := (X1x (X1x (X1x (X1x Xd3))))
theorem X40 (x : X1f) : X94 (X0g x) := X42 (Xe3 x) rfl
theorem X0q {m : Bool} {H : X0l} {x : X1f} : Cv m H (X0g x) (X0g x) := X9u (Xe3 x)
def X2 (x : X9) : AV := .agg [(aI .i64 x.Key), (aI .i64 x.Span.Start), (aI .i64 x.Span.End), (aI .i64 x.Values.e0.Count), (aI .i64 x.Values.e0.Sum), (aI .i64 x.Values.e0.Min), (aI .i64 x.Values.e0.Max), (aI .i64 x.Values.e1.Count), (aI .i64 x.Values.e1.Sum), (aI .i64 x.Values.e1.Min), (aI .i64 x.Values.e1.Max)]
theorem Xl (x : X9) : X8j (X2 x) := (X1x (X1x (X1x (X1x (X1x (X1x (X1x (X1x (X1x (X1x (X1x Xd3)))))))))))
theorem X1y (x : X9) : Xcm (X2 x) := fun _ => rfl
theorem X3m (x : X9) : X94 (X2 x) := X42 (Xl x) rfl
theorem X28 {m : Bool} {H : X0l} {x : X9} : Cv m H (X2 x) (X2 x) := X9u (Xl x)
def Xv (x : Xq) : AV := .agg [(aB x.Mark), (aI .i64 x.Time), (aI .i64 x.Record.Key), (aI .i64 x.Record.Time), (aI .i64 x.Record.Value)]
theorem X0a (x : Xq) : X8j (Xv x) := (X1x (X1x (X1x (X1x (X1x Xd3)))))
theorem X68 (x : Xq) : X94 (Xv x) := X42 (X0a x) rfl
theorem Xff {m : Bool} {H : X0l} {x : Xq} : Cv m H (Xv x) (Xv x) := X9u (X0a x)
def Xg (o : Bool) (x : Xn) : AV := .agg [(aI .u8 x.Op.Kind), (aI .i64 x.Op.N), (aI .i64 x.Turn), (AV.list o (List.map Xp x.Pending)), (AV.list o (List.map (aI .i64) x.Marks)), (AV.list o (List.map X2 x.Store)), (AV.list o (List.map Xv x.Events)), (AV.list o (List.map Xk x.Rows)), (AV.list o (List.map Xs x.Late))]
theorem X32 (o : Bool) (x : Xn) : X94 (Xg o x) := Xiq (fun _ => (X6 .sc (X6 .sc (X6 .sc (X6 .list (X6 .list (X6 .list (X6 .list (X6 .list (X6 .list X08))))))))))
def Xf (x : X2r) : AV := .agg [(aI .u8 x.Kind), (aI .i64 x.N), (aI .i64 x.A), (aI .i64 x.B), (aI .i64 x.At)]
theorem Xh (x : X2r) : X8j (Xf x) := (X1x (X1x (X1x (X1x (X1x Xd3)))))
theorem Xa9 (x : X2r) : X94 (Xf x) := X42 (Xh x) rfl
def X0k (x : X48) : AV := .agg [(aI .u8 x.Kind), (aI .i64 x.Size), (aI .i64 x.Every)]
theorem Xci (x : X48) : X8j (X0k x) := (X1x (X1x (X1x Xd3)))
theorem X3z (x : X48) : X94 (X0k x) := X42 (Xci x) rfl
theorem X19 {m : Bool} {H : X0l} {x : X48} : Cv m H (X0k x) (X0k x) := X9u (Xci x)
def X02 (o : Bool) (x : X2n) : AV := .agg [(aI .u8 x.Agg), (AV.list o (List.map Xf x.Arg)), (AV.list o (List.map (aI .i64) x.Sources)), (aB x.Join), (AV.list o (List.map Xf x.Where)), (aI .u8 x.Window.Kind), (aI .i64 x.Window.Size), (aI .i64 x.Window.Every), (aB x.ByKey), (aI .u8 x.Late)]
theorem X23 (o : Bool) (x : X2n) : X94 (X02 o x) := Xiq (fun _ => (X6 .sc (X6 .list (X6 .list (X6 .sc (X6 .list (X6 .sc (X6 .sc (X6 .sc (X6 .sc (X6 .sc X08)))))))))))
theorem Xc4 {H : X0l} {o : Bool} {x : X2n} : Cv false H (X02 o x) (X02 false x) := X0i (Cvs.cons .sc (Cvs.cons (X4 (X0 Xh _)) (Cvs.cons (X4 (X0 (fun _ => X06) _)) (Cvs.cons .sc (Cvs.cons (X4 (X0 Xh _)) (Cvs.cons .sc (Cvs.cons .sc (Cvs.cons .sc (Cvs.cons .sc (Cvs.cons .sc Cvs.nil))))))))))
def X7 (x : Xw) : AV := .agg [(aI .i64 x.at_), (aI .i64 x.size), (aI .i64 x.depth)]
theorem X5q (x : Xw) : X8j (X7 x) := (X1x (X1x (X1x Xd3)))
theorem X0t (x : Xw) : Xcm (X7 x) := fun _ => rfl
theorem X5o (x : Xw) : X94 (X7 x) := X42 (X5q x) rfl
def X70 (x : (V2 Bool)) : AV := .agg [(aB x.e0), (aB x.e1)]
theorem Xmi (x : (V2 Bool)) : X8j (X70 x) := (X1x (X1x Xd3))
theorem Xdb (x : (V2 Bool)) : X94 (X70 x) := X42 (Xmi x) rfl
theorem wkA {P : Prop} (h : P := by
  first
    | exact trivial
    | rfl
    | exact .sc
    | exact .list
    | exact .nils
    | exact .ref (by decide)
    | exact .ptr (by decide)
    | exact Xkp
    | (refine AV.Ok.tup ?_; repeat' first | exact X08 | refine X6 ?_ ?_ | exact .sc | exact .nils | exact .list | exact .ref (by decide) | exact .ptr (by decide))
    | (refine congrArg AV.tup ?_; repeat' first | rfl | (refine congrArg (fun z => AV.ref _ 0 z) ?_; first | rfl | omega | (simp; done) | (simp; omega)) | (show AV.ref _ 0 _ = AV.ref _ 0 _; congr 1; first | omega | (simp; done)) | (refine congrArg (fun z => AV.sc (Value.int IntKind.i64 z)) ?_; first | rfl | omega | assumption | (simp; done)) | refine congr (congrArg List.cons ?_) ?_ | (show (_ :: _ : List AV) = _ :: _; refine congr (congrArg List.cons ?_) ?_))
    | exact .fn (X6 (.ptr (by decide)) X08)
    | exact .fn (X6 (.ptr (by decide)) (X6 (.ptr (by decide)) X08))
    | exact .fn (X6 (.ptr (by decide)) (X6 (.ptr (by decide)) (X6 (.ptr (by decide)) X08)))
    | assumption
    | exact (free_GOp _ _).1
    | exact (X6m _ _).1
    | exact (free_GSpan _ _).1
    | exact (free_V2i64 _ _).1
    | exact (Xb7 _ _).1
    | exact (X4b _ _).1
    | exact (Xa8 _ _).1
    | exact (X40 _ _).1
    | exact (free_V2GAccum _ _).1
    | exact (X3m _ _).1
    | exact (X68 _ _).1
    | exact (X32 true _ _).1
    | exact (X32 false _ _).1
    | exact (Xa9 _ _).1
    | exact (X3z _ _).1
    | exact (X23 true _ _).1
    | exact (X23 false _ _).1
    | exact (X5o _ _).1
    | exact (Xdb _ _).1
    | (refine congrArg (fun z => AV.sc (Value.int IntKind.i64 z)) ?_; first | rfl | omega | assumption | (simp; done) | (simp; omega))
    | (refine congrArg (fun z => AV.sc (Value.bool z)) ?_; first | rfl | assumption | (simp; done))
    | (refine congrArg (fun z => AV.ref _ 0 z) ?_; first | rfl | omega | (simp; done) | (simp; omega))
    | (show AV.ref _ 0 _ = AV.ref _ 0 _; congr 1; (simp; done))
    | (simp [slE, opE, nbF, nbT, AV.ren, List.map_take, List.map_drop]; done)
    | (simp [slE, opE, nbF, nbT, AV.ren, List.map_take, List.map_drop, *]; done)
    | (simp [AV.ren, *]; done)) : P := h
theorem Xr9 {P : Prop} (h : P := by
  first
    | exact X2f free_GOp _ _
    | exact X2e (free_GOp _) _
    | exact free_cons free_GOp _ _ _
    | exact X2f X6m _ _
    | exact X2e (X6m _) _
    | exact free_cons X6m _ _ _
    | exact X2f free_GSpan _ _
    | exact X2e (free_GSpan _) _
    | exact free_cons free_GSpan _ _ _
    | exact X2f free_V2i64 _ _
    | exact X2e (free_V2i64 _) _
    | exact free_cons free_V2i64 _ _ _
    | exact X2f Xb7 _ _
    | exact X2e (Xb7 _) _
    | exact free_cons Xb7 _ _ _
    | exact X2f X4b _ _
    | exact X2e (X4b _) _
    | exact free_cons X4b _ _ _
    | exact X2f Xa8 _ _
    | exact X2e (Xa8 _) _
    | exact free_cons Xa8 _ _ _
    | exact X2f X40 _ _
    | exact X2e (X40 _) _
    | exact free_cons X40 _ _ _
    | exact X2f free_V2GAccum _ _
    | exact X2e (free_V2GAccum _) _
    | exact free_cons free_V2GAccum _ _ _
    | exact X2f X3m _ _
    | exact X2e (X3m _) _
    | exact free_cons X3m _ _ _
    | exact X2f X68 _ _
    | exact X2e (X68 _) _
    | exact free_cons X68 _ _ _
    | exact X2f (X32 true) _ _
    | exact X2e ((X32 true) _) _
    | exact free_cons (X32 true) _ _ _
    | exact X2f (X32 false) _ _
    | exact X2e ((X32 false) _) _
    | exact free_cons (X32 false) _ _ _
    | exact X2f Xa9 _ _
    | exact X2e (Xa9 _) _
    | exact free_cons Xa9 _ _ _
    | exact X2f X3z _ _
    | exact X2e (X3z _) _
    | exact free_cons X3z _ _ _
    | exact X2f (X23 true) _ _
    | exact X2e ((X23 true) _) _
    | exact free_cons (X23 true) _ _ _
    | exact X2f (X23 false) _ _
    | exact X2e ((X23 false) _) _
    | exact free_cons (X23 false) _ _ _
    | exact X2f X5o _ _
    | exact X2e (X5o _) _
    | exact free_cons X5o _ _ _
    | exact X2f Xdb _ _
    | exact X2e (Xdb _) _
    | exact free_cons Xdb _ _ _
    | exact X2f (fun _ => Xl7) _ _
    | exact X2e ((fun _ => Xl7) _) _
    | exact free_cons (fun _ => Xl7) _ _ _
    | exact X2f (fun _ => Xe0) _ _
    | exact X2e ((fun _ => Xe0) _) _
    | exact free_cons (fun _ => Xe0) _ _ _
    | (refine ⟨_, rfl, rfl, Eq.trans ?_ (X1 (X5 still_GOp _) _)⟩; rfl)
    | (refine ⟨_, rfl, rfl, Eq.trans ?_ (X1 (still_cons still_GOp _ _) _)⟩; rfl)
    | (refine ⟨_, rfl, rfl, Eq.trans ?_ (X1 (X5 still_GOp _) _)⟩; (simp; done))
    | (refine ⟨_, rfl, rfl, Eq.trans ?_ (X1 (still_cons still_GOp _ _) _)⟩; (simp; done))
    | (refine ⟨_, rfl, rfl, Eq.trans ?_ (X1 (X5 still_GOp _) _)⟩; (simp; rfl))
    | (refine ⟨_, rfl, rfl, Eq.trans ?_ (X1 (still_cons still_GOp _ _) _)⟩; (simp; rfl))
    | (refine ⟨_, rfl, rfl, Eq.trans ?_ (X1 (X5 still_GOp _) _)⟩; (exact Eq.symm (Eq.trans List.map_append rfl)))
    | (refine ⟨_, rfl, rfl, Eq.trans ?_ (X1 (X5 still_GOp _) _)⟩; (rw [List.map_append]; rfl))
    | (refine ⟨_, rfl, rfl, Eq.trans ?_ (X1 (X5 still_GOp _) _)⟩; (rw [List.map_set]; rfl))
    | (refine ⟨_, rfl, rfl, Eq.trans ?_ (X1 (X5 still_GOp _) _)⟩; (simp [*]; done))
    | (refine ⟨_, rfl, rfl, Eq.trans ?_ (X1 (still_cons still_GOp _ _) _)⟩; (simp [*]; done))
    | (refine ⟨_, rfl, rfl, Eq.trans ?_ (X1 (X5 still_GOp _) _)⟩; (rw [List.map_replicate]; rfl))
    | (refine ⟨_, rfl, rfl, Eq.trans ?_ (X1 (X5 still_GRecord _) _)⟩; rfl)
    | (refine ⟨_, rfl, rfl, Eq.trans ?_ (X1 (still_cons still_GRecord _ _) _)⟩; rfl)
    | (refine ⟨_, rfl, rfl, Eq.trans ?_ (X1 (X5 still_GRecord _) _)⟩; (simp; done))
    | (refine ⟨_, rfl, rfl, Eq.trans ?_ (X1 (still_cons still_GRecord _ _) _)⟩; (simp; done))
    | (refine ⟨_, rfl, rfl, Eq.trans ?_ (X1 (X5 still_GRecord _) _)⟩; (simp; rfl))
    | (refine ⟨_, rfl, rfl, Eq.trans ?_ (X1 (still_cons still_GRecord _ _) _)⟩; (simp; rfl))
    | (refine ⟨_, rfl, rfl, Eq.trans ?_ (X1 (X5 still_GRecord _) _)⟩; (exact Eq.symm (Eq.trans List.map_append rfl)))
    | (refine ⟨_, rfl, rfl, Eq.trans ?_ (X1 (X5 still_GRecord _) _)⟩; (rw [List.map_append]; rfl))
    | (refine ⟨_, rfl, rfl, Eq.trans ?_ (X1 (X5 still_GRecord _) _)⟩; (rw [List.map_set]; rfl))
    | (refine ⟨_, rfl, rfl, Eq.trans ?_ (X1 (X5 still_GRecord _) _)⟩; (simp [*]; done))
    | (refine ⟨_, rfl, rfl, Eq.trans ?_ (X1 (still_cons still_GRecord _ _) _)⟩; (simp [*]; done))
    | (refine ⟨_, rfl, rfl, Eq.trans ?_ (X1 (X5 still_GRecord _) _)⟩; (rw [List.map_replicate]; rfl))
    | (refine ⟨_, rfl, rfl, Eq.trans ?_ (X1 (X5 still_GSpan _) _)⟩; rfl)
    | (refine ⟨_, rfl, rfl, Eq.trans ?_ (X1 (still_cons still_GSpan _ _) _)⟩; rfl)
    | (refine ⟨_, rfl, rfl, Eq.trans ?_ (X1 (X5 still_GSpan _) _)⟩; (simp; done))
    | (refine ⟨_, rfl, rfl, Eq.trans ?_ (X1 (still_cons still_GSpan _ _) _)⟩; (simp; done))
    | (refine ⟨_, rfl, rfl, Eq.trans ?_ (X1 (X5 still_GSpan _) _)⟩; (simp; rfl))
    | (refine ⟨_, rfl, rfl, Eq.trans ?_ (X1 (still_cons still_GSpan _ _) _)⟩; (simp; rfl))
    | (refine ⟨_, rfl, rfl, Eq.trans ?_ (X1 (X5 still_GSpan _) _)⟩; (exact Eq.symm (Eq.trans List.map_append rfl)))
    | (refine ⟨_, rfl, rfl, Eq.trans ?_ (X1 (X5 still_GSpan _) _)⟩; (rw [List.map_append]; rfl))
    | (refine ⟨_, rfl, rfl, Eq.trans ?_ (X1 (X5 still_GSpan _) _)⟩; (rw [List.map_set]; rfl))
    | (refine ⟨_, rfl, rfl, Eq.trans ?_ (X1 (X5 still_GSpan _) _)⟩; (simp [*]; done))
    | (refine ⟨_, rfl, rfl, Eq.trans ?_ (X1 (still_cons still_GSpan _ _) _)⟩; (simp [*]; done))
    | (refine ⟨_, rfl, rfl, Eq.trans ?_ (X1 (X5 still_GSpan _) _)⟩; (rw [List.map_replicate]; rfl))
    | (refine ⟨_, rfl, rfl, Eq.trans ?_ (X1 (X5 still_V2i64 _) _)⟩; rfl)
    | (refine ⟨_, rfl, rfl, Eq.trans ?_ (X1 (still_cons still_V2i64 _ _) _)⟩; rfl)
    | (refine ⟨_, rfl, rfl, Eq.trans ?_ (X1 (X5 still_V2i64 _) _)⟩; (simp; done))
    | (refine ⟨_, rfl, rfl, Eq.trans ?_ (X1 (still_cons still_V2i64 _ _) _)⟩; (simp; done))
    | (refine ⟨_, rfl, rfl, Eq.trans ?_ (X1 (X5 still_V2i64 _) _)⟩; (simp; rfl))
    | (refine ⟨_, rfl, rfl, Eq.trans ?_ (X1 (still_cons still_V2i64 _ _) _)⟩; (simp; rfl))
    | (refine ⟨_, rfl, rfl, Eq.trans ?_ (X1 (X5 still_V2i64 _) _)⟩; (exact Eq.symm (Eq.trans List.map_append rfl)))
    | (refine ⟨_, rfl, rfl, Eq.trans ?_ (X1 (X5 still_V2i64 _) _)⟩; (rw [List.map_append]; rfl))
    | (refine ⟨_, rfl, rfl, Eq.trans ?_ (X1 (X5 still_V2i64 _) _)⟩; (rw [List.map_set]; rfl))
    | (refine ⟨_, rfl, rfl, Eq.trans ?_ (X1 (X5 still_V2i64 _) _)⟩; (simp [*]; done))
    | (refine ⟨_, rfl, rfl, Eq.trans ?_ (X1 (still_cons still_V2i64 _ _) _)⟩; (simp [*]; done))
    | (refine ⟨_, rfl, rfl, Eq.trans ?_ (X1 (X5 still_V2i64 _) _)⟩; (rw [List.map_replicate]; rfl))
    | (refine ⟨_, rfl, rfl, Eq.trans ?_ (X1 (X5 X2x _) _)⟩; rfl)
    | (refine ⟨_, rfl, rfl, Eq.trans ?_ (X1 (still_cons X2x _ _) _)⟩; rfl)
    | (refine ⟨_, rfl, rfl, Eq.trans ?_ (X1 (X5 X2x _) _)⟩; (simp; done))
    | (refine ⟨_, rfl, rfl, Eq.trans ?_ (X1 (still_cons X2x _ _) _)⟩; (simp; done))
    | (refine ⟨_, rfl, rfl, Eq.trans ?_ (X1 (X5 X2x _) _)⟩; (simp; rfl))
    | (refine ⟨_, rfl, rfl, Eq.trans ?_ (X1 (still_cons X2x _ _) _)⟩; (simp; rfl))
    | (refine ⟨_, rfl, rfl, Eq.trans ?_ (X1 (X5 X2x _) _)⟩; (exact Eq.symm (Eq.trans List.map_append rfl)))
    | (refine ⟨_, rfl, rfl, Eq.trans ?_ (X1 (X5 X2x _) _)⟩; (rw [List.map_append]; rfl))
    | (refine ⟨_, rfl, rfl, Eq.trans ?_ (X1 (X5 X2x _) _)⟩; (rw [List.map_set]; rfl))) : P := h
theorem Xr8 {P : Prop} (h : P := by
  first
    | (refine ⟨_, rfl, rfl, Eq.trans ?_ (X1 (X5 X2x _) _)⟩; (simp [*]; done))
    | (refine ⟨_, rfl, rfl, Eq.trans ?_ (X1 (still_cons X2x _ _) _)⟩; (simp [*]; done))
    | (refine ⟨_, rfl, rfl, Eq.trans ?_ (X1 (X5 X2x _) _)⟩; (rw [List.map_replicate]; rfl))
    | (refine ⟨_, rfl, rfl, Eq.trans ?_ (X1 (X5 still_GMessage _) _)⟩; rfl)
    | (refine ⟨_, rfl, rfl, Eq.trans ?_ (X1 (still_cons still_GMessage _ _) _)⟩; rfl)
    | (refine ⟨_, rfl, rfl, Eq.trans ?_ (X1 (X5 still_GMessage _) _)⟩; (simp; done))
    | (refine ⟨_, rfl, rfl, Eq.trans ?_ (X1 (still_cons still_GMessage _ _) _)⟩; (simp; done))
    | (refine ⟨_, rfl, rfl, Eq.trans ?_ (X1 (X5 still_GMessage _) _)⟩; (simp; rfl))
    | (refine ⟨_, rfl, rfl, Eq.trans ?_ (X1 (still_cons still_GMessage _ _) _)⟩; (simp; rfl))
    | (refine ⟨_, rfl, rfl, Eq.trans ?_ (X1 (X5 still_GMessage _) _)⟩; (exact Eq.symm (Eq.trans List.map_append rfl)))
    | (refine ⟨_, rfl, rfl, Eq.trans ?_ (X1 (X5 still_GMessage _) _)⟩; (rw [List.map_append]; rfl))
    | (refine ⟨_, rfl, rfl, Eq.trans ?_ (X1 (X5 still_GMessage _) _)⟩; (rw [List.map_set]; rfl))
    | (refine ⟨_, rfl, rfl, Eq.trans ?_ (X1 (X5 still_GMessage _) _)⟩; (simp [*]; done))
    | (refine ⟨_, rfl, rfl, Eq.trans ?_ (X1 (still_cons still_GMessage _ _) _)⟩; (simp [*]; done))
    | (refine ⟨_, rfl, rfl, Eq.trans ?_ (X1 (X5 still_GMessage _) _)⟩; (rw [List.map_replicate]; rfl))
    | (refine ⟨_, rfl, rfl, Eq.trans ?_ (X1 (X5 X2b _) _)⟩; rfl)
    | (refine ⟨_, rfl, rfl, Eq.trans ?_ (X1 (still_cons X2b _ _) _)⟩; rfl)
    | (refine ⟨_, rfl, rfl, Eq.trans ?_ (X1 (X5 X2b _) _)⟩; (simp; done))
    | (refine ⟨_, rfl, rfl, Eq.trans ?_ (X1 (still_cons X2b _ _) _)⟩; (simp; done))
    | (refine ⟨_, rfl, rfl, Eq.trans ?_ (X1 (X5 X2b _) _)⟩; (simp; rfl))
    | (refine ⟨_, rfl, rfl, Eq.trans ?_ (X1 (still_cons X2b _ _) _)⟩; (simp; rfl))
    | (refine ⟨_, rfl, rfl, Eq.trans ?_ (X1 (X5 X2b _) _)⟩; (exact Eq.symm (Eq.trans List.map_append rfl)))
    | (refine ⟨_, rfl, rfl, Eq.trans ?_ (X1 (X5 X2b _) _)⟩; (rw [List.map_append]; rfl))
    | (refine ⟨_, rfl, rfl, Eq.trans ?_ (X1 (X5 X2b _) _)⟩; (rw [List.map_set]; rfl))
    | (refine ⟨_, rfl, rfl, Eq.trans ?_ (X1 (X5 X2b _) _)⟩; (simp [*]; done))
    | (refine ⟨_, rfl, rfl, Eq.trans ?_ (X1 (still_cons X2b _ _) _)⟩; (simp [*]; done))
    | (refine ⟨_, rfl, rfl, Eq.trans ?_ (X1 (X5 X2b _) _)⟩; (rw [List.map_replicate]; rfl))
    | (refine ⟨_, rfl, rfl, Eq.trans ?_ (X1 (X5 still_GAccum _) _)⟩; rfl)
    | (refine ⟨_, rfl, rfl, Eq.trans ?_ (X1 (still_cons still_GAccum _ _) _)⟩; rfl)
    | (refine ⟨_, rfl, rfl, Eq.trans ?_ (X1 (X5 still_GAccum _) _)⟩; (simp; done))
    | (refine ⟨_, rfl, rfl, Eq.trans ?_ (X1 (still_cons still_GAccum _ _) _)⟩; (simp; done))
    | (refine ⟨_, rfl, rfl, Eq.trans ?_ (X1 (X5 still_GAccum _) _)⟩; (simp; rfl))
    | (refine ⟨_, rfl, rfl, Eq.trans ?_ (X1 (still_cons still_GAccum _ _) _)⟩; (simp; rfl))
    | (refine ⟨_, rfl, rfl, Eq.trans ?_ (X1 (X5 still_GAccum _) _)⟩; (exact Eq.symm (Eq.trans List.map_append rfl)))
    | (refine ⟨_, rfl, rfl, Eq.trans ?_ (X1 (X5 still_GAccum _) _)⟩; (rw [List.map_append]; rfl))
    | (refine ⟨_, rfl, rfl, Eq.trans ?_ (X1 (X5 still_GAccum _) _)⟩; (rw [List.map_set]; rfl))
    | (refine ⟨_, rfl, rfl, Eq.trans ?_ (X1 (X5 still_GAccum _) _)⟩; (simp [*]; done))
    | (refine ⟨_, rfl, rfl, Eq.trans ?_ (X1 (still_cons still_GAccum _ _) _)⟩; (simp [*]; done))
    | (refine ⟨_, rfl, rfl, Eq.trans ?_ (X1 (X5 still_GAccum _) _)⟩; (rw [List.map_replicate]; rfl))
    | (refine ⟨_, rfl, rfl, Eq.trans ?_ (X1 (X5 still_V2GAccum _) _)⟩; rfl)
    | (refine ⟨_, rfl, rfl, Eq.trans ?_ (X1 (still_cons still_V2GAccum _ _) _)⟩; rfl)
    | (refine ⟨_, rfl, rfl, Eq.trans ?_ (X1 (X5 still_V2GAccum _) _)⟩; (simp; done))
    | (refine ⟨_, rfl, rfl, Eq.trans ?_ (X1 (still_cons still_V2GAccum _ _) _)⟩; (simp; done))
    | (refine ⟨_, rfl, rfl, Eq.trans ?_ (X1 (X5 still_V2GAccum _) _)⟩; (simp; rfl))
    | (refine ⟨_, rfl, rfl, Eq.trans ?_ (X1 (still_cons still_V2GAccum _ _) _)⟩; (simp; rfl))
    | (refine ⟨_, rfl, rfl, Eq.trans ?_ (X1 (X5 still_V2GAccum _) _)⟩; (exact Eq.symm (Eq.trans List.map_append rfl)))
    | (refine ⟨_, rfl, rfl, Eq.trans ?_ (X1 (X5 still_V2GAccum _) _)⟩; (rw [List.map_append]; rfl))
    | (refine ⟨_, rfl, rfl, Eq.trans ?_ (X1 (X5 still_V2GAccum _) _)⟩; (rw [List.map_set]; rfl))
    | (refine ⟨_, rfl, rfl, Eq.trans ?_ (X1 (X5 still_V2GAccum _) _)⟩; (simp [*]; done))
    | (refine ⟨_, rfl, rfl, Eq.trans ?_ (X1 (still_cons still_V2GAccum _ _) _)⟩; (simp [*]; done))
    | (refine ⟨_, rfl, rfl, Eq.trans ?_ (X1 (X5 still_V2GAccum _) _)⟩; (rw [List.map_replicate]; rfl))
    | (refine ⟨_, rfl, rfl, Eq.trans ?_ (X1 (X5 X1y _) _)⟩; rfl)
    | (refine ⟨_, rfl, rfl, Eq.trans ?_ (X1 (still_cons X1y _ _) _)⟩; rfl)
    | (refine ⟨_, rfl, rfl, Eq.trans ?_ (X1 (X5 X1y _) _)⟩; (simp; done))
    | (refine ⟨_, rfl, rfl, Eq.trans ?_ (X1 (still_cons X1y _ _) _)⟩; (simp; done))
    | (refine ⟨_, rfl, rfl, Eq.trans ?_ (X1 (X5 X1y _) _)⟩; (simp; rfl))
    | (refine ⟨_, rfl, rfl, Eq.trans ?_ (X1 (still_cons X1y _ _) _)⟩; (simp; rfl))
    | (refine ⟨_, rfl, rfl, Eq.trans ?_ (X1 (X5 X1y _) _)⟩; (exact Eq.symm (Eq.trans List.map_append rfl)))
    | (refine ⟨_, rfl, rfl, Eq.trans ?_ (X1 (X5 X1y _) _)⟩; (rw [List.map_append]; rfl))
    | (refine ⟨_, rfl, rfl, Eq.trans ?_ (X1 (X5 X1y _) _)⟩; (rw [List.map_set]; rfl))
    | (refine ⟨_, rfl, rfl, Eq.trans ?_ (X1 (X5 X1y _) _)⟩; (simp [*]; done))
    | (refine ⟨_, rfl, rfl, Eq.trans ?_ (X1 (still_cons X1y _ _) _)⟩; (simp [*]; done))
    | (refine ⟨_, rfl, rfl, Eq.trans ?_ (X1 (X5 X1y _) _)⟩; (rw [List.map_replicate]; rfl))
    | (refine ⟨_, rfl, rfl, Eq.trans ?_ (X1 (X5 still_GEvent _) _)⟩; rfl)
    | (refine ⟨_, rfl, rfl, Eq.trans ?_ (X1 (still_cons still_GEvent _ _) _)⟩; rfl)
    | (refine ⟨_, rfl, rfl, Eq.trans ?_ (X1 (X5 still_GEvent _) _)⟩; (simp; done))
    | (refine ⟨_, rfl, rfl, Eq.trans ?_ (X1 (still_cons still_GEvent _ _) _)⟩; (simp; done))
    | (refine ⟨_, rfl, rfl, Eq.trans ?_ (X1 (X5 still_GEvent _) _)⟩; (simp; rfl))
    | (refine ⟨_, rfl, rfl, Eq.trans ?_ (X1 (still_cons still_GEvent _ _) _)⟩; (simp; rfl))
    | (refine ⟨_, rfl, rfl, Eq.trans ?_ (X1 (X5 still_GEvent _) _)⟩; (exact Eq.symm (Eq.trans List.map_append rfl)))
    | (refine ⟨_, rfl, rfl, Eq.trans ?_ (X1 (X5 still_GEvent _) _)⟩; (rw [List.map_append]; rfl))
    | (refine ⟨_, rfl, rfl, Eq.trans ?_ (X1 (X5 still_GEvent _) _)⟩; (rw [List.map_set]; rfl))
    | (refine ⟨_, rfl, rfl, Eq.trans ?_ (X1 (X5 still_GEvent _) _)⟩; (simp [*]; done))
    | (refine ⟨_, rfl, rfl, Eq.trans ?_ (X1 (still_cons still_GEvent _ _) _)⟩; (simp [*]; done))
    | (refine ⟨_, rfl, rfl, Eq.trans ?_ (X1 (X5 still_GEvent _) _)⟩; (rw [List.map_replicate]; rfl))
    | (refine ⟨_, rfl, rfl, Eq.trans ?_ (X1 (X5 (still_GTask true) _) _)⟩; rfl)
    | (refine ⟨_, rfl, rfl, Eq.trans ?_ (X1 (still_cons (still_GTask true) _ _) _)⟩; rfl)
    | (refine ⟨_, rfl, rfl, Eq.trans ?_ (X1 (X5 (still_GTask true) _) _)⟩; (simp; done))
    | (refine ⟨_, rfl, rfl, Eq.trans ?_ (X1 (still_cons (still_GTask true) _ _) _)⟩; (simp; done))
    | (refine ⟨_, rfl, rfl, Eq.trans ?_ (X1 (X5 (still_GTask true) _) _)⟩; (simp; rfl))
    | (refine ⟨_, rfl, rfl, Eq.trans ?_ (X1 (still_cons (still_GTask true) _ _) _)⟩; (simp; rfl))
    | (refine ⟨_, rfl, rfl, Eq.trans ?_ (X1 (X5 (still_GTask true) _) _)⟩; (exact Eq.symm (Eq.trans List.map_append rfl)))
    | (refine ⟨_, rfl, rfl, Eq.trans ?_ (X1 (X5 (still_GTask true) _) _)⟩; (rw [List.map_append]; rfl))
    | (refine ⟨_, rfl, rfl, Eq.trans ?_ (X1 (X5 (still_GTask true) _) _)⟩; (rw [List.map_set]; rfl))
    | (refine ⟨_, rfl, rfl, Eq.trans ?_ (X1 (X5 (still_GTask true) _) _)⟩; (simp [*]; done))
    | (refine ⟨_, rfl, rfl, Eq.trans ?_ (X1 (still_cons (still_GTask true) _ _) _)⟩; (simp [*]; done))
    | (refine ⟨_, rfl, rfl, Eq.trans ?_ (X1 (X5 (still_GTask true) _) _)⟩; (rw [List.map_replicate]; rfl))
    | (refine ⟨_, rfl, rfl, Eq.trans ?_ (X1 (X5 (still_GTask false) _) _)⟩; rfl)
    | (refine ⟨_, rfl, rfl, Eq.trans ?_ (X1 (still_cons (still_GTask false) _ _) _)⟩; rfl)
    | (refine ⟨_, rfl, rfl, Eq.trans ?_ (X1 (X5 (still_GTask false) _) _)⟩; (simp; done))
    | (refine ⟨_, rfl, rfl, Eq.trans ?_ (X1 (still_cons (still_GTask false) _ _) _)⟩; (simp; done))
    | (refine ⟨_, rfl, rfl, Eq.trans ?_ (X1 (X5 (still_GTask false) _) _)⟩; (simp; rfl))
    | (refine ⟨_, rfl, rfl, Eq.trans ?_ (X1 (still_cons (still_GTask false) _ _) _)⟩; (simp; rfl))
    | (refine ⟨_, rfl, rfl, Eq.trans ?_ (X1 (X5 (still_GTask false) _) _)⟩; (exact Eq.symm (Eq.trans List.map_append rfl)))
    | (refine ⟨_, rfl, rfl, Eq.trans ?_ (X1 (X5 (still_GTask false) _) _)⟩; (rw [List.map_append]; rfl))
    | (refine ⟨_, rfl, rfl, Eq.trans ?_ (X1 (X5 (still_GTask false) _) _)⟩; (rw [List.map_set]; rfl))
    | (refine ⟨_, rfl, rfl, Eq.trans ?_ (X1 (X5 (still_GTask false) _) _)⟩; (simp [*]; done))
    | (refine ⟨_, rfl, rfl, Eq.trans ?_ (X1 (still_cons (still_GTask false) _ _) _)⟩; (simp [*]; done))
    | (refine ⟨_, rfl, rfl, Eq.trans ?_ (X1 (X5 (still_GTask false) _) _)⟩; (rw [List.map_replicate]; rfl))
    | (refine ⟨_, rfl, rfl, Eq.trans ?_ (X1 (X5 still_GNode _) _)⟩; rfl)
    | (refine ⟨_, rfl, rfl, Eq.trans ?_ (X1 (still_cons still_GNode _ _) _)⟩; rfl)
    | (refine ⟨_, rfl, rfl, Eq.trans ?_ (X1 (X5 still_GNode _) _)⟩; (simp; done))
    | (refine ⟨_, rfl, rfl, Eq.trans ?_ (X1 (still_cons still_GNode _ _) _)⟩; (simp; done))
    | (refine ⟨_, rfl, rfl, Eq.trans ?_ (X1 (X5 still_GNode _) _)⟩; (simp; rfl))
    | (refine ⟨_, rfl, rfl, Eq.trans ?_ (X1 (still_cons still_GNode _ _) _)⟩; (simp; rfl))
    | (refine ⟨_, rfl, rfl, Eq.trans ?_ (X1 (X5 still_GNode _) _)⟩; (exact Eq.symm (Eq.trans List.map_append rfl)))
    | (refine ⟨_, rfl, rfl, Eq.trans ?_ (X1 (X5 still_GNode _) _)⟩; (rw [List.map_append]; rfl))
    | (refine ⟨_, rfl, rfl, Eq.trans ?_ (X1 (X5 still_GNode _) _)⟩; (rw [List.map_set]; rfl))
    | (refine ⟨_, rfl, rfl, Eq.trans ?_ (X1 (X5 still_GNode _) _)⟩; (simp [*]; done))
    | (refine ⟨_, rfl, rfl, Eq.trans ?_ (X1 (still_cons still_GNode _ _) _)⟩; (simp [*]; done))
    | (refine ⟨_, rfl, rfl, Eq.trans ?_ (X1 (X5 still_GNode _) _)⟩; (rw [List.map_replicate]; rfl))
    | (refine ⟨_, rfl, rfl, Eq.trans ?_ (X1 (X5 still_GWindow _) _)⟩; rfl)
    | (refine ⟨_, rfl, rfl, Eq.trans ?_ (X1 (still_cons still_GWindow _ _) _)⟩; rfl)
    | (refine ⟨_, rfl, rfl, Eq.trans ?_ (X1 (X5 still_GWindow _) _)⟩; (simp; done))
    | (refine ⟨_, rfl, rfl, Eq.trans ?_ (X1 (still_cons still_GWindow _ _) _)⟩; (simp; done))
    | (refine ⟨_, rfl, rfl, Eq.trans ?_ (X1 (X5 still_GWindow _) _)⟩; (simp; rfl))
    | (refine ⟨_, rfl, rfl, Eq.trans ?_ (X1 (still_cons still_GWindow _ _) _)⟩; (simp; rfl))
    | (refine ⟨_, rfl, rfl, Eq.trans ?_ (X1 (X5 still_GWindow _) _)⟩; (exact Eq.symm (Eq.trans List.map_append rfl)))
    | (refine ⟨_, rfl, rfl, Eq.trans ?_ (X1 (X5 still_GWindow _) _)⟩; (rw [List.map_append]; rfl))
    | (refine ⟨_, rfl, rfl, Eq.trans ?_ (X1 (X5 still_GWindow _) _)⟩; (rw [List.map_set]; rfl))) : P := h
theorem Xr7 {P : Prop} (h : P := by
  first
    | (refine ⟨_, rfl, rfl, Eq.trans ?_ (X1 (X5 still_GWindow _) _)⟩; (simp [*]; done))
    | (refine ⟨_, rfl, rfl, Eq.trans ?_ (X1 (still_cons still_GWindow _ _) _)⟩; (simp [*]; done))
    | (refine ⟨_, rfl, rfl, Eq.trans ?_ (X1 (X5 still_GWindow _) _)⟩; (rw [List.map_replicate]; rfl))
    | (refine ⟨_, rfl, rfl, Eq.trans ?_ (X1 (X5 (still_GQuery true) _) _)⟩; rfl)
    | (refine ⟨_, rfl, rfl, Eq.trans ?_ (X1 (still_cons (still_GQuery true) _ _) _)⟩; rfl)
    | (refine ⟨_, rfl, rfl, Eq.trans ?_ (X1 (X5 (still_GQuery true) _) _)⟩; (simp; done))
    | (refine ⟨_, rfl, rfl, Eq.trans ?_ (X1 (still_cons (still_GQuery true) _ _) _)⟩; (simp; done))
    | (refine ⟨_, rfl, rfl, Eq.trans ?_ (X1 (X5 (still_GQuery true) _) _)⟩; (simp; rfl))
    | (refine ⟨_, rfl, rfl, Eq.trans ?_ (X1 (still_cons (still_GQuery true) _ _) _)⟩; (simp; rfl))
    | (refine ⟨_, rfl, rfl, Eq.trans ?_ (X1 (X5 (still_GQuery true) _) _)⟩; (exact Eq.symm (Eq.trans List.map_append rfl)))
    | (refine ⟨_, rfl, rfl, Eq.trans ?_ (X1 (X5 (still_GQuery true) _) _)⟩; (rw [List.map_append]; rfl))
    | (refine ⟨_, rfl, rfl, Eq.trans ?_ (X1 (X5 (still_GQuery true) _) _)⟩; (rw [List.map_set]; rfl))
    | (refine ⟨_, rfl, rfl, Eq.trans ?_ (X1 (X5 (still_GQuery true) _) _)⟩; (simp [*]; done))
    | (refine ⟨_, rfl, rfl, Eq.trans ?_ (X1 (still_cons (still_GQuery true) _ _) _)⟩; (simp [*]; done))
    | (refine ⟨_, rfl, rfl, Eq.trans ?_ (X1 (X5 (still_GQuery true) _) _)⟩; (rw [List.map_replicate]; rfl))
    | (refine ⟨_, rfl, rfl, Eq.trans ?_ (X1 (X5 (still_GQuery false) _) _)⟩; rfl)
    | (refine ⟨_, rfl, rfl, Eq.trans ?_ (X1 (still_cons (still_GQuery false) _ _) _)⟩; rfl)
    | (refine ⟨_, rfl, rfl, Eq.trans ?_ (X1 (X5 (still_GQuery false) _) _)⟩; (simp; done))
    | (refine ⟨_, rfl, rfl, Eq.trans ?_ (X1 (still_cons (still_GQuery false) _ _) _)⟩; (simp; done))
    | (refine ⟨_, rfl, rfl, Eq.trans ?_ (X1 (X5 (still_GQuery false) _) _)⟩; (simp; rfl))
    | (refine ⟨_, rfl, rfl, Eq.trans ?_ (X1 (still_cons (still_GQuery false) _ _) _)⟩; (simp; rfl))
    | (refine ⟨_, rfl, rfl, Eq.trans ?_ (X1 (X5 (still_GQuery false) _) _)⟩; (exact Eq.symm (Eq.trans List.map_append rfl)))
    | (refine ⟨_, rfl, rfl, Eq.trans ?_ (X1 (X5 (still_GQuery false) _) _)⟩; (rw [List.map_append]; rfl))
    | (refine ⟨_, rfl, rfl, Eq.trans ?_ (X1 (X5 (still_GQuery false) _) _)⟩; (rw [List.map_set]; rfl))
    | (refine ⟨_, rfl, rfl, Eq.trans ?_ (X1 (X5 (still_GQuery false) _) _)⟩; (simp [*]; done))
    | (refine ⟨_, rfl, rfl, Eq.trans ?_ (X1 (still_cons (still_GQuery false) _ _) _)⟩; (simp [*]; done))
    | (refine ⟨_, rfl, rfl, Eq.trans ?_ (X1 (X5 (still_GQuery false) _) _)⟩; (rw [List.map_replicate]; rfl))
    | (refine ⟨_, rfl, rfl, Eq.trans ?_ (X1 (X5 X0t _) _)⟩; rfl)
    | (refine ⟨_, rfl, rfl, Eq.trans ?_ (X1 (still_cons X0t _ _) _)⟩; rfl)
    | (refine ⟨_, rfl, rfl, Eq.trans ?_ (X1 (X5 X0t _) _)⟩; (simp; done))
    | (refine ⟨_, rfl, rfl, Eq.trans ?_ (X1 (still_cons X0t _ _) _)⟩; (simp; done))
    | (refine ⟨_, rfl, rfl, Eq.trans ?_ (X1 (X5 X0t _) _)⟩; (simp; rfl))
    | (refine ⟨_, rfl, rfl, Eq.trans ?_ (X1 (still_cons X0t _ _) _)⟩; (simp; rfl))
    | (refine ⟨_, rfl, rfl, Eq.trans ?_ (X1 (X5 X0t _) _)⟩; (exact Eq.symm (Eq.trans List.map_append rfl)))
    | (refine ⟨_, rfl, rfl, Eq.trans ?_ (X1 (X5 X0t _) _)⟩; (rw [List.map_append]; rfl))
    | (refine ⟨_, rfl, rfl, Eq.trans ?_ (X1 (X5 X0t _) _)⟩; (rw [List.map_set]; rfl))
    | (refine ⟨_, rfl, rfl, Eq.trans ?_ (X1 (X5 X0t _) _)⟩; (simp [*]; done))
    | (refine ⟨_, rfl, rfl, Eq.trans ?_ (X1 (still_cons X0t _ _) _)⟩; (simp [*]; done))
    | (refine ⟨_, rfl, rfl, Eq.trans ?_ (X1 (X5 X0t _) _)⟩; (rw [List.map_replicate]; rfl))
    | (refine ⟨_, rfl, rfl, Eq.trans ?_ (X1 (X5 still_V2b _) _)⟩; rfl)
    | (refine ⟨_, rfl, rfl, Eq.trans ?_ (X1 (still_cons still_V2b _ _) _)⟩; rfl)
    | (refine ⟨_, rfl, rfl, Eq.trans ?_ (X1 (X5 still_V2b _) _)⟩; (simp; done))
    | (refine ⟨_, rfl, rfl, Eq.trans ?_ (X1 (still_cons still_V2b _ _) _)⟩; (simp; done))
    | (refine ⟨_, rfl, rfl, Eq.trans ?_ (X1 (X5 still_V2b _) _)⟩; (simp; rfl))
    | (refine ⟨_, rfl, rfl, Eq.trans ?_ (X1 (still_cons still_V2b _ _) _)⟩; (simp; rfl))
    | (refine ⟨_, rfl, rfl, Eq.trans ?_ (X1 (X5 still_V2b _) _)⟩; (exact Eq.symm (Eq.trans List.map_append rfl)))
    | (refine ⟨_, rfl, rfl, Eq.trans ?_ (X1 (X5 still_V2b _) _)⟩; (rw [List.map_append]; rfl))
    | (refine ⟨_, rfl, rfl, Eq.trans ?_ (X1 (X5 still_V2b _) _)⟩; (rw [List.map_set]; rfl))
    | (refine ⟨_, rfl, rfl, Eq.trans ?_ (X1 (X5 still_V2b _) _)⟩; (simp [*]; done))
    | (refine ⟨_, rfl, rfl, Eq.trans ?_ (X1 (still_cons still_V2b _ _) _)⟩; (simp [*]; done))
    | (refine ⟨_, rfl, rfl, Eq.trans ?_ (X1 (X5 still_V2b _) _)⟩; (rw [List.map_replicate]; rfl))
    | (refine ⟨_, rfl, rfl, Eq.trans ?_ (X1 (X5 (fun _ => X61) _) _)⟩; rfl)
    | (refine ⟨_, rfl, rfl, Eq.trans ?_ (X1 (still_cons (fun _ => X61) _ _) _)⟩; rfl)
    | (refine ⟨_, rfl, rfl, Eq.trans ?_ (X1 (X5 (fun _ => X61) _) _)⟩; (simp; done))
    | (refine ⟨_, rfl, rfl, Eq.trans ?_ (X1 (still_cons (fun _ => X61) _ _) _)⟩; (simp; done))
    | (refine ⟨_, rfl, rfl, Eq.trans ?_ (X1 (X5 (fun _ => X61) _) _)⟩; (simp; rfl))
    | (refine ⟨_, rfl, rfl, Eq.trans ?_ (X1 (still_cons (fun _ => X61) _ _) _)⟩; (simp; rfl))
    | (refine ⟨_, rfl, rfl, Eq.trans ?_ (X1 (X5 (fun _ => X61) _) _)⟩; (exact Eq.symm (Eq.trans List.map_append rfl)))
    | (refine ⟨_, rfl, rfl, Eq.trans ?_ (X1 (X5 (fun _ => X61) _) _)⟩; (rw [List.map_append]; rfl))
    | (refine ⟨_, rfl, rfl, Eq.trans ?_ (X1 (X5 (fun _ => X61) _) _)⟩; (rw [List.map_set]; rfl))
    | (refine ⟨_, rfl, rfl, Eq.trans ?_ (X1 (X5 (fun _ => X61) _) _)⟩; (simp [*]; done))
    | (refine ⟨_, rfl, rfl, Eq.trans ?_ (X1 (still_cons (fun _ => X61) _ _) _)⟩; (simp [*]; done))
    | (refine ⟨_, rfl, rfl, Eq.trans ?_ (X1 (X5 (fun _ => X61) _) _)⟩; (rw [List.map_replicate]; rfl))
    | (refine ⟨_, rfl, rfl, Eq.trans ?_ (X1 (X5 (fun _ => still_encl) _) _)⟩; rfl)
    | (refine ⟨_, rfl, rfl, Eq.trans ?_ (X1 (still_cons (fun _ => still_encl) _ _) _)⟩; rfl)
    | (refine ⟨_, rfl, rfl, Eq.trans ?_ (X1 (X5 (fun _ => still_encl) _) _)⟩; (simp; done))
    | (refine ⟨_, rfl, rfl, Eq.trans ?_ (X1 (still_cons (fun _ => still_encl) _ _) _)⟩; (simp; done))
    | (refine ⟨_, rfl, rfl, Eq.trans ?_ (X1 (X5 (fun _ => still_encl) _) _)⟩; (simp; rfl))
    | (refine ⟨_, rfl, rfl, Eq.trans ?_ (X1 (still_cons (fun _ => still_encl) _ _) _)⟩; (simp; rfl))
    | (refine ⟨_, rfl, rfl, Eq.trans ?_ (X1 (X5 (fun _ => still_encl) _) _)⟩; (exact Eq.symm (Eq.trans List.map_append rfl)))
    | (refine ⟨_, rfl, rfl, Eq.trans ?_ (X1 (X5 (fun _ => still_encl) _) _)⟩; (rw [List.map_append]; rfl))
    | (refine ⟨_, rfl, rfl, Eq.trans ?_ (X1 (X5 (fun _ => still_encl) _) _)⟩; (rw [List.map_set]; rfl))
    | (refine ⟨_, rfl, rfl, Eq.trans ?_ (X1 (X5 (fun _ => still_encl) _) _)⟩; (simp [*]; done))
    | (refine ⟨_, rfl, rfl, Eq.trans ?_ (X1 (still_cons (fun _ => still_encl) _ _) _)⟩; (simp [*]; done))
    | (refine ⟨_, rfl, rfl, Eq.trans ?_ (X1 (X5 (fun _ => still_encl) _) _)⟩; (rw [List.map_replicate]; rfl))
    | (refine ⟨_, rfl, rfl, Eq.trans ?_ (X1 (still_one (still_GOp _)) _)⟩; simp only [List.length_cons, List.length_map]; rfl)
    | (refine ⟨_, rfl, rfl, Eq.trans ?_ (X1 (still_one (still_GRecord _)) _)⟩; simp only [List.length_cons, List.length_map]; rfl)
    | (refine ⟨_, rfl, rfl, Eq.trans ?_ (X1 (still_one (still_GSpan _)) _)⟩; simp only [List.length_cons, List.length_map]; rfl)
    | (refine ⟨_, rfl, rfl, Eq.trans ?_ (X1 (still_one (still_V2i64 _)) _)⟩; simp only [List.length_cons, List.length_map]; rfl)
    | (refine ⟨_, rfl, rfl, Eq.trans ?_ (X1 (still_one (X2x _)) _)⟩; simp only [List.length_cons, List.length_map]; rfl)
    | (refine ⟨_, rfl, rfl, Eq.trans ?_ (X1 (still_one (still_GMessage _)) _)⟩; simp only [List.length_cons, List.length_map]; rfl)
    | (refine ⟨_, rfl, rfl, Eq.trans ?_ (X1 (still_one (X2b _)) _)⟩; simp only [List.length_cons, List.length_map]; rfl)
    | (refine ⟨_, rfl, rfl, Eq.trans ?_ (X1 (still_one (still_GAccum _)) _)⟩; simp only [List.length_cons, List.length_map]; rfl)
    | (refine ⟨_, rfl, rfl, Eq.trans ?_ (X1 (still_one (still_V2GAccum _)) _)⟩; simp only [List.length_cons, List.length_map]; rfl)
    | (refine ⟨_, rfl, rfl, Eq.trans ?_ (X1 (still_one (X1y _)) _)⟩; simp only [List.length_cons, List.length_map]; rfl)
    | (refine ⟨_, rfl, rfl, Eq.trans ?_ (X1 (still_one (still_GEvent _)) _)⟩; simp only [List.length_cons, List.length_map]; rfl)
    | (refine ⟨_, rfl, rfl, Eq.trans ?_ (X1 (still_one ((still_GTask true) _)) _)⟩; simp only [List.length_cons, List.length_map]; rfl)
    | (refine ⟨_, rfl, rfl, Eq.trans ?_ (X1 (still_one ((still_GTask false) _)) _)⟩; simp only [List.length_cons, List.length_map]; rfl)
    | (refine ⟨_, rfl, rfl, Eq.trans ?_ (X1 (still_one (still_GNode _)) _)⟩; simp only [List.length_cons, List.length_map]; rfl)
    | (refine ⟨_, rfl, rfl, Eq.trans ?_ (X1 (still_one (still_GWindow _)) _)⟩; simp only [List.length_cons, List.length_map]; rfl)
    | (refine ⟨_, rfl, rfl, Eq.trans ?_ (X1 (still_one ((still_GQuery true) _)) _)⟩; simp only [List.length_cons, List.length_map]; rfl)
    | (refine ⟨_, rfl, rfl, Eq.trans ?_ (X1 (still_one ((still_GQuery false) _)) _)⟩; simp only [List.length_cons, List.length_map]; rfl)
    | (refine ⟨_, rfl, rfl, Eq.trans ?_ (X1 (still_one (X0t _)) _)⟩; simp only [List.length_cons, List.length_map]; rfl)
    | (refine ⟨_, rfl, rfl, Eq.trans ?_ (X1 (still_one (still_V2b _)) _)⟩; simp only [List.length_cons, List.length_map]; rfl)
    | (refine ⟨_, rfl, rfl, Eq.trans ?_ (X1 (still_one ((fun _ => X61) _)) _)⟩; simp only [List.length_cons, List.length_map]; rfl)
    | (refine ⟨_, rfl, rfl, Eq.trans ?_ (X1 (still_one ((fun _ => still_encl) _)) _)⟩; simp only [List.length_cons, List.length_map]; rfl)) : P := h
theorem wkB {P : Prop} (h : P := by
  first
    | exact trivial
    | rfl
    | decide
    | exact ⟨_, rfl, rfl, rfl⟩
    | (refine ⟨_, rfl, rfl, Xrb ?_⟩; first | rfl | omega | (simp; done) | (simp; omega))
    | exact Xr9
    | exact Xr8
    | exact Xr7
    | (intro e he a ha; rw [List.mem_singleton.1 he] at ha; rw [List.mem_singleton.1 ha]; first | exact .sc | exact .list | exact .nils | exact .ref (by decide) | exact .ptr (by decide) | exact Xkp | exact .fn (X6 (.ptr (by decide)) X08) | exact .fn (X6 (.ptr (by decide)) (X6 (.ptr (by decide)) X08)))
    | (intro e he a ha; simp at he; subst he; simp [AV.cells] at ha; first | (subst ha; exact .sc) | (rcases ha with rfl | rfl | rfl | rfl | rfl <;> exact .sc))) : P := h
theorem wkT {P : Program} {nt n0 : Nat} {Q : X0d -> St -> Mu -> Prop} {cf : Cf} {K : List Kn} {μ : Mu} {L L' : List (Nat × AV)} {G G' : List (Nat × Obj)} {n n' : Nat} (θ : List (Nat × Nat)) (h : Xa P nt n0 Q cf K ⟨fr L', hp G', n'⟩ μ)
    (hb : (Xpu θ n0 && Xp4 θ (G'.map (·.1)) && Nat.ble n0 n') = true := by rfl) (hL : wkL L θ n' L' := by repeat' first | refine And.intro ?_ ?_ | exact wkA) (hG : wkG G θ n' G' := by repeat' first | refine And.intro ?_ ?_ | exact wkB) : Xa P nt n0 Q cf K ⟨fr L, hp G, n⟩ μ := Xa.weakTo θ h hb hL hG
theorem Xm {P : Program} {T : Ty} {nt n0 : Nat} {μ : Mu} {Q : X0d -> St -> Mu -> Prop} {cf cf' : Cf} {K K' : List Kn} {L L' : List (Nat × AV)} {G G' : List (Nat × Obj)} {n n' : Nat} {hs' : List X4g} {ps' : List Prop} (hT : X7o P T /\ P.follows .mixedOrders = true) (hs : List X4g)
    (k : Xa P nt n0 Q cf' K' ⟨fr L', hp G', n'⟩ μ) (h : X8p P T nt 4000 cf K L G n hs [] = some (cf', K', L', G', n', hs', ps') := by exact rfl) (hp' : X3q ps' := by repeat' first | refine And.intro ?_ ?_ | exact X00) : Xa P nt n0 Q cf K ⟨fr L, hp G, n⟩ μ := Xmy hT 4000 hs h hp' k
theorem oj {α : Type} {a b : α} (h : some a = some b) : a = b := Option.some.inj h
theorem rn {P : Program} {T : Ty} {nt n0 : Nat} {μ : Mu} {Q : X0d -> St -> Mu -> Prop} {cf cf' : Cf} {K K' : List Kn} {L L' : List (Nat × AV)} {G G' : List (Nat × Obj)} {n n' : Nat} {hs' : List X4g} {ps' : List Prop} (hT : X7o P T /\ P.follows .mixedOrders = true) (hs : List X4g) (h : X8p P T nt 4000 cf K L G n hs [] = some (cf', K', L', G', n', hs', ps')) (hp' : X3q ps') (k : Xa P nt n0 Q cf' K' ⟨fr L', hp G', n'⟩ μ) : Xa P nt n0 Q cf K ⟨fr L, hp G, n⟩ μ := Xmy hT 4000 hs h hp' k
abbrev cc := @Cvs.cons
abbrev cn := @Cvs.nil
abbrev pn := @X22.none
abbrev Bt : X4g := .br true
abbrev Bf : X4g := .br false
abbrev Ob (e : List AV) (n : Nat) : Obj := { es := e, esz := n }
abbrev Lf := AV.list false
theorem Zn {α : Type} {m : Bool} {H : X0l} (f : α -> AV) : Cv m H .nils (.list m (List.map f ([] : List α))) := .nils
end Go.Av
namespace Go.D
open Go.Av
def X4z (x y : GOp) : Bool := ((x.Kind == y.Kind) && ((x.N == y.N) && true))
def X43 (x y : Xb) : Bool := ((x.Key == y.Key) && ((x.Time == y.Time) && ((x.Value == y.Value) && true)))
def X7m (x y : X14) : Bool := ((x.Start == y.Start) && ((x.End == y.End) && true))
def X8d (x y : (V2 Int)) : Bool := ((x.e0 == y.e0) && ((x.e1 == y.e1) && true))
def X3a (x y : X0j) : Bool := ((x.Key == y.Key) && ((X7m x.Span y.Span) && ((X8d x.Values y.Values) && true)))
def X44 (x y : Xt) : Bool := ((x.Kind == y.Kind) && ((X43 x.Record y.Record) && ((x.Time == y.Time) && ((X3a x.Row y.Row) && true))))
def X9s (x y : Xz) : Bool := ((x.Out == y.Out) && ((X44 x.Message y.Message) && true))
def X55 (x y : X1f) : Bool := ((x.Count == y.Count) && ((x.Sum == y.Sum) && ((x.Min == y.Min) && ((x.Max == y.Max) && true))))
def X54 (x y : (V2 X1f)) : Bool := ((X55 x.e0 y.e0) && ((X55 x.e1 y.e1) && true))
def X8f (x y : X9) : Bool := ((x.Key == y.Key) && ((X7m x.Span y.Span) && ((X54 x.Values y.Values) && true)))
def X8e (x y : Xq) : Bool := ((x.Mark == y.Mark) && ((x.Time == y.Time) && ((X43 x.Record y.Record) && true)))
def X6n (x y : X2r) : Bool := ((x.Kind == y.Kind) && ((x.N == y.N) && ((x.A == y.A) && ((x.B == y.B) && ((x.At == y.At) && true)))))
def X7l (x y : X48) : Bool := ((x.Kind == y.Kind) && ((x.Size == y.Size) && ((x.Every == y.Every) && true)))
def X4q (x y : Xw) : Bool := ((x.at_ == y.at_) && ((x.size == y.size) && ((x.depth == y.depth) && true)))
def Xe5 (x y : (V2 Bool)) : Bool := ((x.e0 == y.e0) && ((x.e1 == y.e1) && true))
end Go.D
