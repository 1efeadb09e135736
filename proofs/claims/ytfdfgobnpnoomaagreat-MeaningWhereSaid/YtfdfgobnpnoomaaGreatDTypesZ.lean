/- Printed by decomp.py: the types of the Go program, as data; their encodings. -/
import Derived.Test.YtfdfgobnpnoomaaGreatAvc
set_option linter.all false

namespace Go.D
theorem Yo {α β : Type} {a : α} {f : α -> Option β} : (some a).bind f = f a := rfl
theorem Yf {p : Prop} [Decidable p] (h : ¬ p) : decide p = false := decide_eq_false h
theorem Yt {p : Prop} [Decidable p] (h : p) : decide p = true := decide_eq_true h
theorem Ym {α β : Type} {f : α -> β} {l : List α} {i : Nat} : List.map f (List.take i l) = List.take i (List.map f l) := List.map_take
theorem Yd {α β : Type} {f : α -> β} {l : List α} {i : Nat} : List.map f (List.drop i l) = List.drop i (List.map f l) := List.map_drop
theorem Ya {a b : Prop} (x : a) (y : b) : a /\ b := ⟨x, y⟩
theorem Ye {α : Type} {l : List α} {i : Nat} (h : i < l.length) : l[i]? = some l[i] := List.getElem?_eq_getElem h
theorem Ys {α : Type} {l : List α} {i : Nat} {a : α} : l[i]? = some a ↔ ∃ h : i < l.length, l[i] = a := List.getElem?_eq_some_iff
theorem Yg {α : Type} {l : List α} {i : Nat} {a : α} (h : l[i]? = some a) : a ∈ l := List.mem_of_getElem? h
structure X00 where
  Kind : Int
  N : Int
  A : Int
  B : Int
  At : Int
  deriving DecidableEq, Inhabited
structure X0x where
  Kind : Int
  Size : Int
  Every : Int
  deriving DecidableEq, Inhabited
structure Xp where
  Agg : Int
  Arg : (List X00)
  Sources : (List Int)
  Join : Bool
  Where : (List X00)
  Window : X0x
  ByKey : Bool
  Late : Int
  deriving DecidableEq, Inhabited
structure Xj where
  Key : Int
  Time : Int
  Value : Int
  deriving DecidableEq, Inhabited
structure Xi where
  Mark : Bool
  Time : Int
  Record : Xj
  deriving DecidableEq, Inhabited
structure X13 where
  Start : Int
  End : Int
  deriving DecidableEq, Inhabited
structure X5g where
  Key : Int
  Span : X13
  Values : (V2 Int)
  deriving DecidableEq, Inhabited
structure Xo where
  at_ : Int
  size : Int
  depth : Int
  deriving DecidableEq, Inhabited
structure X1j where
  Count : Int
  Sum : Int
  Min : Int
  Max : Int
  deriving DecidableEq, Inhabited
structure Xb where
  Key : Int
  Span : X13
  Values : (V2 X1j)
  deriving DecidableEq, Inhabited
end Go.D
namespace Go.Av
open Go.D
def X1 (x : X00) : AV := .agg [(aI .u8 x.Kind), (aI .i64 x.N), (aI .i64 x.A), (aI .i64 x.B), (aI .i64 x.At)]
theorem X7 (x : X00) : Xbe (X1 x) := (X3t (X3t (X3t (X3t (X3t Xju)))))
theorem Xbv (x : X00) : Xd2 (X1 x) := X61 (X7 x) rfl
theorem Xae {m : Bool} {H : X0s} {x : X00} : Cv m H (X1 x) (X1 x) := Xdt (X7 x)
def X0g (x : X0x) : AV := .agg [(aI .u8 x.Kind), (aI .i64 x.Size), (aI .i64 x.Every)]
theorem Xho (x : X0x) : Xbe (X0g x) := (X3t (X3t (X3t Xju)))
theorem X4x (x : X0x) : Xd2 (X0g x) := X61 (Xho x) rfl
theorem X17 {m : Bool} {H : X0s} {x : X0x} : Cv m H (X0g x) (X0g x) := Xdt (Xho x)
def Xh (o : Bool) (x : Xp) : AV := .agg [(aI .u8 x.Agg), (AV.list o (List.map X1 x.Arg)), (AV.list o (List.map (aI .i64) x.Sources)), (aB x.Join), (AV.list o (List.map X1 x.Where)), (aI .u8 x.Window.Kind), (aI .i64 x.Window.Size), (aI .i64 x.Window.Every), (aB x.ByKey), (aI .u8 x.Late)]
theorem X1a (o : Bool) (x : Xp) : Xd2 (Xh o x) := Xyc (fun _ => (Xf .sc (Xf .list (Xf .list (Xf .sc (Xf .list (Xf .sc (Xf .sc (Xf .sc (Xf .sc (Xf .sc X08)))))))))))
theorem X9k {H : X0s} {o : Bool} {x : Xp} : Cv false H (Xh o x) (Xh false x) := X0v (Cvs.cons .sc (Cvs.cons (X8 (X0 X7 _)) (Cvs.cons (X8 (X0 (fun _ => X0e) _)) (Cvs.cons .sc (Cvs.cons (X8 (X0 X7 _)) (Cvs.cons .sc (Cvs.cons .sc (Cvs.cons .sc (Cvs.cons .sc (Cvs.cons .sc Cvs.nil))))))))))
def X3 (x : Xj) : AV := .agg [(aI .i64 x.Key), (aI .i64 x.Time), (aI .i64 x.Value)]
theorem X0k (x : Xj) : Xbe (X3 x) := (X3t (X3t (X3t Xju)))
theorem X22 (x : Xj) : Xdy (X3 x) := fun _ => rfl
theorem X4y (x : Xj) : Xd2 (X3 x) := X61 (X0k x) rfl
theorem X1b {m : Bool} {H : X0s} {x : Xj} : Cv m H (X3 x) (X3 x) := Xdt (X0k x)
def X4 (x : Xi) : AV := .agg [(aB x.Mark), (aI .i64 x.Time), (aI .i64 x.Record.Key), (aI .i64 x.Record.Time), (aI .i64 x.Record.Value)]
theorem Xx (x : Xi) : Xbe (X4 x) := (X3t (X3t (X3t (X3t (X3t Xju)))))
theorem X2f (x : Xi) : Xdy (X4 x) := fun _ => rfl
theorem Xad (x : Xi) : Xd2 (X4 x) := X61 (Xx x) rfl
theorem Xec {m : Bool} {H : X0s} {x : Xi} : Cv m H (X4 x) (X4 x) := Xdt (Xx x)
def X01 (x : X13) : AV := .agg [(aI .i64 x.Start), (aI .i64 x.End)]
theorem X8m (x : X13) : Xbe (X01 x) := (X3t (X3t Xju))
theorem X2z (x : X13) : Xdy (X01 x) := fun _ => rfl
theorem Xeb (x : X13) : Xd2 (X01 x) := X61 (X8m x) rfl
theorem Xoy {m : Bool} {H : X0s} {x : X13} : Cv m H (X01 x) (X01 x) := Xdt (X8m x)
def Xn (x : X5g) : AV := .agg [(aI .i64 x.Key), (aI .i64 x.Span.Start), (aI .i64 x.Span.End), (aI .i64 x.Values.e0), (aI .i64 x.Values.e1)]
theorem X0y (x : X5g) : Xbe (Xn x) := (X3t (X3t (X3t (X3t (X3t Xju)))))
theorem X3r (x : X5g) : Xdy (Xn x) := fun _ => rfl
theorem Xfy (x : X5g) : Xd2 (Xn x) := X61 (X0y x) rfl
theorem Xg4 {m : Bool} {H : X0s} {x : X5g} : Cv m H (Xn x) (Xn x) := Xdt (X0y x)
def Xc (x : Xo) : AV := .agg [(aI .i64 x.at_), (aI .i64 x.size), (aI .i64 x.depth)]
theorem X7o (x : Xo) : Xbe (Xc x) := (X3t (X3t (X3t Xju)))
theorem X1c (x : Xo) : Xdy (Xc x) := fun _ => rfl
theorem X7m (x : Xo) : Xd2 (Xc x) := X61 (X7o x) rfl
def X9b (x : (V2 Bool)) : AV := .agg [(aB x.e0), (aB x.e1)]
theorem Xye (x : (V2 Bool)) : Xbe (X9b x) := (X3t (X3t Xju))
theorem Xii (x : (V2 Bool)) : Xd2 (X9b x) := X61 (Xye x) rfl
def X04 (x : X1j) : AV := .agg [(aI .i64 x.Count), (aI .i64 x.Sum), (aI .i64 x.Min), (aI .i64 x.Max)]
theorem Xjt (x : X1j) : Xbe (X04 x) := (X3t (X3t (X3t (X3t Xju))))
theorem X5z (x : X1j) : Xd2 (X04 x) := X61 (Xjt x) rfl
theorem X0f {m : Bool} {H : X0s} {x : X1j} : Cv m H (X04 x) (X04 x) := Xdt (Xjt x)
def X2 (x : Xb) : AV := .agg [(aI .i64 x.Key), (aI .i64 x.Span.Start), (aI .i64 x.Span.End), (aI .i64 x.Values.e0.Count), (aI .i64 x.Values.e0.Sum), (aI .i64 x.Values.e0.Min), (aI .i64 x.Values.e0.Max), (aI .i64 x.Values.e1.Count), (aI .i64 x.Values.e1.Sum), (aI .i64 x.Values.e1.Min), (aI .i64 x.Values.e1.Max)]
theorem X1f (x : Xb) : Xbe (X2 x) := (X3t (X3t (X3t (X3t (X3t (X3t (X3t (X3t (X3t (X3t (X3t Xju)))))))))))
theorem X2g (x : Xb) : Xdy (X2 x) := fun _ => rfl
theorem X56 (x : Xb) : Xd2 (X2 x) := X61 (X1f x) rfl
theorem X0t {m : Bool} {H : X0s} {x : Xb} : Cv m H (X2 x) (X2 x) := Xdt (X1f x)
def X9j (x : (V5 Int)) : AV := .agg [(aI .i64 x.e0), (aI .i64 x.e1), (aI .i64 x.e2), (aI .i64 x.e3), (aI .i64 x.e4)]
theorem Xtr (x : (V5 Int)) : Xbe (X9j x) := (X3t (X3t (X3t (X3t (X3t Xju)))))
theorem Xea (x : (V5 Int)) : Xd2 (X9j x) := X61 (Xtr x) rfl
theorem wkA {P : Prop} (h : P := by
  first
    | exact trivial
    | rfl
    | exact .sc
    | exact .list
    | exact .nils
    | exact .ref (by decide)
    | exact .ptr (by decide)
    | exact Xuy
    | (refine AV.Ok.tup ?_; repeat' first | exact X08 | refine Xf ?_ ?_ | exact .sc | exact .nils | exact .list | exact .ref (by decide) | exact .ptr (by decide))
    | (refine congrArg AV.tup ?_; repeat' first | rfl | (refine congrArg (fun z => AV.ref _ 0 z) ?_; first | rfl | omega | (simp; done) | (simp; omega)) | (show AV.ref _ 0 _ = AV.ref _ 0 _; congr 1; first | omega | (simp; done)) | (refine congrArg (fun z => AV.sc (Value.int IntKind.i64 z)) ?_; first | rfl | omega | assumption | (simp; done)) | refine congr (congrArg List.cons ?_) ?_ | (show (_ :: _ : List AV) = _ :: _; refine congr (congrArg List.cons ?_) ?_))
    | exact .fn (Xf (.ptr (by decide)) X08)
    | exact .fn (Xf (.ptr (by decide)) (Xf (.ptr (by decide)) X08))
    | exact .fn (Xf (.ptr (by decide)) (Xf (.ptr (by decide)) (Xf (.ptr (by decide)) X08)))
    | assumption
    | exact (Xbv _ _).1
    | exact (X4x _ _).1
    | exact (X1a true _ _).1
    | exact (X1a false _ _).1
    | exact (X4y _ _).1
    | exact (Xad _ _).1
    | exact (Xeb _ _).1
    | exact (free_V2i64 _ _).1
    | exact (Xfy _ _).1
    | exact (X7m _ _).1
    | exact (Xii _ _).1
    | exact (X5z _ _).1
    | exact (free_V2GAccum _ _).1
    | exact (X56 _ _).1
    | exact (Xea _ _).1
    | (refine congrArg (fun z => AV.sc (Value.int IntKind.i64 z)) ?_; first | rfl | omega | assumption | (simp; done) | (simp; omega))
    | (refine congrArg (fun z => AV.sc (Value.bool z)) ?_; first | rfl | assumption | (simp; done))
    | (refine congrArg (fun z => AV.ref _ 0 z) ?_; first | rfl | omega | (simp; done) | (simp; omega))
    | (show AV.ref _ 0 _ = AV.ref _ 0 _; congr 1; (simp; done))
    | (simp [slE, opE, nbF, nbT, AV.ren, List.map_take, List.map_drop]; done)
    | (simp [slE, opE, nbF, nbT, AV.ren, List.map_take, List.map_drop, *]; done)
    | (simp [AV.ren, *]; done)) : P := h
theorem wkR0 {P : Prop} (h : P := by
  first
    | exact X4b Xbv _ _
    | exact X4a (Xbv _) _
    | exact free_cons Xbv _ _ _
    | exact X4b X4x _ _
    | exact X4a (X4x _) _
    | exact free_cons X4x _ _ _
    | exact X4b (X1a true) _ _
    | exact X4a ((X1a true) _) _
    | exact free_cons (X1a true) _ _ _
    | exact X4b (X1a false) _ _
    | exact X4a ((X1a false) _) _
    | exact free_cons (X1a false) _ _ _
    | exact X4b X4y _ _
    | exact X4a (X4y _) _
    | exact free_cons X4y _ _ _
    | exact X4b Xad _ _
    | exact X4a (Xad _) _
    | exact free_cons Xad _ _ _
    | exact X4b Xeb _ _
    | exact X4a (Xeb _) _
    | exact free_cons Xeb _ _ _
    | exact X4b free_V2i64 _ _
    | exact X4a (free_V2i64 _) _
    | exact free_cons free_V2i64 _ _ _
    | exact X4b Xfy _ _
    | exact X4a (Xfy _) _
    | exact free_cons Xfy _ _ _
    | exact X4b X7m _ _
    | exact X4a (X7m _) _
    | exact free_cons X7m _ _ _
    | exact X4b Xii _ _
    | exact X4a (Xii _) _
    | exact free_cons Xii _ _ _
    | exact X4b X5z _ _
    | exact X4a (X5z _) _
    | exact free_cons X5z _ _ _
    | exact X4b free_V2GAccum _ _
    | exact X4a (free_V2GAccum _) _
    | exact free_cons free_V2GAccum _ _ _
    | exact X4b X56 _ _
    | exact X4a (X56 _) _
    | exact free_cons X56 _ _ _
    | exact X4b Xea _ _
    | exact X4a (Xea _) _
    | exact free_cons Xea _ _ _
    | exact X4b (fun _ => Xw3) _ _
    | exact X4a ((fun _ => Xw3) _) _
    | exact free_cons (fun _ => Xw3) _ _ _
    | exact X4b (fun _ => Xjr) _ _
    | exact X4a ((fun _ => Xjr) _) _
    | exact free_cons (fun _ => Xjr) _ _ _
    | (refine ⟨_, rfl, rfl, Eq.trans ?_ (X5 (Xd still_GNode _) _)⟩; rfl)
    | (refine ⟨_, rfl, rfl, Eq.trans ?_ (X5 (still_cons still_GNode _ _) _)⟩; rfl)
    | (refine ⟨_, rfl, rfl, Eq.trans ?_ (X5 (Xd still_GNode _) _)⟩; (simp; done))
    | (refine ⟨_, rfl, rfl, Eq.trans ?_ (X5 (still_cons still_GNode _ _) _)⟩; (simp; done))
    | (refine ⟨_, rfl, rfl, Eq.trans ?_ (X5 (Xd still_GNode _) _)⟩; (simp; rfl))
    | (refine ⟨_, rfl, rfl, Eq.trans ?_ (X5 (still_cons still_GNode _ _) _)⟩; (simp; rfl))
    | (refine ⟨_, rfl, rfl, Eq.trans ?_ (X5 (Xd still_GNode _) _)⟩; (exact Eq.symm (Eq.trans List.map_append rfl)))
    | (refine ⟨_, rfl, rfl, Eq.trans ?_ (X5 (Xd still_GNode _) _)⟩; (rw [List.map_append]; rfl))
    | (refine ⟨_, rfl, rfl, Eq.trans ?_ (X5 (Xd still_GNode _) _)⟩; (rw [List.map_set]; rfl))
    | (refine ⟨_, rfl, rfl, Eq.trans ?_ (X5 (Xd still_GNode _) _)⟩; (simp [*]; done))
    | (refine ⟨_, rfl, rfl, Eq.trans ?_ (X5 (still_cons still_GNode _ _) _)⟩; (simp [*]; done))
    | (refine ⟨_, rfl, rfl, Eq.trans ?_ (X5 (Xd still_GNode _) _)⟩; (rw [List.map_replicate]; rfl))
    | (refine ⟨_, rfl, rfl, Eq.trans ?_ (X5 (Xd still_GWindow _) _)⟩; rfl)
    | (refine ⟨_, rfl, rfl, Eq.trans ?_ (X5 (still_cons still_GWindow _ _) _)⟩; rfl)
    | (refine ⟨_, rfl, rfl, Eq.trans ?_ (X5 (Xd still_GWindow _) _)⟩; (simp; done))
    | (refine ⟨_, rfl, rfl, Eq.trans ?_ (X5 (still_cons still_GWindow _ _) _)⟩; (simp; done))
    | (refine ⟨_, rfl, rfl, Eq.trans ?_ (X5 (Xd still_GWindow _) _)⟩; (simp; rfl))
    | (refine ⟨_, rfl, rfl, Eq.trans ?_ (X5 (still_cons still_GWindow _ _) _)⟩; (simp; rfl))
    | (refine ⟨_, rfl, rfl, Eq.trans ?_ (X5 (Xd still_GWindow _) _)⟩; (exact Eq.symm (Eq.trans List.map_append rfl)))
    | (refine ⟨_, rfl, rfl, Eq.trans ?_ (X5 (Xd still_GWindow _) _)⟩; (rw [List.map_append]; rfl))
    | (refine ⟨_, rfl, rfl, Eq.trans ?_ (X5 (Xd still_GWindow _) _)⟩; (rw [List.map_set]; rfl))
    | (refine ⟨_, rfl, rfl, Eq.trans ?_ (X5 (Xd still_GWindow _) _)⟩; (simp [*]; done))
    | (refine ⟨_, rfl, rfl, Eq.trans ?_ (X5 (still_cons still_GWindow _ _) _)⟩; (simp [*]; done))
    | (refine ⟨_, rfl, rfl, Eq.trans ?_ (X5 (Xd still_GWindow _) _)⟩; (rw [List.map_replicate]; rfl))
    | (refine ⟨_, rfl, rfl, Eq.trans ?_ (X5 (Xd (still_GQuery true) _) _)⟩; rfl)
    | (refine ⟨_, rfl, rfl, Eq.trans ?_ (X5 (still_cons (still_GQuery true) _ _) _)⟩; rfl)
    | (refine ⟨_, rfl, rfl, Eq.trans ?_ (X5 (Xd (still_GQuery true) _) _)⟩; (simp; done))
    | (refine ⟨_, rfl, rfl, Eq.trans ?_ (X5 (still_cons (still_GQuery true) _ _) _)⟩; (simp; done))
    | (refine ⟨_, rfl, rfl, Eq.trans ?_ (X5 (Xd (still_GQuery true) _) _)⟩; (simp; rfl))
    | (refine ⟨_, rfl, rfl, Eq.trans ?_ (X5 (still_cons (still_GQuery true) _ _) _)⟩; (simp; rfl))
    | (refine ⟨_, rfl, rfl, Eq.trans ?_ (X5 (Xd (still_GQuery true) _) _)⟩; (exact Eq.symm (Eq.trans List.map_append rfl)))
    | (refine ⟨_, rfl, rfl, Eq.trans ?_ (X5 (Xd (still_GQuery true) _) _)⟩; (rw [List.map_append]; rfl))
    | (refine ⟨_, rfl, rfl, Eq.trans ?_ (X5 (Xd (still_GQuery true) _) _)⟩; (rw [List.map_set]; rfl))
    | (refine ⟨_, rfl, rfl, Eq.trans ?_ (X5 (Xd (still_GQuery true) _) _)⟩; (simp [*]; done))
    | (refine ⟨_, rfl, rfl, Eq.trans ?_ (X5 (still_cons (still_GQuery true) _ _) _)⟩; (simp [*]; done))
    | (refine ⟨_, rfl, rfl, Eq.trans ?_ (X5 (Xd (still_GQuery true) _) _)⟩; (rw [List.map_replicate]; rfl))
    | (refine ⟨_, rfl, rfl, Eq.trans ?_ (X5 (Xd (still_GQuery false) _) _)⟩; rfl)
    | (refine ⟨_, rfl, rfl, Eq.trans ?_ (X5 (still_cons (still_GQuery false) _ _) _)⟩; rfl)
    | (refine ⟨_, rfl, rfl, Eq.trans ?_ (X5 (Xd (still_GQuery false) _) _)⟩; (simp; done))
    | (refine ⟨_, rfl, rfl, Eq.trans ?_ (X5 (still_cons (still_GQuery false) _ _) _)⟩; (simp; done))
    | (refine ⟨_, rfl, rfl, Eq.trans ?_ (X5 (Xd (still_GQuery false) _) _)⟩; (simp; rfl))
    | (refine ⟨_, rfl, rfl, Eq.trans ?_ (X5 (still_cons (still_GQuery false) _ _) _)⟩; (simp; rfl))
    | (refine ⟨_, rfl, rfl, Eq.trans ?_ (X5 (Xd (still_GQuery false) _) _)⟩; (exact Eq.symm (Eq.trans List.map_append rfl)))
    | (refine ⟨_, rfl, rfl, Eq.trans ?_ (X5 (Xd (still_GQuery false) _) _)⟩; (rw [List.map_append]; rfl))
    | (refine ⟨_, rfl, rfl, Eq.trans ?_ (X5 (Xd (still_GQuery false) _) _)⟩; (rw [List.map_set]; rfl))
    | (refine ⟨_, rfl, rfl, Eq.trans ?_ (X5 (Xd (still_GQuery false) _) _)⟩; (simp [*]; done))
    | (refine ⟨_, rfl, rfl, Eq.trans ?_ (X5 (still_cons (still_GQuery false) _ _) _)⟩; (simp [*]; done))
    | (refine ⟨_, rfl, rfl, Eq.trans ?_ (X5 (Xd (still_GQuery false) _) _)⟩; (rw [List.map_replicate]; rfl))
    | (refine ⟨_, rfl, rfl, Eq.trans ?_ (X5 (Xd X22 _) _)⟩; rfl)
    | (refine ⟨_, rfl, rfl, Eq.trans ?_ (X5 (still_cons X22 _ _) _)⟩; rfl)
    | (refine ⟨_, rfl, rfl, Eq.trans ?_ (X5 (Xd X22 _) _)⟩; (simp; done))
    | (refine ⟨_, rfl, rfl, Eq.trans ?_ (X5 (still_cons X22 _ _) _)⟩; (simp; done))
    | (refine ⟨_, rfl, rfl, Eq.trans ?_ (X5 (Xd X22 _) _)⟩; (simp; rfl))
    | (refine ⟨_, rfl, rfl, Eq.trans ?_ (X5 (still_cons X22 _ _) _)⟩; (simp; rfl))
    | (refine ⟨_, rfl, rfl, Eq.trans ?_ (X5 (Xd X22 _) _)⟩; (exact Eq.symm (Eq.trans List.map_append rfl)))
    | (refine ⟨_, rfl, rfl, Eq.trans ?_ (X5 (Xd X22 _) _)⟩; (rw [List.map_append]; rfl))
    | (refine ⟨_, rfl, rfl, Eq.trans ?_ (X5 (Xd X22 _) _)⟩; (rw [List.map_set]; rfl))
    | (refine ⟨_, rfl, rfl, Eq.trans ?_ (X5 (Xd X22 _) _)⟩; (simp [*]; done))
    | (refine ⟨_, rfl, rfl, Eq.trans ?_ (X5 (still_cons X22 _ _) _)⟩; (simp [*]; done))
    | (refine ⟨_, rfl, rfl, Eq.trans ?_ (X5 (Xd X22 _) _)⟩; (rw [List.map_replicate]; rfl))
    | (refine ⟨_, rfl, rfl, Eq.trans ?_ (X5 (Xd X2f _) _)⟩; rfl)
    | (refine ⟨_, rfl, rfl, Eq.trans ?_ (X5 (still_cons X2f _ _) _)⟩; rfl)
    | (refine ⟨_, rfl, rfl, Eq.trans ?_ (X5 (Xd X2f _) _)⟩; (simp; done))
    | (refine ⟨_, rfl, rfl, Eq.trans ?_ (X5 (still_cons X2f _ _) _)⟩; (simp; done))
    | (refine ⟨_, rfl, rfl, Eq.trans ?_ (X5 (Xd X2f _) _)⟩; (simp; rfl))
    | (refine ⟨_, rfl, rfl, Eq.trans ?_ (X5 (still_cons X2f _ _) _)⟩; (simp; rfl))
    | (refine ⟨_, rfl, rfl, Eq.trans ?_ (X5 (Xd X2f _) _)⟩; (exact Eq.symm (Eq.trans List.map_append rfl)))
    | (refine ⟨_, rfl, rfl, Eq.trans ?_ (X5 (Xd X2f _) _)⟩; (rw [List.map_append]; rfl))
    | (refine ⟨_, rfl, rfl, Eq.trans ?_ (X5 (Xd X2f _) _)⟩; (rw [List.map_set]; rfl))) : P := h
theorem wkR1 {P : Prop} (h : P := by
  first
    | (refine ⟨_, rfl, rfl, Eq.trans ?_ (X5 (Xd X2f _) _)⟩; (simp [*]; done))
    | (refine ⟨_, rfl, rfl, Eq.trans ?_ (X5 (still_cons X2f _ _) _)⟩; (simp [*]; done))
    | (refine ⟨_, rfl, rfl, Eq.trans ?_ (X5 (Xd X2f _) _)⟩; (rw [List.map_replicate]; rfl))
    | (refine ⟨_, rfl, rfl, Eq.trans ?_ (X5 (Xd X2z _) _)⟩; rfl)
    | (refine ⟨_, rfl, rfl, Eq.trans ?_ (X5 (still_cons X2z _ _) _)⟩; rfl)
    | (refine ⟨_, rfl, rfl, Eq.trans ?_ (X5 (Xd X2z _) _)⟩; (simp; done))
    | (refine ⟨_, rfl, rfl, Eq.trans ?_ (X5 (still_cons X2z _ _) _)⟩; (simp; done))
    | (refine ⟨_, rfl, rfl, Eq.trans ?_ (X5 (Xd X2z _) _)⟩; (simp; rfl))
    | (refine ⟨_, rfl, rfl, Eq.trans ?_ (X5 (still_cons X2z _ _) _)⟩; (simp; rfl))
    | (refine ⟨_, rfl, rfl, Eq.trans ?_ (X5 (Xd X2z _) _)⟩; (exact Eq.symm (Eq.trans List.map_append rfl)))
    | (refine ⟨_, rfl, rfl, Eq.trans ?_ (X5 (Xd X2z _) _)⟩; (rw [List.map_append]; rfl))
    | (refine ⟨_, rfl, rfl, Eq.trans ?_ (X5 (Xd X2z _) _)⟩; (rw [List.map_set]; rfl))
    | (refine ⟨_, rfl, rfl, Eq.trans ?_ (X5 (Xd X2z _) _)⟩; (simp [*]; done))
    | (refine ⟨_, rfl, rfl, Eq.trans ?_ (X5 (still_cons X2z _ _) _)⟩; (simp [*]; done))
    | (refine ⟨_, rfl, rfl, Eq.trans ?_ (X5 (Xd X2z _) _)⟩; (rw [List.map_replicate]; rfl))
    | (refine ⟨_, rfl, rfl, Eq.trans ?_ (X5 (Xd still_V2i64 _) _)⟩; rfl)
    | (refine ⟨_, rfl, rfl, Eq.trans ?_ (X5 (still_cons still_V2i64 _ _) _)⟩; rfl)
    | (refine ⟨_, rfl, rfl, Eq.trans ?_ (X5 (Xd still_V2i64 _) _)⟩; (simp; done))
    | (refine ⟨_, rfl, rfl, Eq.trans ?_ (X5 (still_cons still_V2i64 _ _) _)⟩; (simp; done))
    | (refine ⟨_, rfl, rfl, Eq.trans ?_ (X5 (Xd still_V2i64 _) _)⟩; (simp; rfl))
    | (refine ⟨_, rfl, rfl, Eq.trans ?_ (X5 (still_cons still_V2i64 _ _) _)⟩; (simp; rfl))
    | (refine ⟨_, rfl, rfl, Eq.trans ?_ (X5 (Xd still_V2i64 _) _)⟩; (exact Eq.symm (Eq.trans List.map_append rfl)))
    | (refine ⟨_, rfl, rfl, Eq.trans ?_ (X5 (Xd still_V2i64 _) _)⟩; (rw [List.map_append]; rfl))
    | (refine ⟨_, rfl, rfl, Eq.trans ?_ (X5 (Xd still_V2i64 _) _)⟩; (rw [List.map_set]; rfl))
    | (refine ⟨_, rfl, rfl, Eq.trans ?_ (X5 (Xd still_V2i64 _) _)⟩; (simp [*]; done))
    | (refine ⟨_, rfl, rfl, Eq.trans ?_ (X5 (still_cons still_V2i64 _ _) _)⟩; (simp [*]; done))
    | (refine ⟨_, rfl, rfl, Eq.trans ?_ (X5 (Xd still_V2i64 _) _)⟩; (rw [List.map_replicate]; rfl))
    | (refine ⟨_, rfl, rfl, Eq.trans ?_ (X5 (Xd X3r _) _)⟩; rfl)
    | (refine ⟨_, rfl, rfl, Eq.trans ?_ (X5 (still_cons X3r _ _) _)⟩; rfl)
    | (refine ⟨_, rfl, rfl, Eq.trans ?_ (X5 (Xd X3r _) _)⟩; (simp; done))
    | (refine ⟨_, rfl, rfl, Eq.trans ?_ (X5 (still_cons X3r _ _) _)⟩; (simp; done))
    | (refine ⟨_, rfl, rfl, Eq.trans ?_ (X5 (Xd X3r _) _)⟩; (simp; rfl))
    | (refine ⟨_, rfl, rfl, Eq.trans ?_ (X5 (still_cons X3r _ _) _)⟩; (simp; rfl))
    | (refine ⟨_, rfl, rfl, Eq.trans ?_ (X5 (Xd X3r _) _)⟩; (exact Eq.symm (Eq.trans List.map_append rfl)))
    | (refine ⟨_, rfl, rfl, Eq.trans ?_ (X5 (Xd X3r _) _)⟩; (rw [List.map_append]; rfl))
    | (refine ⟨_, rfl, rfl, Eq.trans ?_ (X5 (Xd X3r _) _)⟩; (rw [List.map_set]; rfl))
    | (refine ⟨_, rfl, rfl, Eq.trans ?_ (X5 (Xd X3r _) _)⟩; (simp [*]; done))
    | (refine ⟨_, rfl, rfl, Eq.trans ?_ (X5 (still_cons X3r _ _) _)⟩; (simp [*]; done))
    | (refine ⟨_, rfl, rfl, Eq.trans ?_ (X5 (Xd X3r _) _)⟩; (rw [List.map_replicate]; rfl))
    | (refine ⟨_, rfl, rfl, Eq.trans ?_ (X5 (Xd X1c _) _)⟩; rfl)
    | (refine ⟨_, rfl, rfl, Eq.trans ?_ (X5 (still_cons X1c _ _) _)⟩; rfl)
    | (refine ⟨_, rfl, rfl, Eq.trans ?_ (X5 (Xd X1c _) _)⟩; (simp; done))
    | (refine ⟨_, rfl, rfl, Eq.trans ?_ (X5 (still_cons X1c _ _) _)⟩; (simp; done))
    | (refine ⟨_, rfl, rfl, Eq.trans ?_ (X5 (Xd X1c _) _)⟩; (simp; rfl))
    | (refine ⟨_, rfl, rfl, Eq.trans ?_ (X5 (still_cons X1c _ _) _)⟩; (simp; rfl))
    | (refine ⟨_, rfl, rfl, Eq.trans ?_ (X5 (Xd X1c _) _)⟩; (exact Eq.symm (Eq.trans List.map_append rfl)))
    | (refine ⟨_, rfl, rfl, Eq.trans ?_ (X5 (Xd X1c _) _)⟩; (rw [List.map_append]; rfl))
    | (refine ⟨_, rfl, rfl, Eq.trans ?_ (X5 (Xd X1c _) _)⟩; (rw [List.map_set]; rfl))
    | (refine ⟨_, rfl, rfl, Eq.trans ?_ (X5 (Xd X1c _) _)⟩; (simp [*]; done))
    | (refine ⟨_, rfl, rfl, Eq.trans ?_ (X5 (still_cons X1c _ _) _)⟩; (simp [*]; done))
    | (refine ⟨_, rfl, rfl, Eq.trans ?_ (X5 (Xd X1c _) _)⟩; (rw [List.map_replicate]; rfl))
    | (refine ⟨_, rfl, rfl, Eq.trans ?_ (X5 (Xd still_V2b _) _)⟩; rfl)
    | (refine ⟨_, rfl, rfl, Eq.trans ?_ (X5 (still_cons still_V2b _ _) _)⟩; rfl)
    | (refine ⟨_, rfl, rfl, Eq.trans ?_ (X5 (Xd still_V2b _) _)⟩; (simp; done))
    | (refine ⟨_, rfl, rfl, Eq.trans ?_ (X5 (still_cons still_V2b _ _) _)⟩; (simp; done))
    | (refine ⟨_, rfl, rfl, Eq.trans ?_ (X5 (Xd still_V2b _) _)⟩; (simp; rfl))
    | (refine ⟨_, rfl, rfl, Eq.trans ?_ (X5 (still_cons still_V2b _ _) _)⟩; (simp; rfl))
    | (refine ⟨_, rfl, rfl, Eq.trans ?_ (X5 (Xd still_V2b _) _)⟩; (exact Eq.symm (Eq.trans List.map_append rfl)))
    | (refine ⟨_, rfl, rfl, Eq.trans ?_ (X5 (Xd still_V2b _) _)⟩; (rw [List.map_append]; rfl))
    | (refine ⟨_, rfl, rfl, Eq.trans ?_ (X5 (Xd still_V2b _) _)⟩; (rw [List.map_set]; rfl))
    | (refine ⟨_, rfl, rfl, Eq.trans ?_ (X5 (Xd still_V2b _) _)⟩; (simp [*]; done))
    | (refine ⟨_, rfl, rfl, Eq.trans ?_ (X5 (still_cons still_V2b _ _) _)⟩; (simp [*]; done))
    | (refine ⟨_, rfl, rfl, Eq.trans ?_ (X5 (Xd still_V2b _) _)⟩; (rw [List.map_replicate]; rfl))
    | (refine ⟨_, rfl, rfl, Eq.trans ?_ (X5 (Xd still_GAccum _) _)⟩; rfl)
    | (refine ⟨_, rfl, rfl, Eq.trans ?_ (X5 (still_cons still_GAccum _ _) _)⟩; rfl)
    | (refine ⟨_, rfl, rfl, Eq.trans ?_ (X5 (Xd still_GAccum _) _)⟩; (simp; done))
    | (refine ⟨_, rfl, rfl, Eq.trans ?_ (X5 (still_cons still_GAccum _ _) _)⟩; (simp; done))
    | (refine ⟨_, rfl, rfl, Eq.trans ?_ (X5 (Xd still_GAccum _) _)⟩; (simp; rfl))
    | (refine ⟨_, rfl, rfl, Eq.trans ?_ (X5 (still_cons still_GAccum _ _) _)⟩; (simp; rfl))
    | (refine ⟨_, rfl, rfl, Eq.trans ?_ (X5 (Xd still_GAccum _) _)⟩; (exact Eq.symm (Eq.trans List.map_append rfl)))
    | (refine ⟨_, rfl, rfl, Eq.trans ?_ (X5 (Xd still_GAccum _) _)⟩; (rw [List.map_append]; rfl))
    | (refine ⟨_, rfl, rfl, Eq.trans ?_ (X5 (Xd still_GAccum _) _)⟩; (rw [List.map_set]; rfl))
    | (refine ⟨_, rfl, rfl, Eq.trans ?_ (X5 (Xd still_GAccum _) _)⟩; (simp [*]; done))
    | (refine ⟨_, rfl, rfl, Eq.trans ?_ (X5 (still_cons still_GAccum _ _) _)⟩; (simp [*]; done))
    | (refine ⟨_, rfl, rfl, Eq.trans ?_ (X5 (Xd still_GAccum _) _)⟩; (rw [List.map_replicate]; rfl))
    | (refine ⟨_, rfl, rfl, Eq.trans ?_ (X5 (Xd still_V2GAccum _) _)⟩; rfl)
    | (refine ⟨_, rfl, rfl, Eq.trans ?_ (X5 (still_cons still_V2GAccum _ _) _)⟩; rfl)
    | (refine ⟨_, rfl, rfl, Eq.trans ?_ (X5 (Xd still_V2GAccum _) _)⟩; (simp; done))
    | (refine ⟨_, rfl, rfl, Eq.trans ?_ (X5 (still_cons still_V2GAccum _ _) _)⟩; (simp; done))
    | (refine ⟨_, rfl, rfl, Eq.trans ?_ (X5 (Xd still_V2GAccum _) _)⟩; (simp; rfl))
    | (refine ⟨_, rfl, rfl, Eq.trans ?_ (X5 (still_cons still_V2GAccum _ _) _)⟩; (simp; rfl))
    | (refine ⟨_, rfl, rfl, Eq.trans ?_ (X5 (Xd still_V2GAccum _) _)⟩; (exact Eq.symm (Eq.trans List.map_append rfl)))
    | (refine ⟨_, rfl, rfl, Eq.trans ?_ (X5 (Xd still_V2GAccum _) _)⟩; (rw [List.map_append]; rfl))
    | (refine ⟨_, rfl, rfl, Eq.trans ?_ (X5 (Xd still_V2GAccum _) _)⟩; (rw [List.map_set]; rfl))
    | (refine ⟨_, rfl, rfl, Eq.trans ?_ (X5 (Xd still_V2GAccum _) _)⟩; (simp [*]; done))
    | (refine ⟨_, rfl, rfl, Eq.trans ?_ (X5 (still_cons still_V2GAccum _ _) _)⟩; (simp [*]; done))
    | (refine ⟨_, rfl, rfl, Eq.trans ?_ (X5 (Xd still_V2GAccum _) _)⟩; (rw [List.map_replicate]; rfl))
    | (refine ⟨_, rfl, rfl, Eq.trans ?_ (X5 (Xd X2g _) _)⟩; rfl)
    | (refine ⟨_, rfl, rfl, Eq.trans ?_ (X5 (still_cons X2g _ _) _)⟩; rfl)
    | (refine ⟨_, rfl, rfl, Eq.trans ?_ (X5 (Xd X2g _) _)⟩; (simp; done))
    | (refine ⟨_, rfl, rfl, Eq.trans ?_ (X5 (still_cons X2g _ _) _)⟩; (simp; done))
    | (refine ⟨_, rfl, rfl, Eq.trans ?_ (X5 (Xd X2g _) _)⟩; (simp; rfl))
    | (refine ⟨_, rfl, rfl, Eq.trans ?_ (X5 (still_cons X2g _ _) _)⟩; (simp; rfl))
    | (refine ⟨_, rfl, rfl, Eq.trans ?_ (X5 (Xd X2g _) _)⟩; (exact Eq.symm (Eq.trans List.map_append rfl)))
    | (refine ⟨_, rfl, rfl, Eq.trans ?_ (X5 (Xd X2g _) _)⟩; (rw [List.map_append]; rfl))
    | (refine ⟨_, rfl, rfl, Eq.trans ?_ (X5 (Xd X2g _) _)⟩; (rw [List.map_set]; rfl))
    | (refine ⟨_, rfl, rfl, Eq.trans ?_ (X5 (Xd X2g _) _)⟩; (simp [*]; done))
    | (refine ⟨_, rfl, rfl, Eq.trans ?_ (X5 (still_cons X2g _ _) _)⟩; (simp [*]; done))
    | (refine ⟨_, rfl, rfl, Eq.trans ?_ (X5 (Xd X2g _) _)⟩; (rw [List.map_replicate]; rfl))
    | (refine ⟨_, rfl, rfl, Eq.trans ?_ (X5 (Xd still_V5i64 _) _)⟩; rfl)
    | (refine ⟨_, rfl, rfl, Eq.trans ?_ (X5 (still_cons still_V5i64 _ _) _)⟩; rfl)
    | (refine ⟨_, rfl, rfl, Eq.trans ?_ (X5 (Xd still_V5i64 _) _)⟩; (simp; done))
    | (refine ⟨_, rfl, rfl, Eq.trans ?_ (X5 (still_cons still_V5i64 _ _) _)⟩; (simp; done))
    | (refine ⟨_, rfl, rfl, Eq.trans ?_ (X5 (Xd still_V5i64 _) _)⟩; (simp; rfl))
    | (refine ⟨_, rfl, rfl, Eq.trans ?_ (X5 (still_cons still_V5i64 _ _) _)⟩; (simp; rfl))
    | (refine ⟨_, rfl, rfl, Eq.trans ?_ (X5 (Xd still_V5i64 _) _)⟩; (exact Eq.symm (Eq.trans List.map_append rfl)))
    | (refine ⟨_, rfl, rfl, Eq.trans ?_ (X5 (Xd still_V5i64 _) _)⟩; (rw [List.map_append]; rfl))
    | (refine ⟨_, rfl, rfl, Eq.trans ?_ (X5 (Xd still_V5i64 _) _)⟩; (rw [List.map_set]; rfl))
    | (refine ⟨_, rfl, rfl, Eq.trans ?_ (X5 (Xd still_V5i64 _) _)⟩; (simp [*]; done))
    | (refine ⟨_, rfl, rfl, Eq.trans ?_ (X5 (still_cons still_V5i64 _ _) _)⟩; (simp [*]; done))
    | (refine ⟨_, rfl, rfl, Eq.trans ?_ (X5 (Xd still_V5i64 _) _)⟩; (rw [List.map_replicate]; rfl))
    | (refine ⟨_, rfl, rfl, Eq.trans ?_ (X5 (Xd (fun _ => X86) _) _)⟩; rfl)
    | (refine ⟨_, rfl, rfl, Eq.trans ?_ (X5 (still_cons (fun _ => X86) _ _) _)⟩; rfl)
    | (refine ⟨_, rfl, rfl, Eq.trans ?_ (X5 (Xd (fun _ => X86) _) _)⟩; (simp; done))
    | (refine ⟨_, rfl, rfl, Eq.trans ?_ (X5 (still_cons (fun _ => X86) _ _) _)⟩; (simp; done))
    | (refine ⟨_, rfl, rfl, Eq.trans ?_ (X5 (Xd (fun _ => X86) _) _)⟩; (simp; rfl))
    | (refine ⟨_, rfl, rfl, Eq.trans ?_ (X5 (still_cons (fun _ => X86) _ _) _)⟩; (simp; rfl))
    | (refine ⟨_, rfl, rfl, Eq.trans ?_ (X5 (Xd (fun _ => X86) _) _)⟩; (exact Eq.symm (Eq.trans List.map_append rfl)))
    | (refine ⟨_, rfl, rfl, Eq.trans ?_ (X5 (Xd (fun _ => X86) _) _)⟩; (rw [List.map_append]; rfl))
    | (refine ⟨_, rfl, rfl, Eq.trans ?_ (X5 (Xd (fun _ => X86) _) _)⟩; (rw [List.map_set]; rfl))) : P := h
theorem wkR2 {P : Prop} (h : P := by
  first
    | (refine ⟨_, rfl, rfl, Eq.trans ?_ (X5 (Xd (fun _ => X86) _) _)⟩; (simp [*]; done))
    | (refine ⟨_, rfl, rfl, Eq.trans ?_ (X5 (still_cons (fun _ => X86) _ _) _)⟩; (simp [*]; done))
    | (refine ⟨_, rfl, rfl, Eq.trans ?_ (X5 (Xd (fun _ => X86) _) _)⟩; (rw [List.map_replicate]; rfl))
    | (refine ⟨_, rfl, rfl, Eq.trans ?_ (X5 (Xd (fun _ => X3q) _) _)⟩; rfl)
    | (refine ⟨_, rfl, rfl, Eq.trans ?_ (X5 (still_cons (fun _ => X3q) _ _) _)⟩; rfl)
    | (refine ⟨_, rfl, rfl, Eq.trans ?_ (X5 (Xd (fun _ => X3q) _) _)⟩; (simp; done))
    | (refine ⟨_, rfl, rfl, Eq.trans ?_ (X5 (still_cons (fun _ => X3q) _ _) _)⟩; (simp; done))
    | (refine ⟨_, rfl, rfl, Eq.trans ?_ (X5 (Xd (fun _ => X3q) _) _)⟩; (simp; rfl))
    | (refine ⟨_, rfl, rfl, Eq.trans ?_ (X5 (still_cons (fun _ => X3q) _ _) _)⟩; (simp; rfl))
    | (refine ⟨_, rfl, rfl, Eq.trans ?_ (X5 (Xd (fun _ => X3q) _) _)⟩; (exact Eq.symm (Eq.trans List.map_append rfl)))
    | (refine ⟨_, rfl, rfl, Eq.trans ?_ (X5 (Xd (fun _ => X3q) _) _)⟩; (rw [List.map_append]; rfl))
    | (refine ⟨_, rfl, rfl, Eq.trans ?_ (X5 (Xd (fun _ => X3q) _) _)⟩; (rw [List.map_set]; rfl))
    | (refine ⟨_, rfl, rfl, Eq.trans ?_ (X5 (Xd (fun _ => X3q) _) _)⟩; (simp [*]; done))
    | (refine ⟨_, rfl, rfl, Eq.trans ?_ (X5 (still_cons (fun _ => X3q) _ _) _)⟩; (simp [*]; done))
    | (refine ⟨_, rfl, rfl, Eq.trans ?_ (X5 (Xd (fun _ => X3q) _) _)⟩; (rw [List.map_replicate]; rfl))
    | (refine ⟨_, rfl, rfl, Eq.trans ?_ (X5 (still_one (still_GNode _)) _)⟩; simp only [List.length_cons, List.length_map]; rfl)
    | (refine ⟨_, rfl, rfl, Eq.trans ?_ (X5 (still_one (still_GWindow _)) _)⟩; simp only [List.length_cons, List.length_map]; rfl)
    | (refine ⟨_, rfl, rfl, Eq.trans ?_ (X5 (still_one ((still_GQuery true) _)) _)⟩; simp only [List.length_cons, List.length_map]; rfl)
    | (refine ⟨_, rfl, rfl, Eq.trans ?_ (X5 (still_one ((still_GQuery false) _)) _)⟩; simp only [List.length_cons, List.length_map]; rfl)
    | (refine ⟨_, rfl, rfl, Eq.trans ?_ (X5 (still_one (X22 _)) _)⟩; simp only [List.length_cons, List.length_map]; rfl)
    | (refine ⟨_, rfl, rfl, Eq.trans ?_ (X5 (still_one (X2f _)) _)⟩; simp only [List.length_cons, List.length_map]; rfl)
    | (refine ⟨_, rfl, rfl, Eq.trans ?_ (X5 (still_one (X2z _)) _)⟩; simp only [List.length_cons, List.length_map]; rfl)
    | (refine ⟨_, rfl, rfl, Eq.trans ?_ (X5 (still_one (still_V2i64 _)) _)⟩; simp only [List.length_cons, List.length_map]; rfl)
    | (refine ⟨_, rfl, rfl, Eq.trans ?_ (X5 (still_one (X3r _)) _)⟩; simp only [List.length_cons, List.length_map]; rfl)
    | (refine ⟨_, rfl, rfl, Eq.trans ?_ (X5 (still_one (X1c _)) _)⟩; simp only [List.length_cons, List.length_map]; rfl)
    | (refine ⟨_, rfl, rfl, Eq.trans ?_ (X5 (still_one (still_V2b _)) _)⟩; simp only [List.length_cons, List.length_map]; rfl)
    | (refine ⟨_, rfl, rfl, Eq.trans ?_ (X5 (still_one (still_GAccum _)) _)⟩; simp only [List.length_cons, List.length_map]; rfl)
    | (refine ⟨_, rfl, rfl, Eq.trans ?_ (X5 (still_one (still_V2GAccum _)) _)⟩; simp only [List.length_cons, List.length_map]; rfl)
    | (refine ⟨_, rfl, rfl, Eq.trans ?_ (X5 (still_one (X2g _)) _)⟩; simp only [List.length_cons, List.length_map]; rfl)
    | (refine ⟨_, rfl, rfl, Eq.trans ?_ (X5 (still_one (still_V5i64 _)) _)⟩; simp only [List.length_cons, List.length_map]; rfl)
    | (refine ⟨_, rfl, rfl, Eq.trans ?_ (X5 (still_one ((fun _ => X86) _)) _)⟩; simp only [List.length_cons, List.length_map]; rfl)
    | (refine ⟨_, rfl, rfl, Eq.trans ?_ (X5 (still_one ((fun _ => X3q) _)) _)⟩; simp only [List.length_cons, List.length_map]; rfl)) : P := h
theorem wkB {P : Prop} (h : P := by
  first
    | exact trivial
    | rfl
    | decide
    | exact ⟨_, rfl, rfl, rfl⟩
    | (refine ⟨_, rfl, rfl, ref1 ?_⟩; first | rfl | omega | (simp; done) | (simp; omega))
    | exact wkR0
    | exact wkR1
    | exact wkR2
    | (intro e he a ha; rw [List.mem_singleton.1 he] at ha; rw [List.mem_singleton.1 ha]; first | exact .sc | exact .list | exact .nils | exact .ref (by decide) | exact .ptr (by decide) | exact Xuy)
    | (intro e he a ha; simp at he; subst he; simp [AV.cells] at ha; first | (subst ha; exact .sc) | (rcases ha with rfl | rfl | rfl | rfl | rfl <;> exact .sc))) : P := h
theorem wkT {P : Program} {nt n0 : Nat} {Q : X0d -> St -> Mu -> Prop} {cf : Cf} {K : List Kn} {μ : Mu} {L L' : List (Nat × AV)} {G G' : List (Nat × Obj)} {n n' : Nat} (θ : List (Nat × Nat)) (h : Xa P nt n0 Q cf K ⟨fr L', hp G', n'⟩ μ)
    (hb : (fixB θ n0 && injB θ (G'.map (·.1)) && Nat.ble n0 n') = true := by rfl) (hL : wkL L θ n' L' := by repeat' first | refine And.intro ?_ ?_ | exact wkA) (hG : wkG G θ n' G' := by repeat' first | refine And.intro ?_ ?_ | exact wkB) : Xa P nt n0 Q cf K ⟨fr L, hp G, n⟩ μ := Xa.weakTo θ h hb hL hG
theorem Xe {P : Program} {T : Ty} {nt n0 : Nat} {μ : Mu} {Q : X0d -> St -> Mu -> Prop} {cf cf' : Cf} {K K' : List Kn} {L L' : List (Nat × AV)} {G G' : List (Nat × Obj)} {n n' : Nat} {hs' : List X79} {ps' : List Prop} (hT : Xbd P T /\ P.follows .mixedOrders = true) (hs : List X79)
    (k : Xa P nt n0 Q cf' K' ⟨fr L', hp G', n'⟩ μ) (h : Xc4 P T nt 4000 cf K L G n hs [] = some (cf', K', L', G', n', hs', ps') := by exact rfl) (hp' : X5q ps' := by repeat' first | refine And.intro ?_ ?_ | exact Xv) : Xa P nt n0 Q cf K ⟨fr L, hp G, n⟩ μ := Xyu hT 4000 hs h hp' k
theorem oj {α : Type} {a b : α} (h : some a = some b) : a = b := Option.some.inj h
theorem rn {P : Program} {T : Ty} {nt n0 : Nat} {μ : Mu} {Q : X0d -> St -> Mu -> Prop} {cf cf' : Cf} {K K' : List Kn} {L L' : List (Nat × AV)} {G G' : List (Nat × Obj)} {n n' : Nat} {hs' : List X79} {ps' : List Prop} (hT : Xbd P T /\ P.follows .mixedOrders = true) (hs : List X79) (h : Xc4 P T nt 4000 cf K L G n hs [] = some (cf', K', L', G', n', hs', ps')) (hp' : X5q ps') (k : Xa P nt n0 Q cf' K' ⟨fr L', hp G', n'⟩ μ) : Xa P nt n0 Q cf K ⟨fr L, hp G, n⟩ μ := Xyu hT 4000 hs h hp' k
abbrev cc := @Cvs.cons
abbrev cn := @Cvs.nil
abbrev pn := @X2k.none
abbrev Bt : X79 := .br true
abbrev Bf : X79 := .br false
abbrev Ob (e : List AV) (n : Nat) : Obj := { es := e, esz := n }
abbrev Lf := AV.list false
theorem Zn {α : Type} {m : Bool} {H : X0s} (f : α -> AV) : Cv m H .nils (.list m (List.map f ([] : List α))) := .nils
end Go.Av
namespace Go.D
open Go.Av
def X7p (x y : X00) : Bool := ((x.Kind == y.Kind) && ((x.N == y.N) && ((x.A == y.A) && ((x.B == y.B) && ((x.At == y.At) && true)))))
def X4o (x y : Xj) : Bool := ((x.Key == y.Key) && ((x.Time == y.Time) && ((x.Value == y.Value) && true)))
def Xov (x y : X13) : Bool := ((x.Start == y.Start) && ((x.End == y.End) && true))
def Xou (x y : (V2 Int)) : Bool := ((x.e0 == y.e0) && ((x.e1 == y.e1) && true))
def Xna (x y : X5g) : Bool := ((x.Key == y.Key) && ((Xov x.Span y.Span) && ((Xou x.Values y.Values) && true)))
def Xtt (x y : X1j) : Bool := ((x.Count == y.Count) && ((x.Sum == y.Sum) && ((x.Min == y.Min) && ((x.Max == y.Max) && true))))
def Xi8 (x : X00) : Prop := wfI .u8 x.Kind /\ wfI .i64 x.N /\ wfI .i64 x.A /\ wfI .i64 x.B /\ wfI .i64 x.At
def Xl7 (x : X0x) : Prop := wfI .u8 x.Kind /\ wfI .i64 x.Size /\ wfI .i64 x.Every
def Xiq (x : Xp) : Prop := wfI .u8 x.Agg /\ (List.length x.Arg <= maxLen /\ ∀ y ∈ x.Arg, Xi8 y) /\ (List.length x.Sources <= maxLen /\ ∀ y ∈ x.Sources, wfI .i64 y) /\ True /\ (List.length x.Where <= maxLen /\ ∀ y ∈ x.Where, Xi8 y) /\ Xl7 x.Window /\ True /\ wfI .u8 x.Late
def Xl8 (x : Xj) : Prop := wfI .i64 x.Key /\ wfI .i64 x.Time /\ wfI .i64 x.Value
def Xir (x : Xi) : Prop := True /\ wfI .i64 x.Time /\ Xl8 x.Record
end Go.D
