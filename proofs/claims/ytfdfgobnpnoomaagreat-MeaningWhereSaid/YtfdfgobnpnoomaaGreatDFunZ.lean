/- Printed by decomp.py: the functions. -/
import Derived.Test.YtfdfgobnpnoomaaGreatDTypesZ
set_option linter.all false

namespace Go.D
def Xfs (a0 : Int) (a1 : Int) (a2 : Int) : Option (Xi) :=
 some (Xi.mk false 0 (Xj.mk a0 a1 a2))
def Xgp (a0 : Int) : Option (Xi) :=
 some (Xi.mk true a0 (Xj.mk 0 0 0))
def Xja : Option (Xp) :=
 some (Xp.mk 2 [(X00.mk 4 0 0 0 0)] [0] false ([] : List X00) (X0x.mk 1 10 0) false 2)
def Xa7 (a0 : Int) : Option (Int × Int) :=
 bif (bif (decide (a0 >= (1 : Int))) then (decide (a0 <= (4 : Int))) else false) then (some (0, 0)) else (bif (bif (a0 == (5 : Int)) then true else (a0 == (6 : Int))) then (some (1, 0)) else (bif (bif (decide (a0 >= (7 : Int))) then (decide (a0 <= (19 : Int))) else false) then (some (2, 0)) else (some (0, 2))))
inductive X5v where
 | x0 (Xq : (List Xo)) (X0m : (List Xo))
 | x1 (X06 : (List Xo))
def X2c (X5r : (List X00)) : List X00 -> Nat -> (List Xo) -> (List Xo) -> Option X5v
 | [], k, Xm, Xk => some (.x0 Xm Xk)
 | x :: xs, k, Xm, Xk => (Xa7 x.Kind).bind fun v318 => (bif (v318.2 != (0 : Int)) then (some (bif (v318.2 != (0 : Int)) then true else false)) else (some (bif (v318.2 != (0 : Int)) then true else (decide (v318.1 > (List.length Xk : Int))))) : Option (Bool)).bind fun Xq0 => bif Xq0 then (some (.x1 Xm)) else ((X7f Xk 0 (IntKind.i64.wrap ((List.length Xk : Int) - v318.1))).bind fun m331 => (X7f Xk (IntKind.i64.wrap ((List.length Xk : Int) - v318.1)) (List.length Xk : Int)).bind fun m333 => bif (List.isEmpty m333) then ((bif (x.Kind == (1 : Int)) then (some (X00.mk x.Kind (if 0 > x.N then 0 else x.N) 0 0 (if 400 < (if 0 > x.At then 0 else x.At) then 400 else (if 0 > x.At then 0 else x.At)))) else (some (X00.mk x.Kind 0 0 0 (if 400 < (if 0 > x.At then 0 else x.At) then 400 else (if 0 > x.At then 0 else x.At)))) : Option (X00)).bind fun Xpz => bif (!(X7p Xpz x)) then (some (.x1 Xm)) else ((X2i (List.length (m331 ++ [(Xo.mk (k : Int) 1 1)])) 24).bind fun u341 => (X2i (List.length (Xm ++ [(Xo.mk (k : Int) 1 1)])) 24).bind fun u343 => X2c X5r xs (k + 1) (Xm ++ [(Xo.mk (k : Int) 1 1)]) (m331 ++ [(Xo.mk (k : Int) 1 1)]))) else (bif ((List.length m333 : Int) == (1 : Int)) then ((X2o m333 0).bind fun e346 => (bif (x.Kind == (1 : Int)) then (some (X00.mk x.Kind (if 0 > x.N then 0 else x.N) e346.at_ 0 (if 400 < (if 0 > x.At then 0 else x.At) then 400 else (if 0 > x.At then 0 else x.At)))) else (some (X00.mk x.Kind 0 e346.at_ 0 (if 400 < (if 0 > x.At then 0 else x.At) then 400 else (if 0 > x.At then 0 else x.At)))) : Option (X00)).bind fun Xpy => bif (!(X7p Xpy x)) then (some (.x1 Xm)) else ((X2i (List.length (m331 ++ [(Xo.mk (k : Int) (IntKind.i64.wrap (1 + e346.size)) (if (IntKind.i64.wrap (e346.depth + 1)) > 1 then (IntKind.i64.wrap (e346.depth + 1)) else 1))])) 24).bind fun u353 => (X2i (List.length (Xm ++ [(Xo.mk (k : Int) (IntKind.i64.wrap (1 + e346.size)) (if (IntKind.i64.wrap (e346.depth + 1)) > 1 then (IntKind.i64.wrap (e346.depth + 1)) else 1))])) 24).bind fun u355 => X2c X5r xs (k + 1) (Xm ++ [(Xo.mk (k : Int) (IntKind.i64.wrap (1 + e346.size)) (if (IntKind.i64.wrap (e346.depth + 1)) > 1 then (IntKind.i64.wrap (e346.depth + 1)) else 1))]) (m331 ++ [(Xo.mk (k : Int) (IntKind.i64.wrap (1 + e346.size)) (if (IntKind.i64.wrap (e346.depth + 1)) > 1 then (IntKind.i64.wrap (e346.depth + 1)) else 1))]))) else (bif ((List.length m333 : Int) == (2 : Int)) then ((X2o m333 0).bind fun e358 => (X2o m333 1).bind fun e360 => (bif (x.Kind == (1 : Int)) then (some (X00.mk x.Kind (if 0 > x.N then 0 else x.N) e358.at_ e360.at_ (if 400 < (if 0 > x.At then 0 else x.At) then 400 else (if 0 > x.At then 0 else x.At)))) else (some (X00.mk x.Kind 0 e358.at_ e360.at_ (if 400 < (if 0 > x.At then 0 else x.At) then 400 else (if 0 > x.At then 0 else x.At)))) : Option (X00)).bind fun Xpx => bif (!(X7p Xpx x)) then (some (.x1 Xm)) else ((X2i (List.length (m331 ++ [(Xo.mk (k : Int) (IntKind.i64.wrap ((IntKind.i64.wrap (1 + e358.size)) + e360.size)) (if (IntKind.i64.wrap (e360.depth + 1)) > (if (IntKind.i64.wrap (e358.depth + 1)) > 1 then (IntKind.i64.wrap (e358.depth + 1)) else 1) then (IntKind.i64.wrap (e360.depth + 1)) else (if (IntKind.i64.wrap (e358.depth + 1)) > 1 then (IntKind.i64.wrap (e358.depth + 1)) else 1)))])) 24).bind fun u367 => (X2i (List.length (Xm ++ [(Xo.mk (k : Int) (IntKind.i64.wrap ((IntKind.i64.wrap (1 + e358.size)) + e360.size)) (if (IntKind.i64.wrap (e360.depth + 1)) > (if (IntKind.i64.wrap (e358.depth + 1)) > 1 then (IntKind.i64.wrap (e358.depth + 1)) else 1) then (IntKind.i64.wrap (e360.depth + 1)) else (if (IntKind.i64.wrap (e358.depth + 1)) > 1 then (IntKind.i64.wrap (e358.depth + 1)) else 1)))])) 24).bind fun u369 => X2c X5r xs (k + 1) (Xm ++ [(Xo.mk (k : Int) (IntKind.i64.wrap ((IntKind.i64.wrap (1 + e358.size)) + e360.size)) (if (IntKind.i64.wrap (e360.depth + 1)) > (if (IntKind.i64.wrap (e358.depth + 1)) > 1 then (IntKind.i64.wrap (e358.depth + 1)) else 1) then (IntKind.i64.wrap (e360.depth + 1)) else (if (IntKind.i64.wrap (e358.depth + 1)) > 1 then (IntKind.i64.wrap (e358.depth + 1)) else 1)))]) (m331 ++ [(Xo.mk (k : Int) (IntKind.i64.wrap ((IntKind.i64.wrap (1 + e358.size)) + e360.size)) (if (IntKind.i64.wrap (e360.depth + 1)) > (if (IntKind.i64.wrap (e358.depth + 1)) > 1 then (IntKind.i64.wrap (e358.depth + 1)) else 1) then (IntKind.i64.wrap (e360.depth + 1)) else (if (IntKind.i64.wrap (e358.depth + 1)) > 1 then (IntKind.i64.wrap (e358.depth + 1)) else 1)))]))) else none)))
def Xe2 (a0 : (List X00)) : Option ((List Xo) × Bool) :=
 (X5e (List.length a0)).bind fun u1 => (X2c  a0 a0 0 ([] : List Xo) ([] : List Xo)).bind fun o475 => match o475 with | .x0 Xq X0m => (some (Xq, ((List.length X0m : Int) == (1 : Int)))) | .x1 X06 => (some (X06, false))
def Xa6 (a0 : (List X00)) : Option ((List Xo) × Int) :=
 bif (decide ((List.length a0 : Int) > (60 : Int))) then (some (([] : List Xo), 4)) else ((Xe2 a0).bind fun v2 => bif (!v2.2) then (some (([] : List Xo), 8)) else ((X2o v2.1 (IntKind.i64.wrap ((List.length v2.1 : Int) - 1))).bind fun e5 => bif (decide (e5.depth > (20 : Int))) then (some (([] : List Xo), 34)) else (some (v2.1, 0))))
def X5w (a0 : (List X00)) : Option (Int) :=
 (Xa6 a0).bind fun v1 => some v1.2
def X6a (a0 : Int) : Option (Bool) :=
 some (bif (decide (a0 < (0 : Int))) then true else (decide (a0 >= (4 : Int))))
inductive X2b where
 | x0
 | x1 (Xaj : Int)
def X15 (X14 : (List Int)) : List Int -> Nat -> Option X2b
 | [], k => some (.x0)
 | x :: xs, k => (X6a x).bind fun v10 => bif v10 then (some (.x1 (k : Int))) else (X15 X14 xs (k + 1))
def X10 (a0 : (List Int)) : Option (Int) :=
 (X5e (List.length a0)).bind fun u1 => (X15  a0 a0 0).bind fun o13 => match o13 with | .x0 => (some (-1)) | .x1 Xaj => (some Xaj)
def X0b (a0 : (List Int)) : Option (Bool) :=
 (X10 a0).bind fun v1 => some (decide (v1 >= (0 : Int)))
def X3l (l : List Int) : Option Int := (X5e (List.length l)).bind fun _ => some ((X8w [] l).length : Int)
def X2r (a0 : (List Int)) (a1 : Bool) : Option (Int) :=
 bif (decide ((List.length a0 : Int) > (4 : Int))) then (some 4) else ((bif ((List.length a0 : Int) == (0 : Int)) then (some (bif (bif ((List.length a0 : Int) == (0 : Int)) then true else false) then true else false)) else (bif a1 then (bif ((List.length a0 : Int) != (2 : Int)) then (some (bif (bif ((List.length a0 : Int) == (0 : Int)) then true else (bif a1 then ((List.length a0 : Int) != (2 : Int)) else false)) then true else false)) else ((X0b a0).bind fun v13 => some (bif (bif ((List.length a0 : Int) == (0 : Int)) then true else (bif a1 then ((List.length a0 : Int) != (2 : Int)) else false)) then true else v13))) else ((X0b a0).bind fun v15 => some (bif (bif ((List.length a0 : Int) == (0 : Int)) then true else (bif a1 then false else false)) then true else v15))) : Option (Bool)).bind fun X00h => bif X00h then (some 8) else ((X3l a0).bind fun v19 => bif (decide (v19 < (List.length a0 : Int))) then (some 43) else (some 0)))
def X1o (a0 : X0x) : Option (Int) :=
 bif (bif (decide (a0.Size < (1 : Int))) then true else (decide (a0.Size > (1073741824 : Int)))) then (some 8) else (bif (a0.Kind == (2 : Int)) then (bif (bif (bif (decide (a0.Every >= (1 : Int))) then (decide (a0.Every <= a0.Size)) else false) then (decide (a0.Size <= (IntKind.i64.wrap (16 * a0.Every)))) else false) then (some 0) else (some 8)) else (bif (a0.Kind == (1 : Int)) then (bif (a0.Every == (0 : Int)) then (some 0) else (some 8)) else (bif (a0.Kind == (3 : Int)) then (bif (a0.Every == (0 : Int)) then (some 0) else (some 8)) else (some 8))))
def X7t (a0 : Xp) : Option (Int) :=
 bif (bif (bif (decide (a0.Agg < (1 : Int))) then true else (decide (a0.Agg > (4 : Int)))) then true else (bif (a0.Late != (1 : Int)) then (a0.Late != (2 : Int)) else false)) then (some 8) else (bif (a0.Agg != (1 : Int)) then ((X5w a0.Arg).bind fun v3 => bif (v3 != (0 : Int)) then (some v3) else (bif (decide ((List.length a0.Where : Int) > (0 : Int))) then ((X5w a0.Where).bind fun v7 => bif (v7 != (0 : Int)) then (some v7) else ((X2r a0.Sources a0.Join).bind fun v10 => bif (v10 != (0 : Int)) then (some v10) else (bif (bif a0.Join then (a0.Window.Kind != (1 : Int)) else false) then (some 8) else ((X1o a0.Window).bind fun v14 => some v14)))) else ((X2r a0.Sources a0.Join).bind fun v16 => bif (v16 != (0 : Int)) then (some v16) else (bif (bif a0.Join then (a0.Window.Kind != (1 : Int)) else false) then (some 8) else ((X1o a0.Window).bind fun v20 => some v20))))) else (bif (decide ((List.length a0.Arg : Int) > (0 : Int))) then (some 8) else (bif (decide ((List.length a0.Where : Int) > (0 : Int))) then ((X5w a0.Where).bind fun v24 => bif (v24 != (0 : Int)) then (some v24) else ((X2r a0.Sources a0.Join).bind fun v27 => bif (v27 != (0 : Int)) then (some v27) else (bif (bif a0.Join then (a0.Window.Kind != (1 : Int)) else false) then (some 8) else ((X1o a0.Window).bind fun v31 => some v31)))) else ((X2r a0.Sources a0.Join).bind fun v33 => bif (v33 != (0 : Int)) then (some v33) else (bif (bif a0.Join then (a0.Window.Kind != (1 : Int)) else false) then (some 8) else ((X1o a0.Window).bind fun v37 => some v37))))))
inductive X2j where
 | x0
 | x1
def X0p (Xk : (List Bool)) (X6d : (V2 Bool)) (X1k : (List Int)) : List Int -> Nat -> Option X2j
 | [], k => some (.x0)
 | x :: xs, k => (X2o Xk x).bind fun e3011 => bif (!(e3011 == false)) then (some (.x1)) else (X0p Xk X6d X1k xs (k + 1))
inductive X28 where
 | x0
 | x1
def X0r (Xk : (List Bool)) (X1n : (List Int)) : List Int -> Nat -> Option X28
 | [], k => some (.x0)
 | x :: xs, k => (X2o Xk x).bind fun e3127 => bif (!(e3127 == true)) then (some (.x1)) else (X0r Xk X1n xs (k + 1))
inductive X5y where
 | x0 (X0m : (List Bool))
 | x1 (X06 : (List Bool)) (Xbh : Int)
def X24 (X14 : (List X00)) : List X00 -> Nat -> (List Bool) -> Option X5y
 | [], k, Xk => some (.x0 Xk)
 | x :: xs, k, Xk => bif (decide (x.Kind <= (4 : Int))) then ((X2i (List.length (Xk ++ [false])) 1).bind fun u2525 => X24 X14 xs (k + 1) (Xk ++ [false])) else (bif (x.Kind == (5 : Int)) then (((X2o Xk x.A).bind fun e2546 => bif (!(e2546 == false)) then (some (bif (!(bif true then false else false)) then (!(bif false then false else false)) else false)) else (some (bif (!(bif true then true else false)) then false else false)) : Option (Bool)).bind fun Xmq => bif Xmq then (some (.x1 ([] : List Bool) (k : Int))) else ((X2i (List.length (Xk ++ [false])) 1).bind fun u2551 => X24 X14 xs (k + 1) (Xk ++ [false]))) else (bif (x.Kind == (6 : Int)) then (((X2o Xk x.A).bind fun e2571 => bif (!(e2571 == true)) then (some false) else (some true) : Option (Bool)).bind fun Xmp => bif (bif (!(bif false then false else false)) then (!(bif true then Xmp else false)) else false) then (some (.x1 ([] : List Bool) (k : Int))) else ((X2i (List.length (Xk ++ [true])) 1).bind fun u2576 => X24 X14 xs (k + 1) (Xk ++ [true]))) else ((bif (decide (x.Kind <= (11 : Int))) then (some ((V2.mk true false), false)) else (bif (decide (x.Kind <= (15 : Int))) then (some ((V2.mk true false), true)) else (bif (decide (x.Kind <= (17 : Int))) then (some ((V2.mk true true), true)) else (some ((V2.mk false true), true)))) : Option ((V2 Bool) × Bool)).bind fun w2581 => (bif w2581.1.e0 then (((X5e (List.length [x.A, x.B])).bind fun u2980 => (X0p  Xk w2581.1 [x.A, x.B] [x.A, x.B] 0).bind fun o3016 => match o3016 with | .x0 => (some true) | .x1 => (some false) : Option (Bool)).bind fun Xcl => bif (!(bif w2581.1.e0 then Xcl else false)) then (bif w2581.1.e1 then (((X5e (List.length [x.A, x.B])).bind fun u3096 => (X0r  Xk [x.A, x.B] [x.A, x.B] 0).bind fun o3132 => match o3132 with | .x0 => (some true) | .x1 => (some false) : Option (Bool)).bind fun Xmn => some (bif (!(bif w2581.1.e0 then Xcl else false)) then (!(bif w2581.1.e1 then Xmn else false)) else false)) else (some (bif (!(bif w2581.1.e0 then Xcl else false)) then (!(bif w2581.1.e1 then false else false)) else false))) else (some (bif (!(bif w2581.1.e0 then Xcl else false)) then false else false))) else (bif (!(bif w2581.1.e0 then false else false)) then (bif w2581.1.e1 then (((X5e (List.length [x.A, x.B])).bind fun u3192 => (X0r  Xk [x.A, x.B] [x.A, x.B] 0).bind fun o3218 => match o3218 with | .x0 => (some true) | .x1 => (some false) : Option (Bool)).bind fun Xmm => some (bif (!(bif w2581.1.e0 then false else false)) then (!(bif w2581.1.e1 then Xmm else false)) else false)) else (some (bif (!(bif w2581.1.e0 then false else false)) then (!(bif w2581.1.e1 then false else false)) else false))) else (some (bif (!(bif w2581.1.e0 then false else false)) then false else false))) : Option (Bool)).bind fun Xmo => bif Xmo then (some (.x1 ([] : List Bool) (k : Int))) else ((X2i (List.length (Xk ++ [w2581.2])) 1).bind fun u3223 => X24 X14 xs (k + 1) (Xk ++ [w2581.2])))))
def Xe6 (a0 : (List X00)) : Option ((List Bool) × Int) :=
 (X5e (List.length a0)).bind fun u1 => (X24  a0 a0 0 ([] : List Bool)).bind fun o3784 => match o3784 with | .x0 X0m => (some (X0m, (List.length a0 : Int))) | .x1 X06 Xbh => (some (X06, Xbh))
def Xe7 (a0 : (List X00)) : Option (Bool × Int × Int) :=
 (X5w a0).bind fun v1 => bif (v1 != (0 : Int)) then (some (false, 0, v1)) else ((Xe6 a0).bind fun v4 => bif (decide (v4.2 < (List.length a0 : Int))) then (some (false, v4.2, 42)) else ((X2o v4.1 (IntKind.i64.wrap (v4.2 - 1))).bind fun e7 => some (e7, (IntKind.i64.wrap (v4.2 - 1)), 0)))
def X9i (a0 : (List X00)) (a1 : Bool) : Option (Int × Int) :=
 (Xe7 a0).bind fun v1 => (bif (bif (v1.2.2 == (0 : Int)) then (!(v1.1 == a1)) else false) then (some 42) else (some v1.2.2) : Option (Int)).bind fun j4_8 => some (v1.2.1, j4_8)
def Xac (a0 : (List X00)) : Option (Int × Int) :=
 (X9i a0 true).bind fun v1 => some (v1.1, v1.2)
def Xau (a0 : (List X00)) : Option (Int × Int) :=
 (X9i a0 false).bind fun v1 => some (v1.1, v1.2)
def X8x (a0 : Xp) : Option (Int × Int) :=
 (X7t a0).bind fun v1 => bif (v1 != (0 : Int)) then (some (0, v1)) else ((bif ((List.length a0.Arg : Int) == (0 : Int)) then (bif ((List.length a0.Where : Int) == (0 : Int)) then (some (0, 0)) else ((Xac a0.Where).bind fun v25 => bif (v25.2 != (0 : Int)) then ((X2o a0.Where v25.1).bind fun e28 => some (e28.At, v25.2)) else (some (0, 0)))) else ((Xau a0.Arg).bind fun v30 => bif (v30.2 != (0 : Int)) then ((X2o a0.Arg v30.1).bind fun e33 => some (e33.At, v30.2)) else (bif ((List.length a0.Where : Int) == (0 : Int)) then (some (0, 0)) else ((Xac a0.Where).bind fun v36 => bif (v36.2 != (0 : Int)) then ((X2o a0.Where v36.1).bind fun e39 => some (e39.At, v36.2)) else (some (0, 0))))) : Option (Int × Int)).bind fun w22 => some (w22.1, w22.2))
def Xbt (a0 : Int) : Option (Bool) :=
 some (bif (decide (a0 >= ((-1099511627776) : Int))) then (decide (a0 <= (1099511627776 : Int))) else false)
inductive X7l where
 | x0
 | x1
def X55 (X4q : (List Xi)) : List Xi -> Nat -> Option X7l
 | [], k => some (.x0)
 | x :: xs, k => (bif (X4o x.Record (Xj.mk 0 0 0)) then ((Xbt x.Time).bind fun v49 => bif v49 then (some (bif (X4o x.Record (Xj.mk 0 0 0)) then (bif v49 then true else false) else false)) else (some (bif (X4o x.Record (Xj.mk 0 0 0)) then (bif v49 then true else (x.Time == (9223372036854775807 : Int))) else false))) else (some (bif (X4o x.Record (Xj.mk 0 0 0)) then false else false)) : Option (Bool)).bind fun Xxp => (bif (x.Time == (0 : Int)) then ((Xbt x.Record.Time).bind fun v58 => some (bif (x.Time == (0 : Int)) then v58 else false)) else (some (bif (x.Time == (0 : Int)) then false else false)) : Option (Bool)).bind fun X00k => bif (bif (bif x.Mark then (!Xxp) else false) then true else (bif (!x.Mark) then (!X00k) else false)) then (some (.x1)) else (X55 X4q xs (k + 1))
def X8e (a0 : (List Xi)) : Option (Int) :=
 bif (decide ((List.length a0 : Int) > (60 : Int))) then (some 4) else ((X5e (List.length a0)).bind fun u2 => (X55  a0 a0 0).bind fun o62 => match o62 with | .x0 => (some 0) | .x1 => (some 8))
inductive X51 where
 | x0
 | x1 (X4r : Int)
def X30 (Xlu : (List (List Xi))) : List (List Xi) -> Nat -> Option X51
 | [], k => some (.x0)
 | x :: xs, k => (X8e x).bind fun v10 => bif (v10 != (0 : Int)) then (some (.x1 v10)) else (X30 Xlu xs (k + 1))
def X5d (a0 : (List (List Xi))) : Option (Int) :=
 (X5e (List.length a0)).bind fun u1 => (X30  a0 a0 0).bind fun o13 => match o13 with | .x0 => (some 0) | .x1 X4r => (some X4r)
inductive Xab where
 | x0 (Xq : (List Xj)) (X0m : (List Xj))
def X47 (Xd8 : (List Xi)) : List Xi -> Nat -> (List Xj) -> (List Xj) -> Int -> Option Xab
 | [], k, Xm, Xk, X6d => some (.x0 Xm Xk)
 | x :: xs, k, Xm, Xk, X6d => (bif x.Mark then (some (if x.Time > X6d then x.Time else X6d)) else (some X6d) : Option (Int)).bind fun Xmv => (bif x.Mark then (some (Xm, Xk)) else (bif (decide (x.Record.Time < X6d)) then ((X2i (List.length (Xk ++ [x.Record])) 24).bind fun u200 => some (Xm, (Xk ++ [x.Record]))) else ((X2i (List.length (Xm ++ [x.Record])) 24).bind fun u202 => some ((Xm ++ [x.Record]), Xk))) : Option ((List Xj) × (List Xj))).bind fun w197 => X47 Xd8 xs (k + 1) w197.1 w197.2 Xmv
def Xbu (a0 : (List Xi)) : Option ((List Xj) × (List Xj) × Int) :=
 (X8e a0).bind fun v1 => bif (v1 != (0 : Int)) then (some (([] : List Xj), ([] : List Xj), v1)) else ((X5e (List.length a0)).bind fun u4 => (X47  a0 a0 0 ([] : List Xj) ([] : List Xj) (-9223372036854775808)).bind fun o271 => match o271 with | .x0 Xq X0m => (some (Xq, X0m, 0)))
def Xcp (a0 : (List X00)) : Option (Int) :=
 (Xe7 a0).bind fun v1 => some v1.2.2
def X42 (a0 : Bool) : Option (Int) :=
 bif a0 then (some 1) else (some 0)
def Xgq (a0 : Int) (a1 : Int) (a2 : Int) : Option (Int × Int) :=
 bif (a0 == (5 : Int)) then (some ((IntKind.i64.wrap (0 - a1)), 0)) else (bif (a0 == (6 : Int)) then ((X42 (a1 == (0 : Int))).bind fun v3 => some (v3, 0)) else (bif (a0 == (7 : Int)) then (some ((IntKind.i64.wrap (a1 * a2)), 0)) else (bif (a0 == (8 : Int)) then (some ((IntKind.i64.wrap (a1 + a2)), 0)) else (bif (a0 == (9 : Int)) then (some ((IntKind.i64.wrap (a1 - a2)), 0)) else (bif (a0 == (10 : Int)) then ((shOk (bits .and IntKind.i64 a2 63)).bind fun u9 => some ((IntKind.i64.wrap (a1 * 2 ^ (min (Int.toNat (bits .and IntKind.i64 a2 63)) IntKind.i64.bits))), 0)) else (bif (a0 == (11 : Int)) then ((shOk (bits .and IntKind.i64 a2 63)).bind fun u12 => some ((Int.fdiv a1 (2 ^ (min (Int.toNat (bits .and IntKind.i64 a2 63)) IntKind.i64.bits))), 0)) else (bif (a0 == (12 : Int)) then ((X42 (decide (a1 < a2))).bind fun v15 => some (v15, 0)) else (bif (a0 == (13 : Int)) then ((X42 (decide (a1 <= a2))).bind fun v18 => some (v18, 0)) else (bif (a0 == (14 : Int)) then ((X42 (decide (a1 > a2))).bind fun v21 => some (v21, 0)) else (bif (a0 == (15 : Int)) then ((X42 (decide (a1 >= a2))).bind fun v24 => some (v24, 0)) else (bif (a0 == (16 : Int)) then ((X42 (a1 == a2)).bind fun v27 => some (v27, 0)) else (bif (a0 == (17 : Int)) then ((X42 (a1 != a2)).bind fun v30 => some (v30, 0)) else (bif (a0 == (18 : Int)) then ((X42 (bif (a1 != (0 : Int)) then (a2 != (0 : Int)) else false)).bind fun v33 => some (v33, 0)) else (bif (a0 == (19 : Int)) then ((X42 ((bits .or IntKind.i64 a1 a2) != (0 : Int))).bind fun v36 => some (v36, 0)) else (some (0, 2))))))))))))))))
inductive X8r where
 | x0 (Xq : (List Int))
 | x1 (X06 : (List Int)) (Xbg : Int)
def X62 (Xm : (V5 Int)) (X82 : (List X00)) : List X00 -> Nat -> (List Int) -> Option X8r
 | [], k, Xk => some (.x0 Xk)
 | x :: xs, k, Xk => bif (x.Kind == (1 : Int)) then ((X2o Xk (k : Int)).bind fun e151 => X62 Xm X82 xs (k + 1) (List.set Xk (Int.toNat (k : Int)) x.N)) else (bif (decide (x.Kind <= (4 : Int))) then ((bif (x.Kind == (0 : Int)) then ((X2o Xk (k : Int)).bind fun e168 => some (List.set Xk (Int.toNat (k : Int)) Xm.e0)) else (bif (x.Kind == (2 : Int)) then ((X2o Xk (k : Int)).bind fun e171 => some (List.set Xk (Int.toNat (k : Int)) Xm.e2)) else (bif (x.Kind == (3 : Int)) then ((X2o Xk (k : Int)).bind fun e174 => some (List.set Xk (Int.toNat (k : Int)) Xm.e3)) else (bif (x.Kind == (4 : Int)) then ((X2o Xk (k : Int)).bind fun e177 => some (List.set Xk (Int.toNat (k : Int)) Xm.e4)) else none))) : Option ((List Int))).bind fun Xjp => X62 Xm X82 xs (k + 1) Xjp) else ((X2o Xk x.A).bind fun e180 => (X2o Xk x.B).bind fun e182 => (Xgq x.Kind e180 e182).bind fun v184 => bif (v184.2 != (0 : Int)) then (some (.x1 ([] : List Int) v184.2)) else ((X2o Xk (k : Int)).bind fun e187 => X62 Xm X82 xs (k + 1) (List.set Xk (Int.toNat (k : Int)) v184.1))))
inductive X6s where
 | x0 (Xq : (List Int))
 | x1 (X06 : (List Int)) (Xbg : Int)
def X2p (Xm : (V5 Int)) (X82 : (List X00)) : List X00 -> Nat -> (List Int) -> Option X6s
 | [], k, Xk => some (.x0 Xk)
 | x :: xs, k, Xk => bif (x.Kind == (1 : Int)) then ((X2o Xk (k : Int)).bind fun e304 => X2p Xm X82 xs (k + 1) (List.set Xk (Int.toNat (k : Int)) x.N)) else (bif (decide (x.Kind <= (4 : Int))) then ((bif (x.Kind == (0 : Int)) then ((X2o Xk (k : Int)).bind fun e321 => some (List.set Xk (Int.toNat (k : Int)) Xm.e0)) else (bif (x.Kind == (2 : Int)) then ((X2o Xk (k : Int)).bind fun e324 => some (List.set Xk (Int.toNat (k : Int)) Xm.e2)) else (bif (x.Kind == (3 : Int)) then ((X2o Xk (k : Int)).bind fun e327 => some (List.set Xk (Int.toNat (k : Int)) Xm.e3)) else (bif (x.Kind == (4 : Int)) then ((X2o Xk (k : Int)).bind fun e330 => some (List.set Xk (Int.toNat (k : Int)) Xm.e4)) else none))) : Option ((List Int))).bind fun Xml => X2p Xm X82 xs (k + 1) Xml) else ((X2o Xk x.A).bind fun e333 => (X2o Xk x.B).bind fun e335 => (Xgq x.Kind e333 e335).bind fun v337 => bif (v337.2 != (0 : Int)) then (some (.x1 ([] : List Int) v337.2)) else ((X2o Xk (k : Int)).bind fun e340 => X2p Xm X82 xs (k + 1) (List.set Xk (Int.toNat (k : Int)) v337.1))))
def Xg1 (a0 : (List X00)) (a1 : Xj) : Option ((List Int) × Int) :=
 (Xcp a0).bind fun v1 => bif (v1 != (0 : Int)) then (some (([] : List Int), v1)) else ((mkOk (List.length a0 : Int) (List.length a0 : Int) 8).bind fun u4 => bif ((List.length a0 : Int) == (0 : Int)) then ((X5e (List.length a0)).bind fun u7 => (X62  (V5.mk 0 0 a1.Key a1.Time a1.Value) a0 a0 0 (List.replicate (Int.toNat (List.length a0 : Int)) 0)).bind fun o220 => match o220 with | .x0 Xq => (some (Xq, 0)) | .x1 X06 Xbg => (some (X06, Xbg))) else ((X5e (List.length a0)).bind fun u222 => (X2p  (V5.mk 0 0 a1.Key a1.Time a1.Value) a0 a0 0 (List.replicate (Int.toNat (List.length a0 : Int)) 0)).bind fun o342 => match o342 with | .x0 Xq => (some (Xq, 0)) | .x1 X06 Xbg => (some (X06, Xbg))))
def X68 (a0 : (List X00)) (a1 : Xj) : Option (Int × Int) :=
 (Xg1 a0 a1).bind fun v1 => bif (v1.2 != (0 : Int)) then (some (0, v1.2)) else ((X2o v1.1 (IntKind.i64.wrap ((List.length v1.1 : Int) - 1))).bind fun e4 => some (e4, 0))
def X6j (a0 : Xp) (a1 : Xj) : Option (Xj × Bool) :=
 bif (decide ((List.length a0.Where : Int) > (0 : Int))) then ((X68 a0.Where a1).bind fun v2 => bif (bif (v2.2 != (0 : Int)) then true else (v2.1 == (0 : Int))) then (some ((Xj.mk 0 0 0), false)) else ((bif a0.ByKey then (some (Xj.mk a1.Key a1.Time 0)) else (some (Xj.mk 0 a1.Time 0)) : Option (Xj)).bind fun Xmj => (bif (a0.Agg != (1 : Int)) then ((X68 a0.Arg a1).bind fun v14 => some (Xj.mk Xmj.Key Xmj.Time v14.1)) else (some Xmj) : Option (Xj)).bind fun Xlm => some (Xlm, true))) else ((bif a0.ByKey then (some (Xj.mk a1.Key a1.Time 0)) else (some (Xj.mk 0 a1.Time 0)) : Option (Xj)).bind fun Xoi => (bif (a0.Agg != (1 : Int)) then ((X68 a0.Arg a1).bind fun v26 => some (Xj.mk Xoi.Key Xoi.Time v26.1)) else (some Xoi) : Option (Xj)).bind fun Xrm => some (Xrm, true))
def X3p (a0 : X1j) : Option (Int) :=
 (bif (a0.Count == (0 : Int)) then (some (Xtt a0 (X1j.mk 0 0 0 0))) else (bif (a0.Count == (1 : Int)) then (some (bif (a0.Sum == a0.Min) then (a0.Sum == a0.Max) else false)) else (bif (bif (decide (a0.Count > (1 : Int))) then (decide (a0.Count <= (1073741824 : Int))) else false) then (some (decide (a0.Min <= a0.Max))) else (some false))) : Option (Bool)).bind fun j4_3 => bif (!j4_3) then (some 8) else (some 0)
def X9q (a0 : Xb) : Option (Bool) :=
 bif (bif (bif (decide (a0.Span.Start < ((-1100585369600) : Int))) then true else (decide (a0.Span.End <= a0.Span.Start))) then true else (decide (a0.Span.End > (1100585369600 : Int)))) then (some false) else (((X3p a0.Values.e0).bind fun v9 => bif (v9 == (0 : Int)) then ((X3p a0.Values.e1).bind fun v12 => bif (v12 == (0 : Int)) then (some (bif (bif (v9 == (0 : Int)) then (v12 == (0 : Int)) else false) then (decide ((IntKind.i64.wrap (a0.Values.e0.Count + a0.Values.e1.Count)) > (0 : Int))) else false)) else (some (bif (bif (v9 == (0 : Int)) then (v12 == (0 : Int)) else false) then false else false))) else (some (bif (bif (v9 == (0 : Int)) then false else false) then false else false)) : Option (Bool)).bind fun j8_2 => some j8_2)
def X63 (a0 : Int) : Option (Bool) :=
 some (a0 != a0)
def X36 (a0 : Int) (a1 : Int) : Option (Int) :=
 (X63 a0).bind fun v1 => (X63 a1).bind fun v3 => bif v1 then (bif v3 then (some 0) else (some (-1))) else (bif v3 then (some 1) else (bif (decide (a0 < a1)) then (some (-1)) else (bif (decide (a0 > a1)) then (some 1) else (some 0))))
inductive X7r where
 | x0
 | x1 (X4r : Int)
def X69 (Xlu : (List Int)) : List Int -> Nat -> Option X7r
 | [], k => some (.x0)
 | x :: xs, k => bif (x != (0 : Int)) then (some (.x1 x)) else (X69 Xlu xs (k + 1))
def Xed (a0 : (List Int)) : Option (Int) :=
 (X5e (List.length a0)).bind fun u1 => (X69  a0 a0 0).bind fun o7 => match o7 with | .x0 => (some 0) | .x1 X4r => (some X4r)
def X6t (a0 : Xb) (a1 : Xb) : Option (Int) :=
 (X36 a0.Span.End a1.Span.End).bind fun v1 => (X36 a0.Span.Start a1.Span.Start).bind fun v3 => (X36 a0.Key a1.Key).bind fun v5 => (Xed [v1, v3, v5]).bind fun v7 => some v7
inductive X6l where
 | x0
 | x1
def X4d (X14 : (List Xb)) : List Xb -> Nat -> Option X6l
 | [], k => some (.x0)
 | x :: xs, k => ((X9q x).bind fun v52 => bif (!v52) then (some true) else (bif (decide ((k : Int) > (0 : Int))) then ((X2o X14 (IntKind.i64.wrap ((k : Int) - 1))).bind fun e56 => (X6t e56 x).bind fun v58 => some (bif (!v52) then true else (bif (decide ((k : Int) > (0 : Int))) then (decide (v58 >= (0 : Int))) else false))) else (some (bif (!v52) then true else false))) : Option (Bool)).bind fun Xvh => bif Xvh then (some (.x1)) else (X4d X14 xs (k + 1))
def X9r (a0 : (List Xb)) : Option (Int) :=
 bif (decide ((List.length a0 : Int) > (4000 : Int))) then (some 4) else ((X5e (List.length a0)).bind fun u2 => (X4d  a0 a0 0).bind fun o62 => match o62 with | .x0 => (some 0) | .x1 => (some 8))
def Xag (a0 : Int) : Option (X1j) :=
 some (X1j.mk 1 a0 a0 a0)
def X45 (a0 : Int) (a1 : Int) : Option (Int) :=
 bif (bif (decide (a1 < (1 : Int))) then true else (decide (a1 > (1073741824 : Int)))) then (some 2) else (bif (bif (decide (a0 < ((-1099511627776) : Int))) then true else (decide (a0 > (1099511627776 : Int)))) then (some 16) else (some 0))
def Xh9 : List Int := [0, 1, 2, 2, 3, 3, 3, 3, 4, 4, 4, 4, 4, 4, 4, 4, 5, 5, 5, 5, 5, 5, 5, 5, 5, 5, 5, 5, 5, 5, 5, 5, 6, 6, 6, 6, 6, 6, 6, 6, 6, 6, 6, 6, 6, 6, 6, 6, 6, 6, 6, 6, 6, 6, 6, 6, 6, 6, 6, 6, 6, 6, 6, 6, 7, 7, 7, 7, 7, 7, 7, 7, 7, 7, 7, 7, 7, 7, 7, 7, 7, 7, 7, 7, 7, 7, 7, 7, 7, 7, 7, 7, 7, 7, 7, 7, 7, 7, 7, 7, 7, 7, 7, 7, 7, 7, 7, 7, 7, 7, 7, 7, 7, 7, 7, 7, 7, 7, 7, 7, 7, 7, 7, 7, 7, 7, 7, 7, 8, 8, 8, 8, 8, 8, 8, 8, 8, 8, 8, 8, 8, 8, 8, 8, 8, 8, 8, 8, 8, 8, 8, 8, 8, 8, 8, 8, 8, 8, 8, 8, 8, 8, 8, 8, 8, 8, 8, 8, 8, 8, 8, 8, 8, 8, 8, 8, 8, 8, 8, 8, 8, 8, 8, 8, 8, 8, 8, 8, 8, 8, 8, 8, 8, 8, 8, 8, 8, 8, 8, 8, 8, 8, 8, 8, 8, 8, 8, 8, 8, 8, 8, 8, 8, 8, 8, 8, 8, 8, 8, 8, 8, 8, 8, 8, 8, 8, 8, 8, 8, 8, 8, 8, 8, 8, 8, 8, 8, 8, 8, 8, 8, 8, 8, 8, 8, 8, 8, 8, 8, 8, 8, 8, 8, 8, 8, 8]
def Xaa (a0 : Int) : Option (Int) :=
 (bif (decide (a0 >= (4294967296 : Int))) then (some ((Int.fdiv a0 (2 ^ (min (Int.toNat 32) IntKind.u64.bits))), 32)) else (some (a0, 0)) : Option (Int × Int)).bind fun w2 => (bif (decide (w2.1 >= (65536 : Int))) then (some ((Int.fdiv w2.1 (2 ^ (min (Int.toNat 16) IntKind.u64.bits))), (IntKind.i64.wrap (w2.2 + 16)))) else (some (w2.1, w2.2)) : Option (Int × Int)).bind fun w6 => (bif (decide (w6.1 >= (256 : Int))) then (some ((Int.fdiv w6.1 (2 ^ (min (Int.toNat 8) IntKind.u64.bits))), (IntKind.i64.wrap (w6.2 + 8)))) else (some (w6.1, w6.2)) : Option (Int × Int)).bind fun w10 => (X2o Xh9 (IntKind.u8.wrap w10.1)).bind fun b13 => some (IntKind.i64.wrap (w10.2 + (IntKind.i64.wrap b13)))
def X99 (a0 : Int) : Option (Int) :=
 (Xaa a0).bind fun v1 => some v1
inductive X1i where
 | x0 (Xej : Int)
def X07 (X14 : (List Xb)) (Xm : Xb) (Xr0 : Int) : Nat -> Int -> Int -> Option X1i
 | 0, _, _ => none
 | n + 1, Xu6, X4q => bif (decide (Xu6 < X4q)) then ((X2o X14 (IntKind.i64.wrap (Int.fdiv (IntKind.u64.wrap (IntKind.i64.wrap (Xu6 + X4q))) (2 ^ (min (Int.toNat 1) IntKind.u64.bits))))).bind fun e15 => (X6t e15 Xm).bind fun v17 => bif (decide (v17 < (0 : Int))) then (X07 X14 Xm Xr0 n (IntKind.i64.wrap ((IntKind.i64.wrap (Int.fdiv (IntKind.u64.wrap (IntKind.i64.wrap (Xu6 + X4q))) (2 ^ (min (Int.toNat 1) IntKind.u64.bits)))) + 1)) X4q) else (X07 X14 Xm Xr0 n Xu6 (IntKind.i64.wrap (Int.fdiv (IntKind.u64.wrap (IntKind.i64.wrap (Xu6 + X4q))) (2 ^ (min (Int.toNat 1) IntKind.u64.bits)))))) else (some (.x0 Xu6))
def Xr (a0 : (List Xb)) (a1 : Xb) : Option (Int × Bool) :=
 (X07  a0 a1 (List.length a0 : Int) FU 0 (List.length a0 : Int)).bind fun o20 => match o20 with | .x0 Xej => ((bif (decide (Xej < (List.length a0 : Int))) then ((X2o a0 Xej).bind fun e29 => (X6t e29 a1).bind fun v31 => some (bif (decide (Xej < (List.length a0 : Int))) then (v31 == (0 : Int)) else false)) else (some false) : Option (Bool)).bind fun X00x => some (Xej, X00x))
def X2s (a0 : X1j) (a1 : X1j) : Option (X1j × Int) :=
 ((X3p a0).bind fun v7 => bif (v7 != (0 : Int)) then (some (bif (v7 != (0 : Int)) then true else false)) else ((X3p a1).bind fun v10 => some (bif (v7 != (0 : Int)) then true else (v10 != (0 : Int)))) : Option (Bool)).bind fun X00j => bif X00j then (some ((X1j.mk 0 0 0 0), 8)) else (bif (decide ((IntKind.i64.wrap (a0.Count + a1.Count)) > (1073741824 : Int))) then (some ((X1j.mk 0 0 0 0), 4)) else (bif (a0.Count == (0 : Int)) then (some (a1, 0)) else (bif (a1.Count == (0 : Int)) then (some (a0, 0)) else (some ((X1j.mk (IntKind.i64.wrap (a0.Count + a1.Count)) (IntKind.i64.wrap (a0.Sum + a1.Sum)) (if a1.Min < a0.Min then a1.Min else a0.Min) (if a1.Max > a0.Max then a1.Max else a0.Max)), 0)))))
def Xan (a0 : Int) (a1 : Int) : Option (Int) :=
 bif (bif (decide (a1 < (1 : Int))) then true else (decide (a1 > (1073741824 : Int)))) then (some 2) else (bif (bif (decide (a0 < ((-1099511627776) : Int))) then true else (decide (a0 > (1099511627776 : Int)))) then (some 16) else (some 0))
def X7d (a0 : Int) (a1 : Int) : Option (Int × Int) :=
 (Xan a0 a1).bind fun v1 => bif (v1 != (0 : Int)) then (some (0, v1)) else ((Xwb a1).bind fun u4 => (bif (decide ((Int.tmod a0 a1) < (0 : Int))) then (some (IntKind.i64.wrap ((IntKind.i64.wrap (Int.tdiv a0 a1)) - 1))) else (some (IntKind.i64.wrap (Int.tdiv a0 a1))) : Option (Int)).bind fun j7_7 => some (j7_7, 0))
def Xbj (a0 : Int) (a1 : Int) : Option (X13 × Int) :=
 (X7d a0 a1).bind fun v1 => bif (v1.2 != (0 : Int)) then (some ((X13.mk 0 0), v1.2)) else (some ((X13.mk (IntKind.i64.wrap (v1.1 * a1)) (IntKind.i64.wrap ((IntKind.i64.wrap (v1.1 + 1)) * a1))), 0))
inductive Xb2 where
 | x0 (Xq : (List X13))
def X5u (X14 : Int) (Xf9 : Int) (y0_2 : Int) : Nat -> (List X13) -> Int -> Option Xb2
 | 0, _, _ => none
 | n + 1, Xm, Xin => bif (decide ((IntKind.i64.wrap (Xin + Xf9)) > X14)) then ((X2i (List.length (Xm ++ [(X13.mk Xin (IntKind.i64.wrap (Xin + Xf9)))])) 16).bind fun u19 => X5u X14 Xf9 y0_2 n (Xm ++ [(X13.mk Xin (IntKind.i64.wrap (Xin + Xf9)))]) (IntKind.i64.wrap (Xin - y0_2))) else (some (.x0 Xm))
inductive X88 where
 | x0 (X2y : (List X13)) (Xd5 : (List X13))
def X3u (X1n : (List X13)) : Nat -> (List X13) -> Int -> Option X88
 | 0, _, _ => none
 | n + 1, X1k, Xlv => bif (decide (Xlv >= (0 : Int))) then ((X2o X1n Xlv).bind fun e68 => (X2i (List.length (X1k ++ [e68])) 16).bind fun u72 => X3u X1n n (X1k ++ [e68]) (IntKind.i64.wrap (Xlv - 1))) else (some (.x0 X1k X1n))
def Xdb (a0 : Int) (a1 : Int) (a2 : Int) : Option ((List X13) × Int) :=
 bif (bif (bif (bif (decide ((if a2 < a1 then a2 else a1) < (1 : Int))) then true else (decide (a1 > (1073741824 : Int)))) then true else (decide (a2 > a1))) then true else (decide (a1 > (IntKind.i64.wrap (16 * a2))))) then (some (([] : List X13), 2)) else ((Xbj a0 a2).bind fun v2 => bif (v2.2 != (0 : Int)) then (some (([] : List X13), v2.2)) else ((X5u  a0 a1 a2 FU ([] : List X13) v2.1.Start).bind fun o24 => match o24 with | .x0 Xq => ((X3u  Xq FU ([] : List X13) (IntKind.i64.wrap ((List.length Xq : Int) - 1))).bind fun o87 => match o87 with | .x0 X2y Xd5 => (some (X2y, 0)))))
def Xfe (a0 : X0x) (a1 : Int) : Option ((List X13) × Int) :=
 (X1o a0).bind fun v1 => bif (v1 != (0 : Int)) then (some (([] : List X13), v1)) else (bif (a0.Kind == (1 : Int)) then ((Xbj a1 a0.Size).bind fun v5 => bif (v5.2 != (0 : Int)) then (some (([] : List X13), v5.2)) else (some ([v5.1], 0))) else (bif (a0.Kind == (2 : Int)) then ((Xdb a1 a0.Size a0.Every).bind fun v9 => some (v9.1, v9.2)) else (some (([] : List X13), 2))))
inductive X0j where
 | x0
 | x1 (Xaj : Int)
def Xs (X1k : (List Xb)) (X1n : Xb) : List Xb -> Nat -> Option X0j
 | [], k => some (.x0)
 | x :: xs, k => bif (bif (bif (x.Key == X1n.Key) then (decide (x.Span.Start < X1n.Span.End)) else false) then (decide (X1n.Span.Start < x.Span.End)) else false) then (some (.x1 (k : Int))) else (Xs X1k X1n xs (k + 1))
inductive X4e where
 | x0 (X2y : (List Xb)) (Xak : Int)
def X21 : Nat -> (List Xb) -> Xb -> Option X4e
 | 0, _, _ => none
 | n + 1, X1k, X1n => ((X5e (List.length X1k)).bind fun u1330 => (Xs  X1k X1n X1k 0).bind fun o1342 => match o1342 with | .x0 => (some (-1)) | .x1 Xaj => (some Xaj) : Option (Int)).bind fun Xe8 => bif (decide (Xe8 < (0 : Int))) then (((Xr X1k X1n).bind fun v1393 => bif (!v1393.2) then (bif (v1393.1 == (List.length X1k : Int)) then (((X7f X1k v1393.1 (List.length X1k : Int)).bind fun m1405 => bif (List.isEmpty m1405) then ((X2i (List.length (X1k ++ [X1n])) 88).bind fun u1408 => some ()) else ((X2i (List.length (X1k ++ [X1n])) 88).bind fun u1410 => some ()) : Option (Unit)).bind fun _ => some ((X1k ++ [X1n]), 0)) else ((Xt2 X1k v1393.1 X1n 88).bind fun m1413 => some (m1413, 0))) else ((X2o X1k v1393.1).bind fun e1415 => ((X2s e1415.Values.e0 X1n.Values.e0).bind fun v1430 => bif (v1430.2 != (0 : Int)) then (some (X1k, v1430.2)) else ((X2s (((Xb.mk e1415.Key e1415.Span (V2.mk v1430.1 e1415.Values.e1)).Values).e1) X1n.Values.e1).bind fun v1435 => bif (v1435.2 != (0 : Int)) then (some ((List.set X1k (Int.toNat v1393.1) (Xb.mk e1415.Key e1415.Span (V2.mk v1430.1 e1415.Values.e1))), v1435.2)) else (some ((List.set (List.set X1k (Int.toNat v1393.1) (Xb.mk e1415.Key e1415.Span (V2.mk v1430.1 e1415.Values.e1))) (Int.toNat v1393.1) (Xb.mk ((Xb.mk e1415.Key e1415.Span (V2.mk v1430.1 e1415.Values.e1)).Key) ((Xb.mk e1415.Key e1415.Span (V2.mk v1430.1 e1415.Values.e1)).Span) (V2.mk (((Xb.mk e1415.Key e1415.Span (V2.mk v1430.1 e1415.Values.e1)).Values).e0) v1435.1))), 0))) : Option ((List Xb) × Int)).bind fun w1427 => some (w1427.1, w1427.2)) : Option ((List Xb) × Int)).bind fun w1392 => some (.x0 w1392.1 w1392.2)) else ((X2o X1k Xe8).bind fun e1440 => ((X2s X1n.Values.e0 e1440.Values.e0).bind fun v1455 => bif (v1455.2 != (0 : Int)) then (some (X1n, v1455.2)) else ((X2s X1n.Values.e1 e1440.Values.e1).bind fun v1460 => bif (v1460.2 != (0 : Int)) then (some ((Xb.mk X1n.Key X1n.Span (V2.mk v1455.1 X1n.Values.e1)), v1460.2)) else (some ((Xb.mk X1n.Key X1n.Span (V2.mk v1455.1 v1460.1)), 0))) : Option (Xb × Int)).bind fun w1452 => bif (w1452.2 != (0 : Int)) then (some (.x0 ([] : List Xb) w1452.2)) else ((delI X1k Xe8).bind fun m1465 => X21 n m1465 (Xb.mk w1452.1.Key (X13.mk (if e1440.Span.Start < w1452.1.Span.Start then e1440.Span.Start else w1452.1.Span.Start) (if e1440.Span.End > w1452.1.Span.End then e1440.Span.End else w1452.1.Span.End)) w1452.1.Values)))
inductive X8o where
 | x0 (Xq : (List Xb))
 | x1 (X06 : (List Xb)) (Xil : Int)
def X4w (Xg7 : (List X13)) : List X13 -> Nat -> Xb -> (List Xb) -> Option X8o
 | [], k, Xm, Xk => some (.x0 Xk)
 | x :: xs, k, Xm, Xk => ((Xr Xk (Xb.mk Xm.Key x Xm.Values)).bind fun v1891 => bif (!v1891.2) then (bif (v1891.1 == (List.length Xk : Int)) then (((X7f Xk v1891.1 (List.length Xk : Int)).bind fun m1903 => bif (List.isEmpty m1903) then ((X2i (List.length (Xk ++ [(Xb.mk Xm.Key x Xm.Values)])) 88).bind fun u1906 => some ()) else ((X2i (List.length (Xk ++ [(Xb.mk Xm.Key x Xm.Values)])) 88).bind fun u1908 => some ()) : Option (Unit)).bind fun _ => some ((Xb.mk ((Xb.mk Xm.Key x Xm.Values).Key) ((Xb.mk Xm.Key x Xm.Values).Span) (V2.mk (((Xb.mk Xm.Key x Xm.Values).Values).e0) (((Xb.mk Xm.Key x Xm.Values).Values).e1))), (Xk ++ [(Xb.mk Xm.Key x Xm.Values)]), 0)) else ((Xt2 Xk v1891.1 (Xb.mk Xm.Key x Xm.Values) 88).bind fun m1911 => some ((Xb.mk Xm.Key x Xm.Values), m1911, 0))) else ((X2o Xk v1891.1).bind fun e1913 => ((X2s e1913.Values.e0 Xm.Values.e0).bind fun v1928 => bif (v1928.2 != (0 : Int)) then (some (Xk, v1928.2)) else ((X2s (((Xb.mk e1913.Key e1913.Span (V2.mk v1928.1 e1913.Values.e1)).Values).e1) Xm.Values.e1).bind fun v1933 => bif (v1933.2 != (0 : Int)) then (some ((List.set Xk (Int.toNat v1891.1) (Xb.mk e1913.Key e1913.Span (V2.mk v1928.1 e1913.Values.e1))), v1933.2)) else (some ((List.set (List.set Xk (Int.toNat v1891.1) (Xb.mk e1913.Key e1913.Span (V2.mk v1928.1 e1913.Values.e1))) (Int.toNat v1891.1) (Xb.mk ((Xb.mk e1913.Key e1913.Span (V2.mk v1928.1 e1913.Values.e1)).Key) ((Xb.mk e1913.Key e1913.Span (V2.mk v1928.1 e1913.Values.e1)).Span) (V2.mk (((Xb.mk e1913.Key e1913.Span (V2.mk v1928.1 e1913.Values.e1)).Values).e0) v1933.1))), 0))) : Option ((List Xb) × Int)).bind fun w1925 => some ((Xb.mk ((Xb.mk Xm.Key x Xm.Values).Key) ((Xb.mk Xm.Key x Xm.Values).Span) (V2.mk (((Xb.mk Xm.Key x Xm.Values).Values).e0) (((Xb.mk Xm.Key x Xm.Values).Values).e1))), w1925.1, w1925.2)) : Option (Xb × (List Xb) × Int)).bind fun w1890 => bif (w1890.2.2 != (0 : Int)) then (some (.x1 ([] : List Xb) w1890.2.2)) else (X4w Xg7 xs (k + 1) w1890.1 w1890.2.1)
def X8u (a0 : (List Xb)) (a1 : X0x) (a2 : Xj) (a3 : Int) : Option ((List Xb) × Int) :=
 (X9r a0).bind fun v1 => bif (v1 != (0 : Int)) then (some (([] : List Xb), v1)) else ((X1o a1).bind fun v4 => bif (v4 != (0 : Int)) then (some (([] : List Xb), v4)) else (bif (bif (a3 != (0 : Int)) then (a3 != (1 : Int)) else false) then (some (([] : List Xb), 2)) else (bif (bif (decide (a2.Time < ((-1099511627776) : Int))) then true else (decide (a2.Time > (1099511627776 : Int)))) then (some (([] : List Xb), 16)) else (((Xag a2.Value).bind fun v14 => bif (a3 == (0 : Int)) then (some (Xb.mk a2.Key (X13.mk 0 0) (V2.mk v14 (X1j.mk 0 0 0 0)))) else (bif (a3 == (1 : Int)) then (some (Xb.mk a2.Key (X13.mk 0 0) (V2.mk (X1j.mk 0 0 0 0) v14))) else none) : Option (Xb)).bind fun Xhl => (bif (List.isEmpty a0) then (some a0) else ((X2i (List.length a0) 88).bind fun u28 => some a0) : Option ((List Xb))).bind fun Xhk => bif (a1.Kind == (3 : Int)) then (((X45 0 a1.Size).bind fun v51 => bif (v51 != (0 : Int)) then (some (([] : List X13), v51)) else ((X45 a2.Time a1.Size).bind fun v54 => bif (v54 != (0 : Int)) then (some (([] : List X13), v54)) else ((X99 1).bind fun v67 => some ([(X13.mk a2.Time (IntKind.i64.wrap (a2.Time + a1.Size)))], 0))) : Option ((List X13) × Int)).bind fun w50 => bif (w50.2 != (0 : Int)) then (some (([] : List Xb), w50.2)) else ((X2o w50.1 0).bind fun e71 => ((X21  FU Xhk (Xb.mk Xhl.Key e71 Xhl.Values)).bind fun o1548 => match o1548 with | .x0 X2y Xak => (some (X2y, Xak)) : Option ((List Xb) × Int)).bind fun w811 => bif (w811.2 != (0 : Int)) then (some (([] : List Xb), w811.2)) else (bif (decide ((List.length w811.1 : Int) > (4000 : Int))) then (some (([] : List Xb), 4)) else (some (w811.1, 0))))) else ((Xfe a1 a2.Time).bind fun v1558 => bif (v1558.2 != (0 : Int)) then (some (([] : List Xb), v1558.2)) else ((X5e (List.length v1558.1)).bind fun u1561 => (X4w  v1558.1 v1558.1 0 Xhl Xhk).bind fun o1984 => match o1984 with | .x0 Xq => (bif (decide ((List.length Xq : Int) > (4000 : Int))) then (some (([] : List Xb), 4)) else (some (Xq, 0))) | .x1 X06 Xil => (some (X06, Xil))))))))
def X77 (a0 : Int) (a1 : X1j) : Option (Int × Int) :=
 bif (bif (decide (a0 < (1 : Int))) then true else (decide (a0 > (4 : Int)))) then (some (0, 2)) else ((X3p a1).bind fun v2 => bif (v2 != (0 : Int)) then (some (0, v2)) else (bif (a1.Count == (0 : Int)) then (some (0, 6)) else ((bif (a0 == (0 : Int)) then (some 0) else (bif (a0 == (1 : Int)) then (some a1.Count) else (bif (a0 == (2 : Int)) then (some a1.Sum) else (bif (a0 == (3 : Int)) then (some a1.Min) else (bif (a0 == (4 : Int)) then (some a1.Max) else none)))) : Option (Int)).bind fun X00z => some (X00z, 0))))
def Xa9 (a0 : Xp) (a1 : Xb) : Option (X5g × Bool) :=
 (X77 a0.Agg a1.Values.e0).bind fun v3 => bif (v3.2 != (0 : Int)) then (some ((X5g.mk 0 (X13.mk 0 0) (V2.mk 0 0)), false)) else (bif (bif ((1 : Int) == (1 : Int)) then (!a0.Join) else false) then (some ((X5g.mk a1.Key a1.Span (V2.mk v3.1 0)), true)) else ((X77 a0.Agg a1.Values.e1).bind fun v9 => bif (v9.2 != (0 : Int)) then (some ((X5g.mk 0 (X13.mk 0 0) (V2.mk 0 0)), false)) else (some ((X5g.mk a1.Key a1.Span (V2.mk v3.1 v9.1)), true))))
inductive X6q where
 | x0 (X9l : (List Xb)) (X81 : (List Xj))
 | x1 (X80 : (List X5g)) (X7z : (List Xj)) (Xd4 : Int)
def X39 (X2q : Xp) (Xd7 : (List Xj)) (Xnp : Int) (Xno : (List (List Xi))) (Xnn : Int) (Xnm : Int) (Xfb : (List Xj)) : List Xj -> Nat -> (List Xb) -> Option X6q
 | [], k, X8z => some (.x0 X8z Xd7)
 | x :: xs, k, X8z => (X6j X2q x).bind fun v482 => bif (!v482.2) then (X39 X2q Xd7 Xnp Xno Xnn Xnm Xfb xs (k + 1) X8z) else ((bif X2q.Join then (some Xnp) else (some 0) : Option (Int)).bind fun Xmk => (X8u X8z X2q.Window v482.1 Xmk).bind fun v489 => bif (v489.2 != (0 : Int)) then (some (.x1 ([] : List X5g) ([] : List Xj) v489.2)) else (X39 X2q Xd7 Xnp Xno Xnn Xnm Xfb xs (k + 1) v489.1))
inductive X6r where
 | x0 (X7b : (List Xb)) (X0m : (List Xj))
 | x1 (X06 : (List X5g)) (X3f : (List Xj)) (Xl3 : Int)
def X3a (Xm : Xp) (Xah : (List (List Xi))) : List (List Xi) -> Nat -> (List Xb) -> (List Xj) -> Option X6r
 | [], k, X4q, Xk => some (.x0 X4q Xk)
 | x :: xs, k, X4q, Xk => (Xbu x).bind fun v435 => bif (v435.2.2 != (0 : Int)) then (some (.x1 ([] : List X5g) ([] : List Xj) v435.2.2)) else (bif (List.isEmpty v435.2.1) then ((X5e (List.length v435.1)).bind fun u439 => (X39  Xm (Xk ++ v435.2.1) (k : Int) Xah (List.length Xah : Int) (k : Int) v435.1 v435.1 0 X4q).bind fun o502 => match o502 with | .x0 X9l X81 => (X3a Xm Xah xs (k + 1) X9l X81) | .x1 X80 X7z Xd4 => (some (.x1 X80 X7z Xd4))) else ((X2i (List.length (Xk ++ v435.2.1)) 24).bind fun u504 => (X5e (List.length v435.1)).bind fun u506 => (X39  Xm (Xk ++ v435.2.1) (k : Int) Xah (List.length Xah : Int) (k : Int) v435.1 v435.1 0 X4q).bind fun o549 => match o549 with | .x0 X9l X81 => (X3a Xm Xah xs (k + 1) X9l X81) | .x1 X80 X7z Xd4 => (some (.x1 X80 X7z Xd4))))
inductive X92 where
 | x0 (Xaz : (List Xj)) (X20 : (List X5g))
def X3n (X3c : Xp) (Xfa : (List Xj)) (Xd6 : (List Xb)) : List Xb -> Nat -> (List X5g) -> Option X92
 | [], k, Xey => some (.x0 Xfa Xey)
 | x :: xs, k, Xey => (Xa9 X3c x).bind fun v732 => (bif v732.2 then ((X2i (List.length (Xey ++ [v732.1])) 40).bind fun u739 => some (Xey ++ [v732.1])) else (some Xey) : Option ((List X5g))).bind fun Xjm => X3n X3c Xfa Xd6 xs (k + 1) Xjm
def X6x (a0 : Xp) (a1 : (List (List Xi))) : Option ((List X5g) × (List Xj) × Int) :=
 (X8x a0).bind fun v1 => bif (v1.2 != (0 : Int)) then (some (([] : List X5g), ([] : List Xj), v1.2)) else (bif ((List.length a1 : Int) != (List.length a0.Sources : Int)) then (some (([] : List X5g), ([] : List Xj), 2)) else ((X5d a1).bind fun v5 => bif (v5 != (0 : Int)) then (some (([] : List X5g), ([] : List Xj), v5)) else ((X5e (List.length a1)).bind fun u8 => (X3a  a0 a1 a1 0 ([] : List Xb) ([] : List Xj)).bind fun o647 => match o647 with | .x0 X7b X0m => ((X5e (List.length X7b)).bind fun u649 => (X3n  a0 X0m X7b X7b 0 ([] : List X5g)).bind fun o772 => match o772 with | .x0 Xaz X20 => ((bif (a0.Late != (2 : Int)) then (some ([] : List Xj)) else (some Xaz) : Option ((List Xj))).bind fun Xf6 => some (X20, Xf6, 0))) | .x1 X06 X3f Xl3 => (some (X06, X3f, Xl3)))))
inductive Xba where
 | x0 (Xq : Int)
def X5x (Xlx : (List Xi)) : List Xi -> Nat -> Int -> Option Xba
 | [], k, Xm => some (.x0 Xm)
 | x :: xs, k, Xm => (bif x.Mark then (some (if x.Time > Xm then x.Time else Xm)) else (some Xm) : Option (Int)).bind fun Xvl => X5x Xlx xs (k + 1) Xvl
def Xdl (a0 : (List Xi)) : Option (Int × Int) :=
 (X8e a0).bind fun v1 => bif (v1 != (0 : Int)) then (some (0, v1)) else ((X5e (List.length a0)).bind fun u4 => (X5x  a0 a0 0 (-9223372036854775808)).bind fun o31 => match o31 with | .x0 Xq => (some (Xq, 0)))
inductive X5l where
 | x0 (Xak : Int)
 | x1 (Xbh : Int)
def X3j (Xlw : (List (List Xi))) : List (List Xi) -> Nat -> Int -> Option X5l
 | [], k, Xnj => some (.x0 Xnj)
 | x :: xs, k, Xnj => (Xdl x).bind fun v18 => bif (v18.2 != (0 : Int)) then (some (.x1 v18.2)) else (X3j Xlw xs (k + 1) (if v18.1 < Xnj then v18.1 else Xnj))
def X7k (a0 : (List (List Xi))) : Option (Int × Int) :=
 (bif (decide ((List.length a0 : Int) < (1 : Int))) then (some (bif (decide ((List.length a0 : Int) < (1 : Int))) then true else false)) else (some (bif (decide ((List.length a0 : Int) < (1 : Int))) then true else (decide ((List.length a0 : Int) > (4 : Int))))) : Option (Bool)).bind fun X00w => bif X00w then (some (0, 2)) else ((X5d a0).bind fun v6 => bif (v6 != (0 : Int)) then (some (0, v6)) else ((X5e (List.length a0)).bind fun u9 => (X3j  a0 a0 0 9223372036854775807).bind fun o21 => match o21 with | .x0 Xak => (some (Xak, 0)) | .x1 Xbh => (some (0, Xbh))))
inductive X6f where
 | x0 (Xq : (List X5g))
def X27 (Xr0 : (List Xj)) (X4q : Int) (Xg8 : (List X5g)) : List X5g -> Nat -> (List X5g) -> Option X6f
 | [], k, Xm => some (.x0 Xm)
 | x :: xs, k, Xm => (bif (decide (x.Span.End <= X4q)) then ((X2i (List.length (Xm ++ [x])) 40).bind fun u47 => some (Xm ++ [x])) else (some Xm) : Option ((List X5g))).bind fun Xog => X27 Xr0 X4q Xg8 xs (k + 1) Xog
def X3x (a0 : Xp) (a1 : (List (List Xi))) : Option ((List X5g) × (List Xj) × Int) :=
 (X6x a0 a1).bind fun v1 => bif (v1.2.2 != (0 : Int)) then (some (([] : List X5g), ([] : List Xj), v1.2.2)) else ((X7k a1).bind fun v4 => bif (v4.2 != (0 : Int)) then (some (([] : List X5g), ([] : List Xj), v4.2)) else ((X5e (List.length v1.1)).bind fun u7 => (X27  v1.2.1 v4.1 v1.1 v1.1 0 ([] : List X5g)).bind fun o58 => match o58 with | .x0 Xq => (some (Xq, v1.2.1, 0))))
def Xfr (a0 : Int) (a1 : Int) (a2 : Int) : Option (X5g) :=
 some (X5g.mk 0 (X13.mk a0 a1) (V2.mk a2 0))
inductive X7h where
 | x0
 | x1
def X4z (X14 : (List X5g)) (Xf9 : (List X5g)) : List X5g -> Nat -> Option X7h
 | [], k => some (.x0)
 | x :: xs, k => (X2o Xf9 (k : Int)).bind fun e11 => bif (!(Xna x e11)) then (some (.x1)) else (X4z X14 Xf9 xs (k + 1))
def X71 (a0 : (List X5g)) (a1 : (List X5g)) : Option (Bool) :=
 bif ((List.length a0 : Int) != (List.length a1 : Int)) then (some false) else ((X5e (List.length a0)).bind fun u2 => (X4z  a0 a1 a0 0).bind fun o14 => match o14 with | .x0 => (some true) | .x1 => (some false))
def Xch : Option (Bool) :=
 (Xfs 1 3 5).bind fun v1 => (Xgp 10).bind fun v3 => (Xfs 1 12 7).bind fun v5 => (Xfs 1 9 1).bind fun v7 => (Xja).bind fun v9 => (X6x v9 [[v1, v3, v5, v7]]).bind fun v11 => (X3x v9 [[v1, v3, v5, v7]]).bind fun v13 => (bif (v11.2.2 == (0 : Int)) then ((Xfr 0 10 5).bind fun v34 => (Xfr 10 20 7).bind fun v36 => (X71 v11.1 [v34, v36]).bind fun v38 => bif v38 then (bif ((List.length v11.2.1 : Int) == (1 : Int)) then ((X2o v11.2.1 0).bind fun e42 => bif (e42.Time == (9 : Int)) then (bif (v13.2.2 == (0 : Int)) then ((X7f v11.1 0 1).bind fun m46 => (X71 v13.1 m46).bind fun v48 => some (bif (bif (bif (bif (bif (v11.2.2 == (0 : Int)) then v38 else false) then ((List.length v11.2.1 : Int) == (1 : Int)) else false) then (e42.Time == (9 : Int)) else false) then (v13.2.2 == (0 : Int)) else false) then v48 else false)) else (some (bif (bif (bif (bif (bif (v11.2.2 == (0 : Int)) then v38 else false) then ((List.length v11.2.1 : Int) == (1 : Int)) else false) then (e42.Time == (9 : Int)) else false) then (v13.2.2 == (0 : Int)) else false) then false else false))) else (some (bif (bif (bif (bif (bif (v11.2.2 == (0 : Int)) then v38 else false) then ((List.length v11.2.1 : Int) == (1 : Int)) else false) then (e42.Time == (9 : Int)) else false) then false else false) then false else false))) else (some (bif (bif (bif (bif (bif (v11.2.2 == (0 : Int)) then v38 else false) then ((List.length v11.2.1 : Int) == (1 : Int)) else false) then false else false) then false else false) then false else false))) else (some (bif (bif (bif (bif (bif (v11.2.2 == (0 : Int)) then v38 else false) then false else false) then false else false) then false else false) then false else false))) else (some (bif (bif (bif (bif (bif (v11.2.2 == (0 : Int)) then false else false) then false else false) then false else false) then false else false) then false else false)) : Option (Bool)).bind fun X00v => some X00v
def Xa3 (a0 : (List X00)) : Option (Bool) :=
 some (decide ((List.length a0 : Int) > (70 : Int)))
def Xa1 (a0 : Xp) : Option (Bool) :=
 ((Xa3 a0.Arg).bind fun v8 => bif v8 then (some (bif (bif v8 then true else false) then true else false)) else ((Xa3 a0.Where).bind fun v11 => bif v11 then (some (bif (bif v8 then true else v11) then true else false)) else (some (bif (bif v8 then true else v11) then true else (decide ((List.length a0.Sources : Int) > (10 : Int)))))) : Option (Bool)).bind fun j7_2 => some j7_2
inductive X6n where
 | x0
 | x1
def X4i (X14 : (List (List Xi))) : Nat -> Int -> Option X6n
 | 0, _ => none
 | n + 1, Xlv => bif (bif (decide (Xlv < (List.length X14 : Int))) then (decide (Xlv < (7 : Int))) else false) then (((X2o X14 Xlv).bind fun e27 => bif (decide ((List.length e27 : Int) > (20 : Int))) then (some (bif (decide ((List.length e27 : Int) > (20 : Int))) then ((List.length e27 : Int) != (61 : Int)) else false)) else (some (bif (decide ((List.length e27 : Int) > (20 : Int))) then false else false)) : Option (Bool)).bind fun Xvm => bif Xvm then (some (.x0)) else (X4i X14 n (IntKind.i64.wrap (Xlv + 1)))) else (some (.x1))
def X9w (a0 : (List (List Xi))) : Option (Bool) :=
 (X4i  a0 FU 0).bind fun o32 => match o32 with | .x0 => (some true) | .x1 => (some (decide ((List.length a0 : Int) > (6 : Int))))
def Xc9 (a0 : Int) : Option (Int) :=
 bif (decide (a0 <= (4 : Int))) then (some 0) else (bif (decide (a0 <= (6 : Int))) then (some 1) else (some 2))
def X6w (a0 : X00) (a1 : Int) (a2 : Int) : Option (Bool) :=
 some (bif (bif (bif (bif (bif (bif (bif (decide (a0.Kind >= (1 : Int))) then (decide (a0.Kind <= (19 : Int))) else false) then (decide (a0.N >= (0 : Int))) else false) then (bif (a0.N == (0 : Int)) then true else (a0.Kind == (1 : Int))) else false) then (decide (a0.At >= (0 : Int))) else false) then (decide (a0.At <= (400 : Int))) else false) then (a0.A == a1) else false) then (a0.B == a2) else false)
inductive X57 where
 | x0 (Xq : (List Int)) (X0m : (List Int))
 | x1 (X06 : (List Int)) (X3f : (List Int))
def X1x (X14 : (List X00)) : List X00 -> Nat -> (List Int) -> (List Int) -> Option X57
 | [], k, Xm, Xk => some (.x0 Xm Xk)
 | x :: xs, k, Xm, Xk => (Xc9 x.Kind).bind fun v156 => bif (decide (v156 > (0 : Int))) then (bif (decide ((IntKind.i64.wrap ((k : Int) - 1)) < (0 : Int))) then (some (.x1 ([] : List Int) ([] : List Int))) else ((X2o Xm (IntKind.i64.wrap ((k : Int) - 1))).bind fun e160 => (X2o Xk (IntKind.i64.wrap ((k : Int) - 1))).bind fun e162 => bif (v156 == (2 : Int)) then (bif (decide ((IntKind.i64.wrap ((IntKind.i64.wrap ((k : Int) - 1)) - e160)) < (0 : Int))) then (some (.x1 ([] : List Int) ([] : List Int))) else ((X2o Xm (IntKind.i64.wrap ((IntKind.i64.wrap ((k : Int) - 1)) - e160))).bind fun e166 => (X2o Xk (IntKind.i64.wrap ((IntKind.i64.wrap ((k : Int) - 1)) - e160))).bind fun e168 => (X6w x (IntKind.i64.wrap ((IntKind.i64.wrap ((k : Int) - 1)) - e160)) (IntKind.i64.wrap ((k : Int) - 1))).bind fun v170 => bif (!v170) then (some (.x1 ([] : List Int) ([] : List Int))) else ((X2i (List.length (Xm ++ [(IntKind.i64.wrap ((IntKind.i64.wrap (1 + e160)) + e166))])) 8).bind fun u173 => (X2i (List.length (Xk ++ [(if (IntKind.i64.wrap (1 + e168)) > (IntKind.i64.wrap (1 + e162)) then (IntKind.i64.wrap (1 + e168)) else (IntKind.i64.wrap (1 + e162)))])) 8).bind fun u175 => X1x X14 xs (k + 1) (Xm ++ [(IntKind.i64.wrap ((IntKind.i64.wrap (1 + e160)) + e166))]) (Xk ++ [(if (IntKind.i64.wrap (1 + e168)) > (IntKind.i64.wrap (1 + e162)) then (IntKind.i64.wrap (1 + e168)) else (IntKind.i64.wrap (1 + e162)))])))) else ((X6w x (IntKind.i64.wrap ((k : Int) - 1)) 0).bind fun v177 => bif (!v177) then (some (.x1 ([] : List Int) ([] : List Int))) else ((X2i (List.length (Xm ++ [(IntKind.i64.wrap (1 + e160))])) 8).bind fun u180 => (X2i (List.length (Xk ++ [(IntKind.i64.wrap (1 + e162))])) 8).bind fun u182 => X1x X14 xs (k + 1) (Xm ++ [(IntKind.i64.wrap (1 + e160))]) (Xk ++ [(IntKind.i64.wrap (1 + e162))]))))) else ((X6w x 0 0).bind fun v184 => bif (!v184) then (some (.x1 ([] : List Int) ([] : List Int))) else ((X2i (List.length (Xm ++ [1])) 8).bind fun u187 => (X2i (List.length (Xk ++ [1])) 8).bind fun u189 => X1x X14 xs (k + 1) (Xm ++ [1]) (Xk ++ [1])))
def Xc8 (a0 : (List X00)) : Option ((List Int) × (List Int) × Bool) :=
 (X5e (List.length a0)).bind fun u1 => (X1x  a0 a0 0 ([] : List Int) ([] : List Int)).bind fun o232 => match o232 with | .x0 Xq X0m => ((bif (decide ((List.length a0 : Int) > (0 : Int))) then ((X2o Xq (IntKind.i64.wrap ((List.length a0 : Int) - 1))).bind fun e239 => some (bif (decide ((List.length a0 : Int) > (0 : Int))) then (e239 == (List.length a0 : Int)) else false)) else (some false) : Option (Bool)).bind fun Xvp => some (Xq, X0m, Xvp)) | .x1 X06 X3f => (some (X06, X3f, false))
def X50 (a0 : (List X00)) : Option (Int) :=
 bif (decide ((List.length a0 : Int) > (60 : Int))) then (some 4) else ((Xc8 a0).bind fun v2 => bif (!v2.2.2) then (some 8) else ((X2o v2.2.1 (IntKind.i64.wrap ((List.length a0 : Int) - 1))).bind fun e5 => bif (decide (e5 > (20 : Int))) then (some 34) else (some 0)))
inductive X5k where
 | x0
 | x1
def X3i (X14 : (List Int)) : List Int -> Nat -> Option X5k
 | [], k => some (.x0)
 | x :: xs, k => (bif (decide (x < (0 : Int))) then (some (bif (decide (x < (0 : Int))) then true else false)) else (some (bif (decide (x < (0 : Int))) then true else (decide (x > (3 : Int))))) : Option (Bool)).bind fun Xvo => bif Xvo then (some (.x1)) else (X3i X14 xs (k + 1))
inductive X5i where
 | x0
 | x1
def X3h (Xzd : (List Int)) (Xzc : Int) : Nat -> Int -> Option X5i
 | 0, _ => none
 | n + 1, Xwz => bif (decide (Xwz < Xzc)) then ((X2o Xzd Xwz).bind fun e86 => (X2o Xzd Xzc).bind fun e88 => bif (e86 == e88) then (some (.x0)) else (X3h Xzd Xzc n (IntKind.i64.wrap (Xwz + 1)))) else (some (.x1))
inductive X5j where
 | x0
 | x1
def X2v (Xu2 : (List Int)) : List Int -> Nat -> Option X5j
 | [], k => some (.x0)
 | x :: xs, k => (X3h  Xu2 (k : Int) FU 0).bind fun o91 => match o91 with | .x0 => (some (.x1)) | .x1 => (X2v Xu2 xs (k + 1))
def X7i (a0 : (List Int)) (a1 : Bool) : Option (Int) :=
 bif (decide ((List.length a0 : Int) > (4 : Int))) then (some 4) else ((bif ((List.length a0 : Int) == (0 : Int)) then (some (bif ((List.length a0 : Int) == (0 : Int)) then true else false)) else (bif a1 then (some (bif ((List.length a0 : Int) == (0 : Int)) then true else (bif a1 then ((List.length a0 : Int) != (2 : Int)) else false))) else (some (bif ((List.length a0 : Int) == (0 : Int)) then true else (bif a1 then false else false)))) : Option (Bool)).bind fun X00l => bif X00l then (some 8) else ((X5e (List.length a0)).bind fun u9 => (X3i  a0 a0 0).bind fun o27 => match o27 with | .x0 => ((X2v  a0 a0 0).bind fun o93 => match o93 with | .x0 => (some 0) | .x1 => (some 43)) | .x1 => (some 8)))
def X8b (a0 : X0x) : Option (Bool) :=
 bif (bif (decide (a0.Size < (1 : Int))) then true else (decide (a0.Size > (1073741824 : Int)))) then (some false) else (bif (a0.Kind == (2 : Int)) then (some (bif (bif (decide (a0.Every >= (1 : Int))) then (decide (a0.Every <= a0.Size)) else false) then (decide (a0.Size <= (IntKind.i64.wrap (16 * a0.Every)))) else false)) else (some (bif (bif (a0.Kind == (1 : Int)) then true else (a0.Kind == (3 : Int))) then (a0.Every == (0 : Int)) else false)))
def Xa2 (a0 : Xp) : Option (Int) :=
 bif (bif (bif (bif (decide (a0.Agg < (1 : Int))) then true else (decide (a0.Agg > (4 : Int)))) then true else (decide (a0.Late < (1 : Int)))) then true else (decide (a0.Late > (2 : Int)))) then (some 8) else ((bif (a0.Agg == (1 : Int)) then (some (bif (a0.Agg == (1 : Int)) then (decide ((List.length a0.Arg : Int) > (0 : Int))) else false)) else (some (bif (a0.Agg == (1 : Int)) then false else false)) : Option (Bool)).bind fun X00s => bif X00s then (some 8) else ((bif (a0.Agg != (1 : Int)) then ((X50 a0.Arg).bind fun v12 => some (bif (a0.Agg != (1 : Int)) then (v12 != (0 : Int)) else false)) else (some (bif (a0.Agg != (1 : Int)) then false else false)) : Option (Bool)).bind fun Xvs => bif Xvs then ((X50 a0.Arg).bind fun v16 => some v16) else ((bif (decide ((List.length a0.Where : Int) > (0 : Int))) then ((X50 a0.Where).bind fun v23 => some (bif (decide ((List.length a0.Where : Int) > (0 : Int))) then (v23 != (0 : Int)) else false)) else (some (bif (decide ((List.length a0.Where : Int) > (0 : Int))) then false else false)) : Option (Bool)).bind fun Xoh => bif Xoh then ((X50 a0.Where).bind fun v27 => some v27) else ((X7i a0.Sources a0.Join).bind fun v29 => bif (v29 != (0 : Int)) then (some v29) else ((X8b a0.Window).bind fun v32 => bif (bif (!v32) then true else (bif a0.Join then (a0.Window.Kind != (1 : Int)) else false)) then (some 8) else (some 0))))))
def X6v (a0 : Int) : Option (Bool) :=
 some (bif (a0 == (6 : Int)) then true else (decide (a0 >= (12 : Int))))
def Xbn (a0 : (List X00)) (a1 : Int) : Option (Bool) :=
 (X2o a0 a1).bind fun e1 => (X2o a0 e1.A).bind fun e3 => (X6v e3.Kind).bind fun v5 => (X2o a0 e1.B).bind fun e7 => (X6v e7.Kind).bind fun v9 => bif (decide (e1.Kind <= (4 : Int))) then (some true) else (bif (e1.Kind == (5 : Int)) then (some (!v5)) else (bif (e1.Kind == (6 : Int)) then (some v5) else (bif (bif (e1.Kind == (16 : Int)) then true else (e1.Kind == (17 : Int))) then (some (v5 == v9)) else (bif (decide (e1.Kind >= (18 : Int))) then (some (bif v5 then v9 else false)) else (some (bif (!v5) then (!v9) else false))))))
inductive X6p where
 | x0
 | x1 (X4r : Int)
def X4k (X14 : (List X00)) : List X00 -> Nat -> Option X6p
 | [], k => some (.x0)
 | x :: xs, k => (Xbn X14 (k : Int)).bind fun v10 => bif (!v10) then (some (.x1 (k : Int))) else (X4k X14 xs (k + 1))
def Xc6 (a0 : (List X00)) : Option (Int) :=
 (X5e (List.length a0)).bind fun u1 => (X4k  a0 a0 0).bind fun o13 => match o13 with | .x0 => (some (List.length a0 : Int)) | .x1 X4r => (some X4r)
def Xfj (a0 : (List X00)) : Option (Bool × Int × Int) :=
 (X50 a0).bind fun v1 => bif (v1 != (0 : Int)) then (some (false, 0, v1)) else ((Xc6 a0).bind fun v4 => bif (decide (v4 < (List.length a0 : Int))) then (some (false, v4, 42)) else ((X2o a0 (IntKind.i64.wrap ((List.length a0 : Int) - 1))).bind fun e7 => (X6v e7.Kind).bind fun v9 => some (v9, (IntKind.i64.wrap ((List.length a0 : Int) - 1)), 0)))
def X8c (a0 : (List X00)) (a1 : Bool) : Option (Int × Int) :=
 (Xfj a0).bind fun v1 => bif (bif (v1.2.2 == (0 : Int)) then (!(v1.1 == a1)) else false) then (some (v1.2.1, 42)) else (some (v1.2.1, v1.2.2))
def X9z (a0 : Xp) : Option (Int × Int) :=
 bif (decide ((List.length a0.Arg : Int) > (0 : Int))) then ((X8c a0.Arg false).bind fun v2 => bif (v2.2 != (0 : Int)) then ((X2o a0.Arg v2.1).bind fun e5 => some (e5.At, v2.2)) else (bif (decide ((List.length a0.Where : Int) > (0 : Int))) then ((X8c a0.Where true).bind fun v8 => bif (v8.2 != (0 : Int)) then ((X2o a0.Where v8.1).bind fun e11 => some (e11.At, v8.2)) else (some (0, 0))) else (some (0, 0)))) else (bif (decide ((List.length a0.Where : Int) > (0 : Int))) then ((X8c a0.Where true).bind fun v14 => bif (v14.2 != (0 : Int)) then ((X2o a0.Where v14.1).bind fun e17 => some (e17.At, v14.2)) else (some (0, 0))) else (some (0, 0)))
def Xa0 (a0 : Xp) : Option (Int × Int) :=
 (Xa2 a0).bind fun v1 => bif (v1 != (0 : Int)) then (some (0, v1)) else ((X9z a0).bind fun v4 => some (v4.1, v4.2))
def X8a (a0 : Int) (a1 : Int) : Option (Int) :=
 bif (bif (decide (a1 < (1 : Int))) then true else (decide (a1 > (1073741824 : Int)))) then (some 2) else (bif (bif (decide (a0 < ((-1099511627776) : Int))) then true else (decide (a0 > (1099511627776 : Int)))) then (some 16) else (some 0))
def X9x (a0 : Xi) : Option (Bool) :=
 bif a0.Mark then ((bif (X4o a0.Record (Xj.mk 0 0 0)) then (bif (a0.Time == (9223372036854775807 : Int)) then (some (bif (X4o a0.Record (Xj.mk 0 0 0)) then (bif (a0.Time == (9223372036854775807 : Int)) then true else false) else false)) else ((X8a a0.Time 1).bind fun v9 => some (bif (X4o a0.Record (Xj.mk 0 0 0)) then (bif (a0.Time == (9223372036854775807 : Int)) then true else (v9 == (0 : Int))) else false))) else (some (bif (X4o a0.Record (Xj.mk 0 0 0)) then false else false)) : Option (Bool)).bind fun j6_2 => some j6_2) else ((bif (a0.Time == (0 : Int)) then ((X8a a0.Record.Time 1).bind fun v17 => some (bif (a0.Time == (0 : Int)) then (v17 == (0 : Int)) else false)) else (some (bif (a0.Time == (0 : Int)) then false else false)) : Option (Bool)).bind fun X00y => some X00y)
inductive X6o where
 | x0
 | x1
def X4j (X14 : (List Xi)) : List Xi -> Nat -> Option X6o
 | [], k => some (.x0)
 | x :: xs, k => (X9x x).bind fun v11 => bif (!v11) then (some (.x1)) else (X4j X14 xs (k + 1))
def X9y (a0 : (List Xi)) : Option (Int) :=
 bif (decide ((List.length a0 : Int) > (60 : Int))) then (some 4) else ((X5e (List.length a0)).bind fun u2 => (X4j  a0 a0 0).bind fun o14 => match o14 with | .x0 => (some 0) | .x1 => (some 8))
inductive X6m where
 | x0
 | x1 (X4r : Int)
def X4h (X14 : (List (List Xi))) : List (List Xi) -> Nat -> Option X6m
 | [], k => some (.x0)
 | x :: xs, k => (X9y x).bind fun v10 => bif (v10 != (0 : Int)) then (some (.x1 v10)) else (X4h X14 xs (k + 1))
def X9v (a0 : (List (List Xi))) : Option (Int) :=
 (X5e (List.length a0)).bind fun u1 => (X4h  a0 a0 0).bind fun o13 => match o13 with | .x0 => (some 0) | .x1 X4r => (some X4r)
def Xc5 (a0 : Xp) (a1 : (List (List Xi))) : Option (Int) :=
 (Xa0 a0).bind fun v1 => bif (v1.2 != (0 : Int)) then (some v1.2) else (bif ((List.length a1 : Int) != (List.length a0.Sources : Int)) then (some 2) else ((X9v a1).bind fun v5 => some v5))
def Xdh (a0 : Xp) (a1 : (List (List Xi))) : Option (Bool) :=
 ((Xa1 a0).bind fun v10 => bif (!v10) then ((X9w a1).bind fun v13 => bif (!v13) then ((Xc5 a0 a1).bind fun v16 => some (bif (bif (!v10) then (!v13) else false) then (v16 == (0 : Int)) else false)) else (some (bif (bif (!v10) then (!v13) else false) then false else false))) else (some (bif (bif (!v10) then false else false) then false else false)) : Option (Bool)).bind fun j9_4 => some j9_4
inductive Xd0 where
 | x0 (Xaz : (List X5g)) (X20 : (List (List Xi))) (X03m : (List Xi))
def Xeh (y2_1 : (List (List Xi))) (y2_2 : Int) (X3c : Xp) (Xwz : Bool) (Xfa : (List X5g)) (Xey : (List (List Xi))) (X021 : Int) : Nat -> (List Xi) -> Int -> Option Xd0
 | 0, _, _ => none
 | n + 1, Xx7, Xx8 => (X2o y2_1 X021).bind fun e3929 => bif (decide (Xx8 < (List.length e3929 : Int))) then (((X2o e3929 Xx8).bind fun e3936 => bif e3936.Mark then (some (bif e3936.Mark then true else false)) else (some (bif e3936.Mark then true else (e3936.Record.Key == y2_2))) : Option (Bool)).bind fun Xvk => (bif Xvk then ((X2o e3929 Xx8).bind fun e3947 => (X2i (List.length (Xx7 ++ [e3947])) 40).bind fun u3949 => some (Xx7 ++ [e3947])) else (some Xx7) : Option ((List Xi))).bind fun Xxq => Xeh y2_1 y2_2 X3c Xwz Xfa Xey X021 n Xxq (IntKind.i64.wrap (Xx8 + 1))) else (some (.x0 Xfa Xey Xx7))
def Xbm (a0 : Xp) : Option (Xp) :=
 bif (List.isEmpty a0.Arg) then (bif (List.isEmpty a0.Where) then (bif (List.isEmpty a0.Sources) then (some a0) else ((X2i (List.length a0.Sources) 8).bind fun u4 => some a0)) else ((X2i (List.length a0.Where) 40).bind fun u6 => bif (List.isEmpty a0.Sources) then (some a0) else ((X2i (List.length a0.Sources) 8).bind fun u9 => some a0))) else ((X2i (List.length a0.Arg) 40).bind fun u11 => bif (List.isEmpty a0.Where) then (bif (List.isEmpty a0.Sources) then (some a0) else ((X2i (List.length a0.Sources) 8).bind fun u15 => some a0)) else ((X2i (List.length a0.Where) 40).bind fun u17 => bif (List.isEmpty a0.Sources) then (some a0) else ((X2i (List.length a0.Sources) 8).bind fun u20 => some a0)))
inductive X53 where
 | x0 (X8y : (List (List Xi))) (X41 : (List Xi))
def X1q (Xzf : (List (List Xi))) (X2q : Xp) (y1_5 : Bool) (Xd7 : Xp) (Xnl : (List (List Xi))) (Xze : Int) : Nat -> (List Xi) -> Int -> Option X53
 | 0, _, _ => none
 | n + 1, Xim, X8z => (X2o Xzf Xze).bind fun e544 => bif (decide (X8z < (List.length e544 : Int))) then ((X2o e544 X8z).bind fun e547 => (X68 X2q.Where e547.Record).bind fun v549 => bif (bif (!e547.Mark) then (bif (v549.2 != (0 : Int)) then true else (v549.1 == (0 : Int))) else false) then (X1q Xzf X2q y1_5 Xd7 Xnl Xze n Xim (IntKind.i64.wrap (X8z + 1))) else ((X2i (List.length (Xim ++ [e547])) 40).bind fun u552 => X1q Xzf X2q y1_5 Xd7 Xnl Xze n (Xim ++ [e547]) (IntKind.i64.wrap (X8z + 1)))) else (some (.x0 Xnl Xim))
inductive X54 where
 | x0 (X7a : (List (List Xi)))
def X1r (Xf9 : (List (List Xi))) (Xm : Xp) (Xnj : Bool) (Xk : Xp) : List (List Xi) -> Nat -> (List (List Xi)) -> Option X54
 | [], k, X6d => some (.x0 X6d)
 | x :: xs, k, X6d => (X1q  Xf9 Xm Xnj Xk X6d (k : Int) FU ([] : List Xi) 0).bind fun o584 => match o584 with | .x0 X8y X41 => ((X2i (List.length (X8y ++ [X41])) 24).bind fun u586 => X1r Xf9 Xm Xnj Xk xs (k + 1) (X8y ++ [X41]))
def X46 (a0 : Xp) (a1 : (List (List Xi))) : Option (Bool) :=
 (Xch).bind fun v1 => ((Xdh a0 a1).bind fun v8 => bif (!v8) then (some (bif (bif (!v8) then true else false) then true else false)) else (bif ((List.length a0.Where : Int) == (0 : Int)) then (some (bif (bif (!v8) then true else ((List.length a0.Where : Int) == (0 : Int))) then true else false)) else (some (bif (bif (!v8) then true else ((List.length a0.Where : Int) == (0 : Int))) then true else (!v1)))) : Option (Bool)).bind fun X00i => bif X00i then (some v1) else ((Xbm a0).bind fun v14 => (X5e (List.length a1)).bind fun u16 => (X1r  a1 a0 v1 (Xp.mk v14.Agg v14.Arg v14.Sources v14.Join ([] : List X00) v14.Window v14.ByKey v14.Late) a1 0 ([] : List (List Xi))).bind fun o685 => match o685 with | .x0 X7a => ((X3x a0 a1).bind fun v687 => (X3x (Xp.mk v14.Agg v14.Arg v14.Sources v14.Join ([] : List X00) v14.Window v14.ByKey v14.Late) X7a).bind fun v689 => (bif v1 then (bif (v687.2.2 == (0 : Int)) then (bif (v689.2.2 == (0 : Int)) then ((X71 v687.1 v689.1).bind fun v700 => some (bif (bif (bif v1 then (v687.2.2 == (0 : Int)) else false) then (v689.2.2 == (0 : Int)) else false) then v700 else false)) else (some (bif (bif (bif v1 then (v687.2.2 == (0 : Int)) else false) then (v689.2.2 == (0 : Int)) else false) then false else false))) else (some (bif (bif (bif v1 then (v687.2.2 == (0 : Int)) else false) then false else false) then false else false))) else (some (bif (bif (bif v1 then false else false) then false else false) then false else false)) : Option (Bool)).bind fun Xvf => some Xvf))
end Go.D
