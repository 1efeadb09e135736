/- Printed by decomp.py: that the program computes the functions. -/
import Derived.Test.YtfdfgobnpnoomaaGreatDCert0Z
set_option linter.all false

namespace Go.Av.Tryz
open Go.Proofs Go.D
set_option maxRecDepth 10000
set_option maxHeartbeats 40000000
theorem X23 {Q : X0d -> St -> Mu -> Prop} {μ : Mu} (Xk : (List Bool)) (X1n : (List Int)) (X02 : Nb Xk) (hl : X1n.length <= 140737488355328) : ∀ (xs : List Int) (k : Nat) (hx : X1n.drop k = xs) (o : X28) (h : X0r Xk X1n xs k  = some o)
  (C0 : o = X28.x0 -> Xa Tryz.prog 21 4 Q (.exit (.exit 0)) [] ⟨fr [], hp ([(0, Ob [(slE X02.1 1 (Xk.map aB))] 1)] ++ opE X02.1 1 1 (Xk.map aB)), 4⟩ μ)
  (C1 : o = X28.x1 -> Xa Tryz.prog 21 4 Q (.exit .ret) [] ⟨fr [(5, (aB false))], hp ([(0, Ob [(slE X02.1 1 (Xk.map aB))] 1)] ++ opE X02.1 1 1 (Xk.map aB)), 4⟩ μ),
  Xa Tryz.prog 21 4 Q (.loop (X5o 0 (Xt Tryz.f189))) [] ⟨fr [(0, (aB true)), (2, (AV.ptr 0 0 0)), (8, (AV.ref 4 0 (X1n.length))), (9, (aI .i64 (X1n.length : Int))), (10, (aI .i64 (k : Int)))], hp ([(0, Ob [(slE X02.1 1 (Xk.map aB))] 1), (4, Ob (List.map (aI .i64) X1n) 1)] ++ opE X02.1 1 1 (Xk.map aB)), 5⟩ μ := by
 intro xs
 induction xs with
 | nil =>
  intro k hx  o h C0 C1
  have hk := X1u hx
  have hc : decide ((k : Int) < (X1n.length : Int)) = false := Yf (by omega)
  rw [X0r] at h
  rcases X02 with ⟨_ | _, X0n⟩
  ·
   refine Xa.round ?_
   obtain rfl := oj h
   refine Xe tmD [Bf] ?_
   exact wkT [] (C0  rfl)
  ·
   obtain rfl := X0n rfl
   refine Xa.round ?_
   obtain rfl := oj h
   refine Xe tmD [Bf] ?_
   exact wkT [] (C0  rfl)
 | cons x xs ih =>
  intro k hx  o h C0 C1
  obtain ⟨hk, hg, hx1⟩ := X16 hx
  have hc : decide ((k : Int) < (X1n.length : Int)) = true := Yt (by omega)
  rw [X0r] at h
  rcases X02 with ⟨_ | _, X0n⟩
  ·
   refine Xa.round ?_
   refine X9 h ?_
   clear h; intro e3127 h3128 h
   try have qh3128 := Xz h3128
   refine brE h ?_ ?_
   ·clear h; intro h3129 h
    obtain rfl := oj h
    refine Xe tmD [Bt, .el (aI .i64 x), .ld (aI .i64 x), .el (aB e3127), .ld (aB e3127), Bt] ?_
    exact wkT [] (C1  rfl)
   clear h; intro h3129 h
   refine Xe tmD [Bt, .el (aI .i64 x), .ld (aI .i64 x), .el (aB e3127), .ld (aB e3127), Bf] ?_
   exact wkT [] (ih (k + 1) hx1  o h C0 C1)
  obtain rfl := X0n rfl
  refine Xa.round ?_
  refine X9 h ?_
  clear h; intro e3130 h3131 h
  try have qh3131 := Xz h3131
  exact absurd (h3131) (by simp [X2o])
end Go.Av.Tryz