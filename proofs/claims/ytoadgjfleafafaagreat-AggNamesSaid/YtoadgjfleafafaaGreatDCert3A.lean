/- Printed by decomp.py: that the program computes the functions. -/
import Derived.Test.YtoadgjfleafafaaGreatDCert0A
set_option linter.all false

namespace Go.Av.Tryz
open Go.Proofs Go.D
set_option maxRecDepth 10000
set_option maxHeartbeats 40000000
theorem X1m {Q : X0d -> St -> Mu -> Prop} {μ : Mu} (X05 : (List Bool)) (Xei : (List Int)) (X0e : Nb X05) (hl : Xei.length <= 140737488355328) : ∀ (xs : List Int) (k : Nat) (hx : Xei.drop k = xs) (o : X1q) (h : X0y X05 Xei xs k  = some o)
  (C0 : o = X1q.x0 -> Xa Tryz.prog 21 4 Q (.exit (.exit 0)) [] ⟨fr [], hp ([(0, Ob [(slE X0e.1 1 (X05.map aB))] 1)] ++ opE X0e.1 1 1 (X05.map aB)), 4⟩ μ)
  (C1 : o = X1q.x1 -> Xa Tryz.prog 21 4 Q (.exit .ret) [] ⟨fr [(5, (aB false))], hp ([(0, Ob [(slE X0e.1 1 (X05.map aB))] 1)] ++ opE X0e.1 1 1 (X05.map aB)), 4⟩ μ),
  Xa Tryz.prog 21 4 Q (.loop (X7i 0 (X01 Tryz.f115))) [] ⟨fr [(0, (aB true)), (2, (AV.ptr 0 0 0)), (8, (AV.ref 4 0 (Xei.length))), (9, (aI .i64 (Xei.length : Int))), (10, (aI .i64 (k : Int)))], hp ([(0, Ob [(slE X0e.1 1 (X05.map aB))] 1), (4, Ob (List.map (aI .i64) Xei) 1)] ++ opE X0e.1 1 1 (X05.map aB)), 5⟩ μ := by
 intro xs
 induction xs with
 | nil =>
  intro k hx  o h C0 C1
  have hk := X2m hx
  have hc : decide ((k : Int) < (Xei.length : Int)) = false := Yf (by omega)
  rw [X0y] at h
  rcases X0e with ⟨_ | _, X17⟩
  ·
   refine Xa.round ?_
   obtain rfl := oj h
   refine Xm tmD [Bf] ?_
   exact wkT [] (C0  rfl)
  ·
   obtain rfl := X17 rfl
   refine Xa.round ?_
   obtain rfl := oj h
   refine Xm tmD [Bf] ?_
   exact wkT [] (C0  rfl)
 | cons x xs ih =>
  intro k hx  o h C0 C1
  obtain ⟨hk, hg, hx1⟩ := X20 hx
  have hc : decide ((k : Int) < (Xei.length : Int)) = true := Yt (by omega)
  rw [X0y] at h
  rcases X0e with ⟨_ | _, X17⟩
  ·
   refine Xa.round ?_
   refine X3 h ?_
   clear h; intro e3127 h3128 h
   try have qh3128 := X18 h3128
   refine brE h ?_ ?_
   ·clear h; intro h3129 h
    obtain rfl := oj h
    refine Xm tmD [Bt, .el (aI .i64 x), .ld (aI .i64 x), .el (aB e3127), .ld (aB e3127), Bt] ?_
    exact wkT [] (C1  rfl)
   clear h; intro h3129 h
   refine Xm tmD [Bt, .el (aI .i64 x), .ld (aI .i64 x), .el (aB e3127), .ld (aB e3127), Bf] ?_
   exact wkT [] (ih (k + 1) hx1  o h C0 C1)
  obtain rfl := X17 rfl
  refine Xa.round ?_
  refine X3 h ?_
  clear h; intro e3130 h3131 h
  try have qh3131 := X18 h3131
  exact absurd (h3131) (by simp [X98])
end Go.Av.Tryz