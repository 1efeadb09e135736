/- Printed by decomp.py: that the program computes the functions. -/
import Derived.Test.YtneciiakpbfnjaaGreatDCert0J
set_option linter.all false
set_option linter.unusedVariables false
namespace Go.Av.Tryz
open Go.Proofs Go.D
set_option maxRecDepth 10000
set_option maxHeartbeats 4000000

theorem kinds_told_kinds_told_1_L0_2_ok {Q : AExit → St → Mu → Prop} {μ : Mu} (y0_o1 : (List Bool)) (y0_o4 : (List Int)) (nb_y0_o1 : Nb y0_o1) (hl : List.length y0_o4 ≤ 140737488355328) : ∀ (xs : List Int) (k : Nat) (hx : y0_o4.drop k = xs) (o : kinds_told_kinds_told_1_L0_2_o) (h : kinds_told_kinds_told_1_L0_2 y0_o1 y0_o4 xs k  = some o)
  (C0 : o = kinds_told_kinds_told_1_L0_2_o.x0 → SemK Tryz.prog 21 4 Q (.exit (.exit 0)) [] ⟨fr [], hp ([(0, { es := [(slE nb_y0_o1.1 1 (List.map aB y0_o1))], esz := 1 })] ++ opE nb_y0_o1.1 1 1 (List.map aB y0_o1)), 4⟩ μ)
  (C1 : o = kinds_told_kinds_told_1_L0_2_o.x1 → SemK Tryz.prog 21 4 Q (.exit .ret) [] ⟨fr [(5, (aB false))], hp ([(0, { es := [(slE nb_y0_o1.1 1 (List.map aB y0_o1))], esz := 1 })] ++ opE nb_y0_o1.1 1 1 (List.map aB y0_o1)), 4⟩ μ),
  SemK Tryz.prog 21 4 Q (.loop (loopB 0 (bodyOf Tryz.f189))) [] ⟨fr [(0, (aB true)), (2, (AV.ptr 0 0 0)), (8, (AV.ref 4 0 (List.length y0_o4))), (9, (aI .i64 (List.length y0_o4 : Int))), (10, (aI .i64 (k : Int)))], hp ([(0, { es := [(slE nb_y0_o1.1 1 (List.map aB y0_o1))], esz := 1 }), (4, { es := List.map (aI .i64) y0_o4, esz := 1 })] ++ opE nb_y0_o1.1 1 1 (List.map aB y0_o1)), 5⟩ μ := by
 intro xs
 induction xs with
 | nil =>
  intro k hx  o h C0 C1
  have hk := drop_nil hx
  have hc : decide ((k : Int) < (List.length y0_o4 : Int)) = false := decide_eq_false (by omega)
  rw [kinds_told_kinds_told_1_L0_2] at h
  rcases nb_y0_o1 with ⟨_ | _, hn_y0_o1⟩
  ·
   refine SemK.round ?_
   obtain rfl := Option.some.inj h
   refine runT tmD [.br false] ?_
   exact wkT [] (C0  rfl)
  ·
   obtain rfl := hn_y0_o1 rfl
   refine SemK.round ?_
   obtain rfl := Option.some.inj h
   refine runT tmD [.br false] ?_
   exact wkT [] (C0  rfl)
 | cons x xs ih =>
  intro k hx  o h C0 C1
  obtain ⟨hk, hg, hx1⟩ := drop_cons hx
  have hc : decide ((k : Int) < (List.length y0_o4 : Int)) = true := decide_eq_true (by omega)
  rw [kinds_told_kinds_told_1_L0_2] at h
  rcases nb_y0_o1 with ⟨_ | _, hn_y0_o1⟩
  ·
   refine SemK.round ?_
   refine bindE h ?_
   clear h; intro e3127 h3128 h
   try have qh3128 := getI_lt h3128
   refine brE h ?_ ?_
   ·clear h; intro h3129 h
    obtain rfl := Option.some.inj h
    refine runT tmD [.br true, .el (aI .i64 x), .ld (aI .i64 x), .el (aB e3127), .ld (aB e3127), .br true] ?_
    exact wkT [] (C1  rfl)
   ·clear h; intro h3129 h
    refine runT tmD [.br true, .el (aI .i64 x), .ld (aI .i64 x), .el (aB e3127), .ld (aB e3127), .br false] ?_
    exact wkT [] (ih (k + 1) hx1  o h C0 C1)
  ·
   obtain rfl := hn_y0_o1 rfl
   refine SemK.round ?_
   refine bindE h ?_
   clear h; intro e3130 h3131 h
   try have qh3131 := getI_lt h3131
   exact absurd (h3131) (by simp [getI])
end Go.Av.Tryz
