/- Printed by decomp.py: that the program computes the functions. -/
import Derived.Test.YtfdfgobnpnoomaaGreatDCert0Z
set_option linter.all false

namespace Go.Av.Tryz
open Go.Proofs Go.D
set_option maxRecDepth 10000
set_option maxHeartbeats 40000000
theorem Xhw {Q : X0d -> St -> Mu -> Prop} {μ : Mu} (X5r : (List X00)) (hl : X5r.length <= 140737488355328) : ∀ (xs : List X00) (k : Nat) (hx : X5r.drop k = xs) (Xm : (List Xo)) (Xk : (List Xo)) (X1l : Nb Xm) (X02 : Nb Xk) (o : X5v) (h : X2c X5r xs k Xm Xk = some o)
  (C0 : ∀ (Xq : (List Xo)) (X0m : (List Xo)) (X0i : Nb Xq) (X0z : Nb X0m), o = X5v.x0 Xq X0m -> Xa Tryz.prog 105 0 Q (.exit (.exit 0)) [] ⟨fr [(4, (slE X0i.1 0 (Xq.map Xc))), (5, (slE X0z.1 1 (X0m.map Xc)))], hp ([] ++ opE X0i.1 0 3 (Xq.map Xc) ++ opE X0z.1 1 3 (X0m.map Xc)), 2⟩ μ)
  (C1 : ∀ (X06 : (List Xo)) (X0h : Nb X06), o = X5v.x1 X06 -> Xa Tryz.prog 105 0 Q (.exit .ret) [] ⟨fr [(2, (slE X0h.1 0 (X06.map Xc))), (3, (aB false))], hp ([] ++ opE X0h.1 0 3 (X06.map Xc)), 1⟩ μ),
  Xa Tryz.prog 105 0 Q (.loop (X5o 0 (Xt Tryz.f175))) [] ⟨fr [(4, (slE X1l.1 0 (Xm.map Xc))), (5, (slE X02.1 1 (Xk.map Xc))), (15, (Lf (X5r.map X1))), (16, (aI .i64 (X5r.length : Int))), (17, (aI .i64 (k : Int)))], hp ([] ++ opE X1l.1 0 3 (Xm.map Xc) ++ opE X02.1 1 3 (Xk.map Xc)), 2⟩ μ := by
 intro xs
 induction xs with
 | nil =>
  intro k hx Xm Xk X1l X02 o h C0 C1
  have hk := X1u hx
  have hc : decide ((k : Int) < (X5r.length : Int)) = false := Yf (by omega)
  rw [X2c] at h
  rcases X1l with ⟨_ | _, X49⟩
  ·
   rcases X02 with ⟨_ | _, X0n⟩
   ·
    refine Xa.round ?_
    obtain rfl := oj h
    refine Xe tmD [Bf] ?_
    exact wkT [] (C0 _ _  nbF nbF rfl)
   obtain rfl := X0n rfl
   refine Xa.round ?_
   obtain rfl := oj h
   refine Xe tmD [Bf] ?_
   exact wkT [] (C0 _ _  nbF (nbT (by first | rfl | simp [*])) rfl)
  ·
   obtain rfl := X49 rfl
   rcases X02 with ⟨_ | _, X0n⟩
   ·
    refine Xa.round ?_
    obtain rfl := oj h
    refine Xe tmD [Bf] ?_
    exact wkT [] (C0 _ _  (nbT (by first | rfl | simp [*])) nbF rfl)
   ·
    obtain rfl := X0n rfl
    refine Xa.round ?_
    obtain rfl := oj h
    refine Xe tmD [Bf] ?_
    exact wkT [] (C0 _ _  (nbT (by first | rfl | simp [*])) (nbT (by first | rfl | simp [*])) rfl)
 | cons x xs ih =>
  intro k hx Xm Xk X1l X02 o h C0 C1
  obtain ⟨hk, hg, hx1⟩ := X16 hx
  have hc : decide ((k : Int) < (X5r.length : Int)) = true := Yt (by omega)
  rw [X2c] at h
  rcases X1l with ⟨_ | _, X49⟩
  ·
   rcases X02 with ⟨_ | _, X0n⟩
   ·
    refine Xa.round ?_
    refine X9 h ?_
    clear h; intro v318 h319 h
    refine X9 h ?_
    clear h; intro Xq0 h323 h
    refine rn tmD [Bt, .el (X1 x), .pure [(aI .u8 x.Kind)] (AV.tup [(aI .i64 v318.1), (aI .i64 v318.2)]), .stop 6] rfl (by repeat' first|apply Ya|exact (pn (X1y _ _ h319) (cc .sc cn))|exact Xv) ?_
    refine Xa.join (s' := ⟨fr [(4, (AV.ref 0 0 (Xm.length))), (5, (AV.ref 1 0 (Xk.length))), (6, (aI .i64 (k : Int))), (7, (AV.ptr 2 0 0)), (8, (aI .i64 v318.1)), (15, (Lf (X5r.map X1))), (16, (aI .i64 (X5r.length : Int))), (17, (aI .i64 (k : Int))), (35, (aB Xq0))], hp ([(0, Ob (Xm.map Xc) 3), (1, Ob (Xk.map Xc) 3), (2, Ob [(X1 x)] 5)]), 3⟩) ?_ (fun J => Xa.cut ?_)
    ·
     refine brE h ?_ ?_
     ·clear h; intro h324 h
      obtain rfl := oj h
      refine Xe tmD [Bt] ?_
      exact wkT [] (C1 _  nbF rfl)
     clear h; intro h324 h
     refine Xe tmD [Bf] ?_
     refine Xa.inline Xg Xyd rfl rfl rfl rfl rfl trivial trivial rfl rfl ?_
     refine X9 h ?_
     clear h; intro m331 h332 h
     obtain ⟨qah332, qbh332, qch332, qh332⟩ := X3v h332
     have qlh332 := X89 h332
     refine X9 h ?_
     clear h; intro m333 h334 h
     obtain ⟨qah334, qbh334, qch334, qh334⟩ := X3v h334
     have qlh334 := X89 h334
     refine brE h ?_ ?_
     ·clear h; intro h335 h
      refine rn tmD [.el (aI .i64 (Xk.length : Int)), .wrap, .via (.ref 1 0 (m331.length)), .el (aI .i64 (Xk.length : Int)), .wrap, .ne false] rfl (by repeat' first | refine Ya ?_ ?_ | (simp at qah332 qbh332 qch332 ⊢; omega) | (simp at qah332 qbh332 qch332 qlh332 ⊢; omega) | (simp; done) | (simp at qah334 qbh334 qch334 ⊢; omega) | (simp at qah334 qbh334 qch334 qlh334 ⊢; have qz := X3k h335; omega)|exact Xv) ?_
      refine Xa.back (by intro id h; cases h) rfl ?_
      refine rn tmD [] rfl (by repeat' first | refine Ya ?_ ?_ | (simp at qah332 qbh332 qch332 ⊢; omega) | (simp at qah332 qbh332 qch332 qlh332 ⊢; omega) | (simp; done) | (simp at qah334 qbh334 qch334 ⊢; omega) | (simp at qah334 qbh334 qch334 qlh334 ⊢; have qz := X3k h335; omega)|exact Xv) ?_
      refine Xa.round ?_
      refine X9 h ?_
      clear h; intro Xpz h339 h
      refine rn tmD [Bf] rfl (by repeat' first | refine Ya ?_ ?_ | (simp at qah332 qbh332 qch332 ⊢; omega) | (simp at qah332 qbh332 qch332 qlh332 ⊢; omega) | (simp; done) | (simp at qah334 qbh334 qch334 ⊢; omega) | (simp at qah334 qbh334 qch334 qlh334 ⊢; have qz := X3k h335; omega)|exact Xv) ?_
      refine Xa.join (s' := ⟨fr [(4, (AV.ref 0 0 (Xm.length))), (5, (AV.ref 1 0 (m331.length))), (7, (AV.ptr 2 0 0)), (11, (AV.ptr 3 0 0)), (12, (AV.ptr 4 0 0)), (15, (Lf (X5r.map X1))), (16, (aI .i64 (X5r.length : Int))), (17, (aI .i64 (k : Int)))], hp ([(0, Ob (Xm.map Xc) 3), (1, Ob (Xk.map Xc) 3), (2, Ob [(X1 x)] 5), (3, Ob [(X1 Xpz)] 5), (4, Ob [(Xc (Xo.mk (k : Int) 1 1))] 3)]), 5⟩) ?_ (fun J => Xa.cut ?_)
      ·
       refine brE h ?_ ?_
       ·clear h; intro h340 h
        obtain rfl := oj h
        refine rn tmD [Bt] rfl (by repeat' first | refine Ya ?_ ?_ | (simp at qah332 qbh332 qch332 ⊢; omega) | (simp at qah332 qbh332 qch332 qlh332 ⊢; omega) | (simp; done) | (simp at qah334 qbh334 qch334 ⊢; omega) | (simp at qah334 qbh334 qch334 qlh334 ⊢; have qz := X3k h335; omega)|exact Xv) ?_
        exact wkT [] (C1 _  nbF rfl)
       clear h; intro h340 h
       refine X9 h ?_
       clear h; intro u341 h342 h
       refine X9 h ?_
       clear h; intro u343 h344 h
       refine rn tmD [Bf, .trunc 1 (m331.map Xc), .no, .no] rfl (by repeat' first | refine Ya ?_ ?_ | (simp at qah332 qbh332 qch332 ⊢; omega) | (simp at qah332 qbh332 qch332 qlh332 ⊢; omega) | (simp; done) | (simp at qah334 qbh334 qch334 ⊢; omega) | (simp at qah334 qbh334 qch334 qlh334 ⊢; have qz := X3k h335; omega) | (refine X0w h342 rfl ?_; first | (simp; done) | (simp; omega) | (simp [hc, h324, h335, h340]; done) | (simp [hc, h324, h335, h340]; omega)) | (refine X0a h342 (by decide) ?_; first | (simp; done) | (simp; omega) | (simp [hc, h324, h335, h340]; done) | (simp [hc, h324, h335, h340]; omega))|exact (X9e (f := Xc) qh332) | (refine X0w h344 rfl ?_; first | (simp; done) | (simp; omega) | (simp [hc, h324, h335, h340]; done) | (simp [hc, h324, h335, h340]; omega)) | (refine X0a h344 (by decide) ?_; first | (simp; done) | (simp; omega) | (simp [hc, h324, h335, h340]; done) | (simp [hc, h324, h335, h340]; omega))|exact Xv) ?_
       exact wkT [(0, 8), (1, 6)] (ih (k + 1) hx1 _ _ nbF nbF o h C0 C1)
      clear h
      have h := h339
      refine brE h ?_ ?_
      ·clear h; intro h338 h
       obtain rfl := oj h
       refine rn tmD [Bt] rfl (by repeat' first | refine Ya ?_ ?_ | (simp at qah332 qbh332 qch332 ⊢; omega) | (simp at qah332 qbh332 qch332 qlh332 ⊢; omega) | (simp; done) | (simp at qah334 qbh334 qch334 ⊢; omega) | (simp at qah334 qbh334 qch334 qlh334 ⊢; have qz := X3k h335; omega)|exact Xv) ?_
       exact wkT [(3, 17), (4, 18)] (Xa.glue J)
      clear h; intro h338 h
      obtain rfl := oj h
      refine rn tmD [Bf] rfl (by repeat' first | refine Ya ?_ ?_ | (simp at qah332 qbh332 qch332 ⊢; omega) | (simp at qah332 qbh332 qch332 qlh332 ⊢; omega) | (simp; done) | (simp at qah334 qbh334 qch334 ⊢; omega) | (simp at qah334 qbh334 qch334 qlh334 ⊢; have qz := X3k h335; omega)|exact Xv) ?_
      exact wkT [(3, 17), (4, 18)] (Xa.glue J)
     clear h; intro h335 h
     refine rn tmD [.el (aI .i64 (Xk.length : Int)), .wrap, .via (.ref 1 0 (m331.length)), .el (aI .i64 (Xk.length : Int)), .wrap, .via (.ref 1 (Int.toNat (IntKind.i64.wrap ((Xk.length : Int) - v318.1))) (m333.length))] rfl (by repeat' first | refine Ya ?_ ?_ | (simp at qah332 qbh332 qch332 ⊢; omega) | (simp at qah332 qbh332 qch332 qlh332 ⊢; omega) | (simp; done) | (simp at qah334 qbh334 qch334 ⊢; omega) | (simp at qah334 qbh334 qch334 qlh334 ⊢; have qz := X1h h335; omega) | (simp at qah334 qbh334 qch334 qlh334 ⊢; omega)|exact Xv) ?_
     refine Xa.back (by intro id h; cases h) rfl ?_
     refine brE h ?_ ?_
     ·clear h; intro h345 h
      refine rn tmD [.el (aI .i64 (m333.length : Int))] rfl (by repeat' first | refine Ya ?_ ?_ | (simp at qah332 qbh332 qch332 ⊢; omega) | (simp at qah332 qbh332 qch332 qlh332 ⊢; omega) | (simp; done) | (simp at qah334 qbh334 qch334 ⊢; omega) | (simp at qah334 qbh334 qch334 qlh334 ⊢; have qz := X1h h335; omega) | (simp at qah334 qbh334 qch334 qlh334 ⊢; omega) | (have hp := eq_of_beq h345; simp [hp]; done) | (have hp := eq_of_beq h345; simp at hp ⊢; omega) | (have hp := eq_of_beq h345; subst hp; decide +kernel)|exact Xv) ?_
      refine Xa.round ?_
      refine X9 h ?_
      clear h; intro e346 h347 h
      try have qh347 := Xz h347
      refine rn tmD [Bt, .el (Xc e346), .ld (Xc e346), Bt, .wrap, .wrap] rfl (by repeat' first | refine Ya ?_ ?_ | (simp at qah332 qbh332 qch332 ⊢; omega) | (simp at qah332 qbh332 qch332 qlh332 ⊢; omega) | (simp; done) | (simp at qah334 qbh334 qch334 ⊢; omega) | (simp at qah334 qbh334 qch334 qlh334 ⊢; have qz := X1h h335; omega) | (simp at qah334 qbh334 qch334 qlh334 ⊢; omega) | (have hp := eq_of_beq h345; simp [hp]; done) | (have hp := eq_of_beq h345; simp at hp ⊢; omega) | (have hp := eq_of_beq h345; subst hp; decide +kernel)|exact (Xgi (f := Xc) qh334 h347)|exact (Xz h347)|exact (X8q h347)|exact Xv) ?_
      refine Xa.round ?_
      refine X9 h ?_
      clear h; intro Xpy h351 h
      refine rn tmD [Bf] rfl (by repeat' first | refine Ya ?_ ?_ | (simp at qah332 qbh332 qch332 ⊢; omega) | (simp at qah332 qbh332 qch332 qlh332 ⊢; omega) | (simp; done) | (simp at qah334 qbh334 qch334 ⊢; omega) | (simp at qah334 qbh334 qch334 qlh334 ⊢; have qz := X1h h335; omega) | (simp at qah334 qbh334 qch334 qlh334 ⊢; omega) | (have hp := eq_of_beq h345; simp [hp]; done) | (have hp := eq_of_beq h345; simp at hp ⊢; omega) | (have hp := eq_of_beq h345; subst hp; decide +kernel)|exact Xv) ?_
      refine Xa.join (s' := ⟨fr [(4, (AV.ref 0 0 (Xm.length))), (5, (AV.ref 1 0 (m331.length))), (7, (AV.ptr 2 0 0)), (11, (AV.ptr 3 0 0)), (12, (AV.ptr 4 0 0)), (15, (Lf (X5r.map X1))), (16, (aI .i64 (X5r.length : Int))), (17, (aI .i64 (k : Int)))], hp ([(0, Ob (Xm.map Xc) 3), (1, Ob (Xk.map Xc) 3), (2, Ob [(X1 x)] 5), (3, Ob [(X1 Xpy)] 5), (4, Ob [(Xc (Xo.mk (k : Int) (IntKind.i64.wrap (1 + e346.size)) (if (IntKind.i64.wrap (e346.depth + 1)) > 1 then (IntKind.i64.wrap (e346.depth + 1)) else 1)))] 3)]), 5⟩) ?_ (fun J => Xa.cut ?_)
      ·
       refine brE h ?_ ?_
       ·clear h; intro h352 h
        obtain rfl := oj h
        refine rn tmD [Bt] rfl (by repeat' first | refine Ya ?_ ?_ | (simp at qah332 qbh332 qch332 ⊢; omega) | (simp at qah332 qbh332 qch332 qlh332 ⊢; omega) | (simp; done) | (simp at qah334 qbh334 qch334 ⊢; omega) | (simp at qah334 qbh334 qch334 qlh334 ⊢; have qz := X1h h335; omega) | (simp at qah334 qbh334 qch334 qlh334 ⊢; omega) | (have hp := eq_of_beq h345; simp [hp]; done) | (have hp := eq_of_beq h345; simp at hp ⊢; omega) | (have hp := eq_of_beq h345; subst hp; decide +kernel)|exact Xv) ?_
        exact wkT [] (C1 _  nbF rfl)
       clear h; intro h352 h
       refine X9 h ?_
       clear h; intro u353 h354 h
       refine X9 h ?_
       clear h; intro u355 h356 h
       refine rn tmD [Bf, .trunc 1 (m331.map Xc), .no, .no] rfl (by repeat' first | refine Ya ?_ ?_ | (simp at qah332 qbh332 qch332 ⊢; omega) | (simp at qah332 qbh332 qch332 qlh332 ⊢; omega) | (simp; done) | (simp at qah334 qbh334 qch334 ⊢; omega) | (simp at qah334 qbh334 qch334 qlh334 ⊢; have qz := X1h h335; omega) | (simp at qah334 qbh334 qch334 qlh334 ⊢; omega) | (have hp := eq_of_beq h345; simp [hp]; done) | (have hp := eq_of_beq h345; simp at hp ⊢; omega) | (have hp := eq_of_beq h345; subst hp; decide +kernel) | (refine X0w h354 rfl ?_; first | (simp; done) | (simp; omega) | (simp [hc, h324, h335, h345, h352]; done) | (simp [hc, h324, h335, h345, h352]; omega)) | (refine X0a h354 (by decide) ?_; first | (simp; done) | (simp; omega) | (simp [hc, h324, h335, h345, h352]; done) | (simp [hc, h324, h335, h345, h352]; omega))|exact (X9e (f := Xc) qh332) | (refine X0w h356 rfl ?_; first | (simp; done) | (simp; omega) | (simp [hc, h324, h335, h345, h352]; done) | (simp [hc, h324, h335, h345, h352]; omega)) | (refine X0a h356 (by decide) ?_; first | (simp; done) | (simp; omega) | (simp [hc, h324, h335, h345, h352]; done) | (simp [hc, h324, h335, h345, h352]; omega))|exact Xv) ?_
       exact wkT [(0, 8), (1, 6)] (ih (k + 1) hx1 _ _ nbF nbF o h C0 C1)
      clear h
      have h := h351
      refine brE h ?_ ?_
      ·clear h; intro h350 h
       obtain rfl := oj h
       refine rn tmD [Bt] rfl (by repeat' first | refine Ya ?_ ?_ | (simp at qah332 qbh332 qch332 ⊢; omega) | (simp at qah332 qbh332 qch332 qlh332 ⊢; omega) | (simp; done) | (simp at qah334 qbh334 qch334 ⊢; omega) | (simp at qah334 qbh334 qch334 qlh334 ⊢; have qz := X1h h335; omega) | (simp at qah334 qbh334 qch334 qlh334 ⊢; omega) | (have hp := eq_of_beq h345; simp [hp]; done) | (have hp := eq_of_beq h345; simp at hp ⊢; omega) | (have hp := eq_of_beq h345; subst hp; decide +kernel)|exact Xv) ?_
       exact wkT [(3, 17), (4, 18)] (Xa.glue J)
      clear h; intro h350 h
      obtain rfl := oj h
      refine rn tmD [Bf] rfl (by repeat' first | refine Ya ?_ ?_ | (simp at qah332 qbh332 qch332 ⊢; omega) | (simp at qah332 qbh332 qch332 qlh332 ⊢; omega) | (simp; done) | (simp at qah334 qbh334 qch334 ⊢; omega) | (simp at qah334 qbh334 qch334 qlh334 ⊢; have qz := X1h h335; omega) | (simp at qah334 qbh334 qch334 qlh334 ⊢; omega) | (have hp := eq_of_beq h345; simp [hp]; done) | (have hp := eq_of_beq h345; simp at hp ⊢; omega) | (have hp := eq_of_beq h345; subst hp; decide +kernel)|exact Xv) ?_
      exact wkT [(3, 17), (4, 18)] (Xa.glue J)
     clear h; intro h345 h
     refine brE h ?_ ?_
     ·clear h; intro h357 h
      refine rn tmD [.el (aI .i64 (m333.length : Int))] rfl (by repeat' first | refine Ya ?_ ?_ | (simp at qah332 qbh332 qch332 ⊢; omega) | (simp at qah332 qbh332 qch332 qlh332 ⊢; omega) | (simp; done) | (simp at qah334 qbh334 qch334 ⊢; omega) | (simp at qah334 qbh334 qch334 qlh334 ⊢; have qz := X1h h335; omega) | (simp at qah334 qbh334 qch334 qlh334 ⊢; omega) | (have hp := eq_of_beq h357; simp [hp]; done) | (have hp := eq_of_beq h357; simp at hp ⊢; omega) | (have hp := eq_of_beq h357; subst hp; decide +kernel)|exact Xv) ?_
      refine Xa.round ?_
      refine X9 h ?_
      clear h; intro e358 h359 h
      try have qh359 := Xz h359
      refine rn tmD [Bt, .el (Xc e358), .ld (Xc e358), Bt, .wrap, .wrap] rfl (by repeat' first | refine Ya ?_ ?_ | (simp at qah332 qbh332 qch332 ⊢; omega) | (simp at qah332 qbh332 qch332 qlh332 ⊢; omega) | (simp; done) | (simp at qah334 qbh334 qch334 ⊢; omega) | (simp at qah334 qbh334 qch334 qlh334 ⊢; have qz := X1h h335; omega) | (simp at qah334 qbh334 qch334 qlh334 ⊢; omega) | (have hp := eq_of_beq h357; simp [hp]; done) | (have hp := eq_of_beq h357; simp at hp ⊢; omega) | (have hp := eq_of_beq h357; subst hp; decide +kernel)|exact (Xgi (f := Xc) qh334 h359)|exact (Xz h359)|exact (X8q h359)|exact Xv) ?_
      refine Xa.round ?_
      refine X9 h ?_
      clear h; intro e360 h361 h
      try have qh361 := Xz h361
      refine rn tmD [Bt, .el (Xc e360), .ld (Xc e360), Bf, .wrap, .wrap] rfl (by repeat' first | refine Ya ?_ ?_ | (simp at qah332 qbh332 qch332 ⊢; omega) | (simp at qah332 qbh332 qch332 qlh332 ⊢; omega) | (simp; done) | (simp at qah334 qbh334 qch334 ⊢; omega) | (simp at qah334 qbh334 qch334 qlh334 ⊢; have qz := X1h h335; omega) | (simp at qah334 qbh334 qch334 qlh334 ⊢; omega) | (have hp := eq_of_beq h357; simp [hp]; done) | (have hp := eq_of_beq h357; simp at hp ⊢; omega) | (have hp := eq_of_beq h357; subst hp; decide +kernel)|exact (Xgi (f := Xc) qh334 h361)|exact (Xz h361)|exact (X8q h361)|exact Xv) ?_
      refine Xa.round ?_
      refine X9 h ?_
      clear h; intro Xpx h365 h
      refine rn tmD [Bf] rfl (by repeat' first | refine Ya ?_ ?_ | (simp at qah332 qbh332 qch332 ⊢; omega) | (simp at qah332 qbh332 qch332 qlh332 ⊢; omega) | (simp; done) | (simp at qah334 qbh334 qch334 ⊢; omega) | (simp at qah334 qbh334 qch334 qlh334 ⊢; have qz := X1h h335; omega) | (simp at qah334 qbh334 qch334 qlh334 ⊢; omega) | (have hp := eq_of_beq h357; simp [hp]; done) | (have hp := eq_of_beq h357; simp at hp ⊢; omega) | (have hp := eq_of_beq h357; subst hp; decide +kernel)|exact Xv) ?_
      refine Xa.join (s' := ⟨fr [(4, (AV.ref 0 0 (Xm.length))), (5, (AV.ref 1 0 (m331.length))), (7, (AV.ptr 2 0 0)), (11, (AV.ptr 3 0 0)), (12, (AV.ptr 4 0 0)), (15, (Lf (X5r.map X1))), (16, (aI .i64 (X5r.length : Int))), (17, (aI .i64 (k : Int)))], hp ([(0, Ob (Xm.map Xc) 3), (1, Ob (Xk.map Xc) 3), (2, Ob [(X1 x)] 5), (3, Ob [(X1 Xpx)] 5), (4, Ob [(Xc (Xo.mk (k : Int) (IntKind.i64.wrap ((IntKind.i64.wrap (1 + e358.size)) + e360.size)) (if (IntKind.i64.wrap (e360.depth + 1)) > (if (IntKind.i64.wrap (e358.depth + 1)) > 1 then (IntKind.i64.wrap (e358.depth + 1)) else 1) then (IntKind.i64.wrap (e360.depth + 1)) else (if (IntKind.i64.wrap (e358.depth + 1)) > 1 then (IntKind.i64.wrap (e358.depth + 1)) else 1))))] 3)]), 5⟩) ?_ (fun J => Xa.cut ?_)
      ·
       refine brE h ?_ ?_
       ·clear h; intro h366 h
        obtain rfl := oj h
        refine rn tmD [Bt] rfl (by repeat' first | refine Ya ?_ ?_ | (simp at qah332 qbh332 qch332 ⊢; omega) | (simp at qah332 qbh332 qch332 qlh332 ⊢; omega) | (simp; done) | (simp at qah334 qbh334 qch334 ⊢; omega) | (simp at qah334 qbh334 qch334 qlh334 ⊢; have qz := X1h h335; omega) | (simp at qah334 qbh334 qch334 qlh334 ⊢; omega) | (have hp := eq_of_beq h357; simp [hp]; done) | (have hp := eq_of_beq h357; simp at hp ⊢; omega) | (have hp := eq_of_beq h357; subst hp; decide +kernel)|exact Xv) ?_
        exact wkT [] (C1 _  nbF rfl)
       clear h; intro h366 h
       refine X9 h ?_
       clear h; intro u367 h368 h
       refine X9 h ?_
       clear h; intro u369 h370 h
       refine rn tmD [Bf, .trunc 1 (m331.map Xc), .no, .no] rfl (by repeat' first | refine Ya ?_ ?_ | (simp at qah332 qbh332 qch332 ⊢; omega) | (simp at qah332 qbh332 qch332 qlh332 ⊢; omega) | (simp; done) | (simp at qah334 qbh334 qch334 ⊢; omega) | (simp at qah334 qbh334 qch334 qlh334 ⊢; have qz := X1h h335; omega) | (simp at qah334 qbh334 qch334 qlh334 ⊢; omega) | (have hp := eq_of_beq h357; simp [hp]; done) | (have hp := eq_of_beq h357; simp at hp ⊢; omega) | (have hp := eq_of_beq h357; subst hp; decide +kernel) | (refine X0w h368 rfl ?_; first | (simp; done) | (simp; omega) | (simp [hc, h324, h335, h345, h357, h366]; done) | (simp [hc, h324, h335, h345, h357, h366]; omega)) | (refine X0a h368 (by decide) ?_; first | (simp; done) | (simp; omega) | (simp [hc, h324, h335, h345, h357, h366]; done) | (simp [hc, h324, h335, h345, h357, h366]; omega))|exact (X9e (f := Xc) qh332) | (refine X0w h370 rfl ?_; first | (simp; done) | (simp; omega) | (simp [hc, h324, h335, h345, h357, h366]; done) | (simp [hc, h324, h335, h345, h357, h366]; omega)) | (refine X0a h370 (by decide) ?_; first | (simp; done) | (simp; omega) | (simp [hc, h324, h335, h345, h357, h366]; done) | (simp [hc, h324, h335, h345, h357, h366]; omega))|exact Xv) ?_
       exact wkT [(0, 8), (1, 6)] (ih (k + 1) hx1 _ _ nbF nbF o h C0 C1)
      clear h
      have h := h365
      refine brE h ?_ ?_
      ·clear h; intro h364 h
       obtain rfl := oj h
       refine rn tmD [Bt] rfl (by repeat' first | refine Ya ?_ ?_ | (simp at qah332 qbh332 qch332 ⊢; omega) | (simp at qah332 qbh332 qch332 qlh332 ⊢; omega) | (simp; done) | (simp at qah334 qbh334 qch334 ⊢; omega) | (simp at qah334 qbh334 qch334 qlh334 ⊢; have qz := X1h h335; omega) | (simp at qah334 qbh334 qch334 qlh334 ⊢; omega) | (have hp := eq_of_beq h357; simp [hp]; done) | (have hp := eq_of_beq h357; simp at hp ⊢; omega) | (have hp := eq_of_beq h357; subst hp; decide +kernel)|exact Xv) ?_
       exact wkT [(3, 17), (4, 18)] (Xa.glue J)
      clear h; intro h364 h
      obtain rfl := oj h
      refine rn tmD [Bf] rfl (by repeat' first | refine Ya ?_ ?_ | (simp at qah332 qbh332 qch332 ⊢; omega) | (simp at qah332 qbh332 qch332 qlh332 ⊢; omega) | (simp; done) | (simp at qah334 qbh334 qch334 ⊢; omega) | (simp at qah334 qbh334 qch334 qlh334 ⊢; have qz := X1h h335; omega) | (simp at qah334 qbh334 qch334 qlh334 ⊢; omega) | (have hp := eq_of_beq h357; simp [hp]; done) | (have hp := eq_of_beq h357; simp at hp ⊢; omega) | (have hp := eq_of_beq h357; subst hp; decide +kernel)|exact Xv) ?_
      exact wkT [(3, 17), (4, 18)] (Xa.glue J)
     clear h; intro h357 h
     cases h
    clear h
    have h := h323
    refine brE h ?_ ?_
    ·clear h; intro h322 h
     obtain rfl := oj h
     refine rn tmD [.go false, .go false, .go false, .go false] rfl (by repeat' first|apply Ya|exact (pn (X1y _ _ h319) (cc .sc cn))|exact Xv) ?_
     exact wkT [] (Xa.glue J)
    clear h; intro h322 h
    obtain rfl := oj h
    refine rn tmD [.go true, .go true, .go true, .el (aI .i64 (Xk.length : Int)), .go true] rfl (by repeat' first|apply Ya|exact (pn (X1y _ _ h319) (cc .sc cn))|exact Xv) ?_
    exact wkT [] (Xa.glue J)
   obtain rfl := X0n rfl
   refine Xa.round ?_
   refine X9 h ?_
   clear h; intro v371 h372 h
   refine X9 h ?_
   clear h; intro X00u h376 h
   refine rn tmD [Bt, .el (X1 x), .pure [(aI .u8 x.Kind)] (AV.tup [(aI .i64 v371.1), (aI .i64 v371.2)]), .stop 6] rfl (by repeat' first|apply Ya|exact (pn (X1y _ _ h372) (cc .sc cn))|exact Xv) ?_
   refine Xa.join (s' := ⟨fr [(4, (AV.ref 0 0 (Xm.length))), (5, AV.nils), (6, (aI .i64 (k : Int))), (7, (AV.ptr 2 0 0)), (8, (aI .i64 v371.1)), (15, (Lf (X5r.map X1))), (16, (aI .i64 (X5r.length : Int))), (17, (aI .i64 (k : Int))), (35, (aB X00u))], hp ([(0, Ob (Xm.map Xc) 3), (2, Ob [(X1 x)] 5)]), 3⟩) ?_ (fun J => Xa.cut ?_)
   ·
    refine brE h ?_ ?_
    ·clear h; intro h377 h
     obtain rfl := oj h
     refine Xe tmD [Bt] ?_
     exact wkT [] (C1 _  nbF rfl)
    clear h; intro h377 h
    refine Xe tmD [Bf] ?_
    refine Xa.inline Xg Xyd rfl rfl rfl rfl rfl trivial trivial rfl rfl ?_
    refine X9 h ?_
    clear h; intro m383 h384 h
    obtain ⟨qah384, qbh384, qch384, qh384⟩ := X3v h384
    obtain rfl := X9d h384
    refine X9 h ?_
    clear h; intro m385 h386 h
    obtain ⟨qah386, qbh386, qch386, qh386⟩ := X3v h386
    obtain rfl := X9d h386
    refine brE h ?_ ?_
    ·clear h; intro h387 h
     refine rn tmD [.el (aI .i64 (List.length ([] : List Xo) : Int)), .wrap, .el (aI .i64 (List.length ([] : List Xo) : Int)), .wrap] rfl (by repeat' first | refine Ya ?_ ?_ | (simp at qah384 qbh384 qch384 ⊢; omega) | (simp at qah386 qbh386 qch386 ⊢; omega)|exact Xv) ?_
     refine Xa.back (by intro id h; cases h) rfl ?_
     refine rn tmD [] rfl (by repeat' first | refine Ya ?_ ?_ | (simp at qah384 qbh384 qch384 ⊢; omega) | (simp at qah386 qbh386 qch386 ⊢; omega)|exact Xv) ?_
     refine Xa.round ?_
     refine X9 h ?_
     clear h; intro X00t h391 h
     refine rn tmD [Bf] rfl (by repeat' first | refine Ya ?_ ?_ | (simp at qah384 qbh384 qch384 ⊢; omega) | (simp at qah386 qbh386 qch386 ⊢; omega)|exact Xv) ?_
     refine Xa.join (s' := ⟨fr [(4, (AV.ref 0 0 (Xm.length))), (5, AV.nils), (7, (AV.ptr 2 0 0)), (11, (AV.ptr 3 0 0)), (12, (AV.ptr 4 0 0)), (15, (Lf (X5r.map X1))), (16, (aI .i64 (X5r.length : Int))), (17, (aI .i64 (k : Int)))], hp ([(0, Ob (Xm.map Xc) 3), (2, Ob [(X1 x)] 5), (3, Ob [(X1 X00t)] 5), (4, Ob [(Xc (Xo.mk (k : Int) 1 1))] 3)]), 5⟩) ?_ (fun J => Xa.cut ?_)
     ·
      refine brE h ?_ ?_
      ·clear h; intro h392 h
       obtain rfl := oj h
       refine rn tmD [Bt] rfl (by repeat' first | refine Ya ?_ ?_ | (simp at qah384 qbh384 qch384 ⊢; omega) | (simp at qah386 qbh386 qch386 ⊢; omega)|exact Xv) ?_
       exact wkT [] (C1 _  nbF rfl)
      clear h; intro h392 h
      refine X9 h ?_
      clear h; intro u393 h394 h
      refine X9 h ?_
      clear h; intro u395 h396 h
      refine rn tmD [Bf, .no, .no] rfl (by repeat' first | refine Ya ?_ ?_ | (simp at qah384 qbh384 qch384 ⊢; omega) | (simp at qah386 qbh386 qch386 ⊢; omega) | (refine X0w h394 rfl ?_; first | (simp; done) | (simp; omega) | (simp [hc, h377, h387, h392]; done) | (simp [hc, h377, h387, h392]; omega)) | (refine X0a h394 (by decide) ?_; first | (simp; done) | (simp; omega) | (simp [hc, h377, h387, h392]; done) | (simp [hc, h377, h387, h392]; omega)) | (refine X0w h396 rfl ?_; first | (simp; done) | (simp; omega) | (simp [hc, h377, h387, h392]; done) | (simp [hc, h377, h387, h392]; omega)) | (refine X0a h396 (by decide) ?_; first | (simp; done) | (simp; omega) | (simp [hc, h377, h387, h392]; done) | (simp [hc, h377, h387, h392]; omega))|exact Xv) ?_
      exact wkT [(0, 8), (1, 6)] (ih (k + 1) hx1 _ _ nbF nbF o h C0 C1)
     clear h
     have h := h391
     refine brE h ?_ ?_
     ·clear h; intro h390 h
      obtain rfl := oj h
      refine rn tmD [Bt] rfl (by repeat' first | refine Ya ?_ ?_ | (simp at qah384 qbh384 qch384 ⊢; omega) | (simp at qah386 qbh386 qch386 ⊢; omega)|exact Xv) ?_
      exact wkT [(3, 17), (4, 18)] (Xa.glue J)
     clear h; intro h390 h
     obtain rfl := oj h
     refine rn tmD [Bf] rfl (by repeat' first | refine Ya ?_ ?_ | (simp at qah384 qbh384 qch384 ⊢; omega) | (simp at qah386 qbh386 qch386 ⊢; omega)|exact Xv) ?_
     exact wkT [(3, 17), (4, 18)] (Xa.glue J)
    clear h; intro h387 h
    exact absurd h387 (by simp)
   clear h
   have h := h376
   refine brE h ?_ ?_
   ·clear h; intro h375 h
    obtain rfl := oj h
    refine rn tmD [.go false, .go false, .go false, .go false] rfl (by repeat' first|apply Ya|exact (pn (X1y _ _ h372) (cc .sc cn))|exact Xv) ?_
    exact wkT [] (Xa.glue J)
   clear h; intro h375 h
   obtain rfl := oj h
   refine rn tmD [.go true, .go true, .go true, .el (aI .i64 (List.length ([] : List Xo) : Int)), .go true] rfl (by repeat' first|apply Ya|exact (pn (X1y _ _ h372) (cc .sc cn))|exact Xv) ?_
   exact wkT [] (Xa.glue J)
  obtain rfl := X49 rfl
  rcases X02 with ⟨_ | _, X0n⟩
  ·
   refine Xa.round ?_
   refine X9 h ?_
   clear h; intro v397 h398 h
   refine X9 h ?_
   clear h; intro X00r h402 h
   refine rn tmD [Bt, .el (X1 x), .pure [(aI .u8 x.Kind)] (AV.tup [(aI .i64 v397.1), (aI .i64 v397.2)]), .stop 6] rfl (by repeat' first|apply Ya|exact (pn (X1y _ _ h398) (cc .sc cn))|exact Xv) ?_
   refine Xa.join (s' := ⟨fr [(4, AV.nils), (5, (AV.ref 1 0 (Xk.length))), (6, (aI .i64 (k : Int))), (7, (AV.ptr 2 0 0)), (8, (aI .i64 v397.1)), (15, (Lf (X5r.map X1))), (16, (aI .i64 (X5r.length : Int))), (17, (aI .i64 (k : Int))), (35, (aB X00r))], hp ([(1, Ob (Xk.map Xc) 3), (2, Ob [(X1 x)] 5)]), 3⟩) ?_ (fun J => Xa.cut ?_)
   ·
    refine brE h ?_ ?_
    ·clear h; intro h403 h
     obtain rfl := oj h
     refine Xe tmD [Bt] ?_
     exact wkT [] (C1 _  (nbT (by first | rfl | simp [*])) rfl)
    clear h; intro h403 h
    refine Xe tmD [Bf] ?_
    refine Xa.inline Xg Xyd rfl rfl rfl rfl rfl trivial trivial rfl rfl ?_
    refine X9 h ?_
    clear h; intro m409 h410 h
    obtain ⟨qah410, qbh410, qch410, qh410⟩ := X3v h410
    have qlh410 := X89 h410
    refine X9 h ?_
    clear h; intro m411 h412 h
    obtain ⟨qah412, qbh412, qch412, qh412⟩ := X3v h412
    have qlh412 := X89 h412
    refine brE h ?_ ?_
    ·clear h; intro h413 h
     refine rn tmD [.el (aI .i64 (Xk.length : Int)), .wrap, .via (.ref 1 0 (m409.length)), .el (aI .i64 (Xk.length : Int)), .wrap, .ne false] rfl (by repeat' first | refine Ya ?_ ?_ | (simp at qah410 qbh410 qch410 ⊢; omega) | (simp at qah410 qbh410 qch410 qlh410 ⊢; omega) | (simp; done) | (simp at qah412 qbh412 qch412 ⊢; omega) | (simp at qah412 qbh412 qch412 qlh412 ⊢; have qz := X3k h413; omega)|exact Xv) ?_
     refine Xa.back (by intro id h; cases h) rfl ?_
     refine rn tmD [] rfl (by repeat' first | refine Ya ?_ ?_ | (simp at qah410 qbh410 qch410 ⊢; omega) | (simp at qah410 qbh410 qch410 qlh410 ⊢; omega) | (simp; done) | (simp at qah412 qbh412 qch412 ⊢; omega) | (simp at qah412 qbh412 qch412 qlh412 ⊢; have qz := X3k h413; omega)|exact Xv) ?_
     refine Xa.round ?_
     refine X9 h ?_
     clear h; intro X00q h417 h
     refine rn tmD [Bf] rfl (by repeat' first | refine Ya ?_ ?_ | (simp at qah410 qbh410 qch410 ⊢; omega) | (simp at qah410 qbh410 qch410 qlh410 ⊢; omega) | (simp; done) | (simp at qah412 qbh412 qch412 ⊢; omega) | (simp at qah412 qbh412 qch412 qlh412 ⊢; have qz := X3k h413; omega)|exact Xv) ?_
     refine Xa.join (s' := ⟨fr [(4, AV.nils), (5, (AV.ref 1 0 (m409.length))), (7, (AV.ptr 2 0 0)), (11, (AV.ptr 3 0 0)), (12, (AV.ptr 4 0 0)), (15, (Lf (X5r.map X1))), (16, (aI .i64 (X5r.length : Int))), (17, (aI .i64 (k : Int)))], hp ([(1, Ob (Xk.map Xc) 3), (2, Ob [(X1 x)] 5), (3, Ob [(X1 X00q)] 5), (4, Ob [(Xc (Xo.mk (k : Int) 1 1))] 3)]), 5⟩) ?_ (fun J => Xa.cut ?_)
     ·
      refine brE h ?_ ?_
      ·clear h; intro h418 h
       obtain rfl := oj h
       refine rn tmD [Bt] rfl (by repeat' first | refine Ya ?_ ?_ | (simp at qah410 qbh410 qch410 ⊢; omega) | (simp at qah410 qbh410 qch410 qlh410 ⊢; omega) | (simp; done) | (simp at qah412 qbh412 qch412 ⊢; omega) | (simp at qah412 qbh412 qch412 qlh412 ⊢; have qz := X3k h413; omega)|exact Xv) ?_
       exact wkT [] (C1 _  (nbT (by first | rfl | simp [*])) rfl)
      clear h; intro h418 h
      refine X9 h ?_
      clear h; intro u419 h420 h
      refine X9 h ?_
      clear h; intro u421 h422 h
      refine rn tmD [Bf, .trunc 1 (m409.map Xc), .no, .no] rfl (by repeat' first | refine Ya ?_ ?_ | (simp at qah410 qbh410 qch410 ⊢; omega) | (simp at qah410 qbh410 qch410 qlh410 ⊢; omega) | (simp; done) | (simp at qah412 qbh412 qch412 ⊢; omega) | (simp at qah412 qbh412 qch412 qlh412 ⊢; have qz := X3k h413; omega) | (refine X0w h420 rfl ?_; first | (simp; done) | (simp; omega) | (simp [hc, h403, h413, h418]; done) | (simp [hc, h403, h413, h418]; omega)) | (refine X0a h420 (by decide) ?_; first | (simp; done) | (simp; omega) | (simp [hc, h403, h413, h418]; done) | (simp [hc, h403, h413, h418]; omega))|exact (X9e (f := Xc) qh410) | (refine X0w h422 rfl ?_; first | (simp; done) | (simp; omega) | (simp [hc, h403, h413, h418]; done) | (simp [hc, h403, h413, h418]; omega)) | (refine X0a h422 (by decide) ?_; first | (simp; done) | (simp; omega) | (simp [hc, h403, h413, h418]; done) | (simp [hc, h403, h413, h418]; omega))|exact Xv) ?_
      exact wkT [(0, 8), (1, 6)] (ih (k + 1) hx1 _ _ nbF nbF o h C0 C1)
     clear h
     have h := h417
     refine brE h ?_ ?_
     ·clear h; intro h416 h
      obtain rfl := oj h
      refine rn tmD [Bt] rfl (by repeat' first | refine Ya ?_ ?_ | (simp at qah410 qbh410 qch410 ⊢; omega) | (simp at qah410 qbh410 qch410 qlh410 ⊢; omega) | (simp; done) | (simp at qah412 qbh412 qch412 ⊢; omega) | (simp at qah412 qbh412 qch412 qlh412 ⊢; have qz := X3k h413; omega)|exact Xv) ?_
      exact wkT [(3, 17), (4, 18)] (Xa.glue J)
     clear h; intro h416 h
     obtain rfl := oj h
     refine rn tmD [Bf] rfl (by repeat' first | refine Ya ?_ ?_ | (simp at qah410 qbh410 qch410 ⊢; omega) | (simp at qah410 qbh410 qch410 qlh410 ⊢; omega) | (simp; done) | (simp at qah412 qbh412 qch412 ⊢; omega) | (simp at qah412 qbh412 qch412 qlh412 ⊢; have qz := X3k h413; omega)|exact Xv) ?_
     exact wkT [(3, 17), (4, 18)] (Xa.glue J)
    clear h; intro h413 h
    refine rn tmD [.el (aI .i64 (Xk.length : Int)), .wrap, .via (.ref 1 0 (m409.length)), .el (aI .i64 (Xk.length : Int)), .wrap, .via (.ref 1 (Int.toNat (IntKind.i64.wrap ((Xk.length : Int) - v397.1))) (m411.length))] rfl (by repeat' first | refine Ya ?_ ?_ | (simp at qah410 qbh410 qch410 ⊢; omega) | (simp at qah410 qbh410 qch410 qlh410 ⊢; omega) | (simp; done) | (simp at qah412 qbh412 qch412 ⊢; omega) | (simp at qah412 qbh412 qch412 qlh412 ⊢; have qz := X1h h413; omega) | (simp at qah412 qbh412 qch412 qlh412 ⊢; omega)|exact Xv) ?_
    refine Xa.back (by intro id h; cases h) rfl ?_
    refine brE h ?_ ?_
    ·clear h; intro h423 h
     refine rn tmD [.el (aI .i64 (m411.length : Int))] rfl (by repeat' first | refine Ya ?_ ?_ | (simp at qah410 qbh410 qch410 ⊢; omega) | (simp at qah410 qbh410 qch410 qlh410 ⊢; omega) | (simp; done) | (simp at qah412 qbh412 qch412 ⊢; omega) | (simp at qah412 qbh412 qch412 qlh412 ⊢; have qz := X1h h413; omega) | (simp at qah412 qbh412 qch412 qlh412 ⊢; omega) | (have hp := eq_of_beq h423; simp [hp]; done) | (have hp := eq_of_beq h423; simp at hp ⊢; omega) | (have hp := eq_of_beq h423; subst hp; decide +kernel)|exact Xv) ?_
     refine Xa.round ?_
     refine X9 h ?_
     clear h; intro e424 h425 h
     try have qh425 := Xz h425
     refine rn tmD [Bt, .el (Xc e424), .ld (Xc e424), Bt, .wrap, .wrap] rfl (by repeat' first | refine Ya ?_ ?_ | (simp at qah410 qbh410 qch410 ⊢; omega) | (simp at qah410 qbh410 qch410 qlh410 ⊢; omega) | (simp; done) | (simp at qah412 qbh412 qch412 ⊢; omega) | (simp at qah412 qbh412 qch412 qlh412 ⊢; have qz := X1h h413; omega) | (simp at qah412 qbh412 qch412 qlh412 ⊢; omega) | (have hp := eq_of_beq h423; simp [hp]; done) | (have hp := eq_of_beq h423; simp at hp ⊢; omega) | (have hp := eq_of_beq h423; subst hp; decide +kernel)|exact (Xgi (f := Xc) qh412 h425)|exact (Xz h425)|exact (X8q h425)|exact Xv) ?_
     refine Xa.round ?_
     refine X9 h ?_
     clear h; intro X00p h429 h
     refine rn tmD [Bf] rfl (by repeat' first | refine Ya ?_ ?_ | (simp at qah410 qbh410 qch410 ⊢; omega) | (simp at qah410 qbh410 qch410 qlh410 ⊢; omega) | (simp; done) | (simp at qah412 qbh412 qch412 ⊢; omega) | (simp at qah412 qbh412 qch412 qlh412 ⊢; have qz := X1h h413; omega) | (simp at qah412 qbh412 qch412 qlh412 ⊢; omega) | (have hp := eq_of_beq h423; simp [hp]; done) | (have hp := eq_of_beq h423; simp at hp ⊢; omega) | (have hp := eq_of_beq h423; subst hp; decide +kernel)|exact Xv) ?_
     refine Xa.join (s' := ⟨fr [(4, AV.nils), (5, (AV.ref 1 0 (m409.length))), (7, (AV.ptr 2 0 0)), (11, (AV.ptr 3 0 0)), (12, (AV.ptr 4 0 0)), (15, (Lf (X5r.map X1))), (16, (aI .i64 (X5r.length : Int))), (17, (aI .i64 (k : Int)))], hp ([(1, Ob (Xk.map Xc) 3), (2, Ob [(X1 x)] 5), (3, Ob [(X1 X00p)] 5), (4, Ob [(Xc (Xo.mk (k : Int) (IntKind.i64.wrap (1 + e424.size)) (if (IntKind.i64.wrap (e424.depth + 1)) > 1 then (IntKind.i64.wrap (e424.depth + 1)) else 1)))] 3)]), 5⟩) ?_ (fun J => Xa.cut ?_)
     ·
      refine brE h ?_ ?_
      ·clear h; intro h430 h
       obtain rfl := oj h
       refine rn tmD [Bt] rfl (by repeat' first | refine Ya ?_ ?_ | (simp at qah410 qbh410 qch410 ⊢; omega) | (simp at qah410 qbh410 qch410 qlh410 ⊢; omega) | (simp; done) | (simp at qah412 qbh412 qch412 ⊢; omega) | (simp at qah412 qbh412 qch412 qlh412 ⊢; have qz := X1h h413; omega) | (simp at qah412 qbh412 qch412 qlh412 ⊢; omega) | (have hp := eq_of_beq h423; simp [hp]; done) | (have hp := eq_of_beq h423; simp at hp ⊢; omega) | (have hp := eq_of_beq h423; subst hp; decide +kernel)|exact Xv) ?_
       exact wkT [] (C1 _  (nbT (by first | rfl | simp [*])) rfl)
      clear h; intro h430 h
      refine X9 h ?_
      clear h; intro u431 h432 h
      refine X9 h ?_
      clear h; intro u433 h434 h
      refine rn tmD [Bf, .trunc 1 (m409.map Xc), .no, .no] rfl (by repeat' first | refine Ya ?_ ?_ | (simp at qah410 qbh410 qch410 ⊢; omega) | (simp at qah410 qbh410 qch410 qlh410 ⊢; omega) | (simp; done) | (simp at qah412 qbh412 qch412 ⊢; omega) | (simp at qah412 qbh412 qch412 qlh412 ⊢; have qz := X1h h413; omega) | (simp at qah412 qbh412 qch412 qlh412 ⊢; omega) | (have hp := eq_of_beq h423; simp [hp]; done) | (have hp := eq_of_beq h423; simp at hp ⊢; omega) | (have hp := eq_of_beq h423; subst hp; decide +kernel) | (refine X0w h432 rfl ?_; first | (simp; done) | (simp; omega) | (simp [hc, h403, h413, h423, h430]; done) | (simp [hc, h403, h413, h423, h430]; omega)) | (refine X0a h432 (by decide) ?_; first | (simp; done) | (simp; omega) | (simp [hc, h403, h413, h423, h430]; done) | (simp [hc, h403, h413, h423, h430]; omega))|exact (X9e (f := Xc) qh410) | (refine X0w h434 rfl ?_; first | (simp; done) | (simp; omega) | (simp [hc, h403, h413, h423, h430]; done) | (simp [hc, h403, h413, h423, h430]; omega)) | (refine X0a h434 (by decide) ?_; first | (simp; done) | (simp; omega) | (simp [hc, h403, h413, h423, h430]; done) | (simp [hc, h403, h413, h423, h430]; omega))|exact Xv) ?_
      exact wkT [(0, 8), (1, 6)] (ih (k + 1) hx1 _ _ nbF nbF o h C0 C1)
     clear h
     have h := h429
     refine brE h ?_ ?_
     ·clear h; intro h428 h
      obtain rfl := oj h
      refine rn tmD [Bt] rfl (by repeat' first | refine Ya ?_ ?_ | (simp at qah410 qbh410 qch410 ⊢; omega) | (simp at qah410 qbh410 qch410 qlh410 ⊢; omega) | (simp; done) | (simp at qah412 qbh412 qch412 ⊢; omega) | (simp at qah412 qbh412 qch412 qlh412 ⊢; have qz := X1h h413; omega) | (simp at qah412 qbh412 qch412 qlh412 ⊢; omega) | (have hp := eq_of_beq h423; simp [hp]; done) | (have hp := eq_of_beq h423; simp at hp ⊢; omega) | (have hp := eq_of_beq h423; subst hp; decide +kernel)|exact Xv) ?_
      exact wkT [(3, 17), (4, 18)] (Xa.glue J)
     clear h; intro h428 h
     obtain rfl := oj h
     refine rn tmD [Bf] rfl (by repeat' first | refine Ya ?_ ?_ | (simp at qah410 qbh410 qch410 ⊢; omega) | (simp at qah410 qbh410 qch410 qlh410 ⊢; omega) | (simp; done) | (simp at qah412 qbh412 qch412 ⊢; omega) | (simp at qah412 qbh412 qch412 qlh412 ⊢; have qz := X1h h413; omega) | (simp at qah412 qbh412 qch412 qlh412 ⊢; omega) | (have hp := eq_of_beq h423; simp [hp]; done) | (have hp := eq_of_beq h423; simp at hp ⊢; omega) | (have hp := eq_of_beq h423; subst hp; decide +kernel)|exact Xv) ?_
     exact wkT [(3, 17), (4, 18)] (Xa.glue J)
    clear h; intro h423 h
    refine brE h ?_ ?_
    ·clear h; intro h435 h
     refine rn tmD [.el (aI .i64 (m411.length : Int))] rfl (by repeat' first | refine Ya ?_ ?_ | (simp at qah410 qbh410 qch410 ⊢; omega) | (simp at qah410 qbh410 qch410 qlh410 ⊢; omega) | (simp; done) | (simp at qah412 qbh412 qch412 ⊢; omega) | (simp at qah412 qbh412 qch412 qlh412 ⊢; have qz := X1h h413; omega) | (simp at qah412 qbh412 qch412 qlh412 ⊢; omega) | (have hp := eq_of_beq h435; simp [hp]; done) | (have hp := eq_of_beq h435; simp at hp ⊢; omega) | (have hp := eq_of_beq h435; subst hp; decide +kernel)|exact Xv) ?_
     refine Xa.round ?_
     refine X9 h ?_
     clear h; intro e436 h437 h
     try have qh437 := Xz h437
     refine rn tmD [Bt, .el (Xc e436), .ld (Xc e436), Bt, .wrap, .wrap] rfl (by repeat' first | refine Ya ?_ ?_ | (simp at qah410 qbh410 qch410 ⊢; omega) | (simp at qah410 qbh410 qch410 qlh410 ⊢; omega) | (simp; done) | (simp at qah412 qbh412 qch412 ⊢; omega) | (simp at qah412 qbh412 qch412 qlh412 ⊢; have qz := X1h h413; omega) | (simp at qah412 qbh412 qch412 qlh412 ⊢; omega) | (have hp := eq_of_beq h435; simp [hp]; done) | (have hp := eq_of_beq h435; simp at hp ⊢; omega) | (have hp := eq_of_beq h435; subst hp; decide +kernel)|exact (Xgi (f := Xc) qh412 h437)|exact (Xz h437)|exact (X8q h437)|exact Xv) ?_
     refine Xa.round ?_
     refine X9 h ?_
     clear h; intro e438 h439 h
     try have qh439 := Xz h439
     refine rn tmD [Bt, .el (Xc e438), .ld (Xc e438), Bf, .wrap, .wrap] rfl (by repeat' first | refine Ya ?_ ?_ | (simp at qah410 qbh410 qch410 ⊢; omega) | (simp at qah410 qbh410 qch410 qlh410 ⊢; omega) | (simp; done) | (simp at qah412 qbh412 qch412 ⊢; omega) | (simp at qah412 qbh412 qch412 qlh412 ⊢; have qz := X1h h413; omega) | (simp at qah412 qbh412 qch412 qlh412 ⊢; omega) | (have hp := eq_of_beq h435; simp [hp]; done) | (have hp := eq_of_beq h435; simp at hp ⊢; omega) | (have hp := eq_of_beq h435; subst hp; decide +kernel)|exact (Xgi (f := Xc) qh412 h439)|exact (Xz h439)|exact (X8q h439)|exact Xv) ?_
     refine Xa.round ?_
     refine X9 h ?_
     clear h; intro X00o h443 h
     refine rn tmD [Bf] rfl (by repeat' first | refine Ya ?_ ?_ | (simp at qah410 qbh410 qch410 ⊢; omega) | (simp at qah410 qbh410 qch410 qlh410 ⊢; omega) | (simp; done) | (simp at qah412 qbh412 qch412 ⊢; omega) | (simp at qah412 qbh412 qch412 qlh412 ⊢; have qz := X1h h413; omega) | (simp at qah412 qbh412 qch412 qlh412 ⊢; omega) | (have hp := eq_of_beq h435; simp [hp]; done) | (have hp := eq_of_beq h435; simp at hp ⊢; omega) | (have hp := eq_of_beq h435; subst hp; decide +kernel)|exact Xv) ?_
     refine Xa.join (s' := ⟨fr [(4, AV.nils), (5, (AV.ref 1 0 (m409.length))), (7, (AV.ptr 2 0 0)), (11, (AV.ptr 3 0 0)), (12, (AV.ptr 4 0 0)), (15, (Lf (X5r.map X1))), (16, (aI .i64 (X5r.length : Int))), (17, (aI .i64 (k : Int)))], hp ([(1, Ob (Xk.map Xc) 3), (2, Ob [(X1 x)] 5), (3, Ob [(X1 X00o)] 5), (4, Ob [(Xc (Xo.mk (k : Int) (IntKind.i64.wrap ((IntKind.i64.wrap (1 + e436.size)) + e438.size)) (if (IntKind.i64.wrap (e438.depth + 1)) > (if (IntKind.i64.wrap (e436.depth + 1)) > 1 then (IntKind.i64.wrap (e436.depth + 1)) else 1) then (IntKind.i64.wrap (e438.depth + 1)) else (if (IntKind.i64.wrap (e436.depth + 1)) > 1 then (IntKind.i64.wrap (e436.depth + 1)) else 1))))] 3)]), 5⟩) ?_ (fun J => Xa.cut ?_)
     ·
      refine brE h ?_ ?_
      ·clear h; intro h444 h
       obtain rfl := oj h
       refine rn tmD [Bt] rfl (by repeat' first | refine Ya ?_ ?_ | (simp at qah410 qbh410 qch410 ⊢; omega) | (simp at qah410 qbh410 qch410 qlh410 ⊢; omega) | (simp; done) | (simp at qah412 qbh412 qch412 ⊢; omega) | (simp at qah412 qbh412 qch412 qlh412 ⊢; have qz := X1h h413; omega) | (simp at qah412 qbh412 qch412 qlh412 ⊢; omega) | (have hp := eq_of_beq h435; simp [hp]; done) | (have hp := eq_of_beq h435; simp at hp ⊢; omega) | (have hp := eq_of_beq h435; subst hp; decide +kernel)|exact Xv) ?_
       exact wkT [] (C1 _  (nbT (by first | rfl | simp [*])) rfl)
      clear h; intro h444 h
      refine X9 h ?_
      clear h; intro u445 h446 h
      refine X9 h ?_
      clear h; intro u447 h448 h
      refine rn tmD [Bf, .trunc 1 (m409.map Xc), .no, .no] rfl (by repeat' first | refine Ya ?_ ?_ | (simp at qah410 qbh410 qch410 ⊢; omega) | (simp at qah410 qbh410 qch410 qlh410 ⊢; omega) | (simp; done) | (simp at qah412 qbh412 qch412 ⊢; omega) | (simp at qah412 qbh412 qch412 qlh412 ⊢; have qz := X1h h413; omega) | (simp at qah412 qbh412 qch412 qlh412 ⊢; omega) | (have hp := eq_of_beq h435; simp [hp]; done) | (have hp := eq_of_beq h435; simp at hp ⊢; omega) | (have hp := eq_of_beq h435; subst hp; decide +kernel) | (refine X0w h446 rfl ?_; first | (simp; done) | (simp; omega) | (simp [hc, h403, h413, h423, h435, h444]; done) | (simp [hc, h403, h413, h423, h435, h444]; omega)) | (refine X0a h446 (by decide) ?_; first | (simp; done) | (simp; omega) | (simp [hc, h403, h413, h423, h435, h444]; done) | (simp [hc, h403, h413, h423, h435, h444]; omega))|exact (X9e (f := Xc) qh410) | (refine X0w h448 rfl ?_; first | (simp; done) | (simp; omega) | (simp [hc, h403, h413, h423, h435, h444]; done) | (simp [hc, h403, h413, h423, h435, h444]; omega)) | (refine X0a h448 (by decide) ?_; first | (simp; done) | (simp; omega) | (simp [hc, h403, h413, h423, h435, h444]; done) | (simp [hc, h403, h413, h423, h435, h444]; omega))|exact Xv) ?_
      exact wkT [(0, 8), (1, 6)] (ih (k + 1) hx1 _ _ nbF nbF o h C0 C1)
     clear h
     have h := h443
     refine brE h ?_ ?_
     ·clear h; intro h442 h
      obtain rfl := oj h
      refine rn tmD [Bt] rfl (by repeat' first | refine Ya ?_ ?_ | (simp at qah410 qbh410 qch410 ⊢; omega) | (simp at qah410 qbh410 qch410 qlh410 ⊢; omega) | (simp; done) | (simp at qah412 qbh412 qch412 ⊢; omega) | (simp at qah412 qbh412 qch412 qlh412 ⊢; have qz := X1h h413; omega) | (simp at qah412 qbh412 qch412 qlh412 ⊢; omega) | (have hp := eq_of_beq h435; simp [hp]; done) | (have hp := eq_of_beq h435; simp at hp ⊢; omega) | (have hp := eq_of_beq h435; subst hp; decide +kernel)|exact Xv) ?_
      exact wkT [(3, 17), (4, 18)] (Xa.glue J)
     clear h; intro h442 h
     obtain rfl := oj h
     refine rn tmD [Bf] rfl (by repeat' first | refine Ya ?_ ?_ | (simp at qah410 qbh410 qch410 ⊢; omega) | (simp at qah410 qbh410 qch410 qlh410 ⊢; omega) | (simp; done) | (simp at qah412 qbh412 qch412 ⊢; omega) | (simp at qah412 qbh412 qch412 qlh412 ⊢; have qz := X1h h413; omega) | (simp at qah412 qbh412 qch412 qlh412 ⊢; omega) | (have hp := eq_of_beq h435; simp [hp]; done) | (have hp := eq_of_beq h435; simp at hp ⊢; omega) | (have hp := eq_of_beq h435; subst hp; decide +kernel)|exact Xv) ?_
     exact wkT [(3, 17), (4, 18)] (Xa.glue J)
    clear h; intro h435 h
    cases h
   clear h
   have h := h402
   refine brE h ?_ ?_
   ·clear h; intro h401 h
    obtain rfl := oj h
    refine rn tmD [.go false, .go false, .go false, .go false] rfl (by repeat' first|apply Ya|exact (pn (X1y _ _ h398) (cc .sc cn))|exact Xv) ?_
    exact wkT [] (Xa.glue J)
   clear h; intro h401 h
   obtain rfl := oj h
   refine rn tmD [.go true, .go true, .go true, .el (aI .i64 (Xk.length : Int)), .go true] rfl (by repeat' first|apply Ya|exact (pn (X1y _ _ h398) (cc .sc cn))|exact Xv) ?_
   exact wkT [] (Xa.glue J)
  obtain rfl := X0n rfl
  refine Xa.round ?_
  refine X9 h ?_
  clear h; intro v449 h450 h
  refine X9 h ?_
  clear h; intro X00n h454 h
  refine rn tmD [Bt, .el (X1 x), .pure [(aI .u8 x.Kind)] (AV.tup [(aI .i64 v449.1), (aI .i64 v449.2)]), .stop 6] rfl (by repeat' first|apply Ya|exact (pn (X1y _ _ h450) (cc .sc cn))|exact Xv) ?_
  refine Xa.join (s' := ⟨fr [(4, AV.nils), (5, AV.nils), (6, (aI .i64 (k : Int))), (7, (AV.ptr 2 0 0)), (8, (aI .i64 v449.1)), (15, (Lf (X5r.map X1))), (16, (aI .i64 (X5r.length : Int))), (17, (aI .i64 (k : Int))), (35, (aB X00n))], hp ([(2, Ob [(X1 x)] 5)]), 3⟩) ?_ (fun J => Xa.cut ?_)
  ·
   refine brE h ?_ ?_
   ·clear h; intro h455 h
    obtain rfl := oj h
    refine Xe tmD [Bt] ?_
    exact wkT [] (C1 _  (nbT (by first | rfl | simp [*])) rfl)
   clear h; intro h455 h
   refine Xe tmD [Bf] ?_
   refine Xa.inline Xg Xyd rfl rfl rfl rfl rfl trivial trivial rfl rfl ?_
   refine X9 h ?_
   clear h; intro m461 h462 h
   obtain ⟨qah462, qbh462, qch462, qh462⟩ := X3v h462
   obtain rfl := X9d h462
   refine X9 h ?_
   clear h; intro m463 h464 h
   obtain ⟨qah464, qbh464, qch464, qh464⟩ := X3v h464
   obtain rfl := X9d h464
   refine brE h ?_ ?_
   ·clear h; intro h465 h
    refine rn tmD [.el (aI .i64 (List.length ([] : List Xo) : Int)), .wrap, .el (aI .i64 (List.length ([] : List Xo) : Int)), .wrap] rfl (by repeat' first | refine Ya ?_ ?_ | (simp at qah462 qbh462 qch462 ⊢; omega) | (simp at qah464 qbh464 qch464 ⊢; omega)|exact Xv) ?_
    refine Xa.back (by intro id h; cases h) rfl ?_
    refine rn tmD [] rfl (by repeat' first | refine Ya ?_ ?_ | (simp at qah462 qbh462 qch462 ⊢; omega) | (simp at qah464 qbh464 qch464 ⊢; omega)|exact Xv) ?_
    refine Xa.round ?_
    refine X9 h ?_
    clear h; intro X00m h469 h
    refine rn tmD [Bf] rfl (by repeat' first | refine Ya ?_ ?_ | (simp at qah462 qbh462 qch462 ⊢; omega) | (simp at qah464 qbh464 qch464 ⊢; omega)|exact Xv) ?_
    refine Xa.join (s' := ⟨fr [(4, AV.nils), (5, AV.nils), (7, (AV.ptr 2 0 0)), (11, (AV.ptr 3 0 0)), (12, (AV.ptr 4 0 0)), (15, (Lf (X5r.map X1))), (16, (aI .i64 (X5r.length : Int))), (17, (aI .i64 (k : Int)))], hp ([(2, Ob [(X1 x)] 5), (3, Ob [(X1 X00m)] 5), (4, Ob [(Xc (Xo.mk (k : Int) 1 1))] 3)]), 5⟩) ?_ (fun J => Xa.cut ?_)
    ·
     refine brE h ?_ ?_
     ·clear h; intro h470 h
      obtain rfl := oj h
      refine rn tmD [Bt] rfl (by repeat' first | refine Ya ?_ ?_ | (simp at qah462 qbh462 qch462 ⊢; omega) | (simp at qah464 qbh464 qch464 ⊢; omega)|exact Xv) ?_
      exact wkT [] (C1 _  (nbT (by first | rfl | simp [*])) rfl)
     clear h; intro h470 h
     refine X9 h ?_
     clear h; intro u471 h472 h
     refine X9 h ?_
     clear h; intro u473 h474 h
     refine rn tmD [Bf, .no, .no] rfl (by repeat' first | refine Ya ?_ ?_ | (simp at qah462 qbh462 qch462 ⊢; omega) | (simp at qah464 qbh464 qch464 ⊢; omega) | (refine X0w h472 rfl ?_; first | (simp; done) | (simp; omega) | (simp [hc, h455, h465, h470]; done) | (simp [hc, h455, h465, h470]; omega)) | (refine X0a h472 (by decide) ?_; first | (simp; done) | (simp; omega) | (simp [hc, h455, h465, h470]; done) | (simp [hc, h455, h465, h470]; omega)) | (refine X0w h474 rfl ?_; first | (simp; done) | (simp; omega) | (simp [hc, h455, h465, h470]; done) | (simp [hc, h455, h465, h470]; omega)) | (refine X0a h474 (by decide) ?_; first | (simp; done) | (simp; omega) | (simp [hc, h455, h465, h470]; done) | (simp [hc, h455, h465, h470]; omega))|exact Xv) ?_
     exact wkT [(0, 8), (1, 6)] (ih (k + 1) hx1 _ _ nbF nbF o h C0 C1)
    clear h
    have h := h469
    refine brE h ?_ ?_
    ·clear h; intro h468 h
     obtain rfl := oj h
     refine rn tmD [Bt] rfl (by repeat' first | refine Ya ?_ ?_ | (simp at qah462 qbh462 qch462 ⊢; omega) | (simp at qah464 qbh464 qch464 ⊢; omega)|exact Xv) ?_
     exact wkT [(3, 17), (4, 18)] (Xa.glue J)
    clear h; intro h468 h
    obtain rfl := oj h
    refine rn tmD [Bf] rfl (by repeat' first | refine Ya ?_ ?_ | (simp at qah462 qbh462 qch462 ⊢; omega) | (simp at qah464 qbh464 qch464 ⊢; omega)|exact Xv) ?_
    exact wkT [(3, 17), (4, 18)] (Xa.glue J)
   clear h; intro h465 h
   exact absurd h465 (by simp)
  clear h
  have h := h454
  refine brE h ?_ ?_
  ·clear h; intro h453 h
   obtain rfl := oj h
   refine rn tmD [.go false, .go false, .go false, .go false] rfl (by repeat' first|apply Ya|exact (pn (X1y _ _ h450) (cc .sc cn))|exact Xv) ?_
   exact wkT [] (Xa.glue J)
  clear h; intro h453 h
  obtain rfl := oj h
  refine rn tmD [.go true, .go true, .go true, .el (aI .i64 (List.length ([] : List Xo) : Int)), .go true] rfl (by repeat' first|apply Ya|exact (pn (X1y _ _ h450) (cc .sc cn))|exact Xv) ?_
  exact wkT [] (Xa.glue J)
end Go.Av.Tryz