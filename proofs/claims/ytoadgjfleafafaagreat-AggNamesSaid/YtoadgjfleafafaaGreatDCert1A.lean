/- Printed by decomp.py: that the program computes the functions. -/
import Derived.Test.YtoadgjfleafafaaGreatDCert0A
set_option linter.all false

namespace Go.Av.Tryz
open Go.Proofs Go.D
set_option maxRecDepth 10000
set_option maxHeartbeats 40000000
theorem Xcy {Q : X0d -> St -> Mu -> Prop} {μ : Mu} (X2g : (List X2r)) (hl : X2g.length <= 140737488355328) : ∀ (xs : List X2r) (k : Nat) (hx : X2g.drop k = xs) (X09 : (List Xw)) (X05 : (List Xw)) (X49 : Nb X09) (X0e : Nb X05) (o : X5k) (h : X3l X2g xs k X09 X05 = some o)
  (C0 : ∀ (X0u : (List Xw)) (X12 : (List Xw)) (X27 : Nb X0u) (X26 : Nb X12), o = X5k.x0 X0u X12 -> Xa Tryz.prog 105 0 Q (.exit (.exit 0)) [] ⟨fr [(4, (slE X27.1 0 (X0u.map X7))), (5, (slE X26.1 1 (X12.map X7)))], hp ([] ++ opE X27.1 0 3 (X0u.map X7) ++ opE X26.1 1 3 (X12.map X7)), 2⟩ μ)
  (C1 : ∀ (X1i : (List Xw)) (X25 : Nb X1i), o = X5k.x1 X1i -> Xa Tryz.prog 105 0 Q (.exit .ret) [] ⟨fr [(2, (slE X25.1 0 (X1i.map X7))), (3, (aB false))], hp ([] ++ opE X25.1 0 3 (X1i.map X7)), 1⟩ μ),
  Xa Tryz.prog 105 0 Q (.loop (X7i 0 (X01 Tryz.f99))) [] ⟨fr [(4, (slE X49.1 0 (X09.map X7))), (5, (slE X0e.1 1 (X05.map X7))), (15, (Lf (X2g.map Xf))), (16, (aI .i64 (X2g.length : Int))), (17, (aI .i64 (k : Int)))], hp ([] ++ opE X49.1 0 3 (X09.map X7) ++ opE X0e.1 1 3 (X05.map X7)), 2⟩ μ := by
 intro xs
 induction xs with
 | nil =>
  intro k hx X09 X05 X49 X0e o h C0 C1
  have hk := X2m hx
  have hc : decide ((k : Int) < (X2g.length : Int)) = false := Yf (by omega)
  rw [X3l] at h
  rcases X49 with ⟨_ | _, X8y⟩
  ·
   rcases X0e with ⟨_ | _, X17⟩
   ·
    refine Xa.round ?_
    obtain rfl := oj h
    refine Xm tmD [Bf] ?_
    exact wkT [] (C0 _ _  nbF nbF rfl)
   obtain rfl := X17 rfl
   refine Xa.round ?_
   obtain rfl := oj h
   refine Xm tmD [Bf] ?_
   exact wkT [] (C0 _ _  nbF (nbT (by first | rfl | simp [*])) rfl)
  ·
   obtain rfl := X8y rfl
   rcases X0e with ⟨_ | _, X17⟩
   ·
    refine Xa.round ?_
    obtain rfl := oj h
    refine Xm tmD [Bf] ?_
    exact wkT [] (C0 _ _  (nbT (by first | rfl | simp [*])) nbF rfl)
   ·
    obtain rfl := X17 rfl
    refine Xa.round ?_
    obtain rfl := oj h
    refine Xm tmD [Bf] ?_
    exact wkT [] (C0 _ _  (nbT (by first | rfl | simp [*])) (nbT (by first | rfl | simp [*])) rfl)
 | cons x xs ih =>
  intro k hx X09 X05 X49 X0e o h C0 C1
  obtain ⟨hk, hg, hx1⟩ := X20 hx
  have hc : decide ((k : Int) < (X2g.length : Int)) = true := Yt (by omega)
  rw [X3l] at h
  rcases X49 with ⟨_ | _, X8y⟩
  ·
   rcases X0e with ⟨_ | _, X17⟩
   ·
    refine Xa.round ?_
    refine X3 h ?_
    clear h; intro v318 h319 h
    refine X3 h ?_
    clear h; intro Xhw h323 h
    refine rn tmD [Bt, .el (Xf x), .pure [(aI .u8 x.Kind)] (AV.tup [(aI .i64 v318.1), (aI .i64 v318.2)]), .stop 6] rfl (by repeat' first|apply Ya|exact (pn (X1l _ _ h319) (cc .sc cn))|exact X00) ?_
    refine Xa.join (s' := ⟨fr [(4, (AV.ref 0 0 (X09.length))), (5, (AV.ref 1 0 (X05.length))), (6, (aI .i64 (k : Int))), (7, (AV.ptr 2 0 0)), (8, (aI .i64 v318.1)), (15, (Lf (X2g.map Xf))), (16, (aI .i64 (X2g.length : Int))), (17, (aI .i64 (k : Int))), (35, (aB Xhw))], hp ([(0, Ob (X09.map X7) 3), (1, Ob (X05.map X7) 3), (2, Ob [(Xf x)] 5)]), 3⟩) ?_ (fun J => Xa.cut ?_)
    ·
     refine brE h ?_ ?_
     ·clear h; intro h324 h
      obtain rfl := oj h
      refine Xm tmD [Bt] ?_
      exact wkT [] (C1 _  nbF rfl)
     clear h; intro h324 h
     refine Xm tmD [Bf] ?_
     refine Xa.inline Xe Xmh rfl rfl rfl rfl rfl trivial trivial rfl rfl ?_
     refine X3 h ?_
     clear h; intro m331 h332 h
     obtain ⟨qah332, qbh332, qch332, qh332⟩ := X3o h332
     have qlh332 := X89 h332
     refine X3 h ?_
     clear h; intro m333 h334 h
     obtain ⟨qah334, qbh334, qch334, qh334⟩ := X3o h334
     have qlh334 := X89 h334
     refine brE h ?_ ?_
     ·clear h; intro h335 h
      refine rn tmD [.el (aI .i64 (X05.length : Int)), .wrap, .via (.ref 1 0 (m331.length)), .el (aI .i64 (X05.length : Int)), .wrap, .ne false] rfl (by repeat' first | refine Ya ?_ ?_ | (simp at qah332 qbh332 qch332 ⊢; omega) | (simp at qah332 qbh332 qch332 qlh332 ⊢; omega) | (simp; done) | (simp at qah334 qbh334 qch334 ⊢; omega) | (simp at qah334 qbh334 qch334 qlh334 ⊢; have qz := X30 h335; omega)|exact X00) ?_
      refine Xa.back (by intro id h; cases h) rfl ?_
      refine rn tmD [] rfl (by repeat' first | refine Ya ?_ ?_ | (simp at qah332 qbh332 qch332 ⊢; omega) | (simp at qah332 qbh332 qch332 qlh332 ⊢; omega) | (simp; done) | (simp at qah334 qbh334 qch334 ⊢; omega) | (simp at qah334 qbh334 qch334 qlh334 ⊢; have qz := X30 h335; omega)|exact X00) ?_
      refine Xa.round ?_
      refine X3 h ?_
      clear h; intro Xhv h339 h
      refine rn tmD [Bf] rfl (by repeat' first | refine Ya ?_ ?_ | (simp at qah332 qbh332 qch332 ⊢; omega) | (simp at qah332 qbh332 qch332 qlh332 ⊢; omega) | (simp; done) | (simp at qah334 qbh334 qch334 ⊢; omega) | (simp at qah334 qbh334 qch334 qlh334 ⊢; have qz := X30 h335; omega)|exact X00) ?_
      refine Xa.join (s' := ⟨fr [(4, (AV.ref 0 0 (X09.length))), (5, (AV.ref 1 0 (m331.length))), (7, (AV.ptr 2 0 0)), (11, (AV.ptr 3 0 0)), (12, (AV.ptr 4 0 0)), (15, (Lf (X2g.map Xf))), (16, (aI .i64 (X2g.length : Int))), (17, (aI .i64 (k : Int)))], hp ([(0, Ob (X09.map X7) 3), (1, Ob (X05.map X7) 3), (2, Ob [(Xf x)] 5), (3, Ob [(Xf Xhv)] 5), (4, Ob [(X7 (Xw.mk (k : Int) 1 1))] 3)]), 5⟩) ?_ (fun J => Xa.cut ?_)
      ·
       refine brE h ?_ ?_
       ·clear h; intro h340 h
        obtain rfl := oj h
        refine rn tmD [Bt] rfl (by repeat' first | refine Ya ?_ ?_ | (simp at qah332 qbh332 qch332 ⊢; omega) | (simp at qah332 qbh332 qch332 qlh332 ⊢; omega) | (simp; done) | (simp at qah334 qbh334 qch334 ⊢; omega) | (simp at qah334 qbh334 qch334 qlh334 ⊢; have qz := X30 h335; omega)|exact X00) ?_
        exact wkT [] (C1 _  nbF rfl)
       clear h; intro h340 h
       refine X3 h ?_
       clear h; intro u341 h342 h
       refine X3 h ?_
       clear h; intro u343 h344 h
       refine rn tmD [Bf, .trunc 1 (m331.map X7), .no, .no] rfl (by repeat' first | refine Ya ?_ ?_ | (simp at qah332 qbh332 qch332 ⊢; omega) | (simp at qah332 qbh332 qch332 qlh332 ⊢; omega) | (simp; done) | (simp at qah334 qbh334 qch334 ⊢; omega) | (simp at qah334 qbh334 qch334 qlh334 ⊢; have qz := X30 h335; omega) | (refine X2p h342 rfl ?_; first | (simp; done) | (simp; omega) | (simp [hc, h324, h335, h340]; done) | (simp [hc, h324, h335, h340]; omega)) | (refine X1e h342 (by decide) ?_; first | (simp; done) | (simp; omega) | (simp [hc, h324, h335, h340]; done) | (simp [hc, h324, h335, h340]; omega))|exact (X71 (f := X7) qh332) | (refine X2p h344 rfl ?_; first | (simp; done) | (simp; omega) | (simp [hc, h324, h335, h340]; done) | (simp [hc, h324, h335, h340]; omega)) | (refine X1e h344 (by decide) ?_; first | (simp; done) | (simp; omega) | (simp [hc, h324, h335, h340]; done) | (simp [hc, h324, h335, h340]; omega))|exact X00) ?_
       exact wkT [(0, 8), (1, 6)] (ih (k + 1) hx1 _ _ nbF nbF o h C0 C1)
      clear h
      have h := h339
      refine brE h ?_ ?_
      ·clear h; intro h338 h
       obtain rfl := oj h
       refine rn tmD [Bt] rfl (by repeat' first | refine Ya ?_ ?_ | (simp at qah332 qbh332 qch332 ⊢; omega) | (simp at qah332 qbh332 qch332 qlh332 ⊢; omega) | (simp; done) | (simp at qah334 qbh334 qch334 ⊢; omega) | (simp at qah334 qbh334 qch334 qlh334 ⊢; have qz := X30 h335; omega)|exact X00) ?_
       exact wkT [(3, 17), (4, 18)] (Xa.glue J)
      clear h; intro h338 h
      obtain rfl := oj h
      refine rn tmD [Bf] rfl (by repeat' first | refine Ya ?_ ?_ | (simp at qah332 qbh332 qch332 ⊢; omega) | (simp at qah332 qbh332 qch332 qlh332 ⊢; omega) | (simp; done) | (simp at qah334 qbh334 qch334 ⊢; omega) | (simp at qah334 qbh334 qch334 qlh334 ⊢; have qz := X30 h335; omega)|exact X00) ?_
      exact wkT [(3, 17), (4, 18)] (Xa.glue J)
     clear h; intro h335 h
     refine rn tmD [.el (aI .i64 (X05.length : Int)), .wrap, .via (.ref 1 0 (m331.length)), .el (aI .i64 (X05.length : Int)), .wrap, .via (.ref 1 (Int.toNat (IntKind.i64.wrap ((X05.length : Int) - v318.1))) (m333.length))] rfl (by repeat' first | refine Ya ?_ ?_ | (simp at qah332 qbh332 qch332 ⊢; omega) | (simp at qah332 qbh332 qch332 qlh332 ⊢; omega) | (simp; done) | (simp at qah334 qbh334 qch334 ⊢; omega) | (simp at qah334 qbh334 qch334 qlh334 ⊢; have qz := X11 h335; omega) | (simp at qah334 qbh334 qch334 qlh334 ⊢; omega)|exact X00) ?_
     refine Xa.back (by intro id h; cases h) rfl ?_
     refine brE h ?_ ?_
     ·clear h; intro h345 h
      refine rn tmD [.el (aI .i64 (m333.length : Int))] rfl (by repeat' first | refine Ya ?_ ?_ | (simp at qah332 qbh332 qch332 ⊢; omega) | (simp at qah332 qbh332 qch332 qlh332 ⊢; omega) | (simp; done) | (simp at qah334 qbh334 qch334 ⊢; omega) | (simp at qah334 qbh334 qch334 qlh334 ⊢; have qz := X11 h335; omega) | (simp at qah334 qbh334 qch334 qlh334 ⊢; omega) | (have hp := eq_of_beq h345; simp [hp]; done) | (have hp := eq_of_beq h345; simp at hp ⊢; omega) | (have hp := eq_of_beq h345; subst hp; decide +kernel)|exact X00) ?_
      refine Xa.round ?_
      refine X3 h ?_
      clear h; intro e346 h347 h
      try have qh347 := X18 h347
      refine rn tmD [Bt, .el (X7 e346), .ld (X7 e346), Bt, .wrap, .wrap] rfl (by repeat' first | refine Ya ?_ ?_ | (simp at qah332 qbh332 qch332 ⊢; omega) | (simp at qah332 qbh332 qch332 qlh332 ⊢; omega) | (simp; done) | (simp at qah334 qbh334 qch334 ⊢; omega) | (simp at qah334 qbh334 qch334 qlh334 ⊢; have qz := X11 h335; omega) | (simp at qah334 qbh334 qch334 qlh334 ⊢; omega) | (have hp := eq_of_beq h345; simp [hp]; done) | (have hp := eq_of_beq h345; simp at hp ⊢; omega) | (have hp := eq_of_beq h345; subst hp; decide +kernel)|exact (Xbo (f := X7) qh334 h347)|exact (X18 h347)|exact (X6z h347)|exact X00) ?_
      refine Xa.round ?_
      refine X3 h ?_
      clear h; intro Xhu h351 h
      refine rn tmD [Bf] rfl (by repeat' first | refine Ya ?_ ?_ | (simp at qah332 qbh332 qch332 ⊢; omega) | (simp at qah332 qbh332 qch332 qlh332 ⊢; omega) | (simp; done) | (simp at qah334 qbh334 qch334 ⊢; omega) | (simp at qah334 qbh334 qch334 qlh334 ⊢; have qz := X11 h335; omega) | (simp at qah334 qbh334 qch334 qlh334 ⊢; omega) | (have hp := eq_of_beq h345; simp [hp]; done) | (have hp := eq_of_beq h345; simp at hp ⊢; omega) | (have hp := eq_of_beq h345; subst hp; decide +kernel)|exact X00) ?_
      refine Xa.join (s' := ⟨fr [(4, (AV.ref 0 0 (X09.length))), (5, (AV.ref 1 0 (m331.length))), (7, (AV.ptr 2 0 0)), (11, (AV.ptr 3 0 0)), (12, (AV.ptr 4 0 0)), (15, (Lf (X2g.map Xf))), (16, (aI .i64 (X2g.length : Int))), (17, (aI .i64 (k : Int)))], hp ([(0, Ob (X09.map X7) 3), (1, Ob (X05.map X7) 3), (2, Ob [(Xf x)] 5), (3, Ob [(Xf Xhu)] 5), (4, Ob [(X7 (Xw.mk (k : Int) (IntKind.i64.wrap (1 + e346.size)) (if (IntKind.i64.wrap (e346.depth + 1)) > 1 then (IntKind.i64.wrap (e346.depth + 1)) else 1)))] 3)]), 5⟩) ?_ (fun J => Xa.cut ?_)
      ·
       refine brE h ?_ ?_
       ·clear h; intro h352 h
        obtain rfl := oj h
        refine rn tmD [Bt] rfl (by repeat' first | refine Ya ?_ ?_ | (simp at qah332 qbh332 qch332 ⊢; omega) | (simp at qah332 qbh332 qch332 qlh332 ⊢; omega) | (simp; done) | (simp at qah334 qbh334 qch334 ⊢; omega) | (simp at qah334 qbh334 qch334 qlh334 ⊢; have qz := X11 h335; omega) | (simp at qah334 qbh334 qch334 qlh334 ⊢; omega) | (have hp := eq_of_beq h345; simp [hp]; done) | (have hp := eq_of_beq h345; simp at hp ⊢; omega) | (have hp := eq_of_beq h345; subst hp; decide +kernel)|exact X00) ?_
        exact wkT [] (C1 _  nbF rfl)
       clear h; intro h352 h
       refine X3 h ?_
       clear h; intro u353 h354 h
       refine X3 h ?_
       clear h; intro u355 h356 h
       refine rn tmD [Bf, .trunc 1 (m331.map X7), .no, .no] rfl (by repeat' first | refine Ya ?_ ?_ | (simp at qah332 qbh332 qch332 ⊢; omega) | (simp at qah332 qbh332 qch332 qlh332 ⊢; omega) | (simp; done) | (simp at qah334 qbh334 qch334 ⊢; omega) | (simp at qah334 qbh334 qch334 qlh334 ⊢; have qz := X11 h335; omega) | (simp at qah334 qbh334 qch334 qlh334 ⊢; omega) | (have hp := eq_of_beq h345; simp [hp]; done) | (have hp := eq_of_beq h345; simp at hp ⊢; omega) | (have hp := eq_of_beq h345; subst hp; decide +kernel) | (refine X2p h354 rfl ?_; first | (simp; done) | (simp; omega) | (simp [hc, h324, h335, h345, h352]; done) | (simp [hc, h324, h335, h345, h352]; omega)) | (refine X1e h354 (by decide) ?_; first | (simp; done) | (simp; omega) | (simp [hc, h324, h335, h345, h352]; done) | (simp [hc, h324, h335, h345, h352]; omega))|exact (X71 (f := X7) qh332) | (refine X2p h356 rfl ?_; first | (simp; done) | (simp; omega) | (simp [hc, h324, h335, h345, h352]; done) | (simp [hc, h324, h335, h345, h352]; omega)) | (refine X1e h356 (by decide) ?_; first | (simp; done) | (simp; omega) | (simp [hc, h324, h335, h345, h352]; done) | (simp [hc, h324, h335, h345, h352]; omega))|exact X00) ?_
       exact wkT [(0, 8), (1, 6)] (ih (k + 1) hx1 _ _ nbF nbF o h C0 C1)
      clear h
      have h := h351
      refine brE h ?_ ?_
      ·clear h; intro h350 h
       obtain rfl := oj h
       refine rn tmD [Bt] rfl (by repeat' first | refine Ya ?_ ?_ | (simp at qah332 qbh332 qch332 ⊢; omega) | (simp at qah332 qbh332 qch332 qlh332 ⊢; omega) | (simp; done) | (simp at qah334 qbh334 qch334 ⊢; omega) | (simp at qah334 qbh334 qch334 qlh334 ⊢; have qz := X11 h335; omega) | (simp at qah334 qbh334 qch334 qlh334 ⊢; omega) | (have hp := eq_of_beq h345; simp [hp]; done) | (have hp := eq_of_beq h345; simp at hp ⊢; omega) | (have hp := eq_of_beq h345; subst hp; decide +kernel)|exact X00) ?_
       exact wkT [(3, 17), (4, 18)] (Xa.glue J)
      clear h; intro h350 h
      obtain rfl := oj h
      refine rn tmD [Bf] rfl (by repeat' first | refine Ya ?_ ?_ | (simp at qah332 qbh332 qch332 ⊢; omega) | (simp at qah332 qbh332 qch332 qlh332 ⊢; omega) | (simp; done) | (simp at qah334 qbh334 qch334 ⊢; omega) | (simp at qah334 qbh334 qch334 qlh334 ⊢; have qz := X11 h335; omega) | (simp at qah334 qbh334 qch334 qlh334 ⊢; omega) | (have hp := eq_of_beq h345; simp [hp]; done) | (have hp := eq_of_beq h345; simp at hp ⊢; omega) | (have hp := eq_of_beq h345; subst hp; decide +kernel)|exact X00) ?_
      exact wkT [(3, 17), (4, 18)] (Xa.glue J)
     clear h; intro h345 h
     refine brE h ?_ ?_
     ·clear h; intro h357 h
      refine rn tmD [.el (aI .i64 (m333.length : Int))] rfl (by repeat' first | refine Ya ?_ ?_ | (simp at qah332 qbh332 qch332 ⊢; omega) | (simp at qah332 qbh332 qch332 qlh332 ⊢; omega) | (simp; done) | (simp at qah334 qbh334 qch334 ⊢; omega) | (simp at qah334 qbh334 qch334 qlh334 ⊢; have qz := X11 h335; omega) | (simp at qah334 qbh334 qch334 qlh334 ⊢; omega) | (have hp := eq_of_beq h357; simp [hp]; done) | (have hp := eq_of_beq h357; simp at hp ⊢; omega) | (have hp := eq_of_beq h357; subst hp; decide +kernel)|exact X00) ?_
      refine Xa.round ?_
      refine X3 h ?_
      clear h; intro e358 h359 h
      try have qh359 := X18 h359
      refine rn tmD [Bt, .el (X7 e358), .ld (X7 e358), Bt, .wrap, .wrap] rfl (by repeat' first | refine Ya ?_ ?_ | (simp at qah332 qbh332 qch332 ⊢; omega) | (simp at qah332 qbh332 qch332 qlh332 ⊢; omega) | (simp; done) | (simp at qah334 qbh334 qch334 ⊢; omega) | (simp at qah334 qbh334 qch334 qlh334 ⊢; have qz := X11 h335; omega) | (simp at qah334 qbh334 qch334 qlh334 ⊢; omega) | (have hp := eq_of_beq h357; simp [hp]; done) | (have hp := eq_of_beq h357; simp at hp ⊢; omega) | (have hp := eq_of_beq h357; subst hp; decide +kernel)|exact (Xbo (f := X7) qh334 h359)|exact (X18 h359)|exact (X6z h359)|exact X00) ?_
      refine Xa.round ?_
      refine X3 h ?_
      clear h; intro e360 h361 h
      try have qh361 := X18 h361
      refine rn tmD [Bt, .el (X7 e360), .ld (X7 e360), Bf, .wrap, .wrap] rfl (by repeat' first | refine Ya ?_ ?_ | (simp at qah332 qbh332 qch332 ⊢; omega) | (simp at qah332 qbh332 qch332 qlh332 ⊢; omega) | (simp; done) | (simp at qah334 qbh334 qch334 ⊢; omega) | (simp at qah334 qbh334 qch334 qlh334 ⊢; have qz := X11 h335; omega) | (simp at qah334 qbh334 qch334 qlh334 ⊢; omega) | (have hp := eq_of_beq h357; simp [hp]; done) | (have hp := eq_of_beq h357; simp at hp ⊢; omega) | (have hp := eq_of_beq h357; subst hp; decide +kernel)|exact (Xbo (f := X7) qh334 h361)|exact (X18 h361)|exact (X6z h361)|exact X00) ?_
      refine Xa.round ?_
      refine X3 h ?_
      clear h; intro Xht h365 h
      refine rn tmD [Bf] rfl (by repeat' first | refine Ya ?_ ?_ | (simp at qah332 qbh332 qch332 ⊢; omega) | (simp at qah332 qbh332 qch332 qlh332 ⊢; omega) | (simp; done) | (simp at qah334 qbh334 qch334 ⊢; omega) | (simp at qah334 qbh334 qch334 qlh334 ⊢; have qz := X11 h335; omega) | (simp at qah334 qbh334 qch334 qlh334 ⊢; omega) | (have hp := eq_of_beq h357; simp [hp]; done) | (have hp := eq_of_beq h357; simp at hp ⊢; omega) | (have hp := eq_of_beq h357; subst hp; decide +kernel)|exact X00) ?_
      refine Xa.join (s' := ⟨fr [(4, (AV.ref 0 0 (X09.length))), (5, (AV.ref 1 0 (m331.length))), (7, (AV.ptr 2 0 0)), (11, (AV.ptr 3 0 0)), (12, (AV.ptr 4 0 0)), (15, (Lf (X2g.map Xf))), (16, (aI .i64 (X2g.length : Int))), (17, (aI .i64 (k : Int)))], hp ([(0, Ob (X09.map X7) 3), (1, Ob (X05.map X7) 3), (2, Ob [(Xf x)] 5), (3, Ob [(Xf Xht)] 5), (4, Ob [(X7 (Xw.mk (k : Int) (IntKind.i64.wrap ((IntKind.i64.wrap (1 + e358.size)) + e360.size)) (if (IntKind.i64.wrap (e360.depth + 1)) > (if (IntKind.i64.wrap (e358.depth + 1)) > 1 then (IntKind.i64.wrap (e358.depth + 1)) else 1) then (IntKind.i64.wrap (e360.depth + 1)) else (if (IntKind.i64.wrap (e358.depth + 1)) > 1 then (IntKind.i64.wrap (e358.depth + 1)) else 1))))] 3)]), 5⟩) ?_ (fun J => Xa.cut ?_)
      ·
       refine brE h ?_ ?_
       ·clear h; intro h366 h
        obtain rfl := oj h
        refine rn tmD [Bt] rfl (by repeat' first | refine Ya ?_ ?_ | (simp at qah332 qbh332 qch332 ⊢; omega) | (simp at qah332 qbh332 qch332 qlh332 ⊢; omega) | (simp; done) | (simp at qah334 qbh334 qch334 ⊢; omega) | (simp at qah334 qbh334 qch334 qlh334 ⊢; have qz := X11 h335; omega) | (simp at qah334 qbh334 qch334 qlh334 ⊢; omega) | (have hp := eq_of_beq h357; simp [hp]; done) | (have hp := eq_of_beq h357; simp at hp ⊢; omega) | (have hp := eq_of_beq h357; subst hp; decide +kernel)|exact X00) ?_
        exact wkT [] (C1 _  nbF rfl)
       clear h; intro h366 h
       refine X3 h ?_
       clear h; intro u367 h368 h
       refine X3 h ?_
       clear h; intro u369 h370 h
       refine rn tmD [Bf, .trunc 1 (m331.map X7), .no, .no] rfl (by repeat' first | refine Ya ?_ ?_ | (simp at qah332 qbh332 qch332 ⊢; omega) | (simp at qah332 qbh332 qch332 qlh332 ⊢; omega) | (simp; done) | (simp at qah334 qbh334 qch334 ⊢; omega) | (simp at qah334 qbh334 qch334 qlh334 ⊢; have qz := X11 h335; omega) | (simp at qah334 qbh334 qch334 qlh334 ⊢; omega) | (have hp := eq_of_beq h357; simp [hp]; done) | (have hp := eq_of_beq h357; simp at hp ⊢; omega) | (have hp := eq_of_beq h357; subst hp; decide +kernel) | (refine X2p h368 rfl ?_; first | (simp; done) | (simp; omega) | (simp [hc, h324, h335, h345, h357, h366]; done) | (simp [hc, h324, h335, h345, h357, h366]; omega)) | (refine X1e h368 (by decide) ?_; first | (simp; done) | (simp; omega) | (simp [hc, h324, h335, h345, h357, h366]; done) | (simp [hc, h324, h335, h345, h357, h366]; omega))|exact (X71 (f := X7) qh332) | (refine X2p h370 rfl ?_; first | (simp; done) | (simp; omega) | (simp [hc, h324, h335, h345, h357, h366]; done) | (simp [hc, h324, h335, h345, h357, h366]; omega)) | (refine X1e h370 (by decide) ?_; first | (simp; done) | (simp; omega) | (simp [hc, h324, h335, h345, h357, h366]; done) | (simp [hc, h324, h335, h345, h357, h366]; omega))|exact X00) ?_
       exact wkT [(0, 8), (1, 6)] (ih (k + 1) hx1 _ _ nbF nbF o h C0 C1)
      clear h
      have h := h365
      refine brE h ?_ ?_
      ·clear h; intro h364 h
       obtain rfl := oj h
       refine rn tmD [Bt] rfl (by repeat' first | refine Ya ?_ ?_ | (simp at qah332 qbh332 qch332 ⊢; omega) | (simp at qah332 qbh332 qch332 qlh332 ⊢; omega) | (simp; done) | (simp at qah334 qbh334 qch334 ⊢; omega) | (simp at qah334 qbh334 qch334 qlh334 ⊢; have qz := X11 h335; omega) | (simp at qah334 qbh334 qch334 qlh334 ⊢; omega) | (have hp := eq_of_beq h357; simp [hp]; done) | (have hp := eq_of_beq h357; simp at hp ⊢; omega) | (have hp := eq_of_beq h357; subst hp; decide +kernel)|exact X00) ?_
       exact wkT [(3, 17), (4, 18)] (Xa.glue J)
      clear h; intro h364 h
      obtain rfl := oj h
      refine rn tmD [Bf] rfl (by repeat' first | refine Ya ?_ ?_ | (simp at qah332 qbh332 qch332 ⊢; omega) | (simp at qah332 qbh332 qch332 qlh332 ⊢; omega) | (simp; done) | (simp at qah334 qbh334 qch334 ⊢; omega) | (simp at qah334 qbh334 qch334 qlh334 ⊢; have qz := X11 h335; omega) | (simp at qah334 qbh334 qch334 qlh334 ⊢; omega) | (have hp := eq_of_beq h357; simp [hp]; done) | (have hp := eq_of_beq h357; simp at hp ⊢; omega) | (have hp := eq_of_beq h357; subst hp; decide +kernel)|exact X00) ?_
      exact wkT [(3, 17), (4, 18)] (Xa.glue J)
     clear h; intro h357 h
     cases h
    clear h
    have h := h323
    refine brE h ?_ ?_
    ·clear h; intro h322 h
     obtain rfl := oj h
     refine rn tmD [.go false, .go false, .go false, .go false] rfl (by repeat' first|apply Ya|exact (pn (X1l _ _ h319) (cc .sc cn))|exact X00) ?_
     exact wkT [] (Xa.glue J)
    clear h; intro h322 h
    obtain rfl := oj h
    refine rn tmD [.go true, .go true, .go true, .el (aI .i64 (X05.length : Int)), .go true] rfl (by repeat' first|apply Ya|exact (pn (X1l _ _ h319) (cc .sc cn))|exact X00) ?_
    exact wkT [] (Xa.glue J)
   obtain rfl := X17 rfl
   refine Xa.round ?_
   refine X3 h ?_
   clear h; intro v371 h372 h
   refine X3 h ?_
   clear h; intro Xo8 h376 h
   refine rn tmD [Bt, .el (Xf x), .pure [(aI .u8 x.Kind)] (AV.tup [(aI .i64 v371.1), (aI .i64 v371.2)]), .stop 6] rfl (by repeat' first|apply Ya|exact (pn (X1l _ _ h372) (cc .sc cn))|exact X00) ?_
   refine Xa.join (s' := ⟨fr [(4, (AV.ref 0 0 (X09.length))), (5, AV.nils), (6, (aI .i64 (k : Int))), (7, (AV.ptr 2 0 0)), (8, (aI .i64 v371.1)), (15, (Lf (X2g.map Xf))), (16, (aI .i64 (X2g.length : Int))), (17, (aI .i64 (k : Int))), (35, (aB Xo8))], hp ([(0, Ob (X09.map X7) 3), (2, Ob [(Xf x)] 5)]), 3⟩) ?_ (fun J => Xa.cut ?_)
   ·
    refine brE h ?_ ?_
    ·clear h; intro h377 h
     obtain rfl := oj h
     refine Xm tmD [Bt] ?_
     exact wkT [] (C1 _  nbF rfl)
    clear h; intro h377 h
    refine Xm tmD [Bf] ?_
    refine Xa.inline Xe Xmh rfl rfl rfl rfl rfl trivial trivial rfl rfl ?_
    refine X3 h ?_
    clear h; intro m383 h384 h
    obtain ⟨qah384, qbh384, qch384, qh384⟩ := X3o h384
    obtain rfl := X88 h384
    refine X3 h ?_
    clear h; intro m385 h386 h
    obtain ⟨qah386, qbh386, qch386, qh386⟩ := X3o h386
    obtain rfl := X88 h386
    refine brE h ?_ ?_
    ·clear h; intro h387 h
     refine rn tmD [.el (aI .i64 (List.length ([] : List Xw) : Int)), .wrap, .el (aI .i64 (List.length ([] : List Xw) : Int)), .wrap] rfl (by repeat' first | refine Ya ?_ ?_ | (simp at qah384 qbh384 qch384 ⊢; omega) | (simp at qah386 qbh386 qch386 ⊢; omega)|exact X00) ?_
     refine Xa.back (by intro id h; cases h) rfl ?_
     refine rn tmD [] rfl (by repeat' first | refine Ya ?_ ?_ | (simp at qah384 qbh384 qch384 ⊢; omega) | (simp at qah386 qbh386 qch386 ⊢; omega)|exact X00) ?_
     refine Xa.round ?_
     refine X3 h ?_
     clear h; intro Xo7 h391 h
     refine rn tmD [Bf] rfl (by repeat' first | refine Ya ?_ ?_ | (simp at qah384 qbh384 qch384 ⊢; omega) | (simp at qah386 qbh386 qch386 ⊢; omega)|exact X00) ?_
     refine Xa.join (s' := ⟨fr [(4, (AV.ref 0 0 (X09.length))), (5, AV.nils), (7, (AV.ptr 2 0 0)), (11, (AV.ptr 3 0 0)), (12, (AV.ptr 4 0 0)), (15, (Lf (X2g.map Xf))), (16, (aI .i64 (X2g.length : Int))), (17, (aI .i64 (k : Int)))], hp ([(0, Ob (X09.map X7) 3), (2, Ob [(Xf x)] 5), (3, Ob [(Xf Xo7)] 5), (4, Ob [(X7 (Xw.mk (k : Int) 1 1))] 3)]), 5⟩) ?_ (fun J => Xa.cut ?_)
     ·
      refine brE h ?_ ?_
      ·clear h; intro h392 h
       obtain rfl := oj h
       refine rn tmD [Bt] rfl (by repeat' first | refine Ya ?_ ?_ | (simp at qah384 qbh384 qch384 ⊢; omega) | (simp at qah386 qbh386 qch386 ⊢; omega)|exact X00) ?_
       exact wkT [] (C1 _  nbF rfl)
      clear h; intro h392 h
      refine X3 h ?_
      clear h; intro u393 h394 h
      refine X3 h ?_
      clear h; intro u395 h396 h
      refine rn tmD [Bf, .no, .no] rfl (by repeat' first | refine Ya ?_ ?_ | (simp at qah384 qbh384 qch384 ⊢; omega) | (simp at qah386 qbh386 qch386 ⊢; omega) | (refine X2p h394 rfl ?_; first | (simp; done) | (simp; omega) | (simp [hc, h377, h387, h392]; done) | (simp [hc, h377, h387, h392]; omega)) | (refine X1e h394 (by decide) ?_; first | (simp; done) | (simp; omega) | (simp [hc, h377, h387, h392]; done) | (simp [hc, h377, h387, h392]; omega)) | (refine X2p h396 rfl ?_; first | (simp; done) | (simp; omega) | (simp [hc, h377, h387, h392]; done) | (simp [hc, h377, h387, h392]; omega)) | (refine X1e h396 (by decide) ?_; first | (simp; done) | (simp; omega) | (simp [hc, h377, h387, h392]; done) | (simp [hc, h377, h387, h392]; omega))|exact X00) ?_
      exact wkT [(0, 8), (1, 6)] (ih (k + 1) hx1 _ _ nbF nbF o h C0 C1)
     clear h
     have h := h391
     refine brE h ?_ ?_
     ·clear h; intro h390 h
      obtain rfl := oj h
      refine rn tmD [Bt] rfl (by repeat' first | refine Ya ?_ ?_ | (simp at qah384 qbh384 qch384 ⊢; omega) | (simp at qah386 qbh386 qch386 ⊢; omega)|exact X00) ?_
      exact wkT [(3, 17), (4, 18)] (Xa.glue J)
     clear h; intro h390 h
     obtain rfl := oj h
     refine rn tmD [Bf] rfl (by repeat' first | refine Ya ?_ ?_ | (simp at qah384 qbh384 qch384 ⊢; omega) | (simp at qah386 qbh386 qch386 ⊢; omega)|exact X00) ?_
     exact wkT [(3, 17), (4, 18)] (Xa.glue J)
    clear h; intro h387 h
    exact absurd h387 (by simp)
   clear h
   have h := h376
   refine brE h ?_ ?_
   ·clear h; intro h375 h
    obtain rfl := oj h
    refine rn tmD [.go false, .go false, .go false, .go false] rfl (by repeat' first|apply Ya|exact (pn (X1l _ _ h372) (cc .sc cn))|exact X00) ?_
    exact wkT [] (Xa.glue J)
   clear h; intro h375 h
   obtain rfl := oj h
   refine rn tmD [.go true, .go true, .go true, .el (aI .i64 (List.length ([] : List Xw) : Int)), .go true] rfl (by repeat' first|apply Ya|exact (pn (X1l _ _ h372) (cc .sc cn))|exact X00) ?_
   exact wkT [] (Xa.glue J)
  obtain rfl := X8y rfl
  rcases X0e with ⟨_ | _, X17⟩
  ·
   refine Xa.round ?_
   refine X3 h ?_
   clear h; intro v397 h398 h
   refine X3 h ?_
   clear h; intro Xo5 h402 h
   refine rn tmD [Bt, .el (Xf x), .pure [(aI .u8 x.Kind)] (AV.tup [(aI .i64 v397.1), (aI .i64 v397.2)]), .stop 6] rfl (by repeat' first|apply Ya|exact (pn (X1l _ _ h398) (cc .sc cn))|exact X00) ?_
   refine Xa.join (s' := ⟨fr [(4, AV.nils), (5, (AV.ref 1 0 (X05.length))), (6, (aI .i64 (k : Int))), (7, (AV.ptr 2 0 0)), (8, (aI .i64 v397.1)), (15, (Lf (X2g.map Xf))), (16, (aI .i64 (X2g.length : Int))), (17, (aI .i64 (k : Int))), (35, (aB Xo5))], hp ([(1, Ob (X05.map X7) 3), (2, Ob [(Xf x)] 5)]), 3⟩) ?_ (fun J => Xa.cut ?_)
   ·
    refine brE h ?_ ?_
    ·clear h; intro h403 h
     obtain rfl := oj h
     refine Xm tmD [Bt] ?_
     exact wkT [] (C1 _  (nbT (by first | rfl | simp [*])) rfl)
    clear h; intro h403 h
    refine Xm tmD [Bf] ?_
    refine Xa.inline Xe Xmh rfl rfl rfl rfl rfl trivial trivial rfl rfl ?_
    refine X3 h ?_
    clear h; intro m409 h410 h
    obtain ⟨qah410, qbh410, qch410, qh410⟩ := X3o h410
    have qlh410 := X89 h410
    refine X3 h ?_
    clear h; intro m411 h412 h
    obtain ⟨qah412, qbh412, qch412, qh412⟩ := X3o h412
    have qlh412 := X89 h412
    refine brE h ?_ ?_
    ·clear h; intro h413 h
     refine rn tmD [.el (aI .i64 (X05.length : Int)), .wrap, .via (.ref 1 0 (m409.length)), .el (aI .i64 (X05.length : Int)), .wrap, .ne false] rfl (by repeat' first | refine Ya ?_ ?_ | (simp at qah410 qbh410 qch410 ⊢; omega) | (simp at qah410 qbh410 qch410 qlh410 ⊢; omega) | (simp; done) | (simp at qah412 qbh412 qch412 ⊢; omega) | (simp at qah412 qbh412 qch412 qlh412 ⊢; have qz := X30 h413; omega)|exact X00) ?_
     refine Xa.back (by intro id h; cases h) rfl ?_
     refine rn tmD [] rfl (by repeat' first | refine Ya ?_ ?_ | (simp at qah410 qbh410 qch410 ⊢; omega) | (simp at qah410 qbh410 qch410 qlh410 ⊢; omega) | (simp; done) | (simp at qah412 qbh412 qch412 ⊢; omega) | (simp at qah412 qbh412 qch412 qlh412 ⊢; have qz := X30 h413; omega)|exact X00) ?_
     refine Xa.round ?_
     refine X3 h ?_
     clear h; intro Xo4 h417 h
     refine rn tmD [Bf] rfl (by repeat' first | refine Ya ?_ ?_ | (simp at qah410 qbh410 qch410 ⊢; omega) | (simp at qah410 qbh410 qch410 qlh410 ⊢; omega) | (simp; done) | (simp at qah412 qbh412 qch412 ⊢; omega) | (simp at qah412 qbh412 qch412 qlh412 ⊢; have qz := X30 h413; omega)|exact X00) ?_
     refine Xa.join (s' := ⟨fr [(4, AV.nils), (5, (AV.ref 1 0 (m409.length))), (7, (AV.ptr 2 0 0)), (11, (AV.ptr 3 0 0)), (12, (AV.ptr 4 0 0)), (15, (Lf (X2g.map Xf))), (16, (aI .i64 (X2g.length : Int))), (17, (aI .i64 (k : Int)))], hp ([(1, Ob (X05.map X7) 3), (2, Ob [(Xf x)] 5), (3, Ob [(Xf Xo4)] 5), (4, Ob [(X7 (Xw.mk (k : Int) 1 1))] 3)]), 5⟩) ?_ (fun J => Xa.cut ?_)
     ·
      refine brE h ?_ ?_
      ·clear h; intro h418 h
       obtain rfl := oj h
       refine rn tmD [Bt] rfl (by repeat' first | refine Ya ?_ ?_ | (simp at qah410 qbh410 qch410 ⊢; omega) | (simp at qah410 qbh410 qch410 qlh410 ⊢; omega) | (simp; done) | (simp at qah412 qbh412 qch412 ⊢; omega) | (simp at qah412 qbh412 qch412 qlh412 ⊢; have qz := X30 h413; omega)|exact X00) ?_
       exact wkT [] (C1 _  (nbT (by first | rfl | simp [*])) rfl)
      clear h; intro h418 h
      refine X3 h ?_
      clear h; intro u419 h420 h
      refine X3 h ?_
      clear h; intro u421 h422 h
      refine rn tmD [Bf, .trunc 1 (m409.map X7), .no, .no] rfl (by repeat' first | refine Ya ?_ ?_ | (simp at qah410 qbh410 qch410 ⊢; omega) | (simp at qah410 qbh410 qch410 qlh410 ⊢; omega) | (simp; done) | (simp at qah412 qbh412 qch412 ⊢; omega) | (simp at qah412 qbh412 qch412 qlh412 ⊢; have qz := X30 h413; omega) | (refine X2p h420 rfl ?_; first | (simp; done) | (simp; omega) | (simp [hc, h403, h413, h418]; done) | (simp [hc, h403, h413, h418]; omega)) | (refine X1e h420 (by decide) ?_; first | (simp; done) | (simp; omega) | (simp [hc, h403, h413, h418]; done) | (simp [hc, h403, h413, h418]; omega))|exact (X71 (f := X7) qh410) | (refine X2p h422 rfl ?_; first | (simp; done) | (simp; omega) | (simp [hc, h403, h413, h418]; done) | (simp [hc, h403, h413, h418]; omega)) | (refine X1e h422 (by decide) ?_; first | (simp; done) | (simp; omega) | (simp [hc, h403, h413, h418]; done) | (simp [hc, h403, h413, h418]; omega))|exact X00) ?_
      exact wkT [(0, 8), (1, 6)] (ih (k + 1) hx1 _ _ nbF nbF o h C0 C1)
     clear h
     have h := h417
     refine brE h ?_ ?_
     ·clear h; intro h416 h
      obtain rfl := oj h
      refine rn tmD [Bt] rfl (by repeat' first | refine Ya ?_ ?_ | (simp at qah410 qbh410 qch410 ⊢; omega) | (simp at qah410 qbh410 qch410 qlh410 ⊢; omega) | (simp; done) | (simp at qah412 qbh412 qch412 ⊢; omega) | (simp at qah412 qbh412 qch412 qlh412 ⊢; have qz := X30 h413; omega)|exact X00) ?_
      exact wkT [(3, 17), (4, 18)] (Xa.glue J)
     clear h; intro h416 h
     obtain rfl := oj h
     refine rn tmD [Bf] rfl (by repeat' first | refine Ya ?_ ?_ | (simp at qah410 qbh410 qch410 ⊢; omega) | (simp at qah410 qbh410 qch410 qlh410 ⊢; omega) | (simp; done) | (simp at qah412 qbh412 qch412 ⊢; omega) | (simp at qah412 qbh412 qch412 qlh412 ⊢; have qz := X30 h413; omega)|exact X00) ?_
     exact wkT [(3, 17), (4, 18)] (Xa.glue J)
    clear h; intro h413 h
    refine rn tmD [.el (aI .i64 (X05.length : Int)), .wrap, .via (.ref 1 0 (m409.length)), .el (aI .i64 (X05.length : Int)), .wrap, .via (.ref 1 (Int.toNat (IntKind.i64.wrap ((X05.length : Int) - v397.1))) (m411.length))] rfl (by repeat' first | refine Ya ?_ ?_ | (simp at qah410 qbh410 qch410 ⊢; omega) | (simp at qah410 qbh410 qch410 qlh410 ⊢; omega) | (simp; done) | (simp at qah412 qbh412 qch412 ⊢; omega) | (simp at qah412 qbh412 qch412 qlh412 ⊢; have qz := X11 h413; omega) | (simp at qah412 qbh412 qch412 qlh412 ⊢; omega)|exact X00) ?_
    refine Xa.back (by intro id h; cases h) rfl ?_
    refine brE h ?_ ?_
    ·clear h; intro h423 h
     refine rn tmD [.el (aI .i64 (m411.length : Int))] rfl (by repeat' first | refine Ya ?_ ?_ | (simp at qah410 qbh410 qch410 ⊢; omega) | (simp at qah410 qbh410 qch410 qlh410 ⊢; omega) | (simp; done) | (simp at qah412 qbh412 qch412 ⊢; omega) | (simp at qah412 qbh412 qch412 qlh412 ⊢; have qz := X11 h413; omega) | (simp at qah412 qbh412 qch412 qlh412 ⊢; omega) | (have hp := eq_of_beq h423; simp [hp]; done) | (have hp := eq_of_beq h423; simp at hp ⊢; omega) | (have hp := eq_of_beq h423; subst hp; decide +kernel)|exact X00) ?_
     refine Xa.round ?_
     refine X3 h ?_
     clear h; intro e424 h425 h
     try have qh425 := X18 h425
     refine rn tmD [Bt, .el (X7 e424), .ld (X7 e424), Bt, .wrap, .wrap] rfl (by repeat' first | refine Ya ?_ ?_ | (simp at qah410 qbh410 qch410 ⊢; omega) | (simp at qah410 qbh410 qch410 qlh410 ⊢; omega) | (simp; done) | (simp at qah412 qbh412 qch412 ⊢; omega) | (simp at qah412 qbh412 qch412 qlh412 ⊢; have qz := X11 h413; omega) | (simp at qah412 qbh412 qch412 qlh412 ⊢; omega) | (have hp := eq_of_beq h423; simp [hp]; done) | (have hp := eq_of_beq h423; simp at hp ⊢; omega) | (have hp := eq_of_beq h423; subst hp; decide +kernel)|exact (Xbo (f := X7) qh412 h425)|exact (X18 h425)|exact (X6z h425)|exact X00) ?_
     refine Xa.round ?_
     refine X3 h ?_
     clear h; intro Xo3 h429 h
     refine rn tmD [Bf] rfl (by repeat' first | refine Ya ?_ ?_ | (simp at qah410 qbh410 qch410 ⊢; omega) | (simp at qah410 qbh410 qch410 qlh410 ⊢; omega) | (simp; done) | (simp at qah412 qbh412 qch412 ⊢; omega) | (simp at qah412 qbh412 qch412 qlh412 ⊢; have qz := X11 h413; omega) | (simp at qah412 qbh412 qch412 qlh412 ⊢; omega) | (have hp := eq_of_beq h423; simp [hp]; done) | (have hp := eq_of_beq h423; simp at hp ⊢; omega) | (have hp := eq_of_beq h423; subst hp; decide +kernel)|exact X00) ?_
     refine Xa.join (s' := ⟨fr [(4, AV.nils), (5, (AV.ref 1 0 (m409.length))), (7, (AV.ptr 2 0 0)), (11, (AV.ptr 3 0 0)), (12, (AV.ptr 4 0 0)), (15, (Lf (X2g.map Xf))), (16, (aI .i64 (X2g.length : Int))), (17, (aI .i64 (k : Int)))], hp ([(1, Ob (X05.map X7) 3), (2, Ob [(Xf x)] 5), (3, Ob [(Xf Xo3)] 5), (4, Ob [(X7 (Xw.mk (k : Int) (IntKind.i64.wrap (1 + e424.size)) (if (IntKind.i64.wrap (e424.depth + 1)) > 1 then (IntKind.i64.wrap (e424.depth + 1)) else 1)))] 3)]), 5⟩) ?_ (fun J => Xa.cut ?_)
     ·
      refine brE h ?_ ?_
      ·clear h; intro h430 h
       obtain rfl := oj h
       refine rn tmD [Bt] rfl (by repeat' first | refine Ya ?_ ?_ | (simp at qah410 qbh410 qch410 ⊢; omega) | (simp at qah410 qbh410 qch410 qlh410 ⊢; omega) | (simp; done) | (simp at qah412 qbh412 qch412 ⊢; omega) | (simp at qah412 qbh412 qch412 qlh412 ⊢; have qz := X11 h413; omega) | (simp at qah412 qbh412 qch412 qlh412 ⊢; omega) | (have hp := eq_of_beq h423; simp [hp]; done) | (have hp := eq_of_beq h423; simp at hp ⊢; omega) | (have hp := eq_of_beq h423; subst hp; decide +kernel)|exact X00) ?_
       exact wkT [] (C1 _  (nbT (by first | rfl | simp [*])) rfl)
      clear h; intro h430 h
      refine X3 h ?_
      clear h; intro u431 h432 h
      refine X3 h ?_
      clear h; intro u433 h434 h
      refine rn tmD [Bf, .trunc 1 (m409.map X7), .no, .no] rfl (by repeat' first | refine Ya ?_ ?_ | (simp at qah410 qbh410 qch410 ⊢; omega) | (simp at qah410 qbh410 qch410 qlh410 ⊢; omega) | (simp; done) | (simp at qah412 qbh412 qch412 ⊢; omega) | (simp at qah412 qbh412 qch412 qlh412 ⊢; have qz := X11 h413; omega) | (simp at qah412 qbh412 qch412 qlh412 ⊢; omega) | (have hp := eq_of_beq h423; simp [hp]; done) | (have hp := eq_of_beq h423; simp at hp ⊢; omega) | (have hp := eq_of_beq h423; subst hp; decide +kernel) | (refine X2p h432 rfl ?_; first | (simp; done) | (simp; omega) | (simp [hc, h403, h413, h423, h430]; done) | (simp [hc, h403, h413, h423, h430]; omega)) | (refine X1e h432 (by decide) ?_; first | (simp; done) | (simp; omega) | (simp [hc, h403, h413, h423, h430]; done) | (simp [hc, h403, h413, h423, h430]; omega))|exact (X71 (f := X7) qh410) | (refine X2p h434 rfl ?_; first | (simp; done) | (simp; omega) | (simp [hc, h403, h413, h423, h430]; done) | (simp [hc, h403, h413, h423, h430]; omega)) | (refine X1e h434 (by decide) ?_; first | (simp; done) | (simp; omega) | (simp [hc, h403, h413, h423, h430]; done) | (simp [hc, h403, h413, h423, h430]; omega))|exact X00) ?_
      exact wkT [(0, 8), (1, 6)] (ih (k + 1) hx1 _ _ nbF nbF o h C0 C1)
     clear h
     have h := h429
     refine brE h ?_ ?_
     ·clear h; intro h428 h
      obtain rfl := oj h
      refine rn tmD [Bt] rfl (by repeat' first | refine Ya ?_ ?_ | (simp at qah410 qbh410 qch410 ⊢; omega) | (simp at qah410 qbh410 qch410 qlh410 ⊢; omega) | (simp; done) | (simp at qah412 qbh412 qch412 ⊢; omega) | (simp at qah412 qbh412 qch412 qlh412 ⊢; have qz := X11 h413; omega) | (simp at qah412 qbh412 qch412 qlh412 ⊢; omega) | (have hp := eq_of_beq h423; simp [hp]; done) | (have hp := eq_of_beq h423; simp at hp ⊢; omega) | (have hp := eq_of_beq h423; subst hp; decide +kernel)|exact X00) ?_
      exact wkT [(3, 17), (4, 18)] (Xa.glue J)
     clear h; intro h428 h
     obtain rfl := oj h
     refine rn tmD [Bf] rfl (by repeat' first | refine Ya ?_ ?_ | (simp at qah410 qbh410 qch410 ⊢; omega) | (simp at qah410 qbh410 qch410 qlh410 ⊢; omega) | (simp; done) | (simp at qah412 qbh412 qch412 ⊢; omega) | (simp at qah412 qbh412 qch412 qlh412 ⊢; have qz := X11 h413; omega) | (simp at qah412 qbh412 qch412 qlh412 ⊢; omega) | (have hp := eq_of_beq h423; simp [hp]; done) | (have hp := eq_of_beq h423; simp at hp ⊢; omega) | (have hp := eq_of_beq h423; subst hp; decide +kernel)|exact X00) ?_
     exact wkT [(3, 17), (4, 18)] (Xa.glue J)
    clear h; intro h423 h
    refine brE h ?_ ?_
    ·clear h; intro h435 h
     refine rn tmD [.el (aI .i64 (m411.length : Int))] rfl (by repeat' first | refine Ya ?_ ?_ | (simp at qah410 qbh410 qch410 ⊢; omega) | (simp at qah410 qbh410 qch410 qlh410 ⊢; omega) | (simp; done) | (simp at qah412 qbh412 qch412 ⊢; omega) | (simp at qah412 qbh412 qch412 qlh412 ⊢; have qz := X11 h413; omega) | (simp at qah412 qbh412 qch412 qlh412 ⊢; omega) | (have hp := eq_of_beq h435; simp [hp]; done) | (have hp := eq_of_beq h435; simp at hp ⊢; omega) | (have hp := eq_of_beq h435; subst hp; decide +kernel)|exact X00) ?_
     refine Xa.round ?_
     refine X3 h ?_
     clear h; intro e436 h437 h
     try have qh437 := X18 h437
     refine rn tmD [Bt, .el (X7 e436), .ld (X7 e436), Bt, .wrap, .wrap] rfl (by repeat' first | refine Ya ?_ ?_ | (simp at qah410 qbh410 qch410 ⊢; omega) | (simp at qah410 qbh410 qch410 qlh410 ⊢; omega) | (simp; done) | (simp at qah412 qbh412 qch412 ⊢; omega) | (simp at qah412 qbh412 qch412 qlh412 ⊢; have qz := X11 h413; omega) | (simp at qah412 qbh412 qch412 qlh412 ⊢; omega) | (have hp := eq_of_beq h435; simp [hp]; done) | (have hp := eq_of_beq h435; simp at hp ⊢; omega) | (have hp := eq_of_beq h435; subst hp; decide +kernel)|exact (Xbo (f := X7) qh412 h437)|exact (X18 h437)|exact (X6z h437)|exact X00) ?_
     refine Xa.round ?_
     refine X3 h ?_
     clear h; intro e438 h439 h
     try have qh439 := X18 h439
     refine rn tmD [Bt, .el (X7 e438), .ld (X7 e438), Bf, .wrap, .wrap] rfl (by repeat' first | refine Ya ?_ ?_ | (simp at qah410 qbh410 qch410 ⊢; omega) | (simp at qah410 qbh410 qch410 qlh410 ⊢; omega) | (simp; done) | (simp at qah412 qbh412 qch412 ⊢; omega) | (simp at qah412 qbh412 qch412 qlh412 ⊢; have qz := X11 h413; omega) | (simp at qah412 qbh412 qch412 qlh412 ⊢; omega) | (have hp := eq_of_beq h435; simp [hp]; done) | (have hp := eq_of_beq h435; simp at hp ⊢; omega) | (have hp := eq_of_beq h435; subst hp; decide +kernel)|exact (Xbo (f := X7) qh412 h439)|exact (X18 h439)|exact (X6z h439)|exact X00) ?_
     refine Xa.round ?_
     refine X3 h ?_
     clear h; intro Xo1 h443 h
     refine rn tmD [Bf] rfl (by repeat' first | refine Ya ?_ ?_ | (simp at qah410 qbh410 qch410 ⊢; omega) | (simp at qah410 qbh410 qch410 qlh410 ⊢; omega) | (simp; done) | (simp at qah412 qbh412 qch412 ⊢; omega) | (simp at qah412 qbh412 qch412 qlh412 ⊢; have qz := X11 h413; omega) | (simp at qah412 qbh412 qch412 qlh412 ⊢; omega) | (have hp := eq_of_beq h435; simp [hp]; done) | (have hp := eq_of_beq h435; simp at hp ⊢; omega) | (have hp := eq_of_beq h435; subst hp; decide +kernel)|exact X00) ?_
     refine Xa.join (s' := ⟨fr [(4, AV.nils), (5, (AV.ref 1 0 (m409.length))), (7, (AV.ptr 2 0 0)), (11, (AV.ptr 3 0 0)), (12, (AV.ptr 4 0 0)), (15, (Lf (X2g.map Xf))), (16, (aI .i64 (X2g.length : Int))), (17, (aI .i64 (k : Int)))], hp ([(1, Ob (X05.map X7) 3), (2, Ob [(Xf x)] 5), (3, Ob [(Xf Xo1)] 5), (4, Ob [(X7 (Xw.mk (k : Int) (IntKind.i64.wrap ((IntKind.i64.wrap (1 + e436.size)) + e438.size)) (if (IntKind.i64.wrap (e438.depth + 1)) > (if (IntKind.i64.wrap (e436.depth + 1)) > 1 then (IntKind.i64.wrap (e436.depth + 1)) else 1) then (IntKind.i64.wrap (e438.depth + 1)) else (if (IntKind.i64.wrap (e436.depth + 1)) > 1 then (IntKind.i64.wrap (e436.depth + 1)) else 1))))] 3)]), 5⟩) ?_ (fun J => Xa.cut ?_)
     ·
      refine brE h ?_ ?_
      ·clear h; intro h444 h
       obtain rfl := oj h
       refine rn tmD [Bt] rfl (by repeat' first | refine Ya ?_ ?_ | (simp at qah410 qbh410 qch410 ⊢; omega) | (simp at qah410 qbh410 qch410 qlh410 ⊢; omega) | (simp; done) | (simp at qah412 qbh412 qch412 ⊢; omega) | (simp at qah412 qbh412 qch412 qlh412 ⊢; have qz := X11 h413; omega) | (simp at qah412 qbh412 qch412 qlh412 ⊢; omega) | (have hp := eq_of_beq h435; simp [hp]; done) | (have hp := eq_of_beq h435; simp at hp ⊢; omega) | (have hp := eq_of_beq h435; subst hp; decide +kernel)|exact X00) ?_
       exact wkT [] (C1 _  (nbT (by first | rfl | simp [*])) rfl)
      clear h; intro h444 h
      refine X3 h ?_
      clear h; intro u445 h446 h
      refine X3 h ?_
      clear h; intro u447 h448 h
      refine rn tmD [Bf, .trunc 1 (m409.map X7), .no, .no] rfl (by repeat' first | refine Ya ?_ ?_ | (simp at qah410 qbh410 qch410 ⊢; omega) | (simp at qah410 qbh410 qch410 qlh410 ⊢; omega) | (simp; done) | (simp at qah412 qbh412 qch412 ⊢; omega) | (simp at qah412 qbh412 qch412 qlh412 ⊢; have qz := X11 h413; omega) | (simp at qah412 qbh412 qch412 qlh412 ⊢; omega) | (have hp := eq_of_beq h435; simp [hp]; done) | (have hp := eq_of_beq h435; simp at hp ⊢; omega) | (have hp := eq_of_beq h435; subst hp; decide +kernel) | (refine X2p h446 rfl ?_; first | (simp; done) | (simp; omega) | (simp [hc, h403, h413, h423, h435, h444]; done) | (simp [hc, h403, h413, h423, h435, h444]; omega)) | (refine X1e h446 (by decide) ?_; first | (simp; done) | (simp; omega) | (simp [hc, h403, h413, h423, h435, h444]; done) | (simp [hc, h403, h413, h423, h435, h444]; omega))|exact (X71 (f := X7) qh410) | (refine X2p h448 rfl ?_; first | (simp; done) | (simp; omega) | (simp [hc, h403, h413, h423, h435, h444]; done) | (simp [hc, h403, h413, h423, h435, h444]; omega)) | (refine X1e h448 (by decide) ?_; first | (simp; done) | (simp; omega) | (simp [hc, h403, h413, h423, h435, h444]; done) | (simp [hc, h403, h413, h423, h435, h444]; omega))|exact X00) ?_
      exact wkT [(0, 8), (1, 6)] (ih (k + 1) hx1 _ _ nbF nbF o h C0 C1)
     clear h
     have h := h443
     refine brE h ?_ ?_
     ·clear h; intro h442 h
      obtain rfl := oj h
      refine rn tmD [Bt] rfl (by repeat' first | refine Ya ?_ ?_ | (simp at qah410 qbh410 qch410 ⊢; omega) | (simp at qah410 qbh410 qch410 qlh410 ⊢; omega) | (simp; done) | (simp at qah412 qbh412 qch412 ⊢; omega) | (simp at qah412 qbh412 qch412 qlh412 ⊢; have qz := X11 h413; omega) | (simp at qah412 qbh412 qch412 qlh412 ⊢; omega) | (have hp := eq_of_beq h435; simp [hp]; done) | (have hp := eq_of_beq h435; simp at hp ⊢; omega) | (have hp := eq_of_beq h435; subst hp; decide +kernel)|exact X00) ?_
      exact wkT [(3, 17), (4, 18)] (Xa.glue J)
     clear h; intro h442 h
     obtain rfl := oj h
     refine rn tmD [Bf] rfl (by repeat' first | refine Ya ?_ ?_ | (simp at qah410 qbh410 qch410 ⊢; omega) | (simp at qah410 qbh410 qch410 qlh410 ⊢; omega) | (simp; done) | (simp at qah412 qbh412 qch412 ⊢; omega) | (simp at qah412 qbh412 qch412 qlh412 ⊢; have qz := X11 h413; omega) | (simp at qah412 qbh412 qch412 qlh412 ⊢; omega) | (have hp := eq_of_beq h435; simp [hp]; done) | (have hp := eq_of_beq h435; simp at hp ⊢; omega) | (have hp := eq_of_beq h435; subst hp; decide +kernel)|exact X00) ?_
     exact wkT [(3, 17), (4, 18)] (Xa.glue J)
    clear h; intro h435 h
    cases h
   clear h
   have h := h402
   refine brE h ?_ ?_
   ·clear h; intro h401 h
    obtain rfl := oj h
    refine rn tmD [.go false, .go false, .go false, .go false] rfl (by repeat' first|apply Ya|exact (pn (X1l _ _ h398) (cc .sc cn))|exact X00) ?_
    exact wkT [] (Xa.glue J)
   clear h; intro h401 h
   obtain rfl := oj h
   refine rn tmD [.go true, .go true, .go true, .el (aI .i64 (X05.length : Int)), .go true] rfl (by repeat' first|apply Ya|exact (pn (X1l _ _ h398) (cc .sc cn))|exact X00) ?_
   exact wkT [] (Xa.glue J)
  obtain rfl := X17 rfl
  refine Xa.round ?_
  refine X3 h ?_
  clear h; intro v449 h450 h
  refine X3 h ?_
  clear h; intro Xo0 h454 h
  refine rn tmD [Bt, .el (Xf x), .pure [(aI .u8 x.Kind)] (AV.tup [(aI .i64 v449.1), (aI .i64 v449.2)]), .stop 6] rfl (by repeat' first|apply Ya|exact (pn (X1l _ _ h450) (cc .sc cn))|exact X00) ?_
  refine Xa.join (s' := ⟨fr [(4, AV.nils), (5, AV.nils), (6, (aI .i64 (k : Int))), (7, (AV.ptr 2 0 0)), (8, (aI .i64 v449.1)), (15, (Lf (X2g.map Xf))), (16, (aI .i64 (X2g.length : Int))), (17, (aI .i64 (k : Int))), (35, (aB Xo0))], hp ([(2, Ob [(Xf x)] 5)]), 3⟩) ?_ (fun J => Xa.cut ?_)
  ·
   refine brE h ?_ ?_
   ·clear h; intro h455 h
    obtain rfl := oj h
    refine Xm tmD [Bt] ?_
    exact wkT [] (C1 _  (nbT (by first | rfl | simp [*])) rfl)
   clear h; intro h455 h
   refine Xm tmD [Bf] ?_
   refine Xa.inline Xe Xmh rfl rfl rfl rfl rfl trivial trivial rfl rfl ?_
   refine X3 h ?_
   clear h; intro m461 h462 h
   obtain ⟨qah462, qbh462, qch462, qh462⟩ := X3o h462
   obtain rfl := X88 h462
   refine X3 h ?_
   clear h; intro m463 h464 h
   obtain ⟨qah464, qbh464, qch464, qh464⟩ := X3o h464
   obtain rfl := X88 h464
   refine brE h ?_ ?_
   ·clear h; intro h465 h
    refine rn tmD [.el (aI .i64 (List.length ([] : List Xw) : Int)), .wrap, .el (aI .i64 (List.length ([] : List Xw) : Int)), .wrap] rfl (by repeat' first | refine Ya ?_ ?_ | (simp at qah462 qbh462 qch462 ⊢; omega) | (simp at qah464 qbh464 qch464 ⊢; omega)|exact X00) ?_
    refine Xa.back (by intro id h; cases h) rfl ?_
    refine rn tmD [] rfl (by repeat' first | refine Ya ?_ ?_ | (simp at qah462 qbh462 qch462 ⊢; omega) | (simp at qah464 qbh464 qch464 ⊢; omega)|exact X00) ?_
    refine Xa.round ?_
    refine X3 h ?_
    clear h; intro Xnz h469 h
    refine rn tmD [Bf] rfl (by repeat' first | refine Ya ?_ ?_ | (simp at qah462 qbh462 qch462 ⊢; omega) | (simp at qah464 qbh464 qch464 ⊢; omega)|exact X00) ?_
    refine Xa.join (s' := ⟨fr [(4, AV.nils), (5, AV.nils), (7, (AV.ptr 2 0 0)), (11, (AV.ptr 3 0 0)), (12, (AV.ptr 4 0 0)), (15, (Lf (X2g.map Xf))), (16, (aI .i64 (X2g.length : Int))), (17, (aI .i64 (k : Int)))], hp ([(2, Ob [(Xf x)] 5), (3, Ob [(Xf Xnz)] 5), (4, Ob [(X7 (Xw.mk (k : Int) 1 1))] 3)]), 5⟩) ?_ (fun J => Xa.cut ?_)
    ·
     refine brE h ?_ ?_
     ·clear h; intro h470 h
      obtain rfl := oj h
      refine rn tmD [Bt] rfl (by repeat' first | refine Ya ?_ ?_ | (simp at qah462 qbh462 qch462 ⊢; omega) | (simp at qah464 qbh464 qch464 ⊢; omega)|exact X00) ?_
      exact wkT [] (C1 _  (nbT (by first | rfl | simp [*])) rfl)
     clear h; intro h470 h
     refine X3 h ?_
     clear h; intro u471 h472 h
     refine X3 h ?_
     clear h; intro u473 h474 h
     refine rn tmD [Bf, .no, .no] rfl (by repeat' first | refine Ya ?_ ?_ | (simp at qah462 qbh462 qch462 ⊢; omega) | (simp at qah464 qbh464 qch464 ⊢; omega) | (refine X2p h472 rfl ?_; first | (simp; done) | (simp; omega) | (simp [hc, h455, h465, h470]; done) | (simp [hc, h455, h465, h470]; omega)) | (refine X1e h472 (by decide) ?_; first | (simp; done) | (simp; omega) | (simp [hc, h455, h465, h470]; done) | (simp [hc, h455, h465, h470]; omega)) | (refine X2p h474 rfl ?_; first | (simp; done) | (simp; omega) | (simp [hc, h455, h465, h470]; done) | (simp [hc, h455, h465, h470]; omega)) | (refine X1e h474 (by decide) ?_; first | (simp; done) | (simp; omega) | (simp [hc, h455, h465, h470]; done) | (simp [hc, h455, h465, h470]; omega))|exact X00) ?_
     exact wkT [(0, 8), (1, 6)] (ih (k + 1) hx1 _ _ nbF nbF o h C0 C1)
    clear h
    have h := h469
    refine brE h ?_ ?_
    ·clear h; intro h468 h
     obtain rfl := oj h
     refine rn tmD [Bt] rfl (by repeat' first | refine Ya ?_ ?_ | (simp at qah462 qbh462 qch462 ⊢; omega) | (simp at qah464 qbh464 qch464 ⊢; omega)|exact X00) ?_
     exact wkT [(3, 17), (4, 18)] (Xa.glue J)
    clear h; intro h468 h
    obtain rfl := oj h
    refine rn tmD [Bf] rfl (by repeat' first | refine Ya ?_ ?_ | (simp at qah462 qbh462 qch462 ⊢; omega) | (simp at qah464 qbh464 qch464 ⊢; omega)|exact X00) ?_
    exact wkT [(3, 17), (4, 18)] (Xa.glue J)
   clear h; intro h465 h
   exact absurd h465 (by simp)
  clear h
  have h := h454
  refine brE h ?_ ?_
  ·clear h; intro h453 h
   obtain rfl := oj h
   refine rn tmD [.go false, .go false, .go false, .go false] rfl (by repeat' first|apply Ya|exact (pn (X1l _ _ h450) (cc .sc cn))|exact X00) ?_
   exact wkT [] (Xa.glue J)
  clear h; intro h453 h
  obtain rfl := oj h
  refine rn tmD [.go true, .go true, .go true, .el (aI .i64 (List.length ([] : List Xw) : Int)), .go true] rfl (by repeat' first|apply Ya|exact (pn (X1l _ _ h450) (cc .sc cn))|exact X00) ?_
  exact wkT [] (Xa.glue J)
end Go.Av.Tryz