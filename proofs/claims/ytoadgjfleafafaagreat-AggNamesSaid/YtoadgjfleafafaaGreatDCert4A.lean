/- Printed by decomp.py: that the program computes the functions. -/
import Derived.Test.YtoadgjfleafafaaGreatDCert2A
import Derived.Test.YtoadgjfleafafaaGreatDCert3A
set_option linter.all false

namespace Go.Av.Tryz
open Go.Proofs Go.D
set_option maxRecDepth 10000
set_option maxHeartbeats 40000000
theorem Xd1 {Q : X0d -> St -> Mu -> Prop} {μ : Mu} (X2i : (List X2r)) (hl : X2i.length <= 140737488355328) : ∀ (xs : List X2r) (k : Nat) (hx : X2i.drop k = xs) (X05 : (List Bool)) (X0e : Nb X05) (o : X5n) (h : X37 X2i xs k X05 = some o)
  (C0 : ∀ (X12 : (List Bool)) (X26 : Nb X12), o = X5n.x0 X12 -> Xa Tryz.prog 88 0 Q (.exit (.exit 0)) [] ⟨fr [(0, (Lf (X2i.map Xf))), (4, (AV.ptr 0 0 0))], hp ([(0, Ob [(slE X26.1 1 (X12.map aB))] 1)] ++ opE X26.1 1 1 (X12.map aB)), 2⟩ μ)
  (C1 : ∀ (X1i : (List Bool)) (Xez : Int) (X25 : Nb X1i), o = X5n.x1 X1i Xez -> Xa Tryz.prog 88 0 Q (.exit .ret) [] ⟨fr [(2, (slE X25.1 0 (X1i.map aB))), (3, (aI .i64 Xez))], hp ([] ++ opE X25.1 0 1 (X1i.map aB)), 1⟩ μ),
  Xa Tryz.prog 88 0 Q (.loop (X7i 0 (X01 Tryz.f101))) [] ⟨fr [(0, (Lf (X2i.map Xf))), (4, (AV.ptr 0 0 0)), (5, (AV.fn 115 [(AV.ptr 0 0 0)])), (12, (Lf (X2i.map Xf))), (13, (aI .i64 (X2i.length : Int))), (14, (aI .i64 (k : Int)))], hp ([(0, Ob [(slE X0e.1 1 (X05.map aB))] 1)] ++ opE X0e.1 1 1 (X05.map aB)), 2⟩ μ := by
 intro xs
 induction xs with
 | nil =>
  intro k hx X05 X0e o h C0 C1
  have hk := X2m hx
  have hc : decide ((k : Int) < (X2i.length : Int)) = false := Yf (by omega)
  rw [X37] at h
  rcases X0e with ⟨_ | _, X17⟩
  ·
   refine Xa.round ?_
   obtain rfl := oj h
   refine Xm tmD [Bf] ?_
   exact wkT [] (C0 _  nbF rfl)
  ·
   obtain rfl := X17 rfl
   refine Xa.round ?_
   obtain rfl := oj h
   refine Xm tmD [Bf] ?_
   exact wkT [] (C0 _  (nbT (by first | rfl | simp [*])) rfl)
 | cons x xs ih =>
  intro k hx X05 X0e o h C0 C1
  obtain ⟨hk, hg, hx1⟩ := X20 hx
  have hc : decide ((k : Int) < (X2i.length : Int)) = true := Yt (by omega)
  rw [X37] at h
  rcases X0e with ⟨_ | _, X17⟩
  ·
   refine Xa.round ?_
   refine brE h ?_ ?_
   ·clear h; intro h2524 h
    refine X3 h ?_
    clear h; intro u2525 h2526 h
    refine rn tmD [Bt, .el (Xf x), Bt, .no] rfl (by repeat' first | refine Ya ?_ ?_ | (refine X2p h2526 rfl ?_; first | (simp; done) | (simp; omega) | (simp [hc, h2524]; done) | (simp [hc, h2524]; omega)) | (refine X1e h2526 (by decide) ?_; first | (simp; done) | (simp; omega) | (simp [hc, h2524]; done) | (simp [hc, h2524]; omega))|exact X00) ?_
    exact wkT [(1, 6)] (ih (k + 1) hx1 _ nbF o h C0 C1)
   clear h; intro h2524 h
   refine brE h ?_ ?_
   ·clear h; intro h2533 h
    refine X3 h ?_
    clear h; intro Xg0 h2549 h
    refine Xm tmD [Bt, .el (Xf x), Bf, Bt, .stop 22] ?_
    refine Xa.join (s' := ⟨fr [(0, (Lf (X2i.map Xf))), (4, (AV.ptr 0 0 0)), (5, (AV.fn 115 [(AV.ptr 0 0 0)])), (6, (aI .i64 (k : Int))), (9, (aB false)), (12, (Lf (X2i.map Xf))), (13, (aI .i64 (X2i.length : Int))), (14, (aI .i64 (k : Int))), (78, (aB Xg0))], hp ([(0, Ob [(AV.ref 1 0 (X05.length))] 1), (1, Ob (X05.map aB) 1)]), 2⟩) ?_ (fun J => Xa.cut ?_)
    ·
     refine brE h ?_ ?_
     ·clear h; intro h2550 h
      obtain rfl := oj h
      refine Xm tmD [Bt] ?_
      exact wkT [] (C1 _ _  (nbT (by first | rfl | simp [*])) rfl)
     clear h; intro h2550 h
     refine X3 h ?_
     clear h; intro u2551 h2552 h
     refine rn tmD [Bf, .no] rfl (by repeat' first | refine Ya ?_ ?_ | (refine X2p h2552 rfl ?_; first | (simp; done) | (simp; omega) | (simp [hc, h2524, h2533, h2550]; done) | (simp [hc, h2524, h2533, h2550]; omega)) | (refine X1e h2552 (by decide) ?_; first | (simp; done) | (simp; omega) | (simp [hc, h2524, h2533, h2550]; done) | (simp [hc, h2524, h2533, h2550]; omega))|exact X00) ?_
     exact wkT [(1, 3)] (ih (k + 1) hx1 _ nbF o h C0 C1)
    clear h
    have h := h2549
    refine Xm tmD [.ix 0, .go true, .go true, .stop 999999] ?_
    refine Xa.inlineG Xe Xev rfl rfl rfl rfl rfl rfl rfl rfl rfl rfl (rfl) trivial trivial ?_
    refine Xm tmD [] ?_
    refine Xa.round ?_
    refine X3 h ?_
    clear h; intro e2546 h2547 h
    try have qh2547 := X18 h2547
    refine brE h ?_ ?_
    ·clear h; intro h2548 h
     refine Xm tmD [Bt, .el ((aI .i64 x.A)), .el (aB e2546), .ld (aB e2546), Bt] ?_
     refine Xa.back (by intro id h; cases h) rfl ?_
     obtain rfl := oj h
     refine Xm tmD [.go true, .ix 1, .go true, .go true, .go false, .go false, .go false, .go true, .go true] ?_
     exact wkT [] (Xa.glue J)
    clear h; intro h2548 h
    refine Xm tmD [Bt, .el ((aI .i64 x.A)), .el (aB e2546), .ld (aB e2546), Bf] ?_
    refine Xa.round ?_
    refine Xm tmD [Bf] ?_
    refine Xa.back (by intro id h; cases h) rfl ?_
    obtain rfl := oj h
    refine Xm tmD [.go false, .go false, .go false, .go false, .go false, .go false, .go false, .go false] ?_
    exact wkT [] (Xa.glue J)
   clear h; intro h2533 h
   refine brE h ?_ ?_
   ·clear h; intro h2558 h
    refine X3 h ?_
    clear h; intro Xfz h2574 h
    refine Xm tmD [Bt, .el (Xf x), Bf, Bf, Bt, .ix 0, .go false, .go false, .go false, .go true, .ix 1, .go true, .go true, .go true, .go true, .stop 999999] ?_
    refine Xa.joinOp (s' := ⟨fr [(0, (Lf (X2i.map Xf))), (4, (AV.ptr 0 0 0)), (5, (AV.fn 115 [(AV.ptr 0 0 0)])), (6, (aI .i64 (k : Int))), (9, (aB true)), (12, (Lf (X2i.map Xf))), (13, (aI .i64 (X2i.length : Int))), (14, (aI .i64 (k : Int))), (69, (aB (!(bif false then false else false)))), (72, (aB true)), (75, (aB Xfz))], hp ([(0, Ob [(AV.ref 1 0 (X05.length))] 1), (1, Ob (X05.map aB) 1)]), 2⟩) ?_ (fun J => ?_)
    ·
     refine brE h ?_ ?_
     ·clear h; intro h2575 h
      obtain rfl := oj h
      refine Xm tmD [.go true, .go true, Bt] ?_
      exact wkT [] (C1 _ _  (nbT (by first | rfl | simp [*])) rfl)
     clear h; intro h2575 h
     refine X3 h ?_
     clear h; intro u2576 h2577 h
     refine rn tmD [.go true, .go true, Bf, .no] rfl (by repeat' first | refine Ya ?_ ?_ | (refine X2p h2577 rfl ?_; first | (simp; done) | (simp; omega) | (simp [hc, h2524, h2533, h2558, h2575]; done) | (simp [hc, h2524, h2533, h2558, h2575]; omega)) | (refine X1e h2577 (by decide) ?_; first | (simp; done) | (simp; omega) | (simp [hc, h2524, h2533, h2558, h2575]; done) | (simp [hc, h2524, h2533, h2558, h2575]; omega))|exact X00) ?_
     exact wkT [(1, 3)] (ih (k + 1) hx1 _ nbF o h C0 C1)
    clear h
    have h := h2574
    refine Xa.inlineG Xe Xev rfl rfl rfl rfl rfl rfl rfl rfl rfl rfl (rfl) trivial trivial ?_
    refine Xm tmD [] ?_
    refine Xa.round ?_
    refine X3 h ?_
    clear h; intro e2571 h2572 h
    try have qh2572 := X18 h2572
    refine brE h ?_ ?_
    ·clear h; intro h2573 h
     obtain rfl := oj h
     refine Xm tmD [Bt, .el ((aI .i64 x.A)), .el (aB e2571), .ld (aB e2571), Bt] ?_
     refine Xa.back (by intro id h; cases h) rfl ?_
     exact wkT [] (J)
    clear h; intro h2573 h
    refine Xm tmD [Bt, .el ((aI .i64 x.A)), .el (aB e2571), .ld (aB e2571), Bf] ?_
    refine Xa.round ?_
    obtain rfl := oj h
    refine Xm tmD [Bf] ?_
    refine Xa.back (by intro id h; cases h) rfl ?_
    exact wkT [] (J)
   clear h; intro h2558 h
   refine X3 h ?_
   clear h; intro w2581 h2585 h
   obtain ⟨X7u, Xdz⟩ := w2581
   try dsimp only at h
   refine Xm tmD [Bt, .el (Xf x), Bf, Bf, Bf] ?_
   refine Xa.join (s' := ⟨fr [(0, (Lf (X2i.map Xf))), (4, (AV.ptr 0 0 0)), (5, (AV.fn 115 [(AV.ptr 0 0 0)])), (6, (aI .i64 (k : Int))), (8, (AV.ptr 2 0 0)), (9, (aB Xdz)), (10, (AV.ref 3 0 (List.length [x.A, x.B]))), (12, (Lf (X2i.map Xf))), (13, (aI .i64 (X2i.length : Int))), (14, (aI .i64 (k : Int)))], hp ([(0, Ob [(AV.ref 1 0 (X05.length))] 1), (1, Ob (X05.map aB) 1), (2, Ob [(X70 X7u)] 2), (3, Ob (List.map (aI .i64) [x.A, x.B]) 1)]), 4⟩) ?_ (fun J => Xa.cut ?_)
   ·
    refine X3 h ?_
    clear h; intro Xfy h3221 h
    refine Xm tmD [.stop 22] ?_
    refine Xa.join (s' := ⟨fr [(0, (Lf (X2i.map Xf))), (4, (AV.ptr 0 0 0)), (5, (AV.fn 115 [(AV.ptr 0 0 0)])), (6, (aI .i64 (k : Int))), (9, (aB Xdz)), (12, (Lf (X2i.map Xf))), (13, (aI .i64 (X2i.length : Int))), (14, (aI .i64 (k : Int))), (78, (aB Xfy))], hp ([(0, Ob [(AV.ref 1 0 (X05.length))] 1), (1, Ob (X05.map aB) 1)]), 2⟩) ?_ (fun J => Xa.cut ?_)
    ·
     refine brE h ?_ ?_
     ·clear h; intro h3222 h
      obtain rfl := oj h
      refine Xm tmD [Bt] ?_
      exact wkT [] (C1 _ _  (nbT (by first | rfl | simp [*])) rfl)
     clear h; intro h3222 h
     refine X3 h ?_
     clear h; intro u3223 h3224 h
     refine rn tmD [Bf, .no] rfl (by repeat' first | refine Ya ?_ ?_ | (refine X2p h3224 rfl ?_; first | (simp; done) | (simp; omega) | (simp [hc, h2524, h2533, h2558, h3222]; done) | (simp [hc, h2524, h2533, h2558, h3222]; omega)) | (refine X1e h3224 (by decide) ?_; first | (simp; done) | (simp; omega) | (simp [hc, h2524, h2533, h2558, h3222]; done) | (simp [hc, h2524, h2533, h2558, h3222]; omega))|exact X00) ?_
     exact wkT [(1, 3)] (ih (k + 1) hx1 _ nbF o h C0 C1)
    clear h
    have h := h3221
    refine brE h ?_ ?_
    ·clear h; intro h2904 h
     refine X3 h ?_
     clear h; intro X8x h3018 h
     refine Xm tmD [.ix 0, .go true, .go true, .stop 999999] ?_
     refine Xa.joinOp (s' := ⟨fr [(0, (Lf (X2i.map Xf))), (4, (AV.ptr 0 0 0)), (5, (AV.fn 115 [(AV.ptr 0 0 0)])), (6, (aI .i64 (k : Int))), (8, (AV.ptr 2 0 0)), (9, (aB Xdz)), (10, (AV.ref 3 0 (List.length [x.A, x.B]))), (12, (Lf (X2i.map Xf))), (13, (aI .i64 (X2i.length : Int))), (14, (aI .i64 (k : Int))), (63, (aB X7u.e0)), (66, (aB X8x))], hp ([(0, Ob [(AV.ref 1 0 (X05.length))] 1), (1, Ob (X05.map aB) 1), (2, Ob [(X70 X7u)] 2), (3, Ob (List.map (aI .i64) [x.A, x.B]) 1)]), 4⟩) ?_ (fun J => ?_)
     ·
      refine brE h ?_ ?_
      ·clear h; intro h3019 h
       refine brE h ?_ ?_
       ·clear h; intro h3020 h
        refine X3 h ?_
        clear h; intro Xfx h3134 h
        refine Xm tmD [.go true, .ix 1, .go true, .go true, .go true, .go true, .stop 999999] ?_
        refine Xa.joinOp (s' := ⟨fr [(0, (Lf (X2i.map Xf))), (4, (AV.ptr 0 0 0)), (5, (AV.fn 115 [(AV.ptr 0 0 0)])), (6, (aI .i64 (k : Int))), (9, (aB Xdz)), (12, (Lf (X2i.map Xf))), (13, (aI .i64 (X2i.length : Int))), (14, (aI .i64 (k : Int))), (69, (aB (!(bif X7u.e0 then X8x else false)))), (72, (aB X7u.e1)), (75, (aB Xfx))], hp ([(0, Ob [(AV.ref 1 0 (X05.length))] 1), (1, Ob (X05.map aB) 1)]), 2⟩) ?_ (fun J => ?_)
        ·
         obtain rfl := oj h
         refine Xm tmD [.go true, .go true] ?_
         exact wkT [] (Xa.glue J)
        clear h
        have h := h3134
        refine Xa.inlineG Xe Xev rfl rfl rfl rfl rfl rfl rfl rfl rfl rfl (h3020) trivial trivial ?_
        refine X3 h ?_
        clear h; intro u3096 h3097 h
        have qh3097 := X1w h3097
        refine X3 h ?_
        clear h; intro o3132 h3133 h
        refine Xm tmD [.el (aI .i64 (List.length [x.A, x.B] : Int))] ?_
        refine wkT [(4, 3)] (Xa.cut (X1m X05 [x.A, x.B] nbF qh3097 [x.A, x.B] 0 (by simp) _ h3133 ?_ ?_))
        ·intro eo3132; subst eo3132
         refine Xa.glue ?_
         try dsimp only at h
         obtain rfl := oj h
         refine Xm tmD [] ?_
         refine Xa.back (by intro id h; cases h) rfl ?_
         exact wkT [] (J)
        intro eo3132; subst eo3132
        refine Xa.glue ?_
        try dsimp only at h
        obtain rfl := oj h
        refine Xm tmD [] ?_
        refine Xa.back (by intro id h; cases h) rfl ?_
        exact wkT [] (J)
       clear h; intro h3020 h
       obtain rfl := oj h
       refine Xm tmD [.go true, .ix 1, .go true, .go true, .go false, .go false, .go false, .go true, .go true] ?_
       exact wkT [] (Xa.glue J)
      clear h; intro h3019 h
      obtain rfl := oj h
      refine Xm tmD [.go false, .go false, .go false, .go false, .go false, .go false, .go false, .go false] ?_
      exact wkT [] (Xa.glue J)
     clear h
     have h := h3018
     refine Xa.inlineG Xe Xev rfl rfl rfl rfl rfl rfl rfl rfl rfl rfl (h2904) trivial trivial ?_
     refine X3 h ?_
     clear h; intro u2980 h2981 h
     have qh2981 := X1w h2981
     refine X3 h ?_
     clear h; intro o3016 h3017 h
     refine Xm tmD [.el (aI .i64 (List.length [x.A, x.B] : Int))] ?_
     refine wkT [] (Xa.cut (X3p X05 X7u [x.A, x.B] nbF qh2981 [x.A, x.B] 0 (by simp) _ h3017 ?_ ?_))
     ·intro eo3016; subst eo3016
      refine Xa.glue ?_
      try dsimp only at h
      obtain rfl := oj h
      refine Xm tmD [] ?_
      refine Xa.back (by intro id h; cases h) rfl ?_
      exact wkT [] (J)
     intro eo3016; subst eo3016
     refine Xa.glue ?_
     try dsimp only at h
     obtain rfl := oj h
     refine Xm tmD [] ?_
     refine Xa.back (by intro id h; cases h) rfl ?_
     exact wkT [] (J)
    clear h; intro h2904 h
    refine brE h ?_ ?_
    ·clear h; intro h3135 h
     refine brE h ?_ ?_
     ·clear h; intro h3136 h
      refine X3 h ?_
      clear h; intro Xfw h3220 h
      refine Xm tmD [.ix 0, .go false, .go false, .go false, .go true, .ix 1, .go true, .go true, .go true, .go true, .stop 999999] ?_
      refine Xa.joinOp (s' := ⟨fr [(0, (Lf (X2i.map Xf))), (4, (AV.ptr 0 0 0)), (5, (AV.fn 115 [(AV.ptr 0 0 0)])), (6, (aI .i64 (k : Int))), (9, (aB Xdz)), (12, (Lf (X2i.map Xf))), (13, (aI .i64 (X2i.length : Int))), (14, (aI .i64 (k : Int))), (69, (aB (!(bif X7u.e0 then false else false)))), (72, (aB X7u.e1)), (75, (aB Xfw))], hp ([(0, Ob [(AV.ref 1 0 (X05.length))] 1), (1, Ob (X05.map aB) 1)]), 2⟩) ?_ (fun J => ?_)
      ·
       obtain rfl := oj h
       refine Xm tmD [.go true, .go true] ?_
       exact wkT [] (Xa.glue J)
      clear h
      have h := h3220
      refine Xa.inlineG Xe Xev rfl rfl rfl rfl rfl rfl rfl rfl rfl rfl (h3136) trivial trivial ?_
      refine X3 h ?_
      clear h; intro u3192 h3193 h
      have qh3193 := X1w h3193
      refine X3 h ?_
      clear h; intro o3218 h3219 h
      refine Xm tmD [.el (aI .i64 (List.length [x.A, x.B] : Int))] ?_
      refine wkT [(4, 3)] (Xa.cut (X1m X05 [x.A, x.B] nbF qh3193 [x.A, x.B] 0 (by simp) _ h3219 ?_ ?_))
      ·intro eo3218; subst eo3218
       refine Xa.glue ?_
       try dsimp only at h
       obtain rfl := oj h
       refine Xm tmD [] ?_
       refine Xa.back (by intro id h; cases h) rfl ?_
       exact wkT [] (J)
      intro eo3218; subst eo3218
      refine Xa.glue ?_
      try dsimp only at h
      obtain rfl := oj h
      refine Xm tmD [] ?_
      refine Xa.back (by intro id h; cases h) rfl ?_
      exact wkT [] (J)
     clear h; intro h3136 h
     obtain rfl := oj h
     refine Xm tmD [.ix 0, .go false, .go false, .go false, .go true, .ix 1, .go true, .go true, .go false, .go false, .go false, .go true, .go true] ?_
     exact wkT [] (Xa.glue J)
    clear h; intro h3135 h
    obtain rfl := oj h
    refine Xm tmD [.ix 0, .go false, .go false, .go false, .go false, .go false, .go false, .go false, .go false, .go false, .go false, .go false] ?_
    exact wkT [] (Xa.glue J)
   clear h
   have h := h2585
   refine brE h ?_ ?_
   ·clear h; intro h2582 h
    simp only [Option.some.injEq, Prod.mk.injEq] at h
    obtain ⟨rfl, rfl⟩ := h
    refine Xm tmD [Bt] ?_
    exact wkT [(2, 3), (3, 4)] (Xa.glue J)
   clear h; intro h2582 h
   refine brE h ?_ ?_
   ·clear h; intro h2583 h
    simp only [Option.some.injEq, Prod.mk.injEq] at h
    obtain ⟨rfl, rfl⟩ := h
    refine Xm tmD [Bf, Bt] ?_
    exact wkT [(2, 3), (3, 4)] (Xa.glue J)
   clear h; intro h2583 h
   refine brE h ?_ ?_
   ·clear h; intro h2584 h
    simp only [Option.some.injEq, Prod.mk.injEq] at h
    obtain ⟨rfl, rfl⟩ := h
    refine Xm tmD [Bf, Bf, Bt] ?_
    exact wkT [(2, 3), (3, 4)] (Xa.glue J)
   clear h; intro h2584 h
   simp only [Option.some.injEq, Prod.mk.injEq] at h
   obtain ⟨rfl, rfl⟩ := h
   refine Xm tmD [Bf, Bf, Bf] ?_
   exact wkT [(2, 3), (3, 4)] (Xa.glue J)
  obtain rfl := X17 rfl
  refine Xa.round ?_
  refine brE h ?_ ?_
  ·clear h; intro h3225 h
   refine X3 h ?_
   clear h; intro u3226 h3227 h
   refine rn tmD [Bt, .el (Xf x), Bt, .no] rfl (by repeat' first | refine Ya ?_ ?_ | (refine X2p h3227 rfl ?_; first | (simp; done) | (simp; omega) | (simp [hc, h3225]; done) | (simp [hc, h3225]; omega)) | (refine X1e h3227 (by decide) ?_; first | (simp; done) | (simp; omega) | (simp [hc, h3225]; done) | (simp [hc, h3225]; omega))|exact X00) ?_
   exact wkT [(1, 6)] (ih (k + 1) hx1 _ nbF o h C0 C1)
  clear h; intro h3225 h
  refine brE h ?_ ?_
  ·clear h; intro h3233 h
   refine Xm tmD [Bt, .el (Xf x), Bf, Bt, .ix 0, .go true, .go true, .stop 999999] ?_
   refine Xa.inlineG Xe Xev rfl rfl rfl rfl rfl rfl rfl rfl rfl rfl (rfl) trivial trivial ?_
   refine Xm tmD [] ?_
   refine Xa.round ?_
   refine X3 h ?_
   clear h; intro e3241 h3242 h
   try have qh3242 := X18 h3242
   exact absurd (h3242) (by simp [X98])
  clear h; intro h3233 h
  refine brE h ?_ ?_
  ·clear h; intro h3247 h
   refine Xm tmD [Bt, .el (Xf x), Bf, Bf, Bt, .ix 0, .go false, .go false, .go false, .go true, .ix 1, .go true, .go true, .go true, .go true, .stop 999999] ?_
   refine Xa.inlineG Xe Xev rfl rfl rfl rfl rfl rfl rfl rfl rfl rfl (rfl) trivial trivial ?_
   refine Xm tmD [] ?_
   refine Xa.round ?_
   refine X3 h ?_
   clear h; intro e3255 h3256 h
   try have qh3256 := X18 h3256
   exact absurd (h3256) (by simp [X98])
  clear h; intro h3247 h
  refine X3 h ?_
  clear h; intro w3260 h3264 h
  obtain ⟨X7t, Xdy⟩ := w3260
  try dsimp only at h
  refine Xm tmD [Bt, .el (Xf x), Bf, Bf, Bf] ?_
  refine Xa.join (s' := ⟨fr [(0, (Lf (X2i.map Xf))), (4, (AV.ptr 0 0 0)), (5, (AV.fn 115 [(AV.ptr 0 0 0)])), (6, (aI .i64 (k : Int))), (8, (AV.ptr 2 0 0)), (9, (aB Xdy)), (10, (AV.ref 3 0 (List.length [x.A, x.B]))), (12, (Lf (X2i.map Xf))), (13, (aI .i64 (X2i.length : Int))), (14, (aI .i64 (k : Int)))], hp ([(0, Ob [AV.nils] 1), (2, Ob [(X70 X7t)] 2), (3, Ob (List.map (aI .i64) [x.A, x.B]) 1)]), 4⟩) ?_ (fun J => Xa.cut ?_)
  ·
   refine X3 h ?_
   clear h; intro Xm8 h3780 h
   refine Xm tmD [.stop 22] ?_
   refine Xa.join (s' := ⟨fr [(0, (Lf (X2i.map Xf))), (4, (AV.ptr 0 0 0)), (5, (AV.fn 115 [(AV.ptr 0 0 0)])), (6, (aI .i64 (k : Int))), (9, (aB Xdy)), (12, (Lf (X2i.map Xf))), (13, (aI .i64 (X2i.length : Int))), (14, (aI .i64 (k : Int))), (78, (aB Xm8))], hp ([(0, Ob [AV.nils] 1)]), 2⟩) ?_ (fun J => Xa.cut ?_)
   ·
    refine brE h ?_ ?_
    ·clear h; intro h3781 h
     obtain rfl := oj h
     refine Xm tmD [Bt] ?_
     exact wkT [] (C1 _ _  (nbT (by first | rfl | simp [*])) rfl)
    clear h; intro h3781 h
    refine X3 h ?_
    clear h; intro u3782 h3783 h
    refine rn tmD [Bf, .no] rfl (by repeat' first | refine Ya ?_ ?_ | (refine X2p h3783 rfl ?_; first | (simp; done) | (simp; omega) | (simp [hc, h3225, h3233, h3247, h3781]; done) | (simp [hc, h3225, h3233, h3247, h3781]; omega)) | (refine X1e h3783 (by decide) ?_; first | (simp; done) | (simp; omega) | (simp [hc, h3225, h3233, h3247, h3781]; done) | (simp [hc, h3225, h3233, h3247, h3781]; omega))|exact X00) ?_
    exact wkT [(1, 3)] (ih (k + 1) hx1 _ nbF o h C0 C1)
   clear h
   have h := h3780
   refine brE h ?_ ?_
   ·clear h; intro h3523 h
    refine X3 h ?_
    clear h; intro Xin h3607 h
    refine Xm tmD [.ix 0, .go true, .go true, .stop 999999] ?_
    refine Xa.joinOp (s' := ⟨fr [(0, (Lf (X2i.map Xf))), (4, (AV.ptr 0 0 0)), (5, (AV.fn 115 [(AV.ptr 0 0 0)])), (6, (aI .i64 (k : Int))), (8, (AV.ptr 2 0 0)), (9, (aB Xdy)), (10, (AV.ref 3 0 (List.length [x.A, x.B]))), (12, (Lf (X2i.map Xf))), (13, (aI .i64 (X2i.length : Int))), (14, (aI .i64 (k : Int))), (63, (aB X7t.e0)), (66, (aB Xin))], hp ([(0, Ob [AV.nils] 1), (2, Ob [(X70 X7t)] 2), (3, Ob (List.map (aI .i64) [x.A, x.B]) 1)]), 4⟩) ?_ (fun J => ?_)
    ·
     refine brE h ?_ ?_
     ·clear h; intro h3608 h
      refine brE h ?_ ?_
      ·clear h; intro h3609 h
       refine X3 h ?_
       clear h; intro Xm7 h3693 h
       refine Xm tmD [.go true, .ix 1, .go true, .go true, .go true, .go true, .stop 999999] ?_
       refine Xa.joinOp (s' := ⟨fr [(0, (Lf (X2i.map Xf))), (4, (AV.ptr 0 0 0)), (5, (AV.fn 115 [(AV.ptr 0 0 0)])), (6, (aI .i64 (k : Int))), (9, (aB Xdy)), (12, (Lf (X2i.map Xf))), (13, (aI .i64 (X2i.length : Int))), (14, (aI .i64 (k : Int))), (69, (aB (!(bif X7t.e0 then Xin else false)))), (72, (aB X7t.e1)), (75, (aB Xm7))], hp ([(0, Ob [AV.nils] 1)]), 2⟩) ?_ (fun J => ?_)
       ·
        obtain rfl := oj h
        refine Xm tmD [.go true, .go true] ?_
        exact wkT [] (Xa.glue J)
       clear h
       have h := h3693
       refine Xa.inlineG Xe Xev rfl rfl rfl rfl rfl rfl rfl rfl rfl rfl (h3609) trivial trivial ?_
       refine X3 h ?_
       clear h; intro u3665 h3666 h
       have qh3666 := X1w h3666
       refine X3 h ?_
       clear h; intro o3691 h3692 h
       refine Xm tmD [.el (aI .i64 (List.length [x.A, x.B] : Int))] ?_
       refine wkT [(4, 3)] (Xa.cut (X1m ([] : List Bool) [x.A, x.B] (nbT (by first | rfl | simp [*])) qh3666 [x.A, x.B] 0 (by simp) _ h3692 ?_ ?_))
       ·intro eo3691; subst eo3691
        refine Xa.glue ?_
        try dsimp only at h
        obtain rfl := oj h
        refine Xm tmD [] ?_
        refine Xa.back (by intro id h; cases h) rfl ?_
        exact wkT [] (J)
       intro eo3691; subst eo3691
       refine Xa.glue ?_
       try dsimp only at h
       obtain rfl := oj h
       refine Xm tmD [] ?_
       refine Xa.back (by intro id h; cases h) rfl ?_
       exact wkT [] (J)
      clear h; intro h3609 h
      obtain rfl := oj h
      refine Xm tmD [.go true, .ix 1, .go true, .go true, .go false, .go false, .go false, .go true, .go true] ?_
      exact wkT [] (Xa.glue J)
     clear h; intro h3608 h
     obtain rfl := oj h
     refine Xm tmD [.go false, .go false, .go false, .go false, .go false, .go false, .go false, .go false] ?_
     exact wkT [] (Xa.glue J)
    clear h
    have h := h3607
    refine Xa.inlineG Xe Xev rfl rfl rfl rfl rfl rfl rfl rfl rfl rfl (h3523) trivial trivial ?_
    refine X3 h ?_
    clear h; intro u3579 h3580 h
    have qh3580 := X1w h3580
    refine X3 h ?_
    clear h; intro o3605 h3606 h
    refine Xm tmD [.el (aI .i64 (List.length [x.A, x.B] : Int))] ?_
    refine wkT [] (Xa.cut (X3p ([] : List Bool) X7t [x.A, x.B] (nbT (by first | rfl | simp [*])) qh3580 [x.A, x.B] 0 (by simp) _ h3606 ?_ ?_))
    ·intro eo3605; subst eo3605
     refine Xa.glue ?_
     try dsimp only at h
     obtain rfl := oj h
     refine Xm tmD [] ?_
     refine Xa.back (by intro id h; cases h) rfl ?_
     exact wkT [] (J)
    intro eo3605; subst eo3605
    refine Xa.glue ?_
    try dsimp only at h
    obtain rfl := oj h
    refine Xm tmD [] ?_
    refine Xa.back (by intro id h; cases h) rfl ?_
    exact wkT [] (J)
   clear h; intro h3523 h
   refine brE h ?_ ?_
   ·clear h; intro h3694 h
    refine brE h ?_ ?_
    ·clear h; intro h3695 h
     refine X3 h ?_
     clear h; intro Xm6 h3779 h
     refine Xm tmD [.ix 0, .go false, .go false, .go false, .go true, .ix 1, .go true, .go true, .go true, .go true, .stop 999999] ?_
     refine Xa.joinOp (s' := ⟨fr [(0, (Lf (X2i.map Xf))), (4, (AV.ptr 0 0 0)), (5, (AV.fn 115 [(AV.ptr 0 0 0)])), (6, (aI .i64 (k : Int))), (9, (aB Xdy)), (12, (Lf (X2i.map Xf))), (13, (aI .i64 (X2i.length : Int))), (14, (aI .i64 (k : Int))), (69, (aB (!(bif X7t.e0 then false else false)))), (72, (aB X7t.e1)), (75, (aB Xm6))], hp ([(0, Ob [AV.nils] 1)]), 2⟩) ?_ (fun J => ?_)
     ·
      obtain rfl := oj h
      refine Xm tmD [.go true, .go true] ?_
      exact wkT [] (Xa.glue J)
     clear h
     have h := h3779
     refine Xa.inlineG Xe Xev rfl rfl rfl rfl rfl rfl rfl rfl rfl rfl (h3695) trivial trivial ?_
     refine X3 h ?_
     clear h; intro u3751 h3752 h
     have qh3752 := X1w h3752
     refine X3 h ?_
     clear h; intro o3777 h3778 h
     refine Xm tmD [.el (aI .i64 (List.length [x.A, x.B] : Int))] ?_
     refine wkT [(4, 3)] (Xa.cut (X1m ([] : List Bool) [x.A, x.B] (nbT (by first | rfl | simp [*])) qh3752 [x.A, x.B] 0 (by simp) _ h3778 ?_ ?_))
     ·intro eo3777; subst eo3777
      refine Xa.glue ?_
      try dsimp only at h
      obtain rfl := oj h
      refine Xm tmD [] ?_
      refine Xa.back (by intro id h; cases h) rfl ?_
      exact wkT [] (J)
     intro eo3777; subst eo3777
     refine Xa.glue ?_
     try dsimp only at h
     obtain rfl := oj h
     refine Xm tmD [] ?_
     refine Xa.back (by intro id h; cases h) rfl ?_
     exact wkT [] (J)
    clear h; intro h3695 h
    obtain rfl := oj h
    refine Xm tmD [.ix 0, .go false, .go false, .go false, .go true, .ix 1, .go true, .go true, .go false, .go false, .go false, .go true, .go true] ?_
    exact wkT [] (Xa.glue J)
   clear h; intro h3694 h
   obtain rfl := oj h
   refine Xm tmD [.ix 0, .go false, .go false, .go false, .go false, .go false, .go false, .go false, .go false, .go false, .go false, .go false] ?_
   exact wkT [] (Xa.glue J)
  clear h
  have h := h3264
  refine brE h ?_ ?_
  ·clear h; intro h3261 h
   simp only [Option.some.injEq, Prod.mk.injEq] at h
   obtain ⟨rfl, rfl⟩ := h
   refine Xm tmD [Bt] ?_
   exact wkT [(2, 3), (3, 4)] (Xa.glue J)
  clear h; intro h3261 h
  refine brE h ?_ ?_
  ·clear h; intro h3262 h
   simp only [Option.some.injEq, Prod.mk.injEq] at h
   obtain ⟨rfl, rfl⟩ := h
   refine Xm tmD [Bf, Bt] ?_
   exact wkT [(2, 3), (3, 4)] (Xa.glue J)
  clear h; intro h3262 h
  refine brE h ?_ ?_
  ·clear h; intro h3263 h
   simp only [Option.some.injEq, Prod.mk.injEq] at h
   obtain ⟨rfl, rfl⟩ := h
   refine Xm tmD [Bf, Bf, Bt] ?_
   exact wkT [(2, 3), (3, 4)] (Xa.glue J)
  clear h; intro h3263 h
  simp only [Option.some.injEq, Prod.mk.injEq] at h
  obtain ⟨rfl, rfl⟩ := h
  refine Xm tmD [Bf, Bf, Bf] ?_
  exact wkT [(2, 3), (3, 4)] (Xa.glue J)
end Go.Av.Tryz