/- Printed by decomp.py: that the program computes the functions. -/
import Derived.Test.YtneciiakpbfnjaaGreatDCert0J
import Derived.Test.YtneciiakpbfnjaaGreatDCert2J
import Derived.Test.YtneciiakpbfnjaaGreatDCert3J
set_option linter.all false
set_option linter.unusedVariables false
namespace Go.Av.Tryz
open Go.Proofs Go.D
set_option maxRecDepth 10000
set_option maxHeartbeats 4000000

theorem kinds_told_L0_ok {Q : AExit → St → Mu → Prop} {μ : Mu} (y0_0 : (List GNode)) (hl : List.length y0_0 ≤ 140737488355328) : ∀ (xs : List GNode) (k : Nat) (hx : y0_0.drop k = xs) (y0_o1 : (List Bool)) (nb_y0_o1 : Nb y0_o1) (o : kinds_told_L0_o) (h : kinds_told_L0 y0_0 xs k y0_o1 = some o)
  (C0 : ∀ (z0_0_o1 : (List Bool)) (nb_z0_0_o1 : Nb z0_0_o1), o = kinds_told_L0_o.x0 z0_0_o1 → SemK Tryz.prog 88 0 Q (.exit (.exit 0)) [] ⟨fr [(0, (AV.list false (List.map enc_GNode y0_0))), (4, (AV.ptr 0 0 0))], hp ([(0, { es := [(slE nb_z0_0_o1.1 1 (List.map aB z0_0_o1))], esz := 1 })] ++ opE nb_z0_0_o1.1 1 1 (List.map aB z0_0_o1)), 2⟩ μ)
  (C1 : ∀ (z0_1_o0 : (List Bool)) (z0_1_3 : Int) (nb_z0_1_o0 : Nb z0_1_o0), o = kinds_told_L0_o.x1 z0_1_o0 z0_1_3 → SemK Tryz.prog 88 0 Q (.exit .ret) [] ⟨fr [(2, (slE nb_z0_1_o0.1 0 (List.map aB z0_1_o0))), (3, (aI .i64 z0_1_3))], hp ([] ++ opE nb_z0_1_o0.1 0 1 (List.map aB z0_1_o0)), 1⟩ μ),
  SemK Tryz.prog 88 0 Q (.loop (loopB 0 (bodyOf Tryz.f176))) [] ⟨fr [(0, (AV.list false (List.map enc_GNode y0_0))), (4, (AV.ptr 0 0 0)), (5, (AV.fn 189 [(AV.ptr 0 0 0)])), (12, (AV.list false (List.map enc_GNode y0_0))), (13, (aI .i64 (List.length y0_0 : Int))), (14, (aI .i64 (k : Int)))], hp ([(0, { es := [(slE nb_y0_o1.1 1 (List.map aB y0_o1))], esz := 1 })] ++ opE nb_y0_o1.1 1 1 (List.map aB y0_o1)), 2⟩ μ := by
 intro xs
 induction xs with
 | nil =>
  intro k hx y0_o1 nb_y0_o1 o h C0 C1
  have hk := drop_nil hx
  have hc : decide ((k : Int) < (List.length y0_0 : Int)) = false := decide_eq_false (by omega)
  rw [kinds_told_L0] at h
  rcases nb_y0_o1 with ⟨_ | _, hn_y0_o1⟩
  ·
   refine SemK.round ?_
   obtain rfl := Option.some.inj h
   refine runT tmD [.br false] ?_
   exact wkT [] (C0 _  nbF rfl)
  ·
   obtain rfl := hn_y0_o1 rfl
   refine SemK.round ?_
   obtain rfl := Option.some.inj h
   refine runT tmD [.br false] ?_
   exact wkT [] (C0 _  (nbT (by first | rfl | simp [*])) rfl)
 | cons x xs ih =>
  intro k hx y0_o1 nb_y0_o1 o h C0 C1
  obtain ⟨hk, hg, hx1⟩ := drop_cons hx
  have hc : decide ((k : Int) < (List.length y0_0 : Int)) = true := decide_eq_true (by omega)
  rw [kinds_told_L0] at h
  rcases nb_y0_o1 with ⟨_ | _, hn_y0_o1⟩
  ·
   refine SemK.round ?_
   refine brE h ?_ ?_
   ·clear h; intro h2524 h
    refine bindE h ?_
    clear h; intro u2525 h2526 h
    refine run_to tmD 4000 [.br true, .el (enc_GNode x), .br true, .no] rfl (by repeat' first | refine And.intro ?_ ?_ | (refine capLe h2526 rfl ?_; first | (simp; done) | (simp; omega) | (simp [hc, h2524]; done) | (simp [hc, h2524]; omega)) | (refine capMax h2526 (by decide) ?_; first | (simp; done) | (simp; omega) | (simp [hc, h2524]; done) | (simp [hc, h2524]; omega)) | exact oblA) ?_
    exact wkT [(1, 6)] (ih (k + 1) hx1 _ nbF o h C0 C1)
   ·clear h; intro h2524 h
    refine brE h ?_ ?_
    ·clear h; intro h2533 h
     refine bindE h ?_
     clear h; intro j2541_78 h2549 h
     refine runT tmD [.br true, .el (enc_GNode x), .br false, .br true, .stop 22] ?_
     refine SemK.join (s' := ⟨fr [(0, (AV.list false (List.map enc_GNode y0_0))), (4, (AV.ptr 0 0 0)), (5, (AV.fn 189 [(AV.ptr 0 0 0)])), (6, (aI .i64 (k : Int))), (9, (aB false)), (12, (AV.list false (List.map enc_GNode y0_0))), (13, (aI .i64 (List.length y0_0 : Int))), (14, (aI .i64 (k : Int))), (78, (aB j2541_78))], hp ([(0, { es := [(AV.ref 1 0 (List.length y0_o1))], esz := 1 }), (1, { es := List.map aB y0_o1, esz := 1 })]), 2⟩) ?_ (fun J => SemK.cut ?_)
     ·
      refine brE h ?_ ?_
      ·clear h; intro h2550 h
       obtain rfl := Option.some.inj h
       refine runT tmD [.br true] ?_
       exact wkT [] (C1 _ _  (nbT (by first | rfl | simp [*])) rfl)
      ·clear h; intro h2550 h
       refine bindE h ?_
       clear h; intro u2551 h2552 h
       refine run_to tmD 4000 [.br false, .no] rfl (by repeat' first | refine And.intro ?_ ?_ | (refine capLe h2552 rfl ?_; first | (simp; done) | (simp; omega) | (simp [hc, h2524, h2533, h2550]; done) | (simp [hc, h2524, h2533, h2550]; omega)) | (refine capMax h2552 (by decide) ?_; first | (simp; done) | (simp; omega) | (simp [hc, h2524, h2533, h2550]; done) | (simp [hc, h2524, h2533, h2550]; omega)) | exact oblA) ?_
       exact wkT [(1, 3)] (ih (k + 1) hx1 _ nbF o h C0 C1)
     ·
      clear h
      have h := h2549
      refine runT tmD [.ix 0, .go true, .go true, .stop 999999] ?_
      refine SemK.inlineG tyTab_ok fn189 rfl rfl rfl rfl rfl rfl rfl rfl rfl rfl (rfl) trivial trivial ?_
      refine runT tmD [] ?_
      refine SemK.round ?_
      refine bindE h ?_
      clear h; intro e2546 h2547 h
      try have qh2547 := getI_lt h2547
      refine brE h ?_ ?_
      ·clear h; intro h2548 h
       refine runT tmD [.br true, .el ((aI .i64 x.A)), .el (aB e2546), .ld (aB e2546), .br true] ?_
       refine SemK.back (by intro id h; cases h) rfl ?_
       obtain rfl := Option.some.inj h
       refine runT tmD [.go true, .ix 1, .go true, .go true, .go false, .go false, .go false, .go true, .go true] ?_
       exact wkT [] (SemK.glue J)
      ·clear h; intro h2548 h
       refine runT tmD [.br true, .el ((aI .i64 x.A)), .el (aB e2546), .ld (aB e2546), .br false] ?_
       refine SemK.round ?_
       refine runT tmD [.br false] ?_
       refine SemK.back (by intro id h; cases h) rfl ?_
       obtain rfl := Option.some.inj h
       refine runT tmD [.go false, .go false, .go false, .go false, .go false, .go false, .go false, .go false] ?_
       exact wkT [] (SemK.glue J)
    ·clear h; intro h2533 h
     refine brE h ?_ ?_
     ·clear h; intro h2558 h
      refine bindE h ?_
      clear h; intro j2570_75 h2574 h
      refine runT tmD [.br true, .el (enc_GNode x), .br false, .br false, .br true, .ix 0, .go false, .go false, .go false, .go true, .ix 1, .go true, .go true, .go true, .go true, .stop 999999] ?_
      refine SemK.joinOp (s' := ⟨fr [(0, (AV.list false (List.map enc_GNode y0_0))), (4, (AV.ptr 0 0 0)), (5, (AV.fn 189 [(AV.ptr 0 0 0)])), (6, (aI .i64 (k : Int))), (9, (aB true)), (12, (AV.list false (List.map enc_GNode y0_0))), (13, (aI .i64 (List.length y0_0 : Int))), (14, (aI .i64 (k : Int))), (69, (aB (!(bif false then false else false)))), (72, (aB true)), (75, (aB j2570_75))], hp ([(0, { es := [(AV.ref 1 0 (List.length y0_o1))], esz := 1 }), (1, { es := List.map aB y0_o1, esz := 1 })]), 2⟩) ?_ (fun J => ?_)
      ·
       refine brE h ?_ ?_
       ·clear h; intro h2575 h
        obtain rfl := Option.some.inj h
        refine runT tmD [.go true, .go true, .br true] ?_
        exact wkT [] (C1 _ _  (nbT (by first | rfl | simp [*])) rfl)
       ·clear h; intro h2575 h
        refine bindE h ?_
        clear h; intro u2576 h2577 h
        refine run_to tmD 4000 [.go true, .go true, .br false, .no] rfl (by repeat' first | refine And.intro ?_ ?_ | (refine capLe h2577 rfl ?_; first | (simp; done) | (simp; omega) | (simp [hc, h2524, h2533, h2558, h2575]; done) | (simp [hc, h2524, h2533, h2558, h2575]; omega)) | (refine capMax h2577 (by decide) ?_; first | (simp; done) | (simp; omega) | (simp [hc, h2524, h2533, h2558, h2575]; done) | (simp [hc, h2524, h2533, h2558, h2575]; omega)) | exact oblA) ?_
        exact wkT [(1, 3)] (ih (k + 1) hx1 _ nbF o h C0 C1)
      ·
       clear h
       have h := h2574
       refine SemK.inlineG tyTab_ok fn189 rfl rfl rfl rfl rfl rfl rfl rfl rfl rfl (rfl) trivial trivial ?_
       refine runT tmD [] ?_
       refine SemK.round ?_
       refine bindE h ?_
       clear h; intro e2571 h2572 h
       try have qh2572 := getI_lt h2572
       refine brE h ?_ ?_
       ·clear h; intro h2573 h
        obtain rfl := Option.some.inj h
        refine runT tmD [.br true, .el ((aI .i64 x.A)), .el (aB e2571), .ld (aB e2571), .br true] ?_
        refine SemK.back (by intro id h; cases h) rfl ?_
        exact wkT [] (J)
       ·clear h; intro h2573 h
        refine runT tmD [.br true, .el ((aI .i64 x.A)), .el (aB e2571), .ld (aB e2571), .br false] ?_
        refine SemK.round ?_
        obtain rfl := Option.some.inj h
        refine runT tmD [.br false] ?_
        refine SemK.back (by intro id h; cases h) rfl ?_
        exact wkT [] (J)
     ·clear h; intro h2558 h
      refine bindE h ?_
      clear h; intro w2581 h2585 h
      obtain ⟨j2581_o2, j2581_9⟩ := w2581
      try dsimp only at h
      refine runT tmD [.br true, .el (enc_GNode x), .br false, .br false, .br false] ?_
      refine SemK.join (s' := ⟨fr [(0, (AV.list false (List.map enc_GNode y0_0))), (4, (AV.ptr 0 0 0)), (5, (AV.fn 189 [(AV.ptr 0 0 0)])), (6, (aI .i64 (k : Int))), (8, (AV.ptr 2 0 0)), (9, (aB j2581_9)), (10, (AV.ref 3 0 (List.length [x.A, x.B]))), (12, (AV.list false (List.map enc_GNode y0_0))), (13, (aI .i64 (List.length y0_0 : Int))), (14, (aI .i64 (k : Int)))], hp ([(0, { es := [(AV.ref 1 0 (List.length y0_o1))], esz := 1 }), (1, { es := List.map aB y0_o1, esz := 1 }), (2, { es := [(encv_V2b j2581_o2)], esz := 2 }), (3, { es := List.map (aI .i64) [x.A, x.B], esz := 1 })]), 4⟩) ?_ (fun J => SemK.cut ?_)
      ·
       refine bindE h ?_
       clear h; intro j2903_78 h3221 h
       refine runT tmD [.stop 22] ?_
       refine SemK.join (s' := ⟨fr [(0, (AV.list false (List.map enc_GNode y0_0))), (4, (AV.ptr 0 0 0)), (5, (AV.fn 189 [(AV.ptr 0 0 0)])), (6, (aI .i64 (k : Int))), (9, (aB j2581_9)), (12, (AV.list false (List.map enc_GNode y0_0))), (13, (aI .i64 (List.length y0_0 : Int))), (14, (aI .i64 (k : Int))), (78, (aB j2903_78))], hp ([(0, { es := [(AV.ref 1 0 (List.length y0_o1))], esz := 1 }), (1, { es := List.map aB y0_o1, esz := 1 })]), 2⟩) ?_ (fun J => SemK.cut ?_)
       ·
        refine brE h ?_ ?_
        ·clear h; intro h3222 h
         obtain rfl := Option.some.inj h
         refine runT tmD [.br true] ?_
         exact wkT [] (C1 _ _  (nbT (by first | rfl | simp [*])) rfl)
        ·clear h; intro h3222 h
         refine bindE h ?_
         clear h; intro u3223 h3224 h
         refine run_to tmD 4000 [.br false, .no] rfl (by repeat' first | refine And.intro ?_ ?_ | (refine capLe h3224 rfl ?_; first | (simp; done) | (simp; omega) | (simp [hc, h2524, h2533, h2558, h3222]; done) | (simp [hc, h2524, h2533, h2558, h3222]; omega)) | (refine capMax h3224 (by decide) ?_; first | (simp; done) | (simp; omega) | (simp [hc, h2524, h2533, h2558, h3222]; done) | (simp [hc, h2524, h2533, h2558, h3222]; omega)) | exact oblA) ?_
         exact wkT [(1, 3)] (ih (k + 1) hx1 _ nbF o h C0 C1)
       ·
        clear h
        have h := h3221
        refine brE h ?_ ?_
        ·clear h; intro h2904 h
         refine bindE h ?_
         clear h; intro j2961_66 h3018 h
         refine runT tmD [.ix 0, .go true, .go true, .stop 999999] ?_
         refine SemK.joinOp (s' := ⟨fr [(0, (AV.list false (List.map enc_GNode y0_0))), (4, (AV.ptr 0 0 0)), (5, (AV.fn 189 [(AV.ptr 0 0 0)])), (6, (aI .i64 (k : Int))), (8, (AV.ptr 2 0 0)), (9, (aB j2581_9)), (10, (AV.ref 3 0 (List.length [x.A, x.B]))), (12, (AV.list false (List.map enc_GNode y0_0))), (13, (aI .i64 (List.length y0_0 : Int))), (14, (aI .i64 (k : Int))), (63, (aB j2581_o2.e0)), (66, (aB j2961_66))], hp ([(0, { es := [(AV.ref 1 0 (List.length y0_o1))], esz := 1 }), (1, { es := List.map aB y0_o1, esz := 1 }), (2, { es := [(encv_V2b j2581_o2)], esz := 2 }), (3, { es := List.map (aI .i64) [x.A, x.B], esz := 1 })]), 4⟩) ?_ (fun J => ?_)
         ·
          refine brE h ?_ ?_
          ·clear h; intro h3019 h
           refine brE h ?_ ?_
           ·clear h; intro h3020 h
            refine bindE h ?_
            clear h; intro j3077_75 h3134 h
            refine runT tmD [.go true, .ix 1, .go true, .go true, .go true, .go true, .stop 999999] ?_
            refine SemK.joinOp (s' := ⟨fr [(0, (AV.list false (List.map enc_GNode y0_0))), (4, (AV.ptr 0 0 0)), (5, (AV.fn 189 [(AV.ptr 0 0 0)])), (6, (aI .i64 (k : Int))), (9, (aB j2581_9)), (12, (AV.list false (List.map enc_GNode y0_0))), (13, (aI .i64 (List.length y0_0 : Int))), (14, (aI .i64 (k : Int))), (69, (aB (!(bif j2581_o2.e0 then j2961_66 else false)))), (72, (aB j2581_o2.e1)), (75, (aB j3077_75))], hp ([(0, { es := [(AV.ref 1 0 (List.length y0_o1))], esz := 1 }), (1, { es := List.map aB y0_o1, esz := 1 })]), 2⟩) ?_ (fun J => ?_)
            ·
             obtain rfl := Option.some.inj h
             refine runT tmD [.go true, .go true] ?_
             exact wkT [] (SemK.glue J)
            ·
             clear h
             have h := h3134
             refine SemK.inlineG tyTab_ok fn189 rfl rfl rfl rfl rfl rfl rfl rfl rfl rfl (h3020) trivial trivial ?_
             refine bindE h ?_
             clear h; intro u3096 h3097 h
             have qh3097 := lenOk_le h3097
             refine bindE h ?_
             clear h; intro o3132 h3133 h
             refine runT tmD [.el (aI .i64 (List.length [x.A, x.B] : Int))] ?_
             refine wkT [(4, 3)] (SemK.cut (kinds_told_kinds_told_1_L0_2_ok y0_o1 [x.A, x.B] nbF qh3097 [x.A, x.B] 0 (by simp) _ h3133 ?_ ?_))
             ·intro eo3132; subst eo3132
              refine SemK.glue ?_
              try dsimp only at h
              obtain rfl := Option.some.inj h
              refine runT tmD [] ?_
              refine SemK.back (by intro id h; cases h) rfl ?_
              exact wkT [] (J)
             ·intro eo3132; subst eo3132
              refine SemK.glue ?_
              try dsimp only at h
              obtain rfl := Option.some.inj h
              refine runT tmD [] ?_
              refine SemK.back (by intro id h; cases h) rfl ?_
              exact wkT [] (J)
           ·clear h; intro h3020 h
            obtain rfl := Option.some.inj h
            refine runT tmD [.go true, .ix 1, .go true, .go true, .go false, .go false, .go false, .go true, .go true] ?_
            exact wkT [] (SemK.glue J)
          ·clear h; intro h3019 h
           obtain rfl := Option.some.inj h
           refine runT tmD [.go false, .go false, .go false, .go false, .go false, .go false, .go false, .go false] ?_
           exact wkT [] (SemK.glue J)
         ·
          clear h
          have h := h3018
          refine SemK.inlineG tyTab_ok fn189 rfl rfl rfl rfl rfl rfl rfl rfl rfl rfl (h2904) trivial trivial ?_
          refine bindE h ?_
          clear h; intro u2980 h2981 h
          have qh2981 := lenOk_le h2981
          refine bindE h ?_
          clear h; intro o3016 h3017 h
          refine runT tmD [.el (aI .i64 (List.length [x.A, x.B] : Int))] ?_
          refine wkT [] (SemK.cut (kinds_told_kinds_told_1_L0_ok y0_o1 j2581_o2 [x.A, x.B] nbF qh2981 [x.A, x.B] 0 (by simp) _ h3017 ?_ ?_))
          ·intro eo3016; subst eo3016
           refine SemK.glue ?_
           try dsimp only at h
           obtain rfl := Option.some.inj h
           refine runT tmD [] ?_
           refine SemK.back (by intro id h; cases h) rfl ?_
           exact wkT [] (J)
          ·intro eo3016; subst eo3016
           refine SemK.glue ?_
           try dsimp only at h
           obtain rfl := Option.some.inj h
           refine runT tmD [] ?_
           refine SemK.back (by intro id h; cases h) rfl ?_
           exact wkT [] (J)
        ·clear h; intro h2904 h
         refine brE h ?_ ?_
         ·clear h; intro h3135 h
          refine brE h ?_ ?_
          ·clear h; intro h3136 h
           refine bindE h ?_
           clear h; intro j3178_75 h3220 h
           refine runT tmD [.ix 0, .go false, .go false, .go false, .go true, .ix 1, .go true, .go true, .go true, .go true, .stop 999999] ?_
           refine SemK.joinOp (s' := ⟨fr [(0, (AV.list false (List.map enc_GNode y0_0))), (4, (AV.ptr 0 0 0)), (5, (AV.fn 189 [(AV.ptr 0 0 0)])), (6, (aI .i64 (k : Int))), (9, (aB j2581_9)), (12, (AV.list false (List.map enc_GNode y0_0))), (13, (aI .i64 (List.length y0_0 : Int))), (14, (aI .i64 (k : Int))), (69, (aB (!(bif j2581_o2.e0 then false else false)))), (72, (aB j2581_o2.e1)), (75, (aB j3178_75))], hp ([(0, { es := [(AV.ref 1 0 (List.length y0_o1))], esz := 1 }), (1, { es := List.map aB y0_o1, esz := 1 })]), 2⟩) ?_ (fun J => ?_)
           ·
            obtain rfl := Option.some.inj h
            refine runT tmD [.go true, .go true] ?_
            exact wkT [] (SemK.glue J)
           ·
            clear h
            have h := h3220
            refine SemK.inlineG tyTab_ok fn189 rfl rfl rfl rfl rfl rfl rfl rfl rfl rfl (h3136) trivial trivial ?_
            refine bindE h ?_
            clear h; intro u3192 h3193 h
            have qh3193 := lenOk_le h3193
            refine bindE h ?_
            clear h; intro o3218 h3219 h
            refine runT tmD [.el (aI .i64 (List.length [x.A, x.B] : Int))] ?_
            refine wkT [(4, 3)] (SemK.cut (kinds_told_kinds_told_1_L0_2_ok y0_o1 [x.A, x.B] nbF qh3193 [x.A, x.B] 0 (by simp) _ h3219 ?_ ?_))
            ·intro eo3218; subst eo3218
             refine SemK.glue ?_
             try dsimp only at h
             obtain rfl := Option.some.inj h
             refine runT tmD [] ?_
             refine SemK.back (by intro id h; cases h) rfl ?_
             exact wkT [] (J)
            ·intro eo3218; subst eo3218
             refine SemK.glue ?_
             try dsimp only at h
             obtain rfl := Option.some.inj h
             refine runT tmD [] ?_
             refine SemK.back (by intro id h; cases h) rfl ?_
             exact wkT [] (J)
          ·clear h; intro h3136 h
           obtain rfl := Option.some.inj h
           refine runT tmD [.ix 0, .go false, .go false, .go false, .go true, .ix 1, .go true, .go true, .go false, .go false, .go false, .go true, .go true] ?_
           exact wkT [] (SemK.glue J)
         ·clear h; intro h3135 h
          obtain rfl := Option.some.inj h
          refine runT tmD [.ix 0, .go false, .go false, .go false, .go false, .go false, .go false, .go false, .go false, .go false, .go false, .go false] ?_
          exact wkT [] (SemK.glue J)
      ·
       clear h
       have h := h2585
       refine brE h ?_ ?_
       ·clear h; intro h2582 h
        simp only [Option.some.injEq, Prod.mk.injEq] at h
        obtain ⟨rfl, rfl⟩ := h
        refine runT tmD [.br true] ?_
        exact wkT [(2, 3), (3, 4)] (SemK.glue J)
       ·clear h; intro h2582 h
        refine brE h ?_ ?_
        ·clear h; intro h2583 h
         simp only [Option.some.injEq, Prod.mk.injEq] at h
         obtain ⟨rfl, rfl⟩ := h
         refine runT tmD [.br false, .br true] ?_
         exact wkT [(2, 3), (3, 4)] (SemK.glue J)
        ·clear h; intro h2583 h
         refine brE h ?_ ?_
         ·clear h; intro h2584 h
          simp only [Option.some.injEq, Prod.mk.injEq] at h
          obtain ⟨rfl, rfl⟩ := h
          refine runT tmD [.br false, .br false, .br true] ?_
          exact wkT [(2, 3), (3, 4)] (SemK.glue J)
         ·clear h; intro h2584 h
          simp only [Option.some.injEq, Prod.mk.injEq] at h
          obtain ⟨rfl, rfl⟩ := h
          refine runT tmD [.br false, .br false, .br false] ?_
          exact wkT [(2, 3), (3, 4)] (SemK.glue J)
  ·
   obtain rfl := hn_y0_o1 rfl
   refine SemK.round ?_
   refine brE h ?_ ?_
   ·clear h; intro h3225 h
    refine bindE h ?_
    clear h; intro u3226 h3227 h
    refine run_to tmD 4000 [.br true, .el (enc_GNode x), .br true, .no] rfl (by repeat' first | refine And.intro ?_ ?_ | (refine capLe h3227 rfl ?_; first | (simp; done) | (simp; omega) | (simp [hc, h3225]; done) | (simp [hc, h3225]; omega)) | (refine capMax h3227 (by decide) ?_; first | (simp; done) | (simp; omega) | (simp [hc, h3225]; done) | (simp [hc, h3225]; omega)) | exact oblA) ?_
    exact wkT [(1, 6)] (ih (k + 1) hx1 _ nbF o h C0 C1)
   ·clear h; intro h3225 h
    refine brE h ?_ ?_
    ·clear h; intro h3233 h
     refine runT tmD [.br true, .el (enc_GNode x), .br false, .br true, .ix 0, .go true, .go true, .stop 999999] ?_
     refine SemK.inlineG tyTab_ok fn189 rfl rfl rfl rfl rfl rfl rfl rfl rfl rfl (rfl) trivial trivial ?_
     refine runT tmD [] ?_
     refine SemK.round ?_
     refine bindE h ?_
     clear h; intro e3241 h3242 h
     try have qh3242 := getI_lt h3242
     exact absurd (h3242) (by simp [getI])
    ·clear h; intro h3233 h
     refine brE h ?_ ?_
     ·clear h; intro h3247 h
      refine runT tmD [.br true, .el (enc_GNode x), .br false, .br false, .br true, .ix 0, .go false, .go false, .go false, .go true, .ix 1, .go true, .go true, .go true, .go true, .stop 999999] ?_
      refine SemK.inlineG tyTab_ok fn189 rfl rfl rfl rfl rfl rfl rfl rfl rfl rfl (rfl) trivial trivial ?_
      refine runT tmD [] ?_
      refine SemK.round ?_
      refine bindE h ?_
      clear h; intro e3255 h3256 h
      try have qh3256 := getI_lt h3256
      exact absurd (h3256) (by simp [getI])
     ·clear h; intro h3247 h
      refine bindE h ?_
      clear h; intro w3260 h3264 h
      obtain ⟨j3260_o2, j3260_9⟩ := w3260
      try dsimp only at h
      refine runT tmD [.br true, .el (enc_GNode x), .br false, .br false, .br false] ?_
      refine SemK.join (s' := ⟨fr [(0, (AV.list false (List.map enc_GNode y0_0))), (4, (AV.ptr 0 0 0)), (5, (AV.fn 189 [(AV.ptr 0 0 0)])), (6, (aI .i64 (k : Int))), (8, (AV.ptr 2 0 0)), (9, (aB j3260_9)), (10, (AV.ref 3 0 (List.length [x.A, x.B]))), (12, (AV.list false (List.map enc_GNode y0_0))), (13, (aI .i64 (List.length y0_0 : Int))), (14, (aI .i64 (k : Int)))], hp ([(0, { es := [AV.nils], esz := 1 }), (2, { es := [(encv_V2b j3260_o2)], esz := 2 }), (3, { es := List.map (aI .i64) [x.A, x.B], esz := 1 })]), 4⟩) ?_ (fun J => SemK.cut ?_)
      ·
       refine bindE h ?_
       clear h; intro j3522_78 h3780 h
       refine runT tmD [.stop 22] ?_
       refine SemK.join (s' := ⟨fr [(0, (AV.list false (List.map enc_GNode y0_0))), (4, (AV.ptr 0 0 0)), (5, (AV.fn 189 [(AV.ptr 0 0 0)])), (6, (aI .i64 (k : Int))), (9, (aB j3260_9)), (12, (AV.list false (List.map enc_GNode y0_0))), (13, (aI .i64 (List.length y0_0 : Int))), (14, (aI .i64 (k : Int))), (78, (aB j3522_78))], hp ([(0, { es := [AV.nils], esz := 1 })]), 2⟩) ?_ (fun J => SemK.cut ?_)
       ·
        refine brE h ?_ ?_
        ·clear h; intro h3781 h
         obtain rfl := Option.some.inj h
         refine runT tmD [.br true] ?_
         exact wkT [] (C1 _ _  (nbT (by first | rfl | simp [*])) rfl)
        ·clear h; intro h3781 h
         refine bindE h ?_
         clear h; intro u3782 h3783 h
         refine run_to tmD 4000 [.br false, .no] rfl (by repeat' first | refine And.intro ?_ ?_ | (refine capLe h3783 rfl ?_; first | (simp; done) | (simp; omega) | (simp [hc, h3225, h3233, h3247, h3781]; done) | (simp [hc, h3225, h3233, h3247, h3781]; omega)) | (refine capMax h3783 (by decide) ?_; first | (simp; done) | (simp; omega) | (simp [hc, h3225, h3233, h3247, h3781]; done) | (simp [hc, h3225, h3233, h3247, h3781]; omega)) | exact oblA) ?_
         exact wkT [(1, 3)] (ih (k + 1) hx1 _ nbF o h C0 C1)
       ·
        clear h
        have h := h3780
        refine brE h ?_ ?_
        ·clear h; intro h3523 h
         refine bindE h ?_
         clear h; intro j3565_66 h3607 h
         refine runT tmD [.ix 0, .go true, .go true, .stop 999999] ?_
         refine SemK.joinOp (s' := ⟨fr [(0, (AV.list false (List.map enc_GNode y0_0))), (4, (AV.ptr 0 0 0)), (5, (AV.fn 189 [(AV.ptr 0 0 0)])), (6, (aI .i64 (k : Int))), (8, (AV.ptr 2 0 0)), (9, (aB j3260_9)), (10, (AV.ref 3 0 (List.length [x.A, x.B]))), (12, (AV.list false (List.map enc_GNode y0_0))), (13, (aI .i64 (List.length y0_0 : Int))), (14, (aI .i64 (k : Int))), (63, (aB j3260_o2.e0)), (66, (aB j3565_66))], hp ([(0, { es := [AV.nils], esz := 1 }), (2, { es := [(encv_V2b j3260_o2)], esz := 2 }), (3, { es := List.map (aI .i64) [x.A, x.B], esz := 1 })]), 4⟩) ?_ (fun J => ?_)
         ·
          refine brE h ?_ ?_
          ·clear h; intro h3608 h
           refine brE h ?_ ?_
           ·clear h; intro h3609 h
            refine bindE h ?_
            clear h; intro j3651_75 h3693 h
            refine runT tmD [.go true, .ix 1, .go true, .go true, .go true, .go true, .stop 999999] ?_
            refine SemK.joinOp (s' := ⟨fr [(0, (AV.list false (List.map enc_GNode y0_0))), (4, (AV.ptr 0 0 0)), (5, (AV.fn 189 [(AV.ptr 0 0 0)])), (6, (aI .i64 (k : Int))), (9, (aB j3260_9)), (12, (AV.list false (List.map enc_GNode y0_0))), (13, (aI .i64 (List.length y0_0 : Int))), (14, (aI .i64 (k : Int))), (69, (aB (!(bif j3260_o2.e0 then j3565_66 else false)))), (72, (aB j3260_o2.e1)), (75, (aB j3651_75))], hp ([(0, { es := [AV.nils], esz := 1 })]), 2⟩) ?_ (fun J => ?_)
            ·
             obtain rfl := Option.some.inj h
             refine runT tmD [.go true, .go true] ?_
             exact wkT [] (SemK.glue J)
            ·
             clear h
             have h := h3693
             refine SemK.inlineG tyTab_ok fn189 rfl rfl rfl rfl rfl rfl rfl rfl rfl rfl (h3609) trivial trivial ?_
             refine bindE h ?_
             clear h; intro u3665 h3666 h
             have qh3666 := lenOk_le h3666
             refine bindE h ?_
             clear h; intro o3691 h3692 h
             refine runT tmD [.el (aI .i64 (List.length [x.A, x.B] : Int))] ?_
             refine wkT [(4, 3)] (SemK.cut (kinds_told_kinds_told_1_L0_2_ok ([] : List Bool) [x.A, x.B] (nbT (by first | rfl | simp [*])) qh3666 [x.A, x.B] 0 (by simp) _ h3692 ?_ ?_))
             ·intro eo3691; subst eo3691
              refine SemK.glue ?_
              try dsimp only at h
              obtain rfl := Option.some.inj h
              refine runT tmD [] ?_
              refine SemK.back (by intro id h; cases h) rfl ?_
              exact wkT [] (J)
             ·intro eo3691; subst eo3691
              refine SemK.glue ?_
              try dsimp only at h
              obtain rfl := Option.some.inj h
              refine runT tmD [] ?_
              refine SemK.back (by intro id h; cases h) rfl ?_
              exact wkT [] (J)
           ·clear h; intro h3609 h
            obtain rfl := Option.some.inj h
            refine runT tmD [.go true, .ix 1, .go true, .go true, .go false, .go false, .go false, .go true, .go true] ?_
            exact wkT [] (SemK.glue J)
          ·clear h; intro h3608 h
           obtain rfl := Option.some.inj h
           refine runT tmD [.go false, .go false, .go false, .go false, .go false, .go false, .go false, .go false] ?_
           exact wkT [] (SemK.glue J)
         ·
          clear h
          have h := h3607
          refine SemK.inlineG tyTab_ok fn189 rfl rfl rfl rfl rfl rfl rfl rfl rfl rfl (h3523) trivial trivial ?_
          refine bindE h ?_
          clear h; intro u3579 h3580 h
          have qh3580 := lenOk_le h3580
          refine bindE h ?_
          clear h; intro o3605 h3606 h
          refine runT tmD [.el (aI .i64 (List.length [x.A, x.B] : Int))] ?_
          refine wkT [] (SemK.cut (kinds_told_kinds_told_1_L0_ok ([] : List Bool) j3260_o2 [x.A, x.B] (nbT (by first | rfl | simp [*])) qh3580 [x.A, x.B] 0 (by simp) _ h3606 ?_ ?_))
          ·intro eo3605; subst eo3605
           refine SemK.glue ?_
           try dsimp only at h
           obtain rfl := Option.some.inj h
           refine runT tmD [] ?_
           refine SemK.back (by intro id h; cases h) rfl ?_
           exact wkT [] (J)
          ·intro eo3605; subst eo3605
           refine SemK.glue ?_
           try dsimp only at h
           obtain rfl := Option.some.inj h
           refine runT tmD [] ?_
           refine SemK.back (by intro id h; cases h) rfl ?_
           exact wkT [] (J)
        ·clear h; intro h3523 h
         refine brE h ?_ ?_
         ·clear h; intro h3694 h
          refine brE h ?_ ?_
          ·clear h; intro h3695 h
           refine bindE h ?_
           clear h; intro j3737_75 h3779 h
           refine runT tmD [.ix 0, .go false, .go false, .go false, .go true, .ix 1, .go true, .go true, .go true, .go true, .stop 999999] ?_
           refine SemK.joinOp (s' := ⟨fr [(0, (AV.list false (List.map enc_GNode y0_0))), (4, (AV.ptr 0 0 0)), (5, (AV.fn 189 [(AV.ptr 0 0 0)])), (6, (aI .i64 (k : Int))), (9, (aB j3260_9)), (12, (AV.list false (List.map enc_GNode y0_0))), (13, (aI .i64 (List.length y0_0 : Int))), (14, (aI .i64 (k : Int))), (69, (aB (!(bif j3260_o2.e0 then false else false)))), (72, (aB j3260_o2.e1)), (75, (aB j3737_75))], hp ([(0, { es := [AV.nils], esz := 1 })]), 2⟩) ?_ (fun J => ?_)
           ·
            obtain rfl := Option.some.inj h
            refine runT tmD [.go true, .go true] ?_
            exact wkT [] (SemK.glue J)
           ·
            clear h
            have h := h3779
            refine SemK.inlineG tyTab_ok fn189 rfl rfl rfl rfl rfl rfl rfl rfl rfl rfl (h3695) trivial trivial ?_
            refine bindE h ?_
            clear h; intro u3751 h3752 h
            have qh3752 := lenOk_le h3752
            refine bindE h ?_
            clear h; intro o3777 h3778 h
            refine runT tmD [.el (aI .i64 (List.length [x.A, x.B] : Int))] ?_
            refine wkT [(4, 3)] (SemK.cut (kinds_told_kinds_told_1_L0_2_ok ([] : List Bool) [x.A, x.B] (nbT (by first | rfl | simp [*])) qh3752 [x.A, x.B] 0 (by simp) _ h3778 ?_ ?_))
            ·intro eo3777; subst eo3777
             refine SemK.glue ?_
             try dsimp only at h
             obtain rfl := Option.some.inj h
             refine runT tmD [] ?_
             refine SemK.back (by intro id h; cases h) rfl ?_
             exact wkT [] (J)
            ·intro eo3777; subst eo3777
             refine SemK.glue ?_
             try dsimp only at h
             obtain rfl := Option.some.inj h
             refine runT tmD [] ?_
             refine SemK.back (by intro id h; cases h) rfl ?_
             exact wkT [] (J)
          ·clear h; intro h3695 h
           obtain rfl := Option.some.inj h
           refine runT tmD [.ix 0, .go false, .go false, .go false, .go true, .ix 1, .go true, .go true, .go false, .go false, .go false, .go true, .go true] ?_
           exact wkT [] (SemK.glue J)
         ·clear h; intro h3694 h
          obtain rfl := Option.some.inj h
          refine runT tmD [.ix 0, .go false, .go false, .go false, .go false, .go false, .go false, .go false, .go false, .go false, .go false, .go false] ?_
          exact wkT [] (SemK.glue J)
      ·
       clear h
       have h := h3264
       refine brE h ?_ ?_
       ·clear h; intro h3261 h
        simp only [Option.some.injEq, Prod.mk.injEq] at h
        obtain ⟨rfl, rfl⟩ := h
        refine runT tmD [.br true] ?_
        exact wkT [(2, 3), (3, 4)] (SemK.glue J)
       ·clear h; intro h3261 h
        refine brE h ?_ ?_
        ·clear h; intro h3262 h
         simp only [Option.some.injEq, Prod.mk.injEq] at h
         obtain ⟨rfl, rfl⟩ := h
         refine runT tmD [.br false, .br true] ?_
         exact wkT [(2, 3), (3, 4)] (SemK.glue J)
        ·clear h; intro h3262 h
         refine brE h ?_ ?_
         ·clear h; intro h3263 h
          simp only [Option.some.injEq, Prod.mk.injEq] at h
          obtain ⟨rfl, rfl⟩ := h
          refine runT tmD [.br false, .br false, .br true] ?_
          exact wkT [(2, 3), (3, 4)] (SemK.glue J)
         ·clear h; intro h3263 h
          simp only [Option.some.injEq, Prod.mk.injEq] at h
          obtain ⟨rfl, rfl⟩ := h
          refine runT tmD [.br false, .br false, .br false] ?_
          exact wkT [(2, 3), (3, 4)] (SemK.glue J)
end Go.Av.Tryz
