/- Printed by decomp.py: that the program computes the functions. -/
import Derived.Test.YtneciiakpbfnjaaGreatDCert0J
set_option linter.all false
set_option linter.unusedVariables false
namespace Go.Av.Tryz
open Go.Proofs Go.D
set_option maxRecDepth 10000
set_option maxHeartbeats 4000000

theorem nodes_tops_L0_ok {Q : AExit → St → Mu → Prop} {μ : Mu} (y0_15 : (List GNode)) (hl : List.length y0_15 ≤ 140737488355328) : ∀ (xs : List GNode) (k : Nat) (hx : y0_15.drop k = xs) (y0_o0 : (List Gnodes_top)) (y0_o1 : (List Gnodes_top)) (nb_y0_o0 : Nb y0_o0) (nb_y0_o1 : Nb y0_o1) (o : nodes_tops_L0_o) (h : nodes_tops_L0 y0_15 xs k y0_o0 y0_o1 = some o)
  (C0 : ∀ (z0_0_o0 : (List Gnodes_top)) (z0_0_o1 : (List Gnodes_top)) (nb_z0_0_o0 : Nb z0_0_o0) (nb_z0_0_o1 : Nb z0_0_o1), o = nodes_tops_L0_o.x0 z0_0_o0 z0_0_o1 → SemK Tryz.prog 105 0 Q (.exit (.exit 0)) [] ⟨fr [(4, (slE nb_z0_0_o0.1 0 (List.map enc_Gnodes_top z0_0_o0))), (5, (slE nb_z0_0_o1.1 1 (List.map enc_Gnodes_top z0_0_o1)))], hp ([] ++ opE nb_z0_0_o0.1 0 3 (List.map enc_Gnodes_top z0_0_o0) ++ opE nb_z0_0_o1.1 1 3 (List.map enc_Gnodes_top z0_0_o1)), 2⟩ μ)
  (C1 : ∀ (z0_1_o0 : (List Gnodes_top)) (nb_z0_1_o0 : Nb z0_1_o0), o = nodes_tops_L0_o.x1 z0_1_o0 → SemK Tryz.prog 105 0 Q (.exit .ret) [] ⟨fr [(2, (slE nb_z0_1_o0.1 0 (List.map enc_Gnodes_top z0_1_o0))), (3, (aB false))], hp ([] ++ opE nb_z0_1_o0.1 0 3 (List.map enc_Gnodes_top z0_1_o0)), 1⟩ μ),
  SemK Tryz.prog 105 0 Q (.loop (loopB 0 (bodyOf Tryz.f174))) [] ⟨fr [(4, (slE nb_y0_o0.1 0 (List.map enc_Gnodes_top y0_o0))), (5, (slE nb_y0_o1.1 1 (List.map enc_Gnodes_top y0_o1))), (15, (AV.list false (List.map enc_GNode y0_15))), (16, (aI .i64 (List.length y0_15 : Int))), (17, (aI .i64 (k : Int)))], hp ([] ++ opE nb_y0_o0.1 0 3 (List.map enc_Gnodes_top y0_o0) ++ opE nb_y0_o1.1 1 3 (List.map enc_Gnodes_top y0_o1)), 2⟩ μ := by
 intro xs
 induction xs with
 | nil =>
  intro k hx y0_o0 y0_o1 nb_y0_o0 nb_y0_o1 o h C0 C1
  have hk := drop_nil hx
  have hc : decide ((k : Int) < (List.length y0_15 : Int)) = false := decide_eq_false (by omega)
  rw [nodes_tops_L0] at h
  rcases nb_y0_o0 with ⟨_ | _, hn_y0_o0⟩
  ·
   rcases nb_y0_o1 with ⟨_ | _, hn_y0_o1⟩
   ·
    refine SemK.round ?_
    obtain rfl := Option.some.inj h
    refine runT tmD [.br false] ?_
    exact wkT [] (C0 _ _  nbF nbF rfl)
   ·
    obtain rfl := hn_y0_o1 rfl
    refine SemK.round ?_
    obtain rfl := Option.some.inj h
    refine runT tmD [.br false] ?_
    exact wkT [] (C0 _ _  nbF (nbT (by first | rfl | simp [*])) rfl)
  ·
   obtain rfl := hn_y0_o0 rfl
   rcases nb_y0_o1 with ⟨_ | _, hn_y0_o1⟩
   ·
    refine SemK.round ?_
    obtain rfl := Option.some.inj h
    refine runT tmD [.br false] ?_
    exact wkT [] (C0 _ _  (nbT (by first | rfl | simp [*])) nbF rfl)
   ·
    obtain rfl := hn_y0_o1 rfl
    refine SemK.round ?_
    obtain rfl := Option.some.inj h
    refine runT tmD [.br false] ?_
    exact wkT [] (C0 _ _  (nbT (by first | rfl | simp [*])) (nbT (by first | rfl | simp [*])) rfl)
 | cons x xs ih =>
  intro k hx y0_o0 y0_o1 nb_y0_o0 nb_y0_o1 o h C0 C1
  obtain ⟨hk, hg, hx1⟩ := drop_cons hx
  have hc : decide ((k : Int) < (List.length y0_15 : Int)) = true := decide_eq_true (by omega)
  rw [nodes_tops_L0] at h
  rcases nb_y0_o0 with ⟨_ | _, hn_y0_o0⟩
  ·
   rcases nb_y0_o1 with ⟨_ | _, hn_y0_o1⟩
   ·
    refine SemK.round ?_
    refine bindE h ?_
    clear h; intro v318 h319 h
    refine bindE h ?_
    clear h; intro j321_35 h323 h
    refine run_to tmD 4000 [.br true, .el (enc_GNode x), .pure [(aI .u8 x.Kind)] (AV.tup [(aI .i64 v318.1), (aI .i64 v318.2)]), .stop 6] rfl (by repeat' first | refine And.intro ?_ ?_ | exact (PureCall.none (nodes_Parts_ok _ _ h319) (Cvs.cons .sc Cvs.nil)) | exact oblA) ?_
    refine SemK.join (s' := ⟨fr [(4, (AV.ref 0 0 (List.length y0_o0))), (5, (AV.ref 1 0 (List.length y0_o1))), (6, (aI .i64 (k : Int))), (7, (AV.ptr 2 0 0)), (8, (aI .i64 v318.1)), (15, (AV.list false (List.map enc_GNode y0_15))), (16, (aI .i64 (List.length y0_15 : Int))), (17, (aI .i64 (k : Int))), (35, (aB j321_35))], hp ([(0, { es := List.map enc_Gnodes_top y0_o0, esz := 3 }), (1, { es := List.map enc_Gnodes_top y0_o1, esz := 3 }), (2, { es := [(enc_GNode x)], esz := 5 })]), 3⟩) ?_ (fun J => SemK.cut ?_)
    ·
     refine brE h ?_ ?_
     ·clear h; intro h324 h
      obtain rfl := Option.some.inj h
      refine runT tmD [.br true] ?_
      exact wkT [] (C1 _  nbF rfl)
     ·clear h; intro h324 h
      refine runT tmD [.br false] ?_
      refine SemK.inline tyTab_ok fn188 rfl rfl rfl rfl rfl trivial trivial rfl rfl ?_
      refine bindE h ?_
      clear h; intro m331 h332 h
      obtain ⟨qah332, qbh332, qch332, qh332⟩ := sliceI_ok h332
      have qlh332 := sliceI_len h332
      refine bindE h ?_
      clear h; intro m333 h334 h
      obtain ⟨qah334, qbh334, qch334, qh334⟩ := sliceI_ok h334
      have qlh334 := sliceI_len h334
      refine brE h ?_ ?_
      ·clear h; intro h335 h
       refine run_to tmD 4000 [.el (aI .i64 (List.length y0_o1 : Int)), .wrap, .via (.ref 1 0 (List.length m331)), .el (aI .i64 (List.length y0_o1 : Int)), .wrap, .ne false] rfl (by repeat' first | refine And.intro ?_ ?_ | (simp at qah332 qbh332 qch332 ⊢; omega) | (simp at qah332 qbh332 qch332 qlh332 ⊢; omega) | (simp; done) | (simp at qah334 qbh334 qch334 ⊢; omega) | (simp at qah334 qbh334 qch334 qlh334 ⊢; have qz := part_zero h335; omega) | exact oblA) ?_
       refine SemK.back (by intro id h; cases h) rfl ?_
       refine run_to tmD 4000 [] rfl (by repeat' first | refine And.intro ?_ ?_ | (simp at qah332 qbh332 qch332 ⊢; omega) | (simp at qah332 qbh332 qch332 qlh332 ⊢; omega) | (simp; done) | (simp at qah334 qbh334 qch334 ⊢; omega) | (simp at qah334 qbh334 qch334 qlh334 ⊢; have qz := part_zero h335; omega) | exact oblA) ?_
       refine SemK.round ?_
       refine bindE h ?_
       clear h; intro j337_o3 h339 h
       refine run_to tmD 4000 [.br false] rfl (by repeat' first | refine And.intro ?_ ?_ | (simp at qah332 qbh332 qch332 ⊢; omega) | (simp at qah332 qbh332 qch332 qlh332 ⊢; omega) | (simp; done) | (simp at qah334 qbh334 qch334 ⊢; omega) | (simp at qah334 qbh334 qch334 qlh334 ⊢; have qz := part_zero h335; omega) | exact oblA) ?_
       refine SemK.join (s' := ⟨fr [(4, (AV.ref 0 0 (List.length y0_o0))), (5, (AV.ref 1 0 (List.length m331))), (7, (AV.ptr 2 0 0)), (11, (AV.ptr 3 0 0)), (12, (AV.ptr 4 0 0)), (15, (AV.list false (List.map enc_GNode y0_15))), (16, (aI .i64 (List.length y0_15 : Int))), (17, (aI .i64 (k : Int)))], hp ([(0, { es := List.map enc_Gnodes_top y0_o0, esz := 3 }), (1, { es := List.map enc_Gnodes_top y0_o1, esz := 3 }), (2, { es := [(enc_GNode x)], esz := 5 }), (3, { es := [(enc_GNode j337_o3)], esz := 5 }), (4, { es := [(enc_Gnodes_top (Gnodes_top.mk (k : Int) 1 1))], esz := 3 })]), 5⟩) ?_ (fun J => SemK.cut ?_)
       ·
        refine brE h ?_ ?_
        ·clear h; intro h340 h
         obtain rfl := Option.some.inj h
         refine run_to tmD 4000 [.br true] rfl (by repeat' first | refine And.intro ?_ ?_ | (simp at qah332 qbh332 qch332 ⊢; omega) | (simp at qah332 qbh332 qch332 qlh332 ⊢; omega) | (simp; done) | (simp at qah334 qbh334 qch334 ⊢; omega) | (simp at qah334 qbh334 qch334 qlh334 ⊢; have qz := part_zero h335; omega) | exact oblA) ?_
         exact wkT [] (C1 _  nbF rfl)
        ·clear h; intro h340 h
         refine bindE h ?_
         clear h; intro u341 h342 h
         refine bindE h ?_
         clear h; intro u343 h344 h
         refine run_to tmD 4000 [.br false, .trunc 1 (List.map enc_Gnodes_top m331), .no, .no] rfl (by repeat' first | refine And.intro ?_ ?_ | (simp at qah332 qbh332 qch332 ⊢; omega) | (simp at qah332 qbh332 qch332 qlh332 ⊢; omega) | (simp; done) | (simp at qah334 qbh334 qch334 ⊢; omega) | (simp at qah334 qbh334 qch334 qlh334 ⊢; have qz := part_zero h335; omega) | (refine capLe h342 rfl ?_; first | (simp; done) | (simp; omega) | (simp [hc, h324, h335, h340]; done) | (simp [hc, h324, h335, h340]; omega)) | (refine capMax h342 (by decide) ?_; first | (simp; done) | (simp; omega) | (simp [hc, h324, h335, h340]; done) | (simp [hc, h324, h335, h340]; omega)) | exact (part_trunc (f := enc_Gnodes_top) qh332) | (refine capLe h344 rfl ?_; first | (simp; done) | (simp; omega) | (simp [hc, h324, h335, h340]; done) | (simp [hc, h324, h335, h340]; omega)) | (refine capMax h344 (by decide) ?_; first | (simp; done) | (simp; omega) | (simp [hc, h324, h335, h340]; done) | (simp [hc, h324, h335, h340]; omega)) | exact oblA) ?_
         exact wkT [(0, 8), (1, 6)] (ih (k + 1) hx1 _ _ nbF nbF o h C0 C1)
       ·
        clear h
        have h := h339
        refine brE h ?_ ?_
        ·clear h; intro h338 h
         obtain rfl := Option.some.inj h
         refine run_to tmD 4000 [.br true] rfl (by repeat' first | refine And.intro ?_ ?_ | (simp at qah332 qbh332 qch332 ⊢; omega) | (simp at qah332 qbh332 qch332 qlh332 ⊢; omega) | (simp; done) | (simp at qah334 qbh334 qch334 ⊢; omega) | (simp at qah334 qbh334 qch334 qlh334 ⊢; have qz := part_zero h335; omega) | exact oblA) ?_
         exact wkT [(3, 17), (4, 18)] (SemK.glue J)
        ·clear h; intro h338 h
         obtain rfl := Option.some.inj h
         refine run_to tmD 4000 [.br false] rfl (by repeat' first | refine And.intro ?_ ?_ | (simp at qah332 qbh332 qch332 ⊢; omega) | (simp at qah332 qbh332 qch332 qlh332 ⊢; omega) | (simp; done) | (simp at qah334 qbh334 qch334 ⊢; omega) | (simp at qah334 qbh334 qch334 qlh334 ⊢; have qz := part_zero h335; omega) | exact oblA) ?_
         exact wkT [(3, 17), (4, 18)] (SemK.glue J)
      ·clear h; intro h335 h
       refine run_to tmD 4000 [.el (aI .i64 (List.length y0_o1 : Int)), .wrap, .via (.ref 1 0 (List.length m331)), .el (aI .i64 (List.length y0_o1 : Int)), .wrap, .via (.ref 1 (Int.toNat (IntKind.i64.wrap ((List.length y0_o1 : Int) - v318.1))) (List.length m333))] rfl (by repeat' first | refine And.intro ?_ ?_ | (simp at qah332 qbh332 qch332 ⊢; omega) | (simp at qah332 qbh332 qch332 qlh332 ⊢; omega) | (simp; done) | (simp at qah334 qbh334 qch334 ⊢; omega) | (simp at qah334 qbh334 qch334 qlh334 ⊢; have qz := part_pos h335; omega) | (simp at qah334 qbh334 qch334 qlh334 ⊢; omega) | exact oblA) ?_
       refine SemK.back (by intro id h; cases h) rfl ?_
       refine brE h ?_ ?_
       ·clear h; intro h345 h
        refine run_to tmD 4000 [.el (aI .i64 (List.length m333 : Int))] rfl (by repeat' first | refine And.intro ?_ ?_ | (simp at qah332 qbh332 qch332 ⊢; omega) | (simp at qah332 qbh332 qch332 qlh332 ⊢; omega) | (simp; done) | (simp at qah334 qbh334 qch334 ⊢; omega) | (simp at qah334 qbh334 qch334 qlh334 ⊢; have qz := part_pos h335; omega) | (simp at qah334 qbh334 qch334 qlh334 ⊢; omega) | (have hp := eq_of_beq h345; simp [hp]; done) | (have hp := eq_of_beq h345; simp at hp ⊢; omega) | (have hp := eq_of_beq h345; subst hp; decide +kernel) | exact oblA) ?_
        refine SemK.round ?_
        refine bindE h ?_
        clear h; intro e346 h347 h
        try have qh347 := getI_lt h347
        refine run_to tmD 4000 [.br true, .el (enc_Gnodes_top e346), .ld (enc_Gnodes_top e346), .br true, .wrap, .wrap] rfl (by repeat' first | refine And.intro ?_ ?_ | (simp at qah332 qbh332 qch332 ⊢; omega) | (simp at qah332 qbh332 qch332 qlh332 ⊢; omega) | (simp; done) | (simp at qah334 qbh334 qch334 ⊢; omega) | (simp at qah334 qbh334 qch334 qlh334 ⊢; have qz := part_pos h335; omega) | (simp at qah334 qbh334 qch334 qlh334 ⊢; omega) | (have hp := eq_of_beq h345; simp [hp]; done) | (have hp := eq_of_beq h345; simp at hp ⊢; omega) | (have hp := eq_of_beq h345; subst hp; decide +kernel) | exact (part_ix (f := enc_Gnodes_top) qh334 h347) | exact (getI_lt h347) | exact (getI_pos h347) | exact oblA) ?_
        refine SemK.round ?_
        refine bindE h ?_
        clear h; intro j349_o3 h351 h
        refine run_to tmD 4000 [.br false] rfl (by repeat' first | refine And.intro ?_ ?_ | (simp at qah332 qbh332 qch332 ⊢; omega) | (simp at qah332 qbh332 qch332 qlh332 ⊢; omega) | (simp; done) | (simp at qah334 qbh334 qch334 ⊢; omega) | (simp at qah334 qbh334 qch334 qlh334 ⊢; have qz := part_pos h335; omega) | (simp at qah334 qbh334 qch334 qlh334 ⊢; omega) | (have hp := eq_of_beq h345; simp [hp]; done) | (have hp := eq_of_beq h345; simp at hp ⊢; omega) | (have hp := eq_of_beq h345; subst hp; decide +kernel) | exact oblA) ?_
        refine SemK.join (s' := ⟨fr [(4, (AV.ref 0 0 (List.length y0_o0))), (5, (AV.ref 1 0 (List.length m331))), (7, (AV.ptr 2 0 0)), (11, (AV.ptr 3 0 0)), (12, (AV.ptr 4 0 0)), (15, (AV.list false (List.map enc_GNode y0_15))), (16, (aI .i64 (List.length y0_15 : Int))), (17, (aI .i64 (k : Int)))], hp ([(0, { es := List.map enc_Gnodes_top y0_o0, esz := 3 }), (1, { es := List.map enc_Gnodes_top y0_o1, esz := 3 }), (2, { es := [(enc_GNode x)], esz := 5 }), (3, { es := [(enc_GNode j349_o3)], esz := 5 }), (4, { es := [(enc_Gnodes_top (Gnodes_top.mk (k : Int) (IntKind.i64.wrap (1 + e346.size)) (if (IntKind.i64.wrap (e346.depth + 1)) > 1 then (IntKind.i64.wrap (e346.depth + 1)) else 1)))], esz := 3 })]), 5⟩) ?_ (fun J => SemK.cut ?_)
        ·
         refine brE h ?_ ?_
         ·clear h; intro h352 h
          obtain rfl := Option.some.inj h
          refine run_to tmD 4000 [.br true] rfl (by repeat' first | refine And.intro ?_ ?_ | (simp at qah332 qbh332 qch332 ⊢; omega) | (simp at qah332 qbh332 qch332 qlh332 ⊢; omega) | (simp; done) | (simp at qah334 qbh334 qch334 ⊢; omega) | (simp at qah334 qbh334 qch334 qlh334 ⊢; have qz := part_pos h335; omega) | (simp at qah334 qbh334 qch334 qlh334 ⊢; omega) | (have hp := eq_of_beq h345; simp [hp]; done) | (have hp := eq_of_beq h345; simp at hp ⊢; omega) | (have hp := eq_of_beq h345; subst hp; decide +kernel) | exact oblA) ?_
          exact wkT [] (C1 _  nbF rfl)
         ·clear h; intro h352 h
          refine bindE h ?_
          clear h; intro u353 h354 h
          refine bindE h ?_
          clear h; intro u355 h356 h
          refine run_to tmD 4000 [.br false, .trunc 1 (List.map enc_Gnodes_top m331), .no, .no] rfl (by repeat' first | refine And.intro ?_ ?_ | (simp at qah332 qbh332 qch332 ⊢; omega) | (simp at qah332 qbh332 qch332 qlh332 ⊢; omega) | (simp; done) | (simp at qah334 qbh334 qch334 ⊢; omega) | (simp at qah334 qbh334 qch334 qlh334 ⊢; have qz := part_pos h335; omega) | (simp at qah334 qbh334 qch334 qlh334 ⊢; omega) | (have hp := eq_of_beq h345; simp [hp]; done) | (have hp := eq_of_beq h345; simp at hp ⊢; omega) | (have hp := eq_of_beq h345; subst hp; decide +kernel) | (refine capLe h354 rfl ?_; first | (simp; done) | (simp; omega) | (simp [hc, h324, h335, h345, h352]; done) | (simp [hc, h324, h335, h345, h352]; omega)) | (refine capMax h354 (by decide) ?_; first | (simp; done) | (simp; omega) | (simp [hc, h324, h335, h345, h352]; done) | (simp [hc, h324, h335, h345, h352]; omega)) | exact (part_trunc (f := enc_Gnodes_top) qh332) | (refine capLe h356 rfl ?_; first | (simp; done) | (simp; omega) | (simp [hc, h324, h335, h345, h352]; done) | (simp [hc, h324, h335, h345, h352]; omega)) | (refine capMax h356 (by decide) ?_; first | (simp; done) | (simp; omega) | (simp [hc, h324, h335, h345, h352]; done) | (simp [hc, h324, h335, h345, h352]; omega)) | exact oblA) ?_
          exact wkT [(0, 8), (1, 6)] (ih (k + 1) hx1 _ _ nbF nbF o h C0 C1)
        ·
         clear h
         have h := h351
         refine brE h ?_ ?_
         ·clear h; intro h350 h
          obtain rfl := Option.some.inj h
          refine run_to tmD 4000 [.br true] rfl (by repeat' first | refine And.intro ?_ ?_ | (simp at qah332 qbh332 qch332 ⊢; omega) | (simp at qah332 qbh332 qch332 qlh332 ⊢; omega) | (simp; done) | (simp at qah334 qbh334 qch334 ⊢; omega) | (simp at qah334 qbh334 qch334 qlh334 ⊢; have qz := part_pos h335; omega) | (simp at qah334 qbh334 qch334 qlh334 ⊢; omega) | (have hp := eq_of_beq h345; simp [hp]; done) | (have hp := eq_of_beq h345; simp at hp ⊢; omega) | (have hp := eq_of_beq h345; subst hp; decide +kernel) | exact oblA) ?_
          exact wkT [(3, 17), (4, 18)] (SemK.glue J)
         ·clear h; intro h350 h
          obtain rfl := Option.some.inj h
          refine run_to tmD 4000 [.br false] rfl (by repeat' first | refine And.intro ?_ ?_ | (simp at qah332 qbh332 qch332 ⊢; omega) | (simp at qah332 qbh332 qch332 qlh332 ⊢; omega) | (simp; done) | (simp at qah334 qbh334 qch334 ⊢; omega) | (simp at qah334 qbh334 qch334 qlh334 ⊢; have qz := part_pos h335; omega) | (simp at qah334 qbh334 qch334 qlh334 ⊢; omega) | (have hp := eq_of_beq h345; simp [hp]; done) | (have hp := eq_of_beq h345; simp at hp ⊢; omega) | (have hp := eq_of_beq h345; subst hp; decide +kernel) | exact oblA) ?_
          exact wkT [(3, 17), (4, 18)] (SemK.glue J)
       ·clear h; intro h345 h
        refine brE h ?_ ?_
        ·clear h; intro h357 h
         refine run_to tmD 4000 [.el (aI .i64 (List.length m333 : Int))] rfl (by repeat' first | refine And.intro ?_ ?_ | (simp at qah332 qbh332 qch332 ⊢; omega) | (simp at qah332 qbh332 qch332 qlh332 ⊢; omega) | (simp; done) | (simp at qah334 qbh334 qch334 ⊢; omega) | (simp at qah334 qbh334 qch334 qlh334 ⊢; have qz := part_pos h335; omega) | (simp at qah334 qbh334 qch334 qlh334 ⊢; omega) | (have hp := eq_of_beq h357; simp [hp]; done) | (have hp := eq_of_beq h357; simp at hp ⊢; omega) | (have hp := eq_of_beq h357; subst hp; decide +kernel) | exact oblA) ?_
         refine SemK.round ?_
         refine bindE h ?_
         clear h; intro e358 h359 h
         try have qh359 := getI_lt h359
         refine run_to tmD 4000 [.br true, .el (enc_Gnodes_top e358), .ld (enc_Gnodes_top e358), .br true, .wrap, .wrap] rfl (by repeat' first | refine And.intro ?_ ?_ | (simp at qah332 qbh332 qch332 ⊢; omega) | (simp at qah332 qbh332 qch332 qlh332 ⊢; omega) | (simp; done) | (simp at qah334 qbh334 qch334 ⊢; omega) | (simp at qah334 qbh334 qch334 qlh334 ⊢; have qz := part_pos h335; omega) | (simp at qah334 qbh334 qch334 qlh334 ⊢; omega) | (have hp := eq_of_beq h357; simp [hp]; done) | (have hp := eq_of_beq h357; simp at hp ⊢; omega) | (have hp := eq_of_beq h357; subst hp; decide +kernel) | exact (part_ix (f := enc_Gnodes_top) qh334 h359) | exact (getI_lt h359) | exact (getI_pos h359) | exact oblA) ?_
         refine SemK.round ?_
         refine bindE h ?_
         clear h; intro e360 h361 h
         try have qh361 := getI_lt h361
         refine run_to tmD 4000 [.br true, .el (enc_Gnodes_top e360), .ld (enc_Gnodes_top e360), .br false, .wrap, .wrap] rfl (by repeat' first | refine And.intro ?_ ?_ | (simp at qah332 qbh332 qch332 ⊢; omega) | (simp at qah332 qbh332 qch332 qlh332 ⊢; omega) | (simp; done) | (simp at qah334 qbh334 qch334 ⊢; omega) | (simp at qah334 qbh334 qch334 qlh334 ⊢; have qz := part_pos h335; omega) | (simp at qah334 qbh334 qch334 qlh334 ⊢; omega) | (have hp := eq_of_beq h357; simp [hp]; done) | (have hp := eq_of_beq h357; simp at hp ⊢; omega) | (have hp := eq_of_beq h357; subst hp; decide +kernel) | exact (part_ix (f := enc_Gnodes_top) qh334 h361) | exact (getI_lt h361) | exact (getI_pos h361) | exact oblA) ?_
         refine SemK.round ?_
         refine bindE h ?_
         clear h; intro j363_o3 h365 h
         refine run_to tmD 4000 [.br false] rfl (by repeat' first | refine And.intro ?_ ?_ | (simp at qah332 qbh332 qch332 ⊢; omega) | (simp at qah332 qbh332 qch332 qlh332 ⊢; omega) | (simp; done) | (simp at qah334 qbh334 qch334 ⊢; omega) | (simp at qah334 qbh334 qch334 qlh334 ⊢; have qz := part_pos h335; omega) | (simp at qah334 qbh334 qch334 qlh334 ⊢; omega) | (have hp := eq_of_beq h357; simp [hp]; done) | (have hp := eq_of_beq h357; simp at hp ⊢; omega) | (have hp := eq_of_beq h357; subst hp; decide +kernel) | exact oblA) ?_
         refine SemK.join (s' := ⟨fr [(4, (AV.ref 0 0 (List.length y0_o0))), (5, (AV.ref 1 0 (List.length m331))), (7, (AV.ptr 2 0 0)), (11, (AV.ptr 3 0 0)), (12, (AV.ptr 4 0 0)), (15, (AV.list false (List.map enc_GNode y0_15))), (16, (aI .i64 (List.length y0_15 : Int))), (17, (aI .i64 (k : Int)))], hp ([(0, { es := List.map enc_Gnodes_top y0_o0, esz := 3 }), (1, { es := List.map enc_Gnodes_top y0_o1, esz := 3 }), (2, { es := [(enc_GNode x)], esz := 5 }), (3, { es := [(enc_GNode j363_o3)], esz := 5 }), (4, { es := [(enc_Gnodes_top (Gnodes_top.mk (k : Int) (IntKind.i64.wrap ((IntKind.i64.wrap (1 + e358.size)) + e360.size)) (if (IntKind.i64.wrap (e360.depth + 1)) > (if (IntKind.i64.wrap (e358.depth + 1)) > 1 then (IntKind.i64.wrap (e358.depth + 1)) else 1) then (IntKind.i64.wrap (e360.depth + 1)) else (if (IntKind.i64.wrap (e358.depth + 1)) > 1 then (IntKind.i64.wrap (e358.depth + 1)) else 1))))], esz := 3 })]), 5⟩) ?_ (fun J => SemK.cut ?_)
         ·
          refine brE h ?_ ?_
          ·clear h; intro h366 h
           obtain rfl := Option.some.inj h
           refine run_to tmD 4000 [.br true] rfl (by repeat' first | refine And.intro ?_ ?_ | (simp at qah332 qbh332 qch332 ⊢; omega) | (simp at qah332 qbh332 qch332 qlh332 ⊢; omega) | (simp; done) | (simp at qah334 qbh334 qch334 ⊢; omega) | (simp at qah334 qbh334 qch334 qlh334 ⊢; have qz := part_pos h335; omega) | (simp at qah334 qbh334 qch334 qlh334 ⊢; omega) | (have hp := eq_of_beq h357; simp [hp]; done) | (have hp := eq_of_beq h357; simp at hp ⊢; omega) | (have hp := eq_of_beq h357; subst hp; decide +kernel) | exact oblA) ?_
           exact wkT [] (C1 _  nbF rfl)
          ·clear h; intro h366 h
           refine bindE h ?_
           clear h; intro u367 h368 h
           refine bindE h ?_
           clear h; intro u369 h370 h
           refine run_to tmD 4000 [.br false, .trunc 1 (List.map enc_Gnodes_top m331), .no, .no] rfl (by repeat' first | refine And.intro ?_ ?_ | (simp at qah332 qbh332 qch332 ⊢; omega) | (simp at qah332 qbh332 qch332 qlh332 ⊢; omega) | (simp; done) | (simp at qah334 qbh334 qch334 ⊢; omega) | (simp at qah334 qbh334 qch334 qlh334 ⊢; have qz := part_pos h335; omega) | (simp at qah334 qbh334 qch334 qlh334 ⊢; omega) | (have hp := eq_of_beq h357; simp [hp]; done) | (have hp := eq_of_beq h357; simp at hp ⊢; omega) | (have hp := eq_of_beq h357; subst hp; decide +kernel) | (refine capLe h368 rfl ?_; first | (simp; done) | (simp; omega) | (simp [hc, h324, h335, h345, h357, h366]; done) | (simp [hc, h324, h335, h345, h357, h366]; omega)) | (refine capMax h368 (by decide) ?_; first | (simp; done) | (simp; omega) | (simp [hc, h324, h335, h345, h357, h366]; done) | (simp [hc, h324, h335, h345, h357, h366]; omega)) | exact (part_trunc (f := enc_Gnodes_top) qh332) | (refine capLe h370 rfl ?_; first | (simp; done) | (simp; omega) | (simp [hc, h324, h335, h345, h357, h366]; done) | (simp [hc, h324, h335, h345, h357, h366]; omega)) | (refine capMax h370 (by decide) ?_; first | (simp; done) | (simp; omega) | (simp [hc, h324, h335, h345, h357, h366]; done) | (simp [hc, h324, h335, h345, h357, h366]; omega)) | exact oblA) ?_
           exact wkT [(0, 8), (1, 6)] (ih (k + 1) hx1 _ _ nbF nbF o h C0 C1)
         ·
          clear h
          have h := h365
          refine brE h ?_ ?_
          ·clear h; intro h364 h
           obtain rfl := Option.some.inj h
           refine run_to tmD 4000 [.br true] rfl (by repeat' first | refine And.intro ?_ ?_ | (simp at qah332 qbh332 qch332 ⊢; omega) | (simp at qah332 qbh332 qch332 qlh332 ⊢; omega) | (simp; done) | (simp at qah334 qbh334 qch334 ⊢; omega) | (simp at qah334 qbh334 qch334 qlh334 ⊢; have qz := part_pos h335; omega) | (simp at qah334 qbh334 qch334 qlh334 ⊢; omega) | (have hp := eq_of_beq h357; simp [hp]; done) | (have hp := eq_of_beq h357; simp at hp ⊢; omega) | (have hp := eq_of_beq h357; subst hp; decide +kernel) | exact oblA) ?_
           exact wkT [(3, 17), (4, 18)] (SemK.glue J)
          ·clear h; intro h364 h
           obtain rfl := Option.some.inj h
           refine run_to tmD 4000 [.br false] rfl (by repeat' first | refine And.intro ?_ ?_ | (simp at qah332 qbh332 qch332 ⊢; omega) | (simp at qah332 qbh332 qch332 qlh332 ⊢; omega) | (simp; done) | (simp at qah334 qbh334 qch334 ⊢; omega) | (simp at qah334 qbh334 qch334 qlh334 ⊢; have qz := part_pos h335; omega) | (simp at qah334 qbh334 qch334 qlh334 ⊢; omega) | (have hp := eq_of_beq h357; simp [hp]; done) | (have hp := eq_of_beq h357; simp at hp ⊢; omega) | (have hp := eq_of_beq h357; subst hp; decide +kernel) | exact oblA) ?_
           exact wkT [(3, 17), (4, 18)] (SemK.glue J)
        ·clear h; intro h357 h
         cases h
    ·
     clear h
     have h := h323
     refine brE h ?_ ?_
     ·clear h; intro h322 h
      obtain rfl := Option.some.inj h
      refine run_to tmD 4000 [.go false, .go false, .go false, .go false] rfl (by repeat' first | refine And.intro ?_ ?_ | exact (PureCall.none (nodes_Parts_ok _ _ h319) (Cvs.cons .sc Cvs.nil)) | exact oblA) ?_
      exact wkT [] (SemK.glue J)
     ·clear h; intro h322 h
      obtain rfl := Option.some.inj h
      refine run_to tmD 4000 [.go true, .go true, .go true, .el (aI .i64 (List.length y0_o1 : Int)), .go true] rfl (by repeat' first | refine And.intro ?_ ?_ | exact (PureCall.none (nodes_Parts_ok _ _ h319) (Cvs.cons .sc Cvs.nil)) | exact oblA) ?_
      exact wkT [] (SemK.glue J)
   ·
    obtain rfl := hn_y0_o1 rfl
    refine SemK.round ?_
    refine bindE h ?_
    clear h; intro v371 h372 h
    refine bindE h ?_
    clear h; intro j374_35 h376 h
    refine run_to tmD 4000 [.br true, .el (enc_GNode x), .pure [(aI .u8 x.Kind)] (AV.tup [(aI .i64 v371.1), (aI .i64 v371.2)]), .stop 6] rfl (by repeat' first | refine And.intro ?_ ?_ | exact (PureCall.none (nodes_Parts_ok _ _ h372) (Cvs.cons .sc Cvs.nil)) | exact oblA) ?_
    refine SemK.join (s' := ⟨fr [(4, (AV.ref 0 0 (List.length y0_o0))), (5, AV.nils), (6, (aI .i64 (k : Int))), (7, (AV.ptr 2 0 0)), (8, (aI .i64 v371.1)), (15, (AV.list false (List.map enc_GNode y0_15))), (16, (aI .i64 (List.length y0_15 : Int))), (17, (aI .i64 (k : Int))), (35, (aB j374_35))], hp ([(0, { es := List.map enc_Gnodes_top y0_o0, esz := 3 }), (2, { es := [(enc_GNode x)], esz := 5 })]), 3⟩) ?_ (fun J => SemK.cut ?_)
    ·
     refine brE h ?_ ?_
     ·clear h; intro h377 h
      obtain rfl := Option.some.inj h
      refine runT tmD [.br true] ?_
      exact wkT [] (C1 _  nbF rfl)
     ·clear h; intro h377 h
      refine runT tmD [.br false] ?_
      refine SemK.inline tyTab_ok fn188 rfl rfl rfl rfl rfl trivial trivial rfl rfl ?_
      refine bindE h ?_
      clear h; intro m383 h384 h
      obtain ⟨qah384, qbh384, qch384, qh384⟩ := sliceI_ok h384
      obtain rfl := sliceI_nil h384
      refine bindE h ?_
      clear h; intro m385 h386 h
      obtain ⟨qah386, qbh386, qch386, qh386⟩ := sliceI_ok h386
      obtain rfl := sliceI_nil h386
      refine brE h ?_ ?_
      ·clear h; intro h387 h
       refine run_to tmD 4000 [.el (aI .i64 (List.length ([] : List Gnodes_top) : Int)), .wrap, .el (aI .i64 (List.length ([] : List Gnodes_top) : Int)), .wrap] rfl (by repeat' first | refine And.intro ?_ ?_ | (simp at qah384 qbh384 qch384 ⊢; omega) | (simp at qah386 qbh386 qch386 ⊢; omega) | exact oblA) ?_
       refine SemK.back (by intro id h; cases h) rfl ?_
       refine run_to tmD 4000 [] rfl (by repeat' first | refine And.intro ?_ ?_ | (simp at qah384 qbh384 qch384 ⊢; omega) | (simp at qah386 qbh386 qch386 ⊢; omega) | exact oblA) ?_
       refine SemK.round ?_
       refine bindE h ?_
       clear h; intro j389_o3 h391 h
       refine run_to tmD 4000 [.br false] rfl (by repeat' first | refine And.intro ?_ ?_ | (simp at qah384 qbh384 qch384 ⊢; omega) | (simp at qah386 qbh386 qch386 ⊢; omega) | exact oblA) ?_
       refine SemK.join (s' := ⟨fr [(4, (AV.ref 0 0 (List.length y0_o0))), (5, AV.nils), (7, (AV.ptr 2 0 0)), (11, (AV.ptr 3 0 0)), (12, (AV.ptr 4 0 0)), (15, (AV.list false (List.map enc_GNode y0_15))), (16, (aI .i64 (List.length y0_15 : Int))), (17, (aI .i64 (k : Int)))], hp ([(0, { es := List.map enc_Gnodes_top y0_o0, esz := 3 }), (2, { es := [(enc_GNode x)], esz := 5 }), (3, { es := [(enc_GNode j389_o3)], esz := 5 }), (4, { es := [(enc_Gnodes_top (Gnodes_top.mk (k : Int) 1 1))], esz := 3 })]), 5⟩) ?_ (fun J => SemK.cut ?_)
       ·
        refine brE h ?_ ?_
        ·clear h; intro h392 h
         obtain rfl := Option.some.inj h
         refine run_to tmD 4000 [.br true] rfl (by repeat' first | refine And.intro ?_ ?_ | (simp at qah384 qbh384 qch384 ⊢; omega) | (simp at qah386 qbh386 qch386 ⊢; omega) | exact oblA) ?_
         exact wkT [] (C1 _  nbF rfl)
        ·clear h; intro h392 h
         refine bindE h ?_
         clear h; intro u393 h394 h
         refine bindE h ?_
         clear h; intro u395 h396 h
         refine run_to tmD 4000 [.br false, .no, .no] rfl (by repeat' first | refine And.intro ?_ ?_ | (simp at qah384 qbh384 qch384 ⊢; omega) | (simp at qah386 qbh386 qch386 ⊢; omega) | (refine capLe h394 rfl ?_; first | (simp; done) | (simp; omega) | (simp [hc, h377, h387, h392]; done) | (simp [hc, h377, h387, h392]; omega)) | (refine capMax h394 (by decide) ?_; first | (simp; done) | (simp; omega) | (simp [hc, h377, h387, h392]; done) | (simp [hc, h377, h387, h392]; omega)) | (refine capLe h396 rfl ?_; first | (simp; done) | (simp; omega) | (simp [hc, h377, h387, h392]; done) | (simp [hc, h377, h387, h392]; omega)) | (refine capMax h396 (by decide) ?_; first | (simp; done) | (simp; omega) | (simp [hc, h377, h387, h392]; done) | (simp [hc, h377, h387, h392]; omega)) | exact oblA) ?_
         exact wkT [(0, 8), (1, 6)] (ih (k + 1) hx1 _ _ nbF nbF o h C0 C1)
       ·
        clear h
        have h := h391
        refine brE h ?_ ?_
        ·clear h; intro h390 h
         obtain rfl := Option.some.inj h
         refine run_to tmD 4000 [.br true] rfl (by repeat' first | refine And.intro ?_ ?_ | (simp at qah384 qbh384 qch384 ⊢; omega) | (simp at qah386 qbh386 qch386 ⊢; omega) | exact oblA) ?_
         exact wkT [(3, 17), (4, 18)] (SemK.glue J)
        ·clear h; intro h390 h
         obtain rfl := Option.some.inj h
         refine run_to tmD 4000 [.br false] rfl (by repeat' first | refine And.intro ?_ ?_ | (simp at qah384 qbh384 qch384 ⊢; omega) | (simp at qah386 qbh386 qch386 ⊢; omega) | exact oblA) ?_
         exact wkT [(3, 17), (4, 18)] (SemK.glue J)
      ·clear h; intro h387 h
       exact absurd h387 (by simp)
    ·
     clear h
     have h := h376
     refine brE h ?_ ?_
     ·clear h; intro h375 h
      obtain rfl := Option.some.inj h
      refine run_to tmD 4000 [.go false, .go false, .go false, .go false] rfl (by repeat' first | refine And.intro ?_ ?_ | exact (PureCall.none (nodes_Parts_ok _ _ h372) (Cvs.cons .sc Cvs.nil)) | exact oblA) ?_
      exact wkT [] (SemK.glue J)
     ·clear h; intro h375 h
      obtain rfl := Option.some.inj h
      refine run_to tmD 4000 [.go true, .go true, .go true, .el (aI .i64 (List.length ([] : List Gnodes_top) : Int)), .go true] rfl (by repeat' first | refine And.intro ?_ ?_ | exact (PureCall.none (nodes_Parts_ok _ _ h372) (Cvs.cons .sc Cvs.nil)) | exact oblA) ?_
      exact wkT [] (SemK.glue J)
  ·
   obtain rfl := hn_y0_o0 rfl
   rcases nb_y0_o1 with ⟨_ | _, hn_y0_o1⟩
   ·
    refine SemK.round ?_
    refine bindE h ?_
    clear h; intro v397 h398 h
    refine bindE h ?_
    clear h; intro j400_35 h402 h
    refine run_to tmD 4000 [.br true, .el (enc_GNode x), .pure [(aI .u8 x.Kind)] (AV.tup [(aI .i64 v397.1), (aI .i64 v397.2)]), .stop 6] rfl (by repeat' first | refine And.intro ?_ ?_ | exact (PureCall.none (nodes_Parts_ok _ _ h398) (Cvs.cons .sc Cvs.nil)) | exact oblA) ?_
    refine SemK.join (s' := ⟨fr [(4, AV.nils), (5, (AV.ref 1 0 (List.length y0_o1))), (6, (aI .i64 (k : Int))), (7, (AV.ptr 2 0 0)), (8, (aI .i64 v397.1)), (15, (AV.list false (List.map enc_GNode y0_15))), (16, (aI .i64 (List.length y0_15 : Int))), (17, (aI .i64 (k : Int))), (35, (aB j400_35))], hp ([(1, { es := List.map enc_Gnodes_top y0_o1, esz := 3 }), (2, { es := [(enc_GNode x)], esz := 5 })]), 3⟩) ?_ (fun J => SemK.cut ?_)
    ·
     refine brE h ?_ ?_
     ·clear h; intro h403 h
      obtain rfl := Option.some.inj h
      refine runT tmD [.br true] ?_
      exact wkT [] (C1 _  (nbT (by first | rfl | simp [*])) rfl)
     ·clear h; intro h403 h
      refine runT tmD [.br false] ?_
      refine SemK.inline tyTab_ok fn188 rfl rfl rfl rfl rfl trivial trivial rfl rfl ?_
      refine bindE h ?_
      clear h; intro m409 h410 h
      obtain ⟨qah410, qbh410, qch410, qh410⟩ := sliceI_ok h410
      have qlh410 := sliceI_len h410
      refine bindE h ?_
      clear h; intro m411 h412 h
      obtain ⟨qah412, qbh412, qch412, qh412⟩ := sliceI_ok h412
      have qlh412 := sliceI_len h412
      refine brE h ?_ ?_
      ·clear h; intro h413 h
       refine run_to tmD 4000 [.el (aI .i64 (List.length y0_o1 : Int)), .wrap, .via (.ref 1 0 (List.length m409)), .el (aI .i64 (List.length y0_o1 : Int)), .wrap, .ne false] rfl (by repeat' first | refine And.intro ?_ ?_ | (simp at qah410 qbh410 qch410 ⊢; omega) | (simp at qah410 qbh410 qch410 qlh410 ⊢; omega) | (simp; done) | (simp at qah412 qbh412 qch412 ⊢; omega) | (simp at qah412 qbh412 qch412 qlh412 ⊢; have qz := part_zero h413; omega) | exact oblA) ?_
       refine SemK.back (by intro id h; cases h) rfl ?_
       refine run_to tmD 4000 [] rfl (by repeat' first | refine And.intro ?_ ?_ | (simp at qah410 qbh410 qch410 ⊢; omega) | (simp at qah410 qbh410 qch410 qlh410 ⊢; omega) | (simp; done) | (simp at qah412 qbh412 qch412 ⊢; omega) | (simp at qah412 qbh412 qch412 qlh412 ⊢; have qz := part_zero h413; omega) | exact oblA) ?_
       refine SemK.round ?_
       refine bindE h ?_
       clear h; intro j415_o3 h417 h
       refine run_to tmD 4000 [.br false] rfl (by repeat' first | refine And.intro ?_ ?_ | (simp at qah410 qbh410 qch410 ⊢; omega) | (simp at qah410 qbh410 qch410 qlh410 ⊢; omega) | (simp; done) | (simp at qah412 qbh412 qch412 ⊢; omega) | (simp at qah412 qbh412 qch412 qlh412 ⊢; have qz := part_zero h413; omega) | exact oblA) ?_
       refine SemK.join (s' := ⟨fr [(4, AV.nils), (5, (AV.ref 1 0 (List.length m409))), (7, (AV.ptr 2 0 0)), (11, (AV.ptr 3 0 0)), (12, (AV.ptr 4 0 0)), (15, (AV.list false (List.map enc_GNode y0_15))), (16, (aI .i64 (List.length y0_15 : Int))), (17, (aI .i64 (k : Int)))], hp ([(1, { es := List.map enc_Gnodes_top y0_o1, esz := 3 }), (2, { es := [(enc_GNode x)], esz := 5 }), (3, { es := [(enc_GNode j415_o3)], esz := 5 }), (4, { es := [(enc_Gnodes_top (Gnodes_top.mk (k : Int) 1 1))], esz := 3 })]), 5⟩) ?_ (fun J => SemK.cut ?_)
       ·
        refine brE h ?_ ?_
        ·clear h; intro h418 h
         obtain rfl := Option.some.inj h
         refine run_to tmD 4000 [.br true] rfl (by repeat' first | refine And.intro ?_ ?_ | (simp at qah410 qbh410 qch410 ⊢; omega) | (simp at qah410 qbh410 qch410 qlh410 ⊢; omega) | (simp; done) | (simp at qah412 qbh412 qch412 ⊢; omega) | (simp at qah412 qbh412 qch412 qlh412 ⊢; have qz := part_zero h413; omega) | exact oblA) ?_
         exact wkT [] (C1 _  (nbT (by first | rfl | simp [*])) rfl)
        ·clear h; intro h418 h
         refine bindE h ?_
         clear h; intro u419 h420 h
         refine bindE h ?_
         clear h; intro u421 h422 h
         refine run_to tmD 4000 [.br false, .trunc 1 (List.map enc_Gnodes_top m409), .no, .no] rfl (by repeat' first | refine And.intro ?_ ?_ | (simp at qah410 qbh410 qch410 ⊢; omega) | (simp at qah410 qbh410 qch410 qlh410 ⊢; omega) | (simp; done) | (simp at qah412 qbh412 qch412 ⊢; omega) | (simp at qah412 qbh412 qch412 qlh412 ⊢; have qz := part_zero h413; omega) | (refine capLe h420 rfl ?_; first | (simp; done) | (simp; omega) | (simp [hc, h403, h413, h418]; done) | (simp [hc, h403, h413, h418]; omega)) | (refine capMax h420 (by decide) ?_; first | (simp; done) | (simp; omega) | (simp [hc, h403, h413, h418]; done) | (simp [hc, h403, h413, h418]; omega)) | exact (part_trunc (f := enc_Gnodes_top) qh410) | (refine capLe h422 rfl ?_; first | (simp; done) | (simp; omega) | (simp [hc, h403, h413, h418]; done) | (simp [hc, h403, h413, h418]; omega)) | (refine capMax h422 (by decide) ?_; first | (simp; done) | (simp; omega) | (simp [hc, h403, h413, h418]; done) | (simp [hc, h403, h413, h418]; omega)) | exact oblA) ?_
         exact wkT [(0, 8), (1, 6)] (ih (k + 1) hx1 _ _ nbF nbF o h C0 C1)
       ·
        clear h
        have h := h417
        refine brE h ?_ ?_
        ·clear h; intro h416 h
         obtain rfl := Option.some.inj h
         refine run_to tmD 4000 [.br true] rfl (by repeat' first | refine And.intro ?_ ?_ | (simp at qah410 qbh410 qch410 ⊢; omega) | (simp at qah410 qbh410 qch410 qlh410 ⊢; omega) | (simp; done) | (simp at qah412 qbh412 qch412 ⊢; omega) | (simp at qah412 qbh412 qch412 qlh412 ⊢; have qz := part_zero h413; omega) | exact oblA) ?_
         exact wkT [(3, 17), (4, 18)] (SemK.glue J)
        ·clear h; intro h416 h
         obtain rfl := Option.some.inj h
         refine run_to tmD 4000 [.br false] rfl (by repeat' first | refine And.intro ?_ ?_ | (simp at qah410 qbh410 qch410 ⊢; omega) | (simp at qah410 qbh410 qch410 qlh410 ⊢; omega) | (simp; done) | (simp at qah412 qbh412 qch412 ⊢; omega) | (simp at qah412 qbh412 qch412 qlh412 ⊢; have qz := part_zero h413; omega) | exact oblA) ?_
         exact wkT [(3, 17), (4, 18)] (SemK.glue J)
      ·clear h; intro h413 h
       refine run_to tmD 4000 [.el (aI .i64 (List.length y0_o1 : Int)), .wrap, .via (.ref 1 0 (List.length m409)), .el (aI .i64 (List.length y0_o1 : Int)), .wrap, .via (.ref 1 (Int.toNat (IntKind.i64.wrap ((List.length y0_o1 : Int) - v397.1))) (List.length m411))] rfl (by repeat' first | refine And.intro ?_ ?_ | (simp at qah410 qbh410 qch410 ⊢; omega) | (simp at qah410 qbh410 qch410 qlh410 ⊢; omega) | (simp; done) | (simp at qah412 qbh412 qch412 ⊢; omega) | (simp at qah412 qbh412 qch412 qlh412 ⊢; have qz := part_pos h413; omega) | (simp at qah412 qbh412 qch412 qlh412 ⊢; omega) | exact oblA) ?_
       refine SemK.back (by intro id h; cases h) rfl ?_
       refine brE h ?_ ?_
       ·clear h; intro h423 h
        refine run_to tmD 4000 [.el (aI .i64 (List.length m411 : Int))] rfl (by repeat' first | refine And.intro ?_ ?_ | (simp at qah410 qbh410 qch410 ⊢; omega) | (simp at qah410 qbh410 qch410 qlh410 ⊢; omega) | (simp; done) | (simp at qah412 qbh412 qch412 ⊢; omega) | (simp at qah412 qbh412 qch412 qlh412 ⊢; have qz := part_pos h413; omega) | (simp at qah412 qbh412 qch412 qlh412 ⊢; omega) | (have hp := eq_of_beq h423; simp [hp]; done) | (have hp := eq_of_beq h423; simp at hp ⊢; omega) | (have hp := eq_of_beq h423; subst hp; decide +kernel) | exact oblA) ?_
        refine SemK.round ?_
        refine bindE h ?_
        clear h; intro e424 h425 h
        try have qh425 := getI_lt h425
        refine run_to tmD 4000 [.br true, .el (enc_Gnodes_top e424), .ld (enc_Gnodes_top e424), .br true, .wrap, .wrap] rfl (by repeat' first | refine And.intro ?_ ?_ | (simp at qah410 qbh410 qch410 ⊢; omega) | (simp at qah410 qbh410 qch410 qlh410 ⊢; omega) | (simp; done) | (simp at qah412 qbh412 qch412 ⊢; omega) | (simp at qah412 qbh412 qch412 qlh412 ⊢; have qz := part_pos h413; omega) | (simp at qah412 qbh412 qch412 qlh412 ⊢; omega) | (have hp := eq_of_beq h423; simp [hp]; done) | (have hp := eq_of_beq h423; simp at hp ⊢; omega) | (have hp := eq_of_beq h423; subst hp; decide +kernel) | exact (part_ix (f := enc_Gnodes_top) qh412 h425) | exact (getI_lt h425) | exact (getI_pos h425) | exact oblA) ?_
        refine SemK.round ?_
        refine bindE h ?_
        clear h; intro j427_o3 h429 h
        refine run_to tmD 4000 [.br false] rfl (by repeat' first | refine And.intro ?_ ?_ | (simp at qah410 qbh410 qch410 ⊢; omega) | (simp at qah410 qbh410 qch410 qlh410 ⊢; omega) | (simp; done) | (simp at qah412 qbh412 qch412 ⊢; omega) | (simp at qah412 qbh412 qch412 qlh412 ⊢; have qz := part_pos h413; omega) | (simp at qah412 qbh412 qch412 qlh412 ⊢; omega) | (have hp := eq_of_beq h423; simp [hp]; done) | (have hp := eq_of_beq h423; simp at hp ⊢; omega) | (have hp := eq_of_beq h423; subst hp; decide +kernel) | exact oblA) ?_
        refine SemK.join (s' := ⟨fr [(4, AV.nils), (5, (AV.ref 1 0 (List.length m409))), (7, (AV.ptr 2 0 0)), (11, (AV.ptr 3 0 0)), (12, (AV.ptr 4 0 0)), (15, (AV.list false (List.map enc_GNode y0_15))), (16, (aI .i64 (List.length y0_15 : Int))), (17, (aI .i64 (k : Int)))], hp ([(1, { es := List.map enc_Gnodes_top y0_o1, esz := 3 }), (2, { es := [(enc_GNode x)], esz := 5 }), (3, { es := [(enc_GNode j427_o3)], esz := 5 }), (4, { es := [(enc_Gnodes_top (Gnodes_top.mk (k : Int) (IntKind.i64.wrap (1 + e424.size)) (if (IntKind.i64.wrap (e424.depth + 1)) > 1 then (IntKind.i64.wrap (e424.depth + 1)) else 1)))], esz := 3 })]), 5⟩) ?_ (fun J => SemK.cut ?_)
        ·
         refine brE h ?_ ?_
         ·clear h; intro h430 h
          obtain rfl := Option.some.inj h
          refine run_to tmD 4000 [.br true] rfl (by repeat' first | refine And.intro ?_ ?_ | (simp at qah410 qbh410 qch410 ⊢; omega) | (simp at qah410 qbh410 qch410 qlh410 ⊢; omega) | (simp; done) | (simp at qah412 qbh412 qch412 ⊢; omega) | (simp at qah412 qbh412 qch412 qlh412 ⊢; have qz := part_pos h413; omega) | (simp at qah412 qbh412 qch412 qlh412 ⊢; omega) | (have hp := eq_of_beq h423; simp [hp]; done) | (have hp := eq_of_beq h423; simp at hp ⊢; omega) | (have hp := eq_of_beq h423; subst hp; decide +kernel) | exact oblA) ?_
          exact wkT [] (C1 _  (nbT (by first | rfl | simp [*])) rfl)
         ·clear h; intro h430 h
          refine bindE h ?_
          clear h; intro u431 h432 h
          refine bindE h ?_
          clear h; intro u433 h434 h
          refine run_to tmD 4000 [.br false, .trunc 1 (List.map enc_Gnodes_top m409), .no, .no] rfl (by repeat' first | refine And.intro ?_ ?_ | (simp at qah410 qbh410 qch410 ⊢; omega) | (simp at qah410 qbh410 qch410 qlh410 ⊢; omega) | (simp; done) | (simp at qah412 qbh412 qch412 ⊢; omega) | (simp at qah412 qbh412 qch412 qlh412 ⊢; have qz := part_pos h413; omega) | (simp at qah412 qbh412 qch412 qlh412 ⊢; omega) | (have hp := eq_of_beq h423; simp [hp]; done) | (have hp := eq_of_beq h423; simp at hp ⊢; omega) | (have hp := eq_of_beq h423; subst hp; decide +kernel) | (refine capLe h432 rfl ?_; first | (simp; done) | (simp; omega) | (simp [hc, h403, h413, h423, h430]; done) | (simp [hc, h403, h413, h423, h430]; omega)) | (refine capMax h432 (by decide) ?_; first | (simp; done) | (simp; omega) | (simp [hc, h403, h413, h423, h430]; done) | (simp [hc, h403, h413, h423, h430]; omega)) | exact (part_trunc (f := enc_Gnodes_top) qh410) | (refine capLe h434 rfl ?_; first | (simp; done) | (simp; omega) | (simp [hc, h403, h413, h423, h430]; done) | (simp [hc, h403, h413, h423, h430]; omega)) | (refine capMax h434 (by decide) ?_; first | (simp; done) | (simp; omega) | (simp [hc, h403, h413, h423, h430]; done) | (simp [hc, h403, h413, h423, h430]; omega)) | exact oblA) ?_
          exact wkT [(0, 8), (1, 6)] (ih (k + 1) hx1 _ _ nbF nbF o h C0 C1)
        ·
         clear h
         have h := h429
         refine brE h ?_ ?_
         ·clear h; intro h428 h
          obtain rfl := Option.some.inj h
          refine run_to tmD 4000 [.br true] rfl (by repeat' first | refine And.intro ?_ ?_ | (simp at qah410 qbh410 qch410 ⊢; omega) | (simp at qah410 qbh410 qch410 qlh410 ⊢; omega) | (simp; done) | (simp at qah412 qbh412 qch412 ⊢; omega) | (simp at qah412 qbh412 qch412 qlh412 ⊢; have qz := part_pos h413; omega) | (simp at qah412 qbh412 qch412 qlh412 ⊢; omega) | (have hp := eq_of_beq h423; simp [hp]; done) | (have hp := eq_of_beq h423; simp at hp ⊢; omega) | (have hp := eq_of_beq h423; subst hp; decide +kernel) | exact oblA) ?_
          exact wkT [(3, 17), (4, 18)] (SemK.glue J)
         ·clear h; intro h428 h
          obtain rfl := Option.some.inj h
          refine run_to tmD 4000 [.br false] rfl (by repeat' first | refine And.intro ?_ ?_ | (simp at qah410 qbh410 qch410 ⊢; omega) | (simp at qah410 qbh410 qch410 qlh410 ⊢; omega) | (simp; done) | (simp at qah412 qbh412 qch412 ⊢; omega) | (simp at qah412 qbh412 qch412 qlh412 ⊢; have qz := part_pos h413; omega) | (simp at qah412 qbh412 qch412 qlh412 ⊢; omega) | (have hp := eq_of_beq h423; simp [hp]; done) | (have hp := eq_of_beq h423; simp at hp ⊢; omega) | (have hp := eq_of_beq h423; subst hp; decide +kernel) | exact oblA) ?_
          exact wkT [(3, 17), (4, 18)] (SemK.glue J)
       ·clear h; intro h423 h
        refine brE h ?_ ?_
        ·clear h; intro h435 h
         refine run_to tmD 4000 [.el (aI .i64 (List.length m411 : Int))] rfl (by repeat' first | refine And.intro ?_ ?_ | (simp at qah410 qbh410 qch410 ⊢; omega) | (simp at qah410 qbh410 qch410 qlh410 ⊢; omega) | (simp; done) | (simp at qah412 qbh412 qch412 ⊢; omega) | (simp at qah412 qbh412 qch412 qlh412 ⊢; have qz := part_pos h413; omega) | (simp at qah412 qbh412 qch412 qlh412 ⊢; omega) | (have hp := eq_of_beq h435; simp [hp]; done) | (have hp := eq_of_beq h435; simp at hp ⊢; omega) | (have hp := eq_of_beq h435; subst hp; decide +kernel) | exact oblA) ?_
         refine SemK.round ?_
         refine bindE h ?_
         clear h; intro e436 h437 h
         try have qh437 := getI_lt h437
         refine run_to tmD 4000 [.br true, .el (enc_Gnodes_top e436), .ld (enc_Gnodes_top e436), .br true, .wrap, .wrap] rfl (by repeat' first | refine And.intro ?_ ?_ | (simp at qah410 qbh410 qch410 ⊢; omega) | (simp at qah410 qbh410 qch410 qlh410 ⊢; omega) | (simp; done) | (simp at qah412 qbh412 qch412 ⊢; omega) | (simp at qah412 qbh412 qch412 qlh412 ⊢; have qz := part_pos h413; omega) | (simp at qah412 qbh412 qch412 qlh412 ⊢; omega) | (have hp := eq_of_beq h435; simp [hp]; done) | (have hp := eq_of_beq h435; simp at hp ⊢; omega) | (have hp := eq_of_beq h435; subst hp; decide +kernel) | exact (part_ix (f := enc_Gnodes_top) qh412 h437) | exact (getI_lt h437) | exact (getI_pos h437) | exact oblA) ?_
         refine SemK.round ?_
         refine bindE h ?_
         clear h; intro e438 h439 h
         try have qh439 := getI_lt h439
         refine run_to tmD 4000 [.br true, .el (enc_Gnodes_top e438), .ld (enc_Gnodes_top e438), .br false, .wrap, .wrap] rfl (by repeat' first | refine And.intro ?_ ?_ | (simp at qah410 qbh410 qch410 ⊢; omega) | (simp at qah410 qbh410 qch410 qlh410 ⊢; omega) | (simp; done) | (simp at qah412 qbh412 qch412 ⊢; omega) | (simp at qah412 qbh412 qch412 qlh412 ⊢; have qz := part_pos h413; omega) | (simp at qah412 qbh412 qch412 qlh412 ⊢; omega) | (have hp := eq_of_beq h435; simp [hp]; done) | (have hp := eq_of_beq h435; simp at hp ⊢; omega) | (have hp := eq_of_beq h435; subst hp; decide +kernel) | exact (part_ix (f := enc_Gnodes_top) qh412 h439) | exact (getI_lt h439) | exact (getI_pos h439) | exact oblA) ?_
         refine SemK.round ?_
         refine bindE h ?_
         clear h; intro j441_o3 h443 h
         refine run_to tmD 4000 [.br false] rfl (by repeat' first | refine And.intro ?_ ?_ | (simp at qah410 qbh410 qch410 ⊢; omega) | (simp at qah410 qbh410 qch410 qlh410 ⊢; omega) | (simp; done) | (simp at qah412 qbh412 qch412 ⊢; omega) | (simp at qah412 qbh412 qch412 qlh412 ⊢; have qz := part_pos h413; omega) | (simp at qah412 qbh412 qch412 qlh412 ⊢; omega) | (have hp := eq_of_beq h435; simp [hp]; done) | (have hp := eq_of_beq h435; simp at hp ⊢; omega) | (have hp := eq_of_beq h435; subst hp; decide +kernel) | exact oblA) ?_
         refine SemK.join (s' := ⟨fr [(4, AV.nils), (5, (AV.ref 1 0 (List.length m409))), (7, (AV.ptr 2 0 0)), (11, (AV.ptr 3 0 0)), (12, (AV.ptr 4 0 0)), (15, (AV.list false (List.map enc_GNode y0_15))), (16, (aI .i64 (List.length y0_15 : Int))), (17, (aI .i64 (k : Int)))], hp ([(1, { es := List.map enc_Gnodes_top y0_o1, esz := 3 }), (2, { es := [(enc_GNode x)], esz := 5 }), (3, { es := [(enc_GNode j441_o3)], esz := 5 }), (4, { es := [(enc_Gnodes_top (Gnodes_top.mk (k : Int) (IntKind.i64.wrap ((IntKind.i64.wrap (1 + e436.size)) + e438.size)) (if (IntKind.i64.wrap (e438.depth + 1)) > (if (IntKind.i64.wrap (e436.depth + 1)) > 1 then (IntKind.i64.wrap (e436.depth + 1)) else 1) then (IntKind.i64.wrap (e438.depth + 1)) else (if (IntKind.i64.wrap (e436.depth + 1)) > 1 then (IntKind.i64.wrap (e436.depth + 1)) else 1))))], esz := 3 })]), 5⟩) ?_ (fun J => SemK.cut ?_)
         ·
          refine brE h ?_ ?_
          ·clear h; intro h444 h
           obtain rfl := Option.some.inj h
           refine run_to tmD 4000 [.br true] rfl (by repeat' first | refine And.intro ?_ ?_ | (simp at qah410 qbh410 qch410 ⊢; omega) | (simp at qah410 qbh410 qch410 qlh410 ⊢; omega) | (simp; done) | (simp at qah412 qbh412 qch412 ⊢; omega) | (simp at qah412 qbh412 qch412 qlh412 ⊢; have qz := part_pos h413; omega) | (simp at qah412 qbh412 qch412 qlh412 ⊢; omega) | (have hp := eq_of_beq h435; simp [hp]; done) | (have hp := eq_of_beq h435; simp at hp ⊢; omega) | (have hp := eq_of_beq h435; subst hp; decide +kernel) | exact oblA) ?_
           exact wkT [] (C1 _  (nbT (by first | rfl | simp [*])) rfl)
          ·clear h; intro h444 h
           refine bindE h ?_
           clear h; intro u445 h446 h
           refine bindE h ?_
           clear h; intro u447 h448 h
           refine run_to tmD 4000 [.br false, .trunc 1 (List.map enc_Gnodes_top m409), .no, .no] rfl (by repeat' first | refine And.intro ?_ ?_ | (simp at qah410 qbh410 qch410 ⊢; omega) | (simp at qah410 qbh410 qch410 qlh410 ⊢; omega) | (simp; done) | (simp at qah412 qbh412 qch412 ⊢; omega) | (simp at qah412 qbh412 qch412 qlh412 ⊢; have qz := part_pos h413; omega) | (simp at qah412 qbh412 qch412 qlh412 ⊢; omega) | (have hp := eq_of_beq h435; simp [hp]; done) | (have hp := eq_of_beq h435; simp at hp ⊢; omega) | (have hp := eq_of_beq h435; subst hp; decide +kernel) | (refine capLe h446 rfl ?_; first | (simp; done) | (simp; omega) | (simp [hc, h403, h413, h423, h435, h444]; done) | (simp [hc, h403, h413, h423, h435, h444]; omega)) | (refine capMax h446 (by decide) ?_; first | (simp; done) | (simp; omega) | (simp [hc, h403, h413, h423, h435, h444]; done) | (simp [hc, h403, h413, h423, h435, h444]; omega)) | exact (part_trunc (f := enc_Gnodes_top) qh410) | (refine capLe h448 rfl ?_; first | (simp; done) | (simp; omega) | (simp [hc, h403, h413, h423, h435, h444]; done) | (simp [hc, h403, h413, h423, h435, h444]; omega)) | (refine capMax h448 (by decide) ?_; first | (simp; done) | (simp; omega) | (simp [hc, h403, h413, h423, h435, h444]; done) | (simp [hc, h403, h413, h423, h435, h444]; omega)) | exact oblA) ?_
           exact wkT [(0, 8), (1, 6)] (ih (k + 1) hx1 _ _ nbF nbF o h C0 C1)
         ·
          clear h
          have h := h443
          refine brE h ?_ ?_
          ·clear h; intro h442 h
           obtain rfl := Option.some.inj h
           refine run_to tmD 4000 [.br true] rfl (by repeat' first | refine And.intro ?_ ?_ | (simp at qah410 qbh410 qch410 ⊢; omega) | (simp at qah410 qbh410 qch410 qlh410 ⊢; omega) | (simp; done) | (simp at qah412 qbh412 qch412 ⊢; omega) | (simp at qah412 qbh412 qch412 qlh412 ⊢; have qz := part_pos h413; omega) | (simp at qah412 qbh412 qch412 qlh412 ⊢; omega) | (have hp := eq_of_beq h435; simp [hp]; done) | (have hp := eq_of_beq h435; simp at hp ⊢; omega) | (have hp := eq_of_beq h435; subst hp; decide +kernel) | exact oblA) ?_
           exact wkT [(3, 17), (4, 18)] (SemK.glue J)
          ·clear h; intro h442 h
           obtain rfl := Option.some.inj h
           refine run_to tmD 4000 [.br false] rfl (by repeat' first | refine And.intro ?_ ?_ | (simp at qah410 qbh410 qch410 ⊢; omega) | (simp at qah410 qbh410 qch410 qlh410 ⊢; omega) | (simp; done) | (simp at qah412 qbh412 qch412 ⊢; omega) | (simp at qah412 qbh412 qch412 qlh412 ⊢; have qz := part_pos h413; omega) | (simp at qah412 qbh412 qch412 qlh412 ⊢; omega) | (have hp := eq_of_beq h435; simp [hp]; done) | (have hp := eq_of_beq h435; simp at hp ⊢; omega) | (have hp := eq_of_beq h435; subst hp; decide +kernel) | exact oblA) ?_
           exact wkT [(3, 17), (4, 18)] (SemK.glue J)
        ·clear h; intro h435 h
         cases h
    ·
     clear h
     have h := h402
     refine brE h ?_ ?_
     ·clear h; intro h401 h
      obtain rfl := Option.some.inj h
      refine run_to tmD 4000 [.go false, .go false, .go false, .go false] rfl (by repeat' first | refine And.intro ?_ ?_ | exact (PureCall.none (nodes_Parts_ok _ _ h398) (Cvs.cons .sc Cvs.nil)) | exact oblA) ?_
      exact wkT [] (SemK.glue J)
     ·clear h; intro h401 h
      obtain rfl := Option.some.inj h
      refine run_to tmD 4000 [.go true, .go true, .go true, .el (aI .i64 (List.length y0_o1 : Int)), .go true] rfl (by repeat' first | refine And.intro ?_ ?_ | exact (PureCall.none (nodes_Parts_ok _ _ h398) (Cvs.cons .sc Cvs.nil)) | exact oblA) ?_
      exact wkT [] (SemK.glue J)
   ·
    obtain rfl := hn_y0_o1 rfl
    refine SemK.round ?_
    refine bindE h ?_
    clear h; intro v449 h450 h
    refine bindE h ?_
    clear h; intro j452_35 h454 h
    refine run_to tmD 4000 [.br true, .el (enc_GNode x), .pure [(aI .u8 x.Kind)] (AV.tup [(aI .i64 v449.1), (aI .i64 v449.2)]), .stop 6] rfl (by repeat' first | refine And.intro ?_ ?_ | exact (PureCall.none (nodes_Parts_ok _ _ h450) (Cvs.cons .sc Cvs.nil)) | exact oblA) ?_
    refine SemK.join (s' := ⟨fr [(4, AV.nils), (5, AV.nils), (6, (aI .i64 (k : Int))), (7, (AV.ptr 2 0 0)), (8, (aI .i64 v449.1)), (15, (AV.list false (List.map enc_GNode y0_15))), (16, (aI .i64 (List.length y0_15 : Int))), (17, (aI .i64 (k : Int))), (35, (aB j452_35))], hp ([(2, { es := [(enc_GNode x)], esz := 5 })]), 3⟩) ?_ (fun J => SemK.cut ?_)
    ·
     refine brE h ?_ ?_
     ·clear h; intro h455 h
      obtain rfl := Option.some.inj h
      refine runT tmD [.br true] ?_
      exact wkT [] (C1 _  (nbT (by first | rfl | simp [*])) rfl)
     ·clear h; intro h455 h
      refine runT tmD [.br false] ?_
      refine SemK.inline tyTab_ok fn188 rfl rfl rfl rfl rfl trivial trivial rfl rfl ?_
      refine bindE h ?_
      clear h; intro m461 h462 h
      obtain ⟨qah462, qbh462, qch462, qh462⟩ := sliceI_ok h462
      obtain rfl := sliceI_nil h462
      refine bindE h ?_
      clear h; intro m463 h464 h
      obtain ⟨qah464, qbh464, qch464, qh464⟩ := sliceI_ok h464
      obtain rfl := sliceI_nil h464
      refine brE h ?_ ?_
      ·clear h; intro h465 h
       refine run_to tmD 4000 [.el (aI .i64 (List.length ([] : List Gnodes_top) : Int)), .wrap, .el (aI .i64 (List.length ([] : List Gnodes_top) : Int)), .wrap] rfl (by repeat' first | refine And.intro ?_ ?_ | (simp at qah462 qbh462 qch462 ⊢; omega) | (simp at qah464 qbh464 qch464 ⊢; omega) | exact oblA) ?_
       refine SemK.back (by intro id h; cases h) rfl ?_
       refine run_to tmD 4000 [] rfl (by repeat' first | refine And.intro ?_ ?_ | (simp at qah462 qbh462 qch462 ⊢; omega) | (simp at qah464 qbh464 qch464 ⊢; omega) | exact oblA) ?_
       refine SemK.round ?_
       refine bindE h ?_
       clear h; intro j467_o3 h469 h
       refine run_to tmD 4000 [.br false] rfl (by repeat' first | refine And.intro ?_ ?_ | (simp at qah462 qbh462 qch462 ⊢; omega) | (simp at qah464 qbh464 qch464 ⊢; omega) | exact oblA) ?_
       refine SemK.join (s' := ⟨fr [(4, AV.nils), (5, AV.nils), (7, (AV.ptr 2 0 0)), (11, (AV.ptr 3 0 0)), (12, (AV.ptr 4 0 0)), (15, (AV.list false (List.map enc_GNode y0_15))), (16, (aI .i64 (List.length y0_15 : Int))), (17, (aI .i64 (k : Int)))], hp ([(2, { es := [(enc_GNode x)], esz := 5 }), (3, { es := [(enc_GNode j467_o3)], esz := 5 }), (4, { es := [(enc_Gnodes_top (Gnodes_top.mk (k : Int) 1 1))], esz := 3 })]), 5⟩) ?_ (fun J => SemK.cut ?_)
       ·
        refine brE h ?_ ?_
        ·clear h; intro h470 h
         obtain rfl := Option.some.inj h
         refine run_to tmD 4000 [.br true] rfl (by repeat' first | refine And.intro ?_ ?_ | (simp at qah462 qbh462 qch462 ⊢; omega) | (simp at qah464 qbh464 qch464 ⊢; omega) | exact oblA) ?_
         exact wkT [] (C1 _  (nbT (by first | rfl | simp [*])) rfl)
        ·clear h; intro h470 h
         refine bindE h ?_
         clear h; intro u471 h472 h
         refine bindE h ?_
         clear h; intro u473 h474 h
         refine run_to tmD 4000 [.br false, .no, .no] rfl (by repeat' first | refine And.intro ?_ ?_ | (simp at qah462 qbh462 qch462 ⊢; omega) | (simp at qah464 qbh464 qch464 ⊢; omega) | (refine capLe h472 rfl ?_; first | (simp; done) | (simp; omega) | (simp [hc, h455, h465, h470]; done) | (simp [hc, h455, h465, h470]; omega)) | (refine capMax h472 (by decide) ?_; first | (simp; done) | (simp; omega) | (simp [hc, h455, h465, h470]; done) | (simp [hc, h455, h465, h470]; omega)) | (refine capLe h474 rfl ?_; first | (simp; done) | (simp; omega) | (simp [hc, h455, h465, h470]; done) | (simp [hc, h455, h465, h470]; omega)) | (refine capMax h474 (by decide) ?_; first | (simp; done) | (simp; omega) | (simp [hc, h455, h465, h470]; done) | (simp [hc, h455, h465, h470]; omega)) | exact oblA) ?_
         exact wkT [(0, 8), (1, 6)] (ih (k + 1) hx1 _ _ nbF nbF o h C0 C1)
       ·
        clear h
        have h := h469
        refine brE h ?_ ?_
        ·clear h; intro h468 h
         obtain rfl := Option.some.inj h
         refine run_to tmD 4000 [.br true] rfl (by repeat' first | refine And.intro ?_ ?_ | (simp at qah462 qbh462 qch462 ⊢; omega) | (simp at qah464 qbh464 qch464 ⊢; omega) | exact oblA) ?_
         exact wkT [(3, 17), (4, 18)] (SemK.glue J)
        ·clear h; intro h468 h
         obtain rfl := Option.some.inj h
         refine run_to tmD 4000 [.br false] rfl (by repeat' first | refine And.intro ?_ ?_ | (simp at qah462 qbh462 qch462 ⊢; omega) | (simp at qah464 qbh464 qch464 ⊢; omega) | exact oblA) ?_
         exact wkT [(3, 17), (4, 18)] (SemK.glue J)
      ·clear h; intro h465 h
       exact absurd h465 (by simp)
    ·
     clear h
     have h := h454
     refine brE h ?_ ?_
     ·clear h; intro h453 h
      obtain rfl := Option.some.inj h
      refine run_to tmD 4000 [.go false, .go false, .go false, .go false] rfl (by repeat' first | refine And.intro ?_ ?_ | exact (PureCall.none (nodes_Parts_ok _ _ h450) (Cvs.cons .sc Cvs.nil)) | exact oblA) ?_
      exact wkT [] (SemK.glue J)
     ·clear h; intro h453 h
      obtain rfl := Option.some.inj h
      refine run_to tmD 4000 [.go true, .go true, .go true, .el (aI .i64 (List.length ([] : List Gnodes_top) : Int)), .go true] rfl (by repeat' first | refine And.intro ?_ ?_ | exact (PureCall.none (nodes_Parts_ok _ _ h450) (Cvs.cons .sc Cvs.nil)) | exact oblA) ?_
      exact wkT [] (SemK.glue J)
end Go.Av.Tryz
