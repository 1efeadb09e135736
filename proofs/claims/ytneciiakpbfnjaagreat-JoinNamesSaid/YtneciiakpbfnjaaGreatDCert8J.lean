/- Printed by decomp.py: that the program computes the functions. -/
import Derived.Test.YtneciiakpbfnjaaGreatDCert0J
import Derived.Test.YtneciiakpbfnjaaGreatDCert5J
import Derived.Test.YtneciiakpbfnjaaGreatDCert7J
set_option linter.all false
set_option linter.unusedVariables false
namespace Go.Av.Tryz
open Go.Proofs Go.D
set_option maxRecDepth 10000
set_option maxHeartbeats 4000000

theorem accums_Join_ok (a0 : GAccum) (a1 : GAccum) (r : GAccum × Int) (h : accums_Join a0 a1 = some r) : Pure Tryz.prog 124 [(enc_GAccum a0), (enc_GAccum a1)] (AV.tup [(enc_GAccum r.1), (aI .i64 r.2)]) := by
 refine Pure.sym tyTab_ok fn124 (nt := 53) rfl rfl ?_ (allCons (free_GAccum _ _).1 (allCons (free_GAccum _ _).1 allNil))
 unfold accums_Join at h
 refine bindE h ?_
 clear h; intro j6_13 h12 h
 refine runT tmD [.stop 1] ?_
 refine SemK.join (s' := ⟨fr [(2, (AV.ptr 0 0 0)), (3, (AV.ptr 1 0 0)), (4, (AV.ptr 2 0 0)), (13, (aB j6_13))], hp ([(0, { es := [(enc_GAccum a0)], esz := 4 }), (1, { es := [(enc_GAccum a1)], esz := 4 }), (2, { es := [(enc_GAccum (GAccum.mk 0 0 0 0))], esz := 4 })]), 3⟩) ?_ (fun J => SemK.cut ?_)
 ·
  refine brE h ?_ ?_
  ·clear h; intro h13 h
   obtain rfl := Option.some.inj h
   refine runT tmD [.br true] ?_
   refine fin_ret rfl ?_
   exact (cv_tup (Cvs.cons (cvf_GAccum (x := (GAccum.mk 0 0 0 0))) (Cvs.cons .sc Cvs.nil)))
  ·clear h; intro h13 h
   refine brE h ?_ ?_
   ·clear h; intro h14 h
    obtain rfl := Option.some.inj h
    refine runT tmD [.br false, .wrap, .br true] ?_
    refine fin_ret rfl ?_
    exact (cv_tup (Cvs.cons (cvf_GAccum (x := (GAccum.mk 0 0 0 0))) (Cvs.cons .sc Cvs.nil)))
   ·clear h; intro h14 h
    refine brE h ?_ ?_
    ·clear h; intro h15 h
     obtain rfl := Option.some.inj h
     refine runT tmD [.br false, .wrap, .br false, .br true] ?_
     refine fin_ret rfl ?_
     exact (cv_tup (Cvs.cons (cvf_GAccum (x := a1)) (Cvs.cons .sc Cvs.nil)))
    ·clear h; intro h15 h
     refine brE h ?_ ?_
     ·clear h; intro h16 h
      obtain rfl := Option.some.inj h
      refine runT tmD [.br false, .wrap, .br false, .br false, .br true] ?_
      refine fin_ret rfl ?_
      exact (cv_tup (Cvs.cons (cvf_GAccum (x := a0)) (Cvs.cons .sc Cvs.nil)))
     ·clear h; intro h16 h
      obtain rfl := Option.some.inj h
      refine runT tmD [.br false, .wrap, .br false, .br false, .br false, .wrap, .wrap] ?_
      refine fin_ret rfl ?_
      exact (cv_tup (Cvs.cons (cvf_GAccum (x := (GAccum.mk (IntKind.i64.wrap (a0.Count + a1.Count)) (IntKind.i64.wrap (a0.Sum + a1.Sum)) (if a1.Min < a0.Min then a1.Min else a0.Min) (if a1.Max > a0.Max then a1.Max else a0.Max)))) (Cvs.cons .sc Cvs.nil)))
 ·
  clear h
  have h := h12
  refine bindE h ?_
  clear h; intro v7 h8 h
  refine brE h ?_ ?_
  ·clear h; intro h9 h
   obtain rfl := Option.some.inj h
   refine run_to tmD 4000 [.pure [(enc_GAccum a0)] (aI .i64 v7), .go false, .go false, .go false] rfl (by repeat' first | refine And.intro ?_ ?_ | exact (PureCall.none (accums_Check_ok _ _ h8) (Cvs.cons (cvf_GAccum (x := a0)) Cvs.nil)) | exact oblA) ?_
   exact wkT [] (SemK.glue J)
  ·clear h; intro h9 h
   refine bindE h ?_
   clear h; intro v10 h11 h
   obtain rfl := Option.some.inj h
   refine run_to tmD 4000 [.pure [(enc_GAccum a0)] (aI .i64 v7), .go true, .go true, .pure [(enc_GAccum a1)] (aI .i64 v10), .go true] rfl (by repeat' first | refine And.intro ?_ ?_ | exact (PureCall.none (accums_Check_ok _ _ h8) (Cvs.cons (cvf_GAccum (x := a0)) Cvs.nil)) | exact (PureCall.none (accums_Check_ok _ _ h11) (Cvs.cons (cvf_GAccum (x := a1)) Cvs.nil)) | exact oblA) ?_
   exact wkT [] (SemK.glue J)

theorem store_Add_L0_ok {Q : AExit → St → Mu → Prop} {μ : Mu} (y0_91 : (List GSpan)) (hl : List.length y0_91 ≤ 140737488355328) : ∀ (xs : List GSpan) (k : Nat) (hx : y0_91.drop k = xs) (y0_o0 : GEntry) (y0_o1 : (List GEntry)) (nb_y0_o1 : Nb y0_o1) (o : store_Add_L0_o) (h : store_Add_L0 y0_91 xs k y0_o0 y0_o1 = some o)
  (C0 : ∀ (z0_0_o0 : (List GEntry)) (nb_z0_0_o0 : Nb z0_0_o0), o = store_Add_L0_o.x0 z0_0_o0 → SemK Tryz.prog 112 0 Q (.exit (.exit 0)) [] ⟨fr [(13, (slE nb_z0_0_o0.1 0 (List.map enc_GEntry z0_0_o0)))], hp ([] ++ opE nb_z0_0_o0.1 0 11 (List.map enc_GEntry z0_0_o0)), 1⟩ μ)
  (C1 : ∀ (z0_1_o0 : (List GEntry)) (z0_1_9 : Int) (nb_z0_1_o0 : Nb z0_1_o0), o = store_Add_L0_o.x1 z0_1_o0 z0_1_9 → SemK Tryz.prog 112 0 Q (.exit .ret) [] ⟨fr [(8, (slE nb_z0_1_o0.1 0 (List.map enc_GEntry z0_1_o0))), (9, (aI .i64 z0_1_9))], hp ([] ++ opE nb_z0_1_o0.1 0 11 (List.map enc_GEntry z0_1_o0)), 1⟩ μ),
  SemK Tryz.prog 112 0 Q (.loop (loopB 0 (bodyOf Tryz.f29))) [] ⟨fr [(12, (AV.ptr 0 0 0)), (13, (slE nb_y0_o1.1 1 (List.map enc_GEntry y0_o1))), (91, (AV.list true (List.map enc_GSpan y0_91))), (92, (aI .i64 (List.length y0_91 : Int))), (93, (aI .i64 (k : Int)))], hp ([(0, { es := [(enc_GEntry y0_o0)], esz := 11 })] ++ opE nb_y0_o1.1 1 11 (List.map enc_GEntry y0_o1)), 2⟩ μ := by
 intro xs
 induction xs with
 | nil =>
  intro k hx y0_o0 y0_o1 nb_y0_o1 o h C0 C1
  have hk := drop_nil hx
  have hc : decide ((k : Int) < (List.length y0_91 : Int)) = false := decide_eq_false (by omega)
  rw [store_Add_L0] at h
  rcases nb_y0_o1 with ⟨_ | _, hn_y0_o1⟩
  ·
   refine SemK.round ?_
   obtain rfl := Option.some.inj h
   refine runT tmD [.br false] ?_
   exact wkT [(0, 1)] (C0 _  nbF rfl)
  ·
   obtain rfl := hn_y0_o1 rfl
   refine SemK.round ?_
   obtain rfl := Option.some.inj h
   refine runT tmD [.br false] ?_
   exact wkT [] (C0 _  (nbT (by first | rfl | simp [*])) rfl)
 | cons x xs ih =>
  intro k hx y0_o0 y0_o1 nb_y0_o1 o h C0 C1
  obtain ⟨hk, hg, hx1⟩ := drop_cons hx
  have hc : decide ((k : Int) < (List.length y0_91 : Int)) = true := decide_eq_true (by omega)
  rw [store_Add_L0] at h
  rcases nb_y0_o1 with ⟨_ | _, hn_y0_o1⟩
  ·
   refine SemK.round ?_
   refine bindE h ?_
   clear h; intro w364 h411 h
   obtain ⟨j364_o0, j364_o1, j364_101_1⟩ := w364
   try dsimp only at h
   refine runT tmD [.br true, .el (enc_GSpan x)] ?_
   refine SemK.joinOpF (fun (q : Nb j364_o1) => ⟨fr [(12, (AV.ptr 0 0 0)), (91, (AV.list true (List.map enc_GSpan y0_91))), (92, (aI .i64 (List.length y0_91 : Int))), (93, (aI .i64 (k : Int))), (101, (AV.tup [(slE q.1 1 (List.map enc_GEntry j364_o1)), (aI .i64 j364_101_1)]))], hp ([(0, { es := [(enc_GEntry j364_o0)], esz := 11 })] ++ opE q.1 1 11 (List.map enc_GEntry j364_o1)), 2⟩) ?_ (fun J => ?_)
   ·
    rintro nb_j364_o1
    rcases nb_j364_o1 with ⟨_ | _, hn_j364_o1⟩
    ·
     refine brE h ?_ ?_
     ·clear h; intro h412 h
      obtain rfl := Option.some.inj h
      refine runT tmD [.br true] ?_
      exact wkT [] (C1 _ _  (nbT (by first | rfl | simp [*])) rfl)
     ·clear h; intro h412 h
      refine runT tmD [.br false] ?_
      exact wkT [] (ih (k + 1) hx1 _ _ nbF o h C0 C1)
    ·
     obtain rfl := hn_j364_o1 rfl
     refine brE h ?_ ?_
     ·clear h; intro h413 h
      obtain rfl := Option.some.inj h
      refine runT tmD [.br true] ?_
      exact wkT [] (C1 _ _  (nbT (by first | rfl | simp [*])) rfl)
     ·clear h; intro h413 h
      refine runT tmD [.br false] ?_
      exact wkT [] (ih (k + 1) hx1 _ _ (nbT (by first | rfl | simp [*])) o h C0 C1)
   ·
    clear h
    have h := h411
    refine SemK.inline tyTab_ok fn57 rfl rfl rfl rfl rfl trivial trivial rfl rfl ?_
    refine bindE h ?_
    clear h; intro v365 h366 h
    refine run_to tmD 4000 [.pure [(AV.list false (List.map enc_GEntry y0_o1)), (enc_GEntry (GEntry.mk y0_o0.Key x y0_o0.Values)), (AV.fn 83 [])] (AV.tup [(aI .i64 v365.1), (aB v365.2)])] rfl (by repeat' first | refine And.intro ?_ ?_ | exact (PureCall.lent (slices_BinarySearchFunc_Entry_Entry_Entry_store_order_ok _ _ _ h366) (Cvs.cons (cv_ref (es := List.map enc_GEntry y0_o1) rfl (by first | rfl | (simp; done) | (simp; rfl) | (simp [hc]; done) | (simp [hc]; rfl) | (simp [hc, List.map_take, List.map_drop]; done) | (simp [hc, List.map_take, List.map_drop]; rfl)) (by first | rfl | (simp; done) | (simp; omega) | (simp [hc]; done) | (simp [hc]; omega)) (flat_map flat_GEntry y0_o1)) (Cvs.cons (cvf_GEntry (x := (GEntry.mk y0_o0.Key x y0_o0.Values))) (Cvs.cons .fn0 Cvs.nil))) (ownTup (allCons .sc (allCons .sc allNil)))) | exact oblA) ?_
    refine brE h ?_ ?_
    ·clear h; intro h367 h
     refine brE h ?_ ?_
     ·clear h; intro h368 h
      refine bindE h ?_
      clear h; intro _ h384 h
      refine runT tmD [.br true] ?_
      refine SemK.joinOp (s' := ⟨fr [(21, (AV.ref 2 0 (List.length (y0_o1 ++ [(GEntry.mk y0_o0.Key x y0_o0.Values)]))))], hp ([(0, { es := [(enc_GEntry (GEntry.mk y0_o0.Key x y0_o0.Values))], esz := 11 }), (2, { es := List.map enc_GEntry (y0_o1 ++ [(GEntry.mk y0_o0.Key x y0_o0.Values)]), esz := 11 })]), 3⟩) ?_ (fun J => ?_)
      ·
       simp only [Option.some.injEq, Prod.mk.injEq] at h
       obtain ⟨rfl, rfl, rfl⟩ := h
       refine runT tmD [] ?_
       refine SemK.back (by intro id h; cases h) rfl ?_
       exact wkT [(1, 2)] ((J nbF))
      ·
       clear h
       have h := h384
       refine SemK.inline tyTab_ok fn95 rfl rfl rfl rfl rfl trivial trivial rfl rfl ?_
       refine bindE h ?_
       clear h; intro m377 h378 h
       obtain ⟨qah378, qbh378, qch378, qh378⟩ := sliceI_ok h378
       have qlh378 := sliceI_len h378
       refine brE h ?_ ?_
       ·clear h; intro h379 h
        refine bindE h ?_
        clear h; intro u380 h381 h
        refine run_to tmD 4000 [.ne false, .br false, .el (aI .i64 (List.length y0_o1 : Int)), .br true, .no] rfl (by repeat' first | refine And.intro ?_ ?_ | (simp at qah378 qbh378 qch378 ⊢; omega) | (simp at qah378 qbh378 qch378 qlh378 ⊢; have qz := part_zero h379; omega) | (refine capLe h381 rfl ?_; first | (simp; done) | (simp; omega) | (simp [hc, h367, h368, h379]; done) | (simp [hc, h367, h368, h379]; omega)) | (refine capMax h381 (by decide) ?_; first | (simp; done) | (simp; omega) | (simp [hc, h367, h368, h379]; done) | (simp [hc, h367, h368, h379]; omega)) | exact oblA) ?_
        refine SemK.back (by intro id h; cases h) rfl ?_
        exact wkT [(2, 4)] (J)
       ·clear h; intro h379 h
        refine bindE h ?_
        clear h; intro u382 h383 h
        refine run_to tmD 4000 [.via (.ref 1 (Int.toNat v365.1) (List.length m377)), .br false, .el (aI .i64 (List.length y0_o1 : Int)), .br true, .no] rfl (by repeat' first | refine And.intro ?_ ?_ | (simp at qah378 qbh378 qch378 ⊢; omega) | (simp at qah378 qbh378 qch378 qlh378 ⊢; have qz := part_pos h379; omega) | (simp at qah378 qbh378 qch378 qlh378 ⊢; omega) | (simp; done) | (refine capLe h383 rfl ?_; first | (simp; done) | (simp; omega) | (simp [hc, h367, h368, h379]; done) | (simp [hc, h367, h368, h379]; omega)) | (refine capMax h383 (by decide) ?_; first | (simp; done) | (simp; omega) | (simp [hc, h367, h368, h379]; done) | (simp [hc, h367, h368, h379]; omega)) | exact oblA) ?_
        refine SemK.back (by intro id h; cases h) rfl ?_
        exact wkT [(2, 4)] (J)
     ·clear h; intro h368 h
      refine bindE h ?_
      clear h; intro m385 h386 h
      refine runT tmD [.br true] ?_
      refine SemK.hcall rfl rfl rfl rfl rfl trivial trivial (insert_z ⟨_, _, fn95⟩ (f := enc_GEntry) (l := y0_o1) (x := (GEntry.mk y0_o0.Key x y0_o0.Values)) h386 rfl rfl rfl (by first | rfl | simp)) ?_
      simp only [Option.some.injEq, Prod.mk.injEq] at h
      obtain ⟨rfl, rfl, rfl⟩ := h
      refine runT tmD [] ?_
      refine SemK.back (by intro id h; cases h) rfl ?_
      exact wkT [(1, 4)] ((J nbF))
    ·clear h; intro h367 h
     refine runT tmD [.br false, .stop 4] ?_
     refine bindE h ?_
     clear h; intro e387 h388 h
     try have qh388 := getI_lt h388
     refine SemK.drawnCut 5 tmD [.el (enc_GEntry e387)] rfl rfl rfl rfl rfl (by repeat' first | refine And.intro ?_ ?_ | exact oblA) ?_
     refine bindE h ?_
     clear h; intro w399 h410 h
     obtain ⟨j399_o2, j399_27⟩ := w399
     try dsimp only at h
     refine runT tmD [] ?_
     refine SemK.joinOpF (fun (q : Nb j399_o2) => ⟨fr [(0, (slE q.1 2 (List.map enc_GEntry j399_o2))), (27, (aI .i64 j399_27))], hp ([(0, { es := [(enc_GEntry (GEntry.mk y0_o0.Key x y0_o0.Values))], esz := 11 })] ++ opE q.1 2 11 (List.map enc_GEntry j399_o2)), 3⟩) ?_ (fun J => ?_)
     ·
      rintro nb_j399_o2
      rcases nb_j399_o2 with ⟨_ | _, hn_j399_o2⟩
      ·
       simp only [Option.some.injEq, Prod.mk.injEq] at h
       obtain ⟨rfl, rfl, rfl⟩ := h
       refine runT tmD [] ?_
       refine SemK.back (by intro id h; cases h) rfl ?_
       exact wkT [(1, 2)] ((J nbF))
      ·
       obtain rfl := hn_j399_o2 rfl
       simp only [Option.some.injEq, Prod.mk.injEq] at h
       obtain ⟨rfl, rfl, rfl⟩ := h
       refine runT tmD [] ?_
       refine SemK.back (by intro id h; cases h) rfl ?_
       exact wkT [] ((J (nbT (by first | rfl | simp [*]))))
     ·
      clear h
      have h := h410
      refine SemK.inline tyTab_ok fn90 rfl rfl rfl rfl rfl trivial trivial rfl rfl ?_
      refine runT tmD [] ?_
      refine SemK.round ?_
      refine bindE h ?_
      clear h; intro v402 h403 h
      refine run_to tmD 4000 [.br true, .ix 0, .ix 0, .ld (enc_GEntry e387), .pure [(enc_GAccum e387.Values.e0), (enc_GAccum y0_o0.Values.e0)] (AV.tup [(enc_GAccum v402.1), (aI .i64 v402.2)])] rfl (by repeat' first | refine And.intro ?_ ?_ | exact (PureCall.none (accums_Join_ok _ _ _ h403) (Cvs.cons (cvf_GAccum (x := e387.Values.e0)) (Cvs.cons (cvf_GAccum (x := y0_o0.Values.e0)) Cvs.nil))) | exact oblA) ?_
      refine brE h ?_ ?_
      ·clear h; intro h404 h
       simp only [Option.some.injEq, Prod.mk.injEq] at h
       obtain ⟨rfl, rfl⟩ := h
       refine runT tmD [.br true] ?_
       refine SemK.back (by intro id h; cases h) rfl ?_
       exact wkT [(2, 1)] ((J nbF))
      ·clear h; intro h404 h
       refine run_to tmD 4000 [.br false, .ix 0, .ld (enc_GEntry e387)] rfl (by repeat' first | refine And.intro ?_ ?_ | exact (List.getElem?_set_self (by have hq := getI_nat h388; simp; omega)).trans rfl | exact oblA) ?_
       refine SemK.round ?_
       refine bindE h ?_
       clear h; intro v407 h408 h
       refine run_to tmD 4000 [.br true, .ix 1, .ix 1, .ld (enc_GEntry (GEntry.mk e387.Key e387.Span (V2.mk v402.1 e387.Values.e1))), .pure [(enc_GAccum (((GEntry.mk e387.Key e387.Span (V2.mk v402.1 e387.Values.e1)).Values).e1)), (enc_GAccum y0_o0.Values.e1)] (AV.tup [(enc_GAccum v407.1), (aI .i64 v407.2)])] rfl (by repeat' first | refine And.intro ?_ ?_ | exact (List.getElem?_set_self (by have hq := getI_nat h388; simp; omega)).trans rfl | exact (PureCall.none (accums_Join_ok _ _ _ h408) (Cvs.cons (cvf_GAccum (x := ((GEntry.mk e387.Key e387.Span (V2.mk v402.1 e387.Values.e1)).Values).e1)) (Cvs.cons (cvf_GAccum (x := y0_o0.Values.e1)) Cvs.nil))) | exact oblA) ?_
       refine brE h ?_ ?_
       ·clear h; intro h409 h
        simp only [Option.some.injEq, Prod.mk.injEq] at h
        obtain ⟨rfl, rfl⟩ := h
        refine run_to tmD 4000 [.br true] rfl (by repeat' first | refine And.intro ?_ ?_ | exact (List.getElem?_set_self (by have hq := getI_nat h388; simp; omega)).trans rfl | exact oblA) ?_
        refine SemK.back (by intro id h; cases h) rfl ?_
        exact wkT [(2, 1)] ((J nbF))
       ·clear h; intro h409 h
        refine run_to tmD 4000 [.br false, .ix 1, .ld (enc_GEntry (GEntry.mk e387.Key e387.Span (V2.mk v402.1 e387.Values.e1)))] rfl (by repeat' first | refine And.intro ?_ ?_ | exact (List.getElem?_set_self (by have hq := getI_nat h388; simp; omega)).trans rfl | exact oblA) ?_
        refine SemK.round ?_
        simp only [Option.some.injEq, Prod.mk.injEq] at h
        obtain ⟨rfl, rfl⟩ := h
        refine run_to tmD 4000 [.br false] rfl (by repeat' first | refine And.intro ?_ ?_ | exact (List.getElem?_set_self (by have hq := getI_nat h388; simp; omega)).trans rfl | exact oblA) ?_
        refine SemK.back (by intro id h; cases h) rfl ?_
        exact wkT [(2, 1)] ((J nbF))
  ·
   obtain rfl := hn_y0_o1 rfl
   refine SemK.round ?_
   refine bindE h ?_
   clear h; intro w434 h455 h
   obtain ⟨j434_o0, j434_o1, j434_101_1⟩ := w434
   try dsimp only at h
   refine runT tmD [.br true, .el (enc_GSpan x)] ?_
   refine SemK.joinOpF (fun (q : Nb j434_o1) => ⟨fr [(12, (AV.ptr 0 0 0)), (91, (AV.list true (List.map enc_GSpan y0_91))), (92, (aI .i64 (List.length y0_91 : Int))), (93, (aI .i64 (k : Int))), (101, (AV.tup [(slE q.1 1 (List.map enc_GEntry j434_o1)), (aI .i64 j434_101_1)]))], hp ([(0, { es := [(enc_GEntry j434_o0)], esz := 11 })] ++ opE q.1 1 11 (List.map enc_GEntry j434_o1)), 2⟩) ?_ (fun J => ?_)
   ·
    rintro nb_j434_o1
    rcases nb_j434_o1 with ⟨_ | _, hn_j434_o1⟩
    ·
     refine brE h ?_ ?_
     ·clear h; intro h456 h
      obtain rfl := Option.some.inj h
      refine runT tmD [.br true] ?_
      exact wkT [] (C1 _ _  (nbT (by first | rfl | simp [*])) rfl)
     ·clear h; intro h456 h
      refine runT tmD [.br false] ?_
      exact wkT [] (ih (k + 1) hx1 _ _ nbF o h C0 C1)
    ·
     obtain rfl := hn_j434_o1 rfl
     refine brE h ?_ ?_
     ·clear h; intro h457 h
      obtain rfl := Option.some.inj h
      refine runT tmD [.br true] ?_
      exact wkT [] (C1 _ _  (nbT (by first | rfl | simp [*])) rfl)
     ·clear h; intro h457 h
      refine runT tmD [.br false] ?_
      exact wkT [] (ih (k + 1) hx1 _ _ (nbT (by first | rfl | simp [*])) o h C0 C1)
   ·
    clear h
    have h := h455
    refine SemK.inline tyTab_ok fn57 rfl rfl rfl rfl rfl trivial trivial rfl rfl ?_
    refine bindE h ?_
    clear h; intro v435 h436 h
    refine run_to tmD 4000 [.pure [(AV.list false (List.map enc_GEntry ([] : List GEntry))), (enc_GEntry (GEntry.mk y0_o0.Key x y0_o0.Values)), (AV.fn 83 [])] (AV.tup [(aI .i64 v435.1), (aB v435.2)])] rfl (by repeat' first | refine And.intro ?_ ?_ | exact (PureCall.none (slices_BinarySearchFunc_Entry_Entry_Entry_store_order_ok _ _ _ h436) (Cvs.cons (cv_nils (es := List.map enc_GEntry ([] : List GEntry)) (by simp [*])) (Cvs.cons (cvf_GEntry (x := (GEntry.mk y0_o0.Key x y0_o0.Values))) (Cvs.cons .fn0 Cvs.nil)))) | exact oblA) ?_
    refine brE h ?_ ?_
    ·clear h; intro h437 h
     refine brE h ?_ ?_
     ·clear h; intro h438 h
      refine bindE h ?_
      clear h; intro _ h450 h
      refine runT tmD [.br true] ?_
      refine SemK.joinOp (s' := ⟨fr [(21, (AV.ref 2 0 (List.length (([] : List GEntry) ++ [(GEntry.mk y0_o0.Key x y0_o0.Values)]))))], hp ([(0, { es := [(enc_GEntry (GEntry.mk y0_o0.Key x y0_o0.Values))], esz := 11 }), (2, { es := List.map enc_GEntry (([] : List GEntry) ++ [(GEntry.mk y0_o0.Key x y0_o0.Values)]), esz := 11 })]), 3⟩) ?_ (fun J => ?_)
      ·
       simp only [Option.some.injEq, Prod.mk.injEq] at h
       obtain ⟨rfl, rfl, rfl⟩ := h
       refine runT tmD [] ?_
       refine SemK.back (by intro id h; cases h) rfl ?_
       exact wkT [(1, 2)] ((J nbF))
      ·
       clear h
       have h := h450
       refine SemK.inline tyTab_ok fn95 rfl rfl rfl rfl rfl trivial trivial rfl rfl ?_
       refine bindE h ?_
       clear h; intro m445 h446 h
       obtain ⟨qah446, qbh446, qch446, qh446⟩ := sliceI_ok h446
       obtain rfl := sliceI_nil h446
       refine brE h ?_ ?_
       ·clear h; intro h447 h
        refine bindE h ?_
        clear h; intro u448 h449 h
        refine run_to tmD 4000 [.br false, .el (aI .i64 (List.length ([] : List GEntry) : Int)), .br true, .no] rfl (by repeat' first | refine And.intro ?_ ?_ | (simp at qah446 qbh446 qch446 ⊢; omega) | (refine capLe h449 rfl ?_; first | (simp; done) | (simp; omega) | (simp [hc, h437, h438, h447]; done) | (simp [hc, h437, h438, h447]; omega)) | (refine capMax h449 (by decide) ?_; first | (simp; done) | (simp; omega) | (simp [hc, h437, h438, h447]; done) | (simp [hc, h437, h438, h447]; omega)) | exact oblA) ?_
        refine SemK.back (by intro id h; cases h) rfl ?_
        exact wkT [(2, 4)] (J)
       ·clear h; intro h447 h
        exact absurd h447 (by simp)
     ·clear h; intro h438 h
      refine bindE h ?_
      clear h; intro m451 h452 h
      exact absurd h452 (by simp [insI])
    ·clear h; intro h437 h
     refine runT tmD [.br false, .stop 4] ?_
     refine bindE h ?_
     clear h; intro e453 h454 h
     try have qh454 := getI_lt h454
     exact absurd (h454) (by simp [getI])
end Go.Av.Tryz
