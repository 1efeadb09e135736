/- Printed by decomp.py: that the program computes the functions. -/
import Derived.Test.YtfdfgobnpnoomaaGreatDCert12Z
set_option linter.all false
set_option linter.unusedVariables false
namespace Go.Av.Tryz
open Go.Proofs Go.D
set_option maxRecDepth 10000
set_option maxHeartbeats 4000000

theorem accums_Value_ok (a0 : Int) (a1 : GAccum) (r : Int × Int) (h : accums_Value a0 a1 = some r) : Pure Tryz.prog 85 [(aI .u8 a0), (enc_GAccum a1)] (AV.tup [(aI .i64 r.1), (aI .i64 r.2)]) := by
 refine Pure.sym tyTab_ok fn85 (nt := 34) rfl rfl ?_ (allCons .sc (allCons (free_GAccum _ _).1 allNil))
 unfold accums_Value at h
 refine brE h ?_ ?_
 ·clear h; intro h1 h
  obtain rfl := Option.some.inj h
  refine runT tmD [.br true] ?_
  refine fin_ret rfl ?_
  exact (cv_tup (Cvs.cons .sc (Cvs.cons .sc Cvs.nil)))
 ·clear h; intro h1 h
  refine bindE h ?_
  clear h; intro v2 h3 h
  refine brE h ?_ ?_
  ·clear h; intro h4 h
   obtain rfl := Option.some.inj h
   refine run_to tmD 4000 [.br false, .pure [(enc_GAccum a1)] (aI .i64 v2), .br true] rfl (by repeat' first | refine And.intro ?_ ?_ | exact (PureCall.none (accums_Check_ok _ _ h3) (Cvs.cons (cvf_GAccum (x := a1)) Cvs.nil)) | exact oblA) ?_
   refine fin_ret rfl ?_
   exact (cv_tup (Cvs.cons .sc (Cvs.cons .sc Cvs.nil)))
  ·clear h; intro h4 h
   refine brE h ?_ ?_
   ·clear h; intro h5 h
    obtain rfl := Option.some.inj h
    refine run_to tmD 4000 [.br false, .pure [(enc_GAccum a1)] (aI .i64 v2), .br false, .br true] rfl (by repeat' first | refine And.intro ?_ ?_ | exact (PureCall.none (accums_Check_ok _ _ h3) (Cvs.cons (cvf_GAccum (x := a1)) Cvs.nil)) | exact oblA) ?_
    refine fin_ret rfl ?_
    exact (cv_tup (Cvs.cons .sc (Cvs.cons .sc Cvs.nil)))
   ·clear h; intro h5 h
    refine bindE h ?_
    clear h; intro j11_4 h17 h
    refine run_to tmD 4000 [.br false, .pure [(enc_GAccum a1)] (aI .i64 v2), .br false, .br false, .stop 9] rfl (by repeat' first | refine And.intro ?_ ?_ | exact (PureCall.none (accums_Check_ok _ _ h3) (Cvs.cons (cvf_GAccum (x := a1)) Cvs.nil)) | exact oblA) ?_
    refine SemK.join (s' := ⟨fr [(4, (aI .i64 j11_4)), (5, (aI .i64 0))], hp ([]), 0⟩) ?_ (fun J => SemK.cut ?_)
    ·
     obtain rfl := Option.some.inj h
     refine runT tmD [] ?_
     refine fin_ret rfl ?_
     exact (cv_tup (Cvs.cons .sc (Cvs.cons .sc Cvs.nil)))
    ·
     clear h
     have h := h17
     refine brE h ?_ ?_
     ·clear h; intro h12 h
      obtain rfl := Option.some.inj h
      refine run_to tmD 4000 [.ix 0] rfl (by repeat' first | refine And.intro ?_ ?_ | exact (PureCall.none (accums_Check_ok _ _ h3) (Cvs.cons (cvf_GAccum (x := a1)) Cvs.nil)) | exact ((eq_of_beq h12)) | exact oblA) ?_
      exact wkT [] (SemK.glue J)
     ·clear h; intro h12 h
      refine brE h ?_ ?_
      ·clear h; intro h13 h
       obtain rfl := Option.some.inj h
       refine run_to tmD 4000 [.ix 1] rfl (by repeat' first | refine And.intro ?_ ?_ | exact (PureCall.none (accums_Check_ok _ _ h3) (Cvs.cons (cvf_GAccum (x := a1)) Cvs.nil)) | exact ((eq_of_beq h13)) | exact oblA) ?_
       exact wkT [] (SemK.glue J)
      ·clear h; intro h13 h
       refine brE h ?_ ?_
       ·clear h; intro h14 h
        obtain rfl := Option.some.inj h
        refine run_to tmD 4000 [.ix 2] rfl (by repeat' first | refine And.intro ?_ ?_ | exact (PureCall.none (accums_Check_ok _ _ h3) (Cvs.cons (cvf_GAccum (x := a1)) Cvs.nil)) | exact ((eq_of_beq h14)) | exact oblA) ?_
        exact wkT [] (SemK.glue J)
       ·clear h; intro h14 h
        refine brE h ?_ ?_
        ·clear h; intro h15 h
         obtain rfl := Option.some.inj h
         refine run_to tmD 4000 [.ix 3] rfl (by repeat' first | refine And.intro ?_ ?_ | exact (PureCall.none (accums_Check_ok _ _ h3) (Cvs.cons (cvf_GAccum (x := a1)) Cvs.nil)) | exact ((eq_of_beq h15)) | exact oblA) ?_
         exact wkT [] (SemK.glue J)
        ·clear h; intro h15 h
         refine brE h ?_ ?_
         ·clear h; intro h16 h
          obtain rfl := Option.some.inj h
          refine run_to tmD 4000 [.ix 4] rfl (by repeat' first | refine And.intro ?_ ?_ | exact (PureCall.none (accums_Check_ok _ _ h3) (Cvs.cons (cvf_GAccum (x := a1)) Cvs.nil)) | exact ((eq_of_beq h16)) | exact oblA) ?_
          exact wkT [] (SemK.glue J)
         ·clear h; intro h16 h
          cases h

theorem meaning_row_ok (a0 : GQuery) (a1 : GEntry) (r : GRow × Bool) (h : meaning_row a0 a1 = some r) : Pure Tryz.prog 52 [(enc_GQuery false a0), (enc_GEntry a1)] (AV.tup [(enc_GRow r.1), (aB r.2)]) := by
 refine Pure.sym tyTab_ok fn52 (nt := 44) rfl rfl ?_ (allCons (free_GQuery false _ _).1 (allCons (free_GEntry _ _).1 allNil))
 unfold meaning_row at h
 refine runT tmD [] ?_
 refine SemK.round ?_
 refine bindE h ?_
 clear h; intro v3 h4 h
 refine run_to tmD 4000 [.br true, .go false, .go false, .go false, .br false, .ix 0, .pure [(aI .u8 a0.Agg), (enc_GAccum a1.Values.e0)] (AV.tup [(aI .i64 v3.1), (aI .i64 v3.2)])] rfl (by repeat' first | refine And.intro ?_ ?_ | exact (PureCall.none (accums_Value_ok _ _ _ h4) (Cvs.cons .sc (Cvs.cons (cvf_GAccum (x := a1.Values.e0)) Cvs.nil))) | exact oblA) ?_
 refine brE h ?_ ?_
 ·clear h; intro h5 h
  obtain rfl := Option.some.inj h
  refine runT tmD [.br true] ?_
  refine fin_ret rfl ?_
  exact (cv_tup (Cvs.cons (cvf_GRow (x := (GRow.mk 0 (GSpan.mk 0 0) (V2.mk 0 0)))) (Cvs.cons .sc Cvs.nil)))
 ·clear h; intro h5 h
  refine runT tmD [.br false, .ix 0] ?_
  refine SemK.round ?_
  refine brE h ?_ ?_
  ·clear h; intro h6 h
   obtain rfl := Option.some.inj h
   refine runT tmD [.br true, .go true, .go true, .go true, .br true] ?_
   refine fin_ret rfl ?_
   exact (cv_tup (Cvs.cons (cvf_GRow (x := (GRow.mk a1.Key a1.Span (V2.mk v3.1 0)))) (Cvs.cons .sc Cvs.nil)))
  ·clear h; intro h6 h
   refine bindE h ?_
   clear h; intro v9 h10 h
   refine run_to tmD 4000 [.br true, .go true, .go true, .go true, .br false, .ix 1, .pure [(aI .u8 a0.Agg), (enc_GAccum a1.Values.e1)] (AV.tup [(aI .i64 v9.1), (aI .i64 v9.2)])] rfl (by repeat' first | refine And.intro ?_ ?_ | exact (PureCall.none (accums_Value_ok _ _ _ h10) (Cvs.cons .sc (Cvs.cons (cvf_GAccum (x := a1.Values.e1)) Cvs.nil))) | exact oblA) ?_
   refine brE h ?_ ?_
   ·clear h; intro h11 h
    obtain rfl := Option.some.inj h
    refine runT tmD [.br true] ?_
    refine fin_ret rfl ?_
    exact (cv_tup (Cvs.cons (cvf_GRow (x := (GRow.mk 0 (GSpan.mk 0 0) (V2.mk 0 0)))) (Cvs.cons .sc Cvs.nil)))
   ·clear h; intro h11 h
    refine runT tmD [.br false, .ix 1] ?_
    refine SemK.round ?_
    obtain rfl := Option.some.inj h
    refine runT tmD [.br false] ?_
    refine fin_ret rfl ?_
    exact (cv_tup (Cvs.cons (cvf_GRow (x := (GRow.mk a1.Key a1.Span (V2.mk v3.1 v9.1)))) (Cvs.cons .sc Cvs.nil)))

theorem meaning_All_L1_ok {Q : AExit → St → Mu → Prop} {μ : Mu} (y1_o0 : GQuery) (y1_o1 : (List GRecord)) (y1_12 : Int) (y1_46 : (List (List GEvent))) (y1_47 : Int) (y1_48 : Int) (y1_65 : (List GRecord)) (nb_y1_o1 : Nb y1_o1) (hl : List.length y1_65 ≤ 140737488355328) : ∀ (xs : List GRecord) (k : Nat) (hx : y1_65.drop k = xs) (y1_10 : (List GEntry)) (o : meaning_All_L1_o) (h : meaning_All_L1 y1_o0 y1_o1 y1_12 y1_46 y1_47 y1_48 y1_65 xs k y1_10 = some o)
  (C0 : ∀ (z1_0_10 : (List GEntry)) (z1_0_o1 : (List GRecord)) (nb_z1_0_o1 : Nb z1_0_o1), o = meaning_All_L1_o.x0 z1_0_10 z1_0_o1 → SemK Tryz.prog 119 0 Q (.exit (.exit 2)) [] ⟨fr [(2, (AV.ptr 0 0 0)), (10, (AV.list true (List.map enc_GEntry z1_0_10))), (11, (slE nb_z1_0_o1.1 1 (List.map enc_GRecord z1_0_o1))), (46, (AV.list false (List.map (encl false enc_GEvent) y1_46))), (47, (aI .i64 y1_47)), (48, (aI .i64 y1_48))], hp ([(0, { es := [(enc_GQuery false y1_o0)], esz := 10 })] ++ opE nb_z1_0_o1.1 1 3 (List.map enc_GRecord z1_0_o1)), 2⟩ μ)
  (C1 : ∀ (z1_1_o0 : (List GRow)) (z1_1_o1 : (List GRecord)) (z1_1_6 : Int) (nb_z1_1_o0 : Nb z1_1_o0) (nb_z1_1_o1 : Nb z1_1_o1), o = meaning_All_L1_o.x1 z1_1_o0 z1_1_o1 z1_1_6 → SemK Tryz.prog 119 0 Q (.exit .ret) [] ⟨fr [(4, (slE nb_z1_1_o0.1 0 (List.map enc_GRow z1_1_o0))), (5, (slE nb_z1_1_o1.1 1 (List.map enc_GRecord z1_1_o1))), (6, (aI .i64 z1_1_6))], hp ([] ++ opE nb_z1_1_o0.1 0 5 (List.map enc_GRow z1_1_o0) ++ opE nb_z1_1_o1.1 1 3 (List.map enc_GRecord z1_1_o1)), 2⟩ μ),
  SemK Tryz.prog 119 0 Q (.loop (loopB 1 (bodyOf Tryz.f19))) [] ⟨fr [(2, (AV.ptr 0 0 0)), (10, (AV.list true (List.map enc_GEntry y1_10))), (11, (slE nb_y1_o1.1 1 (List.map enc_GRecord y1_o1))), (12, (aI .i64 y1_12)), (46, (AV.list false (List.map (encl false enc_GEvent) y1_46))), (47, (aI .i64 y1_47)), (48, (aI .i64 y1_48)), (65, (AV.list true (List.map enc_GRecord y1_65))), (66, (aI .i64 (List.length y1_65 : Int))), (67, (aI .i64 (k : Int)))], hp ([(0, { es := [(enc_GQuery false y1_o0)], esz := 10 })] ++ opE nb_y1_o1.1 1 3 (List.map enc_GRecord y1_o1)), 2⟩ μ := by
 intro xs
 induction xs with
 | nil =>
  intro k hx y1_10 o h C0 C1
  have hk := drop_nil hx
  have hc : decide ((k : Int) < (List.length y1_65 : Int)) = false := decide_eq_false (by omega)
  rw [meaning_All_L1] at h
  rcases nb_y1_o1 with ⟨_ | _, hn_y1_o1⟩
  ·
   refine SemK.round ?_
   obtain rfl := Option.some.inj h
   refine runT tmD [.br false] ?_
   exact wkT [] (C0 _ _  nbF rfl)
  ·
   obtain rfl := hn_y1_o1 rfl
   refine SemK.round ?_
   obtain rfl := Option.some.inj h
   refine runT tmD [.br false] ?_
   exact wkT [] (C0 _ _  (nbT (by first | rfl | simp [*])) rfl)
 | cons x xs ih =>
  intro k hx y1_10 o h C0 C1
  obtain ⟨hk, hg, hx1⟩ := drop_cons hx
  have hc : decide ((k : Int) < (List.length y1_65 : Int)) = true := decide_eq_true (by omega)
  rw [meaning_All_L1] at h
  rcases nb_y1_o1 with ⟨_ | _, hn_y1_o1⟩
  ·
   refine SemK.round ?_
   refine bindE h ?_
   clear h; intro v482 h483 h
   refine brE h ?_ ?_
   ·clear h; intro h484 h
    refine run_to tmD 4000 [.br true, .el (enc_GRecord x), .pure [(enc_GQuery false y1_o0), (enc_GRecord x)] (AV.tup [(enc_GRecord v482.1), (aB v482.2)]), .br true] rfl (by repeat' first | refine And.intro ?_ ?_ | exact (PureCall.none (meaning_counts_ok _ _ _ h483) (Cvs.cons (cv_agg (Cvs.cons .sc (Cvs.cons (cv_list (flat_map flat_GNode y1_o0.Arg)) (Cvs.cons (cv_list (flat_map (fun _ => flatSc) y1_o0.Sources)) (Cvs.cons .sc (Cvs.cons (cv_list (flat_map flat_GNode y1_o0.Where)) (Cvs.cons .sc (Cvs.cons .sc (Cvs.cons .sc (Cvs.cons .sc (Cvs.cons .sc Cvs.nil))))))))))) (Cvs.cons (cvf_GRecord (x := x)) Cvs.nil))) | exact oblA) ?_
    exact wkT [] (ih (k + 1) hx1 _ o h C0 C1)
   ·clear h; intro h484 h
    refine bindE h ?_
    clear h; intro j486_21 h488 h
    refine run_to tmD 4000 [.br true, .el (enc_GRecord x), .pure [(enc_GQuery false y1_o0), (enc_GRecord x)] (AV.tup [(enc_GRecord v482.1), (aB v482.2)]), .br false] rfl (by repeat' first | refine And.intro ?_ ?_ | exact (PureCall.none (meaning_counts_ok _ _ _ h483) (Cvs.cons (cv_agg (Cvs.cons .sc (Cvs.cons (cv_list (flat_map flat_GNode y1_o0.Arg)) (Cvs.cons (cv_list (flat_map (fun _ => flatSc) y1_o0.Sources)) (Cvs.cons .sc (Cvs.cons (cv_list (flat_map flat_GNode y1_o0.Where)) (Cvs.cons .sc (Cvs.cons .sc (Cvs.cons .sc (Cvs.cons .sc (Cvs.cons .sc Cvs.nil))))))))))) (Cvs.cons (cvf_GRecord (x := x)) Cvs.nil))) | exact oblA) ?_
    refine SemK.join (s' := ⟨fr [(2, (AV.ptr 0 0 0)), (10, (AV.list true (List.map enc_GEntry y1_10))), (11, (AV.ref 1 0 (List.length y1_o1))), (12, (aI .i64 y1_12)), (19, (AV.ptr 2 0 0)), (21, (aI .i64 j486_21)), (46, (AV.list false (List.map (encl false enc_GEvent) y1_46))), (47, (aI .i64 y1_47)), (48, (aI .i64 y1_48)), (65, (AV.list true (List.map enc_GRecord y1_65))), (66, (aI .i64 (List.length y1_65 : Int))), (67, (aI .i64 (k : Int)))], hp ([(0, { es := [(enc_GQuery false y1_o0)], esz := 10 }), (1, { es := List.map enc_GRecord y1_o1, esz := 3 }), (2, { es := [(enc_GRecord v482.1)], esz := 3 })]), 3⟩) ?_ (fun J => SemK.cut ?_)
    ·
     refine bindE h ?_
     clear h; intro v489 h490 h
     refine run_to tmD 4000 [.pure [(AV.list false (List.map enc_GEntry y1_10)), (enc_GWindow y1_o0.Window), (enc_GRecord v482.1), (aI .i64 j486_21)] (AV.tup [(AV.list true (List.map enc_GEntry v489.1)), (aI .i64 v489.2)])] rfl (by repeat' first | refine And.intro ?_ ?_ | exact (PureCall.none (store_Add_ok _ _ _ _ _ h490) (Cvs.cons (cv_list (flat_map flat_GEntry y1_10)) (Cvs.cons (cvf_GWindow (x := y1_o0.Window)) (Cvs.cons (cvf_GRecord (x := v482.1)) (Cvs.cons .sc Cvs.nil))))) | exact oblA) ?_
     refine brE h ?_ ?_
     ·clear h; intro h491 h
      obtain rfl := Option.some.inj h
      refine runT tmD [.br true] ?_
      exact wkT [] (C1 _ _ _  (nbT (by first | rfl | simp [*])) (nbT (by first | rfl | simp [*])) rfl)
     ·clear h; intro h491 h
      refine runT tmD [.br false] ?_
      exact wkT [] (ih (k + 1) hx1 _ o h C0 C1)
    ·
     clear h
     have h := h488
     refine brE h ?_ ?_
     ·clear h; intro h487 h
      obtain rfl := Option.some.inj h
      refine run_to tmD 4000 [.br true] rfl (by repeat' first | refine And.intro ?_ ?_ | exact (PureCall.none (meaning_counts_ok _ _ _ h483) (Cvs.cons (cv_agg (Cvs.cons .sc (Cvs.cons (cv_list (flat_map flat_GNode y1_o0.Arg)) (Cvs.cons (cv_list (flat_map (fun _ => flatSc) y1_o0.Sources)) (Cvs.cons .sc (Cvs.cons (cv_list (flat_map flat_GNode y1_o0.Where)) (Cvs.cons .sc (Cvs.cons .sc (Cvs.cons .sc (Cvs.cons .sc (Cvs.cons .sc Cvs.nil))))))))))) (Cvs.cons (cvf_GRecord (x := x)) Cvs.nil))) | exact oblA) ?_
      exact wkT [(2, 3)] (SemK.glue J)
     ·clear h; intro h487 h
      obtain rfl := Option.some.inj h
      refine run_to tmD 4000 [.br false] rfl (by repeat' first | refine And.intro ?_ ?_ | exact (PureCall.none (meaning_counts_ok _ _ _ h483) (Cvs.cons (cv_agg (Cvs.cons .sc (Cvs.cons (cv_list (flat_map flat_GNode y1_o0.Arg)) (Cvs.cons (cv_list (flat_map (fun _ => flatSc) y1_o0.Sources)) (Cvs.cons .sc (Cvs.cons (cv_list (flat_map flat_GNode y1_o0.Where)) (Cvs.cons .sc (Cvs.cons .sc (Cvs.cons .sc (Cvs.cons .sc (Cvs.cons .sc Cvs.nil))))))))))) (Cvs.cons (cvf_GRecord (x := x)) Cvs.nil))) | exact oblA) ?_
      exact wkT [(2, 3)] (SemK.glue J)
  ·
   obtain rfl := hn_y1_o1 rfl
   refine SemK.round ?_
   refine bindE h ?_
   clear h; intro v492 h493 h
   refine brE h ?_ ?_
   ·clear h; intro h494 h
    refine run_to tmD 4000 [.br true, .el (enc_GRecord x), .pure [(enc_GQuery false y1_o0), (enc_GRecord x)] (AV.tup [(enc_GRecord v492.1), (aB v492.2)]), .br true] rfl (by repeat' first | refine And.intro ?_ ?_ | exact (PureCall.none (meaning_counts_ok _ _ _ h493) (Cvs.cons (cv_agg (Cvs.cons .sc (Cvs.cons (cv_list (flat_map flat_GNode y1_o0.Arg)) (Cvs.cons (cv_list (flat_map (fun _ => flatSc) y1_o0.Sources)) (Cvs.cons .sc (Cvs.cons (cv_list (flat_map flat_GNode y1_o0.Where)) (Cvs.cons .sc (Cvs.cons .sc (Cvs.cons .sc (Cvs.cons .sc (Cvs.cons .sc Cvs.nil))))))))))) (Cvs.cons (cvf_GRecord (x := x)) Cvs.nil))) | exact oblA) ?_
    exact wkT [] (ih (k + 1) hx1 _ o h C0 C1)
   ·clear h; intro h494 h
    refine bindE h ?_
    clear h; intro j496_21 h498 h
    refine run_to tmD 4000 [.br true, .el (enc_GRecord x), .pure [(enc_GQuery false y1_o0), (enc_GRecord x)] (AV.tup [(enc_GRecord v492.1), (aB v492.2)]), .br false] rfl (by repeat' first | refine And.intro ?_ ?_ | exact (PureCall.none (meaning_counts_ok _ _ _ h493) (Cvs.cons (cv_agg (Cvs.cons .sc (Cvs.cons (cv_list (flat_map flat_GNode y1_o0.Arg)) (Cvs.cons (cv_list (flat_map (fun _ => flatSc) y1_o0.Sources)) (Cvs.cons .sc (Cvs.cons (cv_list (flat_map flat_GNode y1_o0.Where)) (Cvs.cons .sc (Cvs.cons .sc (Cvs.cons .sc (Cvs.cons .sc (Cvs.cons .sc Cvs.nil))))))))))) (Cvs.cons (cvf_GRecord (x := x)) Cvs.nil))) | exact oblA) ?_
    refine SemK.join (s' := ⟨fr [(2, (AV.ptr 0 0 0)), (10, (AV.list true (List.map enc_GEntry y1_10))), (11, AV.nils), (12, (aI .i64 y1_12)), (19, (AV.ptr 2 0 0)), (21, (aI .i64 j496_21)), (46, (AV.list false (List.map (encl false enc_GEvent) y1_46))), (47, (aI .i64 y1_47)), (48, (aI .i64 y1_48)), (65, (AV.list true (List.map enc_GRecord y1_65))), (66, (aI .i64 (List.length y1_65 : Int))), (67, (aI .i64 (k : Int)))], hp ([(0, { es := [(enc_GQuery false y1_o0)], esz := 10 }), (2, { es := [(enc_GRecord v492.1)], esz := 3 })]), 3⟩) ?_ (fun J => SemK.cut ?_)
    ·
     refine bindE h ?_
     clear h; intro v499 h500 h
     refine run_to tmD 4000 [.pure [(AV.list false (List.map enc_GEntry y1_10)), (enc_GWindow y1_o0.Window), (enc_GRecord v492.1), (aI .i64 j496_21)] (AV.tup [(AV.list true (List.map enc_GEntry v499.1)), (aI .i64 v499.2)])] rfl (by repeat' first | refine And.intro ?_ ?_ | exact (PureCall.none (store_Add_ok _ _ _ _ _ h500) (Cvs.cons (cv_list (flat_map flat_GEntry y1_10)) (Cvs.cons (cvf_GWindow (x := y1_o0.Window)) (Cvs.cons (cvf_GRecord (x := v492.1)) (Cvs.cons .sc Cvs.nil))))) | exact oblA) ?_
     refine brE h ?_ ?_
     ·clear h; intro h501 h
      obtain rfl := Option.some.inj h
      refine runT tmD [.br true] ?_
      exact wkT [] (C1 _ _ _  (nbT (by first | rfl | simp [*])) (nbT (by first | rfl | simp [*])) rfl)
     ·clear h; intro h501 h
      refine runT tmD [.br false] ?_
      exact wkT [] (ih (k + 1) hx1 _ o h C0 C1)
    ·
     clear h
     have h := h498
     refine brE h ?_ ?_
     ·clear h; intro h497 h
      obtain rfl := Option.some.inj h
      refine run_to tmD 4000 [.br true] rfl (by repeat' first | refine And.intro ?_ ?_ | exact (PureCall.none (meaning_counts_ok _ _ _ h493) (Cvs.cons (cv_agg (Cvs.cons .sc (Cvs.cons (cv_list (flat_map flat_GNode y1_o0.Arg)) (Cvs.cons (cv_list (flat_map (fun _ => flatSc) y1_o0.Sources)) (Cvs.cons .sc (Cvs.cons (cv_list (flat_map flat_GNode y1_o0.Where)) (Cvs.cons .sc (Cvs.cons .sc (Cvs.cons .sc (Cvs.cons .sc (Cvs.cons .sc Cvs.nil))))))))))) (Cvs.cons (cvf_GRecord (x := x)) Cvs.nil))) | exact oblA) ?_
      exact wkT [(2, 3)] (SemK.glue J)
     ·clear h; intro h497 h
      obtain rfl := Option.some.inj h
      refine run_to tmD 4000 [.br false] rfl (by repeat' first | refine And.intro ?_ ?_ | exact (PureCall.none (meaning_counts_ok _ _ _ h493) (Cvs.cons (cv_agg (Cvs.cons .sc (Cvs.cons (cv_list (flat_map flat_GNode y1_o0.Arg)) (Cvs.cons (cv_list (flat_map (fun _ => flatSc) y1_o0.Sources)) (Cvs.cons .sc (Cvs.cons (cv_list (flat_map flat_GNode y1_o0.Where)) (Cvs.cons .sc (Cvs.cons .sc (Cvs.cons .sc (Cvs.cons .sc (Cvs.cons .sc Cvs.nil))))))))))) (Cvs.cons (cvf_GRecord (x := x)) Cvs.nil))) | exact oblA) ?_
      exact wkT [(2, 3)] (SemK.glue J)
end Go.Av.Tryz
