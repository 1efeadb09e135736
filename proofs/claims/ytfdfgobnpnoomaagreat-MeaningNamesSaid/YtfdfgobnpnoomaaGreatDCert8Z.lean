/- Printed by decomp.py: that the program computes the functions. -/
import Derived.Test.YtfdfgobnpnoomaaGreatDCert7Z
set_option linter.all false
set_option linter.unusedVariables false
namespace Go.Av.Tryz
open Go.Proofs Go.D
set_option maxRecDepth 10000
set_option maxHeartbeats 4000000

theorem meaning_counts_ok (a0 : GQuery) (a1 : GRecord) (r : GRecord × Bool) (h : meaning_counts a0 a1 = some r) : Pure Tryz.prog 50 [(enc_GQuery false a0), (enc_GRecord a1)] (AV.tup [(enc_GRecord r.1), (aB r.2)]) := by
 refine Pure.sym tyTab_ok fn50 (nt := 47) rfl rfl ?_ (allCons (free_GQuery false _ _).1 (allCons (free_GRecord _ _).1 allNil))
 unfold meaning_counts at h
 refine brE h ?_ ?_
 ·clear h; intro h1 h
  refine bindE h ?_
  clear h; intro v2 h3 h
  refine run_to tmD 4000 [.el (aI .i64 (List.length a0.Where : Int)), .br true, .pure [(AV.list false (List.map enc_GNode a0.Where)), (enc_GRecord a1)] (AV.tup [(aI .i64 v2.1), (aI .i64 v2.2)])] rfl (by repeat' first | refine And.intro ?_ ?_ | exact (PureCall.none (evals_Of_ok _ _ _ h3) (Cvs.cons (cv_list (flat_map flat_GNode a0.Where)) (Cvs.cons (cvf_GRecord (x := a1)) Cvs.nil))) | exact oblA) ?_
  refine brE h ?_ ?_
  ·clear h; intro h4 h
   obtain rfl := Option.some.inj h
   refine runT tmD [.br true] ?_
   refine fin_ret rfl ?_
   exact (cv_tup (Cvs.cons (cvf_GRecord (x := (GRecord.mk 0 0 0))) (Cvs.cons .sc Cvs.nil)))
  ·clear h; intro h4 h
   refine bindE h ?_
   clear h; intro j6_o3 h8 h
   refine runT tmD [.br false] ?_
   refine SemK.join (s' := ⟨fr [(2, (AV.ptr 0 0 0)), (3, (AV.ptr 1 0 0)), (4, (AV.ptr 2 0 0)), (8, (AV.ptr 3 0 0))], hp ([(0, { es := [(enc_GQuery false a0)], esz := 10 }), (1, { es := [(enc_GRecord a1)], esz := 3 }), (2, { es := [(enc_GRecord (GRecord.mk 0 0 0))], esz := 3 }), (3, { es := [(enc_GRecord j6_o3)], esz := 3 })]), 4⟩) ?_ (fun J => SemK.cut ?_)
   ·
    refine bindE h ?_
    clear h; intro j12_o1 h16 h
    refine runT tmD [] ?_
    refine SemK.join (s' := ⟨fr [(4, (AV.ptr 0 0 0)), (8, (AV.ptr 1 0 0))], hp ([(0, { es := [(enc_GRecord (GRecord.mk 0 0 0))], esz := 3 }), (1, { es := [(enc_GRecord j12_o1)], esz := 3 })]), 2⟩) ?_ (fun J => SemK.cut ?_)
    ·
     obtain rfl := Option.some.inj h
     refine runT tmD [] ?_
     refine fin_ret rfl ?_
     exact (cv_tup (Cvs.cons (cvf_GRecord (x := j12_o1)) (Cvs.cons .sc Cvs.nil)))
    ·
     clear h
     have h := h16
     refine brE h ?_ ?_
     ·clear h; intro h13 h
      refine bindE h ?_
      clear h; intro v14 h15 h
      obtain rfl := Option.some.inj h
      refine run_to tmD 4000 [.br true, .pure [(AV.list false (List.map enc_GNode a0.Arg)), (enc_GRecord a1)] (AV.tup [(aI .i64 v14.1), (aI .i64 v14.2)])] rfl (by repeat' first | refine And.intro ?_ ?_ | exact (PureCall.none (evals_Of_ok _ _ _ h15) (Cvs.cons (cv_list (flat_map flat_GNode a0.Arg)) (Cvs.cons (cvf_GRecord (x := a1)) Cvs.nil))) | exact oblA) ?_
      exact wkT [(0, 2), (1, 3)] (SemK.glue J)
     ·clear h; intro h13 h
      obtain rfl := Option.some.inj h
      refine runT tmD [.br false] ?_
      exact wkT [(0, 2), (1, 3)] (SemK.glue J)
   ·
    clear h
    have h := h8
    refine brE h ?_ ?_
    ·clear h; intro h7 h
     obtain rfl := Option.some.inj h
     refine runT tmD [.br true] ?_
     exact wkT [] (SemK.glue J)
    ·clear h; intro h7 h
     obtain rfl := Option.some.inj h
     refine runT tmD [.br false] ?_
     exact wkT [] (SemK.glue J)
 ·clear h; intro h1 h
  refine bindE h ?_
  clear h; intro j18_o3 h20 h
  refine runT tmD [.el (aI .i64 (List.length a0.Where : Int)), .br false] ?_
  refine SemK.join (s' := ⟨fr [(2, (AV.ptr 0 0 0)), (3, (AV.ptr 1 0 0)), (4, (AV.ptr 2 0 0)), (8, (AV.ptr 3 0 0))], hp ([(0, { es := [(enc_GQuery false a0)], esz := 10 }), (1, { es := [(enc_GRecord a1)], esz := 3 }), (2, { es := [(enc_GRecord (GRecord.mk 0 0 0))], esz := 3 }), (3, { es := [(enc_GRecord j18_o3)], esz := 3 })]), 4⟩) ?_ (fun J => SemK.cut ?_)
  ·
   refine bindE h ?_
   clear h; intro j24_o1 h28 h
   refine runT tmD [] ?_
   refine SemK.join (s' := ⟨fr [(4, (AV.ptr 0 0 0)), (8, (AV.ptr 1 0 0))], hp ([(0, { es := [(enc_GRecord (GRecord.mk 0 0 0))], esz := 3 }), (1, { es := [(enc_GRecord j24_o1)], esz := 3 })]), 2⟩) ?_ (fun J => SemK.cut ?_)
   ·
    obtain rfl := Option.some.inj h
    refine runT tmD [] ?_
    refine fin_ret rfl ?_
    exact (cv_tup (Cvs.cons (cvf_GRecord (x := j24_o1)) (Cvs.cons .sc Cvs.nil)))
   ·
    clear h
    have h := h28
    refine brE h ?_ ?_
    ·clear h; intro h25 h
     refine bindE h ?_
     clear h; intro v26 h27 h
     obtain rfl := Option.some.inj h
     refine run_to tmD 4000 [.br true, .pure [(AV.list false (List.map enc_GNode a0.Arg)), (enc_GRecord a1)] (AV.tup [(aI .i64 v26.1), (aI .i64 v26.2)])] rfl (by repeat' first | refine And.intro ?_ ?_ | exact (PureCall.none (evals_Of_ok _ _ _ h27) (Cvs.cons (cv_list (flat_map flat_GNode a0.Arg)) (Cvs.cons (cvf_GRecord (x := a1)) Cvs.nil))) | exact oblA) ?_
     exact wkT [(0, 2), (1, 3)] (SemK.glue J)
    ·clear h; intro h25 h
     obtain rfl := Option.some.inj h
     refine runT tmD [.br false] ?_
     exact wkT [(0, 2), (1, 3)] (SemK.glue J)
  ·
   clear h
   have h := h20
   refine brE h ?_ ?_
   ·clear h; intro h19 h
    obtain rfl := Option.some.inj h
    refine runT tmD [.br true] ?_
    exact wkT [] (SemK.glue J)
   ·clear h; intro h19 h
    obtain rfl := Option.some.inj h
    refine runT tmD [.br false] ?_
    exact wkT [] (SemK.glue J)

theorem accums_Check_ok (a0 : GAccum) (r : Int) (h : accums_Check a0 = some r) : Pure Tryz.prog 121 [(enc_GAccum a0)] (aI .i64 r) := by
 refine Pure.sym tyTab_ok fn121 (nt := 43) rfl rfl ?_ (allCons (free_GAccum _ _).1 allNil)
 unfold accums_Check at h
 refine bindE h ?_
 clear h; intro j4_3 h8 h
 refine runT tmD [] ?_
 refine SemK.join (s' := ⟨fr [(3, (aB j4_3))], hp ([]), 0⟩) ?_ (fun J => SemK.cut ?_)
 ·
  refine brE h ?_ ?_
  ·clear h; intro h9 h
   obtain rfl := Option.some.inj h
   refine runT tmD [.br true] ?_
   refine fin_ret rfl ?_
   exact .sc
  ·clear h; intro h9 h
   obtain rfl := Option.some.inj h
   refine runT tmD [.br false] ?_
   refine fin_ret rfl ?_
   exact .sc
 ·
  clear h
  have h := h8
  refine brE h ?_ ?_
  ·clear h; intro h5 h
   obtain rfl := Option.some.inj h
   refine runT tmD [.br true] ?_
   exact wkT [] (SemK.glue J)
  ·clear h; intro h5 h
   refine brE h ?_ ?_
   ·clear h; intro h6 h
    obtain rfl := Option.some.inj h
    refine runT tmD [.br false, .br true] ?_
    exact wkT [] (SemK.glue J)
   ·clear h; intro h6 h
    refine brE h ?_ ?_
    ·clear h; intro h7 h
     obtain rfl := Option.some.inj h
     refine runT tmD [.br false, .br false, .br true] ?_
     exact wkT [] (SemK.glue J)
    ·clear h; intro h7 h
     obtain rfl := Option.some.inj h
     refine runT tmD [.br false, .br false, .br false] ?_
     exact wkT [] (SemK.glue J)

theorem store_right_ok (a0 : GEntry) (r : Bool) (h : store_right a0 = some r) : Pure Tryz.prog 109 [(enc_GEntry a0)] (aB r) := by
 refine Pure.sym tyTab_ok fn109 (nt := 46) rfl rfl ?_ (allCons (free_GEntry _ _).1 allNil)
 unfold store_right at h
 refine brE h ?_ ?_
 ·clear h; intro h1 h
  obtain rfl := Option.some.inj h
  refine runT tmD [.br true] ?_
  refine fin_ret rfl ?_
  exact .sc
 ·clear h; intro h1 h
  refine bindE h ?_
  clear h; intro j8_2 h15 h
  refine runT tmD [.br false, .stop 3] ?_
  refine SemK.join (s' := ⟨fr [(2, (aB j8_2))], hp ([]), 0⟩) ?_ (fun J => SemK.cut ?_)
  ·
   obtain rfl := Option.some.inj h
   refine runT tmD [] ?_
   refine fin_ret rfl ?_
   exact .sc
  ·
   clear h
   have h := h15
   refine bindE h ?_
   clear h; intro v9 h10 h
   refine brE h ?_ ?_
   ·clear h; intro h11 h
    refine bindE h ?_
    clear h; intro v12 h13 h
    refine run_to tmD 4000 [.ix 0, .pure [(enc_GAccum a0.Values.e0)] (aI .i64 v9), .go true, .go true, .ix 1, .go true, .go true, .pure [(enc_GAccum a0.Values.e1)] (aI .i64 v12), .go true, .stop 0] rfl (by repeat' first | refine And.intro ?_ ?_ | exact (PureCall.none (accums_Check_ok _ _ h10) (Cvs.cons (cvf_GAccum (x := a0.Values.e0)) Cvs.nil)) | exact (PureCall.none (accums_Check_ok _ _ h13) (Cvs.cons (cvf_GAccum (x := a0.Values.e1)) Cvs.nil)) | exact oblA) ?_
    refine brE h ?_ ?_
    ·clear h; intro h14 h
     obtain rfl := Option.some.inj h
     refine run_to tmD 4000 [.go true, .go true, .ix 0, .go true, .go true, .go true, .go true, .ix 1, .go true, .go true, .go true, .wrap, .go true] rfl (by repeat' first | refine And.intro ?_ ?_ | exact ((bif_t h11 h14)) | exact (bnot_of (bif_t h11 h14)) | exact (absN (bif_t h11 h14)) | exact oblA) ?_
     exact wkT [] (SemK.glue J)
    ·clear h; intro h14 h
     obtain rfl := Option.some.inj h
     refine run_to tmD 4000 [.go false, .go false, .go false, .go false, .go false, .go false, .go false, .go false, .go false, .go false] rfl (by repeat' first | refine And.intro ?_ ?_ | exact ((bif_t h11 h14)) | exact (bnot_of (bif_t h11 h14)) | exact (absT (bif_t h11 h14)) | exact oblA) ?_
     exact wkT [] (SemK.glue J)
   ·clear h; intro h11 h
    obtain rfl := Option.some.inj h
    refine run_to tmD 4000 [.ix 0, .pure [(enc_GAccum a0.Values.e0)] (aI .i64 v9), .go false, .go false, .go false, .go false, .go false, .go false, .go false, .go false, .go false, .go false, .go false, .go false, .go false, .go false, .go false] rfl (by repeat' first | refine And.intro ?_ ?_ | exact (PureCall.none (accums_Check_ok _ _ h10) (Cvs.cons (cvf_GAccum (x := a0.Values.e0)) Cvs.nil)) | exact ((bif_f h11 rfl)) | exact (bnot_of (bif_f h11 rfl)) | exact (absT (bif_f h11 rfl)) | exact oblA) ?_
    exact wkT [] (SemK.glue J)

theorem cmp_isNaN_int64_ok (a0 : Int) (r : Bool) (h : cmp_isNaN_int64 a0 = some r) : Pure Tryz.prog 102 [(aI .i64 a0)] (aB r) := by
 refine Pure.sym tyTab_ok fn102 (nt := 6) rfl rfl ?_ (allCons .sc allNil)
 unfold cmp_isNaN_int64 at h
 obtain rfl := Option.some.inj h
 refine runT tmD [] ?_
 refine fin_ret rfl ?_
 exact .sc

theorem cmp_Compare_int64_ok (a0 : Int) (a1 : Int) (r : Int) (h : cmp_Compare_int64 a0 a1 = some r) : Pure Tryz.prog 66 [(aI .i64 a0), (aI .i64 a1)] (aI .i64 r) := by
 refine Pure.sym tyTab_ok fn66 (nt := 20) rfl rfl ?_ (allCons .sc (allCons .sc allNil))
 unfold cmp_Compare_int64 at h
 refine bindE h ?_
 clear h; intro v1 h2 h
 refine bindE h ?_
 clear h; intro v3 h4 h
 refine brE h ?_ ?_
 ·clear h; intro h5 h
  refine brE h ?_ ?_
  ·clear h; intro h6 h
   obtain rfl := Option.some.inj h
   refine run_to tmD 4000 [.pure [(aI .i64 a0)] (aB v1), .pure [(aI .i64 a1)] (aB v3), .br true, .br true] rfl (by repeat' first | refine And.intro ?_ ?_ | exact (PureCall.none (cmp_isNaN_int64_ok _ _ h2) (Cvs.cons .sc Cvs.nil)) | exact (PureCall.none (cmp_isNaN_int64_ok _ _ h4) (Cvs.cons .sc Cvs.nil)) | exact oblA) ?_
   refine fin_ret rfl ?_
   exact .sc
  ·clear h; intro h6 h
   obtain rfl := Option.some.inj h
   refine run_to tmD 4000 [.pure [(aI .i64 a0)] (aB v1), .pure [(aI .i64 a1)] (aB v3), .br true, .br false] rfl (by repeat' first | refine And.intro ?_ ?_ | exact (PureCall.none (cmp_isNaN_int64_ok _ _ h2) (Cvs.cons .sc Cvs.nil)) | exact (PureCall.none (cmp_isNaN_int64_ok _ _ h4) (Cvs.cons .sc Cvs.nil)) | exact oblA) ?_
   refine fin_ret rfl ?_
   exact .sc
 ·clear h; intro h5 h
  refine brE h ?_ ?_
  ·clear h; intro h7 h
   obtain rfl := Option.some.inj h
   refine run_to tmD 4000 [.pure [(aI .i64 a0)] (aB v1), .pure [(aI .i64 a1)] (aB v3), .br false, .br true] rfl (by repeat' first | refine And.intro ?_ ?_ | exact (PureCall.none (cmp_isNaN_int64_ok _ _ h2) (Cvs.cons .sc Cvs.nil)) | exact (PureCall.none (cmp_isNaN_int64_ok _ _ h4) (Cvs.cons .sc Cvs.nil)) | exact oblA) ?_
   refine fin_ret rfl ?_
   exact .sc
  ·clear h; intro h7 h
   refine brE h ?_ ?_
   ·clear h; intro h8 h
    obtain rfl := Option.some.inj h
    refine run_to tmD 4000 [.pure [(aI .i64 a0)] (aB v1), .pure [(aI .i64 a1)] (aB v3), .br false, .br false, .br true] rfl (by repeat' first | refine And.intro ?_ ?_ | exact (PureCall.none (cmp_isNaN_int64_ok _ _ h2) (Cvs.cons .sc Cvs.nil)) | exact (PureCall.none (cmp_isNaN_int64_ok _ _ h4) (Cvs.cons .sc Cvs.nil)) | exact oblA) ?_
    refine fin_ret rfl ?_
    exact .sc
   ·clear h; intro h8 h
    refine brE h ?_ ?_
    ·clear h; intro h9 h
     obtain rfl := Option.some.inj h
     refine run_to tmD 4000 [.pure [(aI .i64 a0)] (aB v1), .pure [(aI .i64 a1)] (aB v3), .br false, .br false, .br false, .br true] rfl (by repeat' first | refine And.intro ?_ ?_ | exact (PureCall.none (cmp_isNaN_int64_ok _ _ h2) (Cvs.cons .sc Cvs.nil)) | exact (PureCall.none (cmp_isNaN_int64_ok _ _ h4) (Cvs.cons .sc Cvs.nil)) | exact oblA) ?_
     refine fin_ret rfl ?_
     exact .sc
    ·clear h; intro h9 h
     obtain rfl := Option.some.inj h
     refine run_to tmD 4000 [.pure [(aI .i64 a0)] (aB v1), .pure [(aI .i64 a1)] (aB v3), .br false, .br false, .br false, .br false] rfl (by repeat' first | refine And.intro ?_ ?_ | exact (PureCall.none (cmp_isNaN_int64_ok _ _ h2) (Cvs.cons .sc Cvs.nil)) | exact (PureCall.none (cmp_isNaN_int64_ok _ _ h4) (Cvs.cons .sc Cvs.nil)) | exact oblA) ?_
     refine fin_ret rfl ?_
     exact .sc

theorem cmp_Or_int_L0_ok {Q : AExit → St → Mu → Prop} {μ : Mu} (y0_6 : (List Int)) (hl : List.length y0_6 ≤ 140737488355328) : ∀ (xs : List Int) (k : Nat) (hx : y0_6.drop k = xs) (o : cmp_Or_int_L0_o) (h : cmp_Or_int_L0 y0_6 xs k  = some o)
  (C0 : o = cmp_Or_int_L0_o.x0 → SemK Tryz.prog 18 0 Q (.exit (.exit 0)) [] ⟨fr [(3, (aI .i64 0))], hp ([]), 0⟩ μ)
  (C1 : ∀ (z0_1_2 : Int), o = cmp_Or_int_L0_o.x1 z0_1_2 → SemK Tryz.prog 18 0 Q (.exit .ret) [] ⟨fr [(2, (aI .i64 z0_1_2))], hp ([]), 0⟩ μ),
  SemK Tryz.prog 18 0 Q (.loop (loopB 0 (bodyOf Tryz.f65))) [] ⟨fr [(3, (aI .i64 0)), (6, (AV.list false (List.map (aI .i64) y0_6))), (7, (aI .i64 (List.length y0_6 : Int))), (8, (aI .i64 (k : Int)))], hp ([]), 0⟩ μ := by
 intro xs
 induction xs with
 | nil =>
  intro k hx  o h C0 C1
  have hk := drop_nil hx
  have hc : decide ((k : Int) < (List.length y0_6 : Int)) = false := decide_eq_false (by omega)
  rw [cmp_Or_int_L0] at h
  refine SemK.round ?_
  obtain rfl := Option.some.inj h
  refine runT tmD [.br false] ?_
  exact wkT [] (C0  rfl)
 | cons x xs ih =>
  intro k hx  o h C0 C1
  obtain ⟨hk, hg, hx1⟩ := drop_cons hx
  have hc : decide ((k : Int) < (List.length y0_6 : Int)) = true := decide_eq_true (by omega)
  rw [cmp_Or_int_L0] at h
  refine SemK.round ?_
  refine brE h ?_ ?_
  ·clear h; intro h6 h
   obtain rfl := Option.some.inj h
   refine runT tmD [.br true, .el (aI .i64 x), .br true] ?_
   exact wkT [] (C1 _  rfl)
  ·clear h; intro h6 h
   refine runT tmD [.br true, .el (aI .i64 x), .br false] ?_
   exact wkT [] (ih (k + 1) hx1  o h C0 C1)

theorem cmp_Or_int_ok (a0 : (List Int)) (r : Int) (h : cmp_Or_int a0 = some r) : Pure Tryz.prog 65 [(AV.list false (List.map (aI .i64) a0))] (aI .i64 r) := by
 refine Pure.sym tyTab_ok fn65 (nt := 18) rfl rfl ?_ (allCons .list allNil)
 unfold cmp_Or_int at h
 refine bindE h ?_
 clear h; intro u1 h2 h
 have qh2 := lenOk_le h2
 refine bindE h ?_
 clear h; intro o7 h8 h
 refine runT tmD [.el (aI .i64 (List.length a0 : Int))] ?_
 refine wkT [] (SemK.cut (cmp_Or_int_L0_ok a0 qh2 a0 0 (by simp) _ h8 ?_ ?_))
 ·intro eo7; subst eo7
  refine SemK.glue ?_
  try dsimp only at h
  obtain rfl := Option.some.inj h
  refine runT tmD [] ?_
  refine fin_ret rfl ?_
  exact .sc
 ·intro z0_1_2 eo7; subst eo7
  refine SemK.glue ?_
  try dsimp only at h
  obtain rfl := Option.some.inj h
  refine runT tmD [] ?_
  refine fin_ret rfl ?_
  exact .sc

theorem store_order_ok (a0 : GEntry) (a1 : GEntry) (r : Int) (h : store_order a0 a1 = some r) : Pure Tryz.prog 110 [(enc_GEntry a0), (enc_GEntry a1)] (aI .i64 r) := by
 refine Pure.sym tyTab_ok fn110 (nt := 26) rfl rfl ?_ (allCons (free_GEntry _ _).1 (allCons (free_GEntry _ _).1 allNil))
 unfold store_order at h
 refine bindE h ?_
 clear h; intro v1 h2 h
 refine bindE h ?_
 clear h; intro v3 h4 h
 refine bindE h ?_
 clear h; intro v5 h6 h
 refine bindE h ?_
 clear h; intro v7 h8 h
 obtain rfl := Option.some.inj h
 refine run_to tmD 4000 [.pure [(aI .i64 a0.Span.End), (aI .i64 a1.Span.End)] (aI .i64 v1), .pure [(aI .i64 a0.Span.Start), (aI .i64 a1.Span.Start)] (aI .i64 v3), .pure [(aI .i64 a0.Key), (aI .i64 a1.Key)] (aI .i64 v5), .pure [(AV.list false (List.map (aI .i64) [v1, v3, v5]))] (aI .i64 v7)] rfl (by repeat' first | refine And.intro ?_ ?_ | exact (PureCall.none (cmp_Compare_int64_ok _ _ _ h2) (Cvs.cons .sc (Cvs.cons .sc Cvs.nil))) | exact (PureCall.none (cmp_Compare_int64_ok _ _ _ h4) (Cvs.cons .sc (Cvs.cons .sc Cvs.nil))) | exact (PureCall.none (cmp_Compare_int64_ok _ _ _ h6) (Cvs.cons .sc (Cvs.cons .sc Cvs.nil))) | exact (PureCall.lent (cmp_Or_int_ok _ _ h8) (Cvs.cons (cv_ref (es := List.map (aI .i64) [v1, v3, v5]) rfl (by first | rfl | (simp; done) | (simp; rfl) | (simp []; done) | (simp []; rfl) | (simp [List.map_take, List.map_drop]; done) | (simp [List.map_take, List.map_drop]; rfl)) (by first | rfl | (simp; done) | (simp; omega) | (simp []; done) | (simp []; omega)) (flat_map (fun _ => flatSc) [v1, v3, v5])) Cvs.nil) .sc) | exact oblA) ?_
 refine fin_ret rfl ?_
 exact .sc

theorem store_Check_L0_ok {Q : AExit → St → Mu → Prop} {μ : Mu} (y0_0 : (List GEntry)) (hl : List.length y0_0 ≤ 140737488355328) : ∀ (xs : List GEntry) (k : Nat) (hx : y0_0.drop k = xs) (o : store_Check_L0_o) (h : store_Check_L0 y0_0 xs k  = some o)
  (C0 : o = store_Check_L0_o.x0 → SemK Tryz.prog 33 0 Q (.exit (.exit 0)) [] ⟨fr [], hp ([]), 0⟩ μ)
  (C1 : o = store_Check_L0_o.x1 → SemK Tryz.prog 33 0 Q (.exit .ret) [] ⟨fr [(2, (aI .i64 8))], hp ([]), 0⟩ μ),
  SemK Tryz.prog 33 0 Q (.loop (loopB 0 (bodyOf Tryz.f77))) [] ⟨fr [(0, (AV.list false (List.map enc_GEntry y0_0))), (8, (AV.list false (List.map enc_GEntry y0_0))), (9, (aI .i64 (List.length y0_0 : Int))), (10, (aI .i64 (k : Int)))], hp ([]), 0⟩ μ := by
 intro xs
 induction xs with
 | nil =>
  intro k hx  o h C0 C1
  have hk := drop_nil hx
  have hc : decide ((k : Int) < (List.length y0_0 : Int)) = false := decide_eq_false (by omega)
  rw [store_Check_L0] at h
  refine SemK.round ?_
  obtain rfl := Option.some.inj h
  refine runT tmD [.br false] ?_
  exact wkT [] (C0  rfl)
 | cons x xs ih =>
  intro k hx  o h C0 C1
  obtain ⟨hk, hg, hx1⟩ := drop_cons hx
  have hc : decide ((k : Int) < (List.length y0_0 : Int)) = true := decide_eq_true (by omega)
  rw [store_Check_L0] at h
  refine SemK.round ?_
  refine bindE h ?_
  clear h; intro j51_31 h60 h
  refine runT tmD [.br true, .el (enc_GEntry x), .stop 6] ?_
  refine SemK.join (s' := ⟨fr [(0, (AV.list false (List.map enc_GEntry y0_0))), (8, (AV.list false (List.map enc_GEntry y0_0))), (9, (aI .i64 (List.length y0_0 : Int))), (10, (aI .i64 (k : Int))), (31, (aB j51_31))], hp ([]), 0⟩) ?_ (fun J => SemK.cut ?_)
  ·
   refine brE h ?_ ?_
   ·clear h; intro h61 h
    obtain rfl := Option.some.inj h
    refine runT tmD [.br true] ?_
    exact wkT [] (C1  rfl)
   ·clear h; intro h61 h
    refine runT tmD [.br false] ?_
    exact wkT [] (ih (k + 1) hx1  o h C0 C1)
  ·
   clear h
   have h := h60
   refine bindE h ?_
   clear h; intro v52 h53 h
   refine brE h ?_ ?_
   ·clear h; intro h54 h
    obtain rfl := Option.some.inj h
    refine run_to tmD 4000 [.pure [(enc_GEntry x)] (aB v52), .go false, .go false, .go false, .no, .no, .no, .no, .no, .no, .no, .no, .go false, .go true] rfl (by repeat' first | refine And.intro ?_ ?_ | exact (PureCall.none (store_right_ok _ _ h53) (Cvs.cons (cvf_GEntry (x := x)) Cvs.nil)) | exact oblA) ?_
    exact wkT [] (SemK.glue J)
   ·clear h; intro h54 h
    refine brE h ?_ ?_
    ·clear h; intro h55 h
     refine bindE h ?_
     clear h; intro e56 h57 h
     try have qh57 := getI_lt h57
     refine bindE h ?_
     clear h; intro v58 h59 h
     obtain rfl := Option.some.inj h
     refine run_to tmD 4000 [.pure [(enc_GEntry x)] (aB v52), .go true, .go true, .go true, .go true, .go true, .go true, .wrap, .go true, .el (enc_GEntry e56), .go true, .go true, .go true, .pure [(enc_GEntry e56), (enc_GEntry x)] (aI .i64 v58), .go true, .go true] rfl (by repeat' first | refine And.intro ?_ ?_ | exact (PureCall.none (store_right_ok _ _ h53) (Cvs.cons (cvf_GEntry (x := x)) Cvs.nil)) | exact (PureCall.none (store_order_ok _ _ _ h59) (Cvs.cons (cvf_GEntry (x := e56)) (Cvs.cons (cvf_GEntry (x := x)) Cvs.nil))) | exact oblA) ?_
     exact wkT [] (SemK.glue J)
    ·clear h; intro h55 h
     obtain rfl := Option.some.inj h
     refine run_to tmD 4000 [.pure [(enc_GEntry x)] (aB v52), .go true, .go true, .go true, .go false, .go false, .go false, .go false, .go false, .go false, .go false, .go false, .go true, .go false] rfl (by repeat' first | refine And.intro ?_ ?_ | exact (PureCall.none (store_right_ok _ _ h53) (Cvs.cons (cvf_GEntry (x := x)) Cvs.nil)) | exact oblA) ?_
     exact wkT [] (SemK.glue J)

theorem store_Check_ok (a0 : (List GEntry)) (r : Int) (h : store_Check a0 = some r) : Pure Tryz.prog 77 [(AV.list false (List.map enc_GEntry a0))] (aI .i64 r) := by
 refine Pure.sym tyTab_ok fn77 (nt := 33) rfl rfl ?_ (allCons .list allNil)
 unfold store_Check at h
 refine brE h ?_ ?_
 ·clear h; intro h1 h
  obtain rfl := Option.some.inj h
  refine runT tmD [.el (aI .i64 (List.length a0 : Int)), .br true] ?_
  refine fin_ret rfl ?_
  exact .sc
 ·clear h; intro h1 h
  refine bindE h ?_
  clear h; intro u2 h3 h
  have qh3 := lenOk_le h3
  refine bindE h ?_
  clear h; intro o62 h63 h
  refine runT tmD [.el (aI .i64 (List.length a0 : Int)), .br false, .el (aI .i64 (List.length a0 : Int))] ?_
  refine wkT [] (SemK.cut (store_Check_L0_ok a0 qh3 a0 0 (by simp) _ h63 ?_ ?_))
  ·intro eo62; subst eo62
   refine SemK.glue ?_
   try dsimp only at h
   obtain rfl := Option.some.inj h
   refine runT tmD [] ?_
   refine fin_ret rfl ?_
   exact .sc
  ·intro eo62; subst eo62
   refine SemK.glue ?_
   try dsimp only at h
   obtain rfl := Option.some.inj h
   refine runT tmD [] ?_
   refine fin_ret rfl ?_
   exact .sc

theorem accums_Of_ok (a0 : Int) (r : GAccum) (h : accums_Of a0 = some r) : Pure Tryz.prog 79 [(aI .i64 a0)] (enc_GAccum r) := by
 refine Pure.sym tyTab_ok fn79 (nt := 7) rfl rfl ?_ (allCons .sc allNil)
 unfold accums_Of at h
 obtain rfl := Option.some.inj h
 refine runT tmD [] ?_
 refine fin_ret rfl ?_
 exact (cvf_GAccum (x := (GAccum.mk 1 a0 a0 a0)))

theorem session_check_ok (a0 : Int) (a1 : Int) (r : Int) (h : session_check a0 a1 = some r) : Pure Tryz.prog 111 [(aI .i64 a0), (aI .i64 a1)] (aI .i64 r) := by
 refine Pure.sym tyTab_ok fn111 (nt := 17) rfl rfl ?_ (allCons .sc (allCons .sc allNil))
 unfold session_check at h
 refine brE h ?_ ?_
 ·clear h; intro h1 h
  obtain rfl := Option.some.inj h
  refine runT tmD [.br true] ?_
  refine fin_ret rfl ?_
  exact .sc
 ·clear h; intro h1 h
  refine brE h ?_ ?_
  ·clear h; intro h2 h
   obtain rfl := Option.some.inj h
   refine runT tmD [.br false, .br true] ?_
   refine fin_ret rfl ?_
   exact .sc
  ·clear h; intro h2 h
   obtain rfl := Option.some.inj h
   refine runT tmD [.br false, .br false] ?_
   refine fin_ret rfl ?_
   exact .sc

theorem math_bits_Len64_ok (a0 : Int) (r : Int) (h : math_bits_Len64 a0 = some r) : Pure Tryz.prog 166 [(aI .u64 a0)] (aI .i64 r) := by
 refine Pure.sym tyTab_ok fn166 (nt := 25) rfl rfl ?_ (allCons .sc allNil)
 unfold math_bits_Len64 at h
 refine bindE h ?_
 clear h; intro w2 h4 h
 obtain ⟨j2_0, j2_2⟩ := w2
 try dsimp only at h
 refine runT tmD [] ?_
 refine SemK.join (s' := ⟨fr [(0, (aI .u64 j2_0)), (2, (aI .i64 j2_2))], hp ([]), 0⟩) ?_ (fun J => SemK.cut ?_)
 ·
  refine bindE h ?_
  clear h; intro w6 h8 h
  obtain ⟨j6_0, j6_2⟩ := w6
  try dsimp only at h
  refine runT tmD [] ?_
  refine SemK.join (s' := ⟨fr [(0, (aI .u64 j6_0)), (2, (aI .i64 j6_2))], hp ([]), 0⟩) ?_ (fun J => SemK.cut ?_)
  ·
   refine bindE h ?_
   clear h; intro w10 h12 h
   obtain ⟨j10_0, j10_2⟩ := w10
   try dsimp only at h
   refine runT tmD [] ?_
   refine SemK.join (s' := ⟨fr [(0, (aI .u64 j10_0)), (2, (aI .i64 j10_2))], hp ([]), 0⟩) ?_ (fun J => SemK.cut ?_)
   ·
    refine bindE h ?_
    clear h; intro b13 h14 h
    obtain rfl := Option.some.inj h
    refine run_to tmD 4000 [.wrap, .el (aI .u8 b13), .wrap, .wrap] rfl (by repeat' first | refine And.intro ?_ ?_ | exact (getI_pos h14) | exact (str_ix (tab := tab_8163acee) rfl h14) | exact oblA) ?_
    refine fin_ret rfl ?_
    exact .sc
   ·
    clear h
    have h := h12
    refine brE h ?_ ?_
    ·clear h; intro h11 h
     cases h
     refine runT tmD [.br true, .wrap] ?_
     exact wkT [] (SemK.glue J)
    ·clear h; intro h11 h
     cases h
     refine runT tmD [.br false] ?_
     exact wkT [] (SemK.glue J)
  ·
   clear h
   have h := h8
   refine brE h ?_ ?_
   ·clear h; intro h7 h
    cases h
    refine runT tmD [.br true, .wrap] ?_
    exact wkT [] (SemK.glue J)
   ·clear h; intro h7 h
    cases h
    refine runT tmD [.br false] ?_
    exact wkT [] (SemK.glue J)
 ·
  clear h
  have h := h4
  refine brE h ?_ ?_
  ·clear h; intro h3 h
   cases h
   refine runT tmD [.br true] ?_
   exact wkT [] (SemK.glue J)
  ·clear h; intro h3 h
   cases h
   refine runT tmD [.br false] ?_
   exact wkT [] (SemK.glue J)

theorem math_bits_Len_ok (a0 : Int) (r : Int) (h : math_bits_Len a0 = some r) : Pure Tryz.prog 133 [(aI .u64 a0)] (aI .i64 r) := by
 refine Pure.sym tyTab_ok fn133 (nt := 8) rfl rfl ?_ (allCons .sc allNil)
 unfold math_bits_Len at h
 refine bindE h ?_
 clear h; intro v1 h2 h
 obtain rfl := Option.some.inj h
 refine run_to tmD 4000 [.br false, .pure [(aI .u64 a0)] (aI .i64 v1)] rfl (by repeat' first | refine And.intro ?_ ?_ | exact (PureCall.none (math_bits_Len64_ok _ _ h2) (Cvs.cons .sc Cvs.nil)) | exact oblA) ?_
 refine fin_ret rfl ?_
 exact .sc

theorem slices_BinarySearchFunc_Entry_Entry_Entry_L0_ok {Q : AExit → St → Mu → Prop} {μ : Mu} (y0_0 : (List GEntry)) (y0_o0 : GEntry) (y0_8 : Int) : ∀ (n : Nat) (y0_9 : Int) (y0_10 : Int) (o : slices_BinarySearchFunc_Entry_Entry_Entry_L0_o) (h : slices_BinarySearchFunc_Entry_Entry_Entry_L0 y0_0 y0_o0 y0_8 n y0_9 y0_10 = some o)
  (C0 : ∀ (z0_0_9 : Int), o = slices_BinarySearchFunc_Entry_Entry_Entry_L0_o.x0 z0_0_9 → SemK Tryz.prog 49 0 Q (.exit (.exit 0)) [] ⟨fr [(0, (AV.list false (List.map enc_GEntry y0_0))), (2, (AV.fn 110 [])), (4, (AV.ptr 0 0 0)), (8, (aI .i64 y0_8)), (9, (aI .i64 z0_0_9))], hp ([(0, { es := [(enc_GEntry y0_o0)], esz := 11 })]), 1⟩ μ),
  SemK Tryz.prog 49 0 Q (.loop (loopB 0 (bodyOf Tryz.f119))) [] ⟨fr [(0, (AV.list false (List.map enc_GEntry y0_0))), (2, (AV.fn 110 [])), (4, (AV.ptr 0 0 0)), (8, (aI .i64 y0_8)), (9, (aI .i64 y0_9)), (10, (aI .i64 y0_10))], hp ([(0, { es := [(enc_GEntry y0_o0)], esz := 11 })]), 1⟩ μ := by
 intro n
 induction n with
 | zero => intro y0_9 y0_10 o h C0; cases h
 | succ n ih =>
  intro y0_9 y0_10 o h C0
  rw [slices_BinarySearchFunc_Entry_Entry_Entry_L0] at h
  refine SemK.round ?_
  refine brE h ?_ ?_
  ·clear h; intro h14 h
   refine bindE h ?_
   clear h; intro e15 h16 h
   try have qh16 := getI_lt h16
   refine bindE h ?_
   clear h; intro v17 h18 h
   refine brE h ?_ ?_
   ·clear h; intro h19 h
    refine run_to tmD 4000 [.br true, .wrap, .wrap, .wrap, .el (enc_GEntry e15), .pure [(enc_GEntry e15), (enc_GEntry y0_o0)] (aI .i64 v17), .br true, .wrap] rfl (by repeat' first | refine And.intro ?_ ?_ | exact (PureCall.none (store_order_ok _ _ _ h18) (Cvs.cons (cvf_GEntry (x := e15)) (Cvs.cons (cvf_GEntry (x := y0_o0)) Cvs.nil))) | exact oblA) ?_
    exact wkT [] (ih  _ _ o h C0)
   ·clear h; intro h19 h
    refine run_to tmD 4000 [.br true, .wrap, .wrap, .wrap, .el (enc_GEntry e15), .pure [(enc_GEntry e15), (enc_GEntry y0_o0)] (aI .i64 v17), .br false] rfl (by repeat' first | refine And.intro ?_ ?_ | exact (PureCall.none (store_order_ok _ _ _ h18) (Cvs.cons (cvf_GEntry (x := e15)) (Cvs.cons (cvf_GEntry (x := y0_o0)) Cvs.nil))) | exact oblA) ?_
    exact wkT [] (ih  _ _ o h C0)
  ·clear h; intro h14 h
   obtain rfl := Option.some.inj h
   refine runT tmD [.br false] ?_
   exact wkT [] (C0 _  rfl)

theorem slices_BinarySearchFunc_Entry_Entry_Entry_store_order_ok (a0 : (List GEntry)) (a1 : GEntry) (r : Int × Bool) (h : slices_BinarySearchFunc_Entry_Entry_Entry_store_order a0 a1 = some r) : Pure Tryz.prog 119 [(AV.list false (List.map enc_GEntry a0)), (enc_GEntry a1), (AV.fn 110 [])] (AV.tup [(aI .i64 r.1), (aB r.2)]) := by
 refine Pure.sym tyTab_ok fn119 (nt := 49) rfl rfl ?_ (allCons .list (allCons (free_GEntry _ _).1 (allCons okFn0 allNil)))
 unfold slices_BinarySearchFunc_Entry_Entry_Entry_store_order at h
 refine bindE h ?_
 clear h; intro o20 h21 h
 refine runT tmD [.el (aI .i64 (List.length a0 : Int))] ?_
 refine wkT [] (SemK.cut (slices_BinarySearchFunc_Entry_Entry_Entry_L0_ok a0 a1 (List.length a0 : Int) _ _ _ _ h21 ?_))
 ·intro z0_0_9 eo20; subst eo20
  refine SemK.glue ?_
  try dsimp only at h
  refine bindE h ?_
  clear h; intro j27_7 h33 h
  refine runT tmD [.stop 8] ?_
  refine SemK.join (s' := ⟨fr [(6, (aI .i64 z0_0_9)), (7, (aB j27_7))], hp ([]), 0⟩) ?_ (fun J => SemK.cut ?_)
  ·
   obtain rfl := Option.some.inj h
   refine runT tmD [] ?_
   refine fin_ret rfl ?_
   exact (cv_tup (Cvs.cons .sc (Cvs.cons .sc Cvs.nil)))
  ·
   clear h
   have h := h33
   refine brE h ?_ ?_
   ·clear h; intro h28 h
    refine bindE h ?_
    clear h; intro e29 h30 h
    try have qh30 := getI_lt h30
    refine bindE h ?_
    clear h; intro v31 h32 h
    obtain rfl := Option.some.inj h
    refine run_to tmD 4000 [.go true, .go true, .go true, .go true, .el (enc_GEntry e29), .go true, .go true, .go true, .pure [(enc_GEntry e29), (enc_GEntry a1)] (aI .i64 v31), .go true] rfl (by repeat' first | refine And.intro ?_ ?_ | exact (PureCall.none (store_order_ok _ _ _ h32) (Cvs.cons (cvf_GEntry (x := e29)) (Cvs.cons (cvf_GEntry (x := a1)) Cvs.nil))) | exact oblA) ?_
    exact wkT [] (SemK.glue J)
   ·clear h; intro h28 h
    obtain rfl := Option.some.inj h
    refine runT tmD [.go false, .go false, .go false, .go false, .go false, .go false, .go false, .go false, .go false] ?_
    exact wkT [] (SemK.glue J)
end Go.Av.Tryz
