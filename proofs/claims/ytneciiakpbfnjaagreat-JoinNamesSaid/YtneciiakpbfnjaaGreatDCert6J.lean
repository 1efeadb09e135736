/- Printed by decomp.py: that the program computes the functions. -/
import Derived.Test.YtneciiakpbfnjaaGreatDCert0J
import Derived.Test.YtneciiakpbfnjaaGreatDCert5J
set_option linter.all false
set_option linter.unusedVariables false
namespace Go.Av.Tryz
open Go.Proofs Go.D
set_option maxRecDepth 10000
set_option maxHeartbeats 4000000

theorem store_right_ok (a0 : GEntry) (r : Bool) (h : store_right a0 = some r) : Pure Tryz.prog 82 [(enc_GEntry a0)] (aB r) := by
 refine Pure.sym tyTab_ok fn82 (nt := 46) rfl rfl ?_ (allCons (free_GEntry _ _).1 allNil)
 unfold store_right at h
 refine brE h ?_ ?_
 ·clear h; intro h1 h
  obtain rfl := Option.some.inj h
  refine runT tmD [.br true] ?_
  refine fin_ret rfl ?_
  exact .sc
 ·clear h; intro h1 h
  refine bindE h ?_
  clear h; intro j8_2 h15 h
  refine runT tmD [.br false, .stop 3] ?_
  refine SemK.join (s' := ⟨fr [(2, (aB j8_2))], hp ([]), 0⟩) ?_ (fun J => SemK.cut ?_)
  ·
   obtain rfl := Option.some.inj h
   refine runT tmD [] ?_
   refine fin_ret rfl ?_
   exact .sc
  ·
   clear h
   have h := h15
   refine bindE h ?_
   clear h; intro v9 h10 h
   refine brE h ?_ ?_
   ·clear h; intro h11 h
    refine bindE h ?_
    clear h; intro v12 h13 h
    refine run_to tmD 4000 [.ix 0, .pure [(enc_GAccum a0.Values.e0)] (aI .i64 v9), .go true, .go true, .ix 1, .go true, .go true, .pure [(enc_GAccum a0.Values.e1)] (aI .i64 v12), .go true, .stop 999999] rfl (by repeat' first | refine And.intro ?_ ?_ | exact (PureCall.none (accums_Check_ok _ _ h10) (Cvs.cons (cvf_GAccum (x := a0.Values.e0)) Cvs.nil)) | exact (PureCall.none (accums_Check_ok _ _ h13) (Cvs.cons (cvf_GAccum (x := a0.Values.e1)) Cvs.nil)) | exact oblA) ?_
    refine brE h ?_ ?_
    ·clear h; intro h14 h
     obtain rfl := Option.some.inj h
     refine run_to tmD 4000 [.go true, .go true, .ix 0, .go true, .go true, .go true, .go true, .ix 1, .go true, .go true, .go true, .wrap, .go true] rfl (by repeat' first | refine And.intro ?_ ?_ | exact ((bif_t h11 h14)) | exact (bnot_of (bif_t h11 h14)) | exact (absN (bif_t h11 h14)) | exact oblA) ?_
     exact wkT [] (SemK.glue J)
    ·clear h; intro h14 h
     obtain rfl := Option.some.inj h
     refine run_to tmD 4000 [.go false, .go false, .go false, .go false, .go false, .go false, .go false, .go false, .go false, .go false] rfl (by repeat' first | refine And.intro ?_ ?_ | exact ((bif_t h11 h14)) | exact (bnot_of (bif_t h11 h14)) | exact (absT (bif_t h11 h14)) | exact oblA) ?_
     exact wkT [] (SemK.glue J)
   ·clear h; intro h11 h
    obtain rfl := Option.some.inj h
    refine run_to tmD 4000 [.ix 0, .pure [(enc_GAccum a0.Values.e0)] (aI .i64 v9), .go false, .go false, .go false, .go false, .go false, .go false, .go false, .go false, .go false, .go false, .go false, .go false, .go false, .go false, .go false] rfl (by repeat' first | refine And.intro ?_ ?_ | exact (PureCall.none (accums_Check_ok _ _ h10) (Cvs.cons (cvf_GAccum (x := a0.Values.e0)) Cvs.nil)) | exact ((bif_f h11 rfl)) | exact (bnot_of (bif_f h11 rfl)) | exact (absT (bif_f h11 rfl)) | exact oblA) ?_
    exact wkT [] (SemK.glue J)

theorem cmp_isNaN_int64_ok (a0 : Int) (r : Bool) (h : cmp_isNaN_int64 a0 = some r) : Pure Tryz.prog 144 [(aI .i64 a0)] (aB r) := by
 refine Pure.sym tyTab_ok fn144 (nt := 6) rfl rfl ?_ (allCons .sc allNil)
 unfold cmp_isNaN_int64 at h
 obtain rfl := Option.some.inj h
 refine runT tmD [] ?_
 refine fin_ret rfl ?_
 exact .sc

theorem cmp_Compare_int64_ok (a0 : Int) (a1 : Int) (r : Int) (h : cmp_Compare_int64 a0 a1 = some r) : Pure Tryz.prog 120 [(aI .i64 a0), (aI .i64 a1)] (aI .i64 r) := by
 refine Pure.sym tyTab_ok fn120 (nt := 20) rfl rfl ?_ (allCons .sc (allCons .sc allNil))
 unfold cmp_Compare_int64 at h
 refine bindE h ?_
 clear h; intro v1 h2 h
 refine bindE h ?_
 clear h; intro v3 h4 h
 refine brE h ?_ ?_
 ·clear h; intro h5 h
  refine brE h ?_ ?_
  ·clear h; intro h6 h
   obtain rfl := Option.some.inj h
   refine run_to tmD 4000 [.pure [(aI .i64 a0)] (aB v1), .pure [(aI .i64 a1)] (aB v3), .br true, .br true] rfl (by repeat' first | refine And.intro ?_ ?_ | exact (PureCall.none (cmp_isNaN_int64_ok _ _ h2) (Cvs.cons .sc Cvs.nil)) | exact (PureCall.none (cmp_isNaN_int64_ok _ _ h4) (Cvs.cons .sc Cvs.nil)) | exact oblA) ?_
   refine fin_ret rfl ?_
   exact .sc
  ·clear h; intro h6 h
   obtain rfl := Option.some.inj h
   refine run_to tmD 4000 [.pure [(aI .i64 a0)] (aB v1), .pure [(aI .i64 a1)] (aB v3), .br true, .br false] rfl (by repeat' first | refine And.intro ?_ ?_ | exact (PureCall.none (cmp_isNaN_int64_ok _ _ h2) (Cvs.cons .sc Cvs.nil)) | exact (PureCall.none (cmp_isNaN_int64_ok _ _ h4) (Cvs.cons .sc Cvs.nil)) | exact oblA) ?_
   refine fin_ret rfl ?_
   exact .sc
 ·clear h; intro h5 h
  refine brE h ?_ ?_
  ·clear h; intro h7 h
   obtain rfl := Option.some.inj h
   refine run_to tmD 4000 [.pure [(aI .i64 a0)] (aB v1), .pure [(aI .i64 a1)] (aB v3), .br false, .br true] rfl (by repeat' first | refine And.intro ?_ ?_ | exact (PureCall.none (cmp_isNaN_int64_ok _ _ h2) (Cvs.cons .sc Cvs.nil)) | exact (PureCall.none (cmp_isNaN_int64_ok _ _ h4) (Cvs.cons .sc Cvs.nil)) | exact oblA) ?_
   refine fin_ret rfl ?_
   exact .sc
  ·clear h; intro h7 h
   refine brE h ?_ ?_
   ·clear h; intro h8 h
    obtain rfl := Option.some.inj h
    refine run_to tmD 4000 [.pure [(aI .i64 a0)] (aB v1), .pure [(aI .i64 a1)] (aB v3), .br false, .br false, .br true] rfl (by repeat' first | refine And.intro ?_ ?_ | exact (PureCall.none (cmp_isNaN_int64_ok _ _ h2) (Cvs.cons .sc Cvs.nil)) | exact (PureCall.none (cmp_isNaN_int64_ok _ _ h4) (Cvs.cons .sc Cvs.nil)) | exact oblA) ?_
    refine fin_ret rfl ?_
    exact .sc
   ·clear h; intro h8 h
    refine brE h ?_ ?_
    ·clear h; intro h9 h
     obtain rfl := Option.some.inj h
     refine run_to tmD 4000 [.pure [(aI .i64 a0)] (aB v1), .pure [(aI .i64 a1)] (aB v3), .br false, .br false, .br false, .br true] rfl (by repeat' first | refine And.intro ?_ ?_ | exact (PureCall.none (cmp_isNaN_int64_ok _ _ h2) (Cvs.cons .sc Cvs.nil)) | exact (PureCall.none (cmp_isNaN_int64_ok _ _ h4) (Cvs.cons .sc Cvs.nil)) | exact oblA) ?_
     refine fin_ret rfl ?_
     exact .sc
    ·clear h; intro h9 h
     obtain rfl := Option.some.inj h
     refine run_to tmD 4000 [.pure [(aI .i64 a0)] (aB v1), .pure [(aI .i64 a1)] (aB v3), .br false, .br false, .br false, .br false] rfl (by repeat' first | refine And.intro ?_ ?_ | exact (PureCall.none (cmp_isNaN_int64_ok _ _ h2) (Cvs.cons .sc Cvs.nil)) | exact (PureCall.none (cmp_isNaN_int64_ok _ _ h4) (Cvs.cons .sc Cvs.nil)) | exact oblA) ?_
     refine fin_ret rfl ?_
     exact .sc

theorem cmp_Or_int_L0_ok {Q : AExit → St → Mu → Prop} {μ : Mu} (y0_6 : (List Int)) (hl : List.length y0_6 ≤ 140737488355328) : ∀ (xs : List Int) (k : Nat) (hx : y0_6.drop k = xs) (o : cmp_Or_int_L0_o) (h : cmp_Or_int_L0 y0_6 xs k  = some o)
  (C0 : o = cmp_Or_int_L0_o.x0 → SemK Tryz.prog 18 0 Q (.exit (.exit 0)) [] ⟨fr [(3, (aI .i64 0))], hp ([]), 0⟩ μ)
  (C1 : ∀ (z0_1_2 : Int), o = cmp_Or_int_L0_o.x1 z0_1_2 → SemK Tryz.prog 18 0 Q (.exit .ret) [] ⟨fr [(2, (aI .i64 z0_1_2))], hp ([]), 0⟩ μ),
  SemK Tryz.prog 18 0 Q (.loop (loopB 0 (bodyOf Tryz.f119))) [] ⟨fr [(3, (aI .i64 0)), (6, (AV.list false (List.map (aI .i64) y0_6))), (7, (aI .i64 (List.length y0_6 : Int))), (8, (aI .i64 (k : Int)))], hp ([]), 0⟩ μ := by
 intro xs
 induction xs with
 | nil =>
  intro k hx  o h C0 C1
  have hk := drop_nil hx
  have hc : decide ((k : Int) < (List.length y0_6 : Int)) = false := decide_eq_false (by omega)
  rw [cmp_Or_int_L0] at h
  refine SemK.round ?_
  obtain rfl := Option.some.inj h
  refine runT tmD [.br false] ?_
  exact wkT [] (C0  rfl)
 | cons x xs ih =>
  intro k hx  o h C0 C1
  obtain ⟨hk, hg, hx1⟩ := drop_cons hx
  have hc : decide ((k : Int) < (List.length y0_6 : Int)) = true := decide_eq_true (by omega)
  rw [cmp_Or_int_L0] at h
  refine SemK.round ?_
  refine brE h ?_ ?_
  ·clear h; intro h6 h
   obtain rfl := Option.some.inj h
   refine runT tmD [.br true, .el (aI .i64 x), .br true] ?_
   exact wkT [] (C1 _  rfl)
  ·clear h; intro h6 h
   refine runT tmD [.br true, .el (aI .i64 x), .br false] ?_
   exact wkT [] (ih (k + 1) hx1  o h C0 C1)

theorem cmp_Or_int_ok (a0 : (List Int)) (r : Int) (h : cmp_Or_int a0 = some r) : Pure Tryz.prog 119 [(AV.list false (List.map (aI .i64) a0))] (aI .i64 r) := by
 refine Pure.sym tyTab_ok fn119 (nt := 18) rfl rfl ?_ (allCons .list allNil)
 unfold cmp_Or_int at h
 refine bindE h ?_
 clear h; intro u1 h2 h
 have qh2 := lenOk_le h2
 refine bindE h ?_
 clear h; intro o7 h8 h
 refine runT tmD [.el (aI .i64 (List.length a0 : Int))] ?_
 refine wkT [] (SemK.cut (cmp_Or_int_L0_ok a0 qh2 a0 0 (by simp) _ h8 ?_ ?_))
 ·intro eo7; subst eo7
  refine SemK.glue ?_
  try dsimp only at h
  obtain rfl := Option.some.inj h
  refine runT tmD [] ?_
  refine fin_ret rfl ?_
  exact .sc
 ·intro z0_1_2 eo7; subst eo7
  refine SemK.glue ?_
  try dsimp only at h
  obtain rfl := Option.some.inj h
  refine runT tmD [] ?_
  refine fin_ret rfl ?_
  exact .sc

theorem store_order_ok (a0 : GEntry) (a1 : GEntry) (r : Int) (h : store_order a0 a1 = some r) : Pure Tryz.prog 83 [(enc_GEntry a0), (enc_GEntry a1)] (aI .i64 r) := by
 refine Pure.sym tyTab_ok fn83 (nt := 26) rfl rfl ?_ (allCons (free_GEntry _ _).1 (allCons (free_GEntry _ _).1 allNil))
 unfold store_order at h
 refine bindE h ?_
 clear h; intro v1 h2 h
 refine bindE h ?_
 clear h; intro v3 h4 h
 refine bindE h ?_
 clear h; intro v5 h6 h
 refine bindE h ?_
 clear h; intro v7 h8 h
 obtain rfl := Option.some.inj h
 refine run_to tmD 4000 [.pure [(aI .i64 a0.Span.End), (aI .i64 a1.Span.End)] (aI .i64 v1), .pure [(aI .i64 a0.Span.Start), (aI .i64 a1.Span.Start)] (aI .i64 v3), .pure [(aI .i64 a0.Key), (aI .i64 a1.Key)] (aI .i64 v5), .pure [(AV.list false (List.map (aI .i64) [v1, v3, v5]))] (aI .i64 v7)] rfl (by repeat' first | refine And.intro ?_ ?_ | exact (PureCall.none (cmp_Compare_int64_ok _ _ _ h2) (Cvs.cons .sc (Cvs.cons .sc Cvs.nil))) | exact (PureCall.none (cmp_Compare_int64_ok _ _ _ h4) (Cvs.cons .sc (Cvs.cons .sc Cvs.nil))) | exact (PureCall.none (cmp_Compare_int64_ok _ _ _ h6) (Cvs.cons .sc (Cvs.cons .sc Cvs.nil))) | exact (PureCall.lent (cmp_Or_int_ok _ _ h8) (Cvs.cons (cv_ref (es := List.map (aI .i64) [v1, v3, v5]) rfl (by first | rfl | (simp; done) | (simp; rfl) | (simp []; done) | (simp []; rfl) | (simp [List.map_take, List.map_drop]; done) | (simp [List.map_take, List.map_drop]; rfl)) (by first | rfl | (simp; done) | (simp; omega) | (simp []; done) | (simp []; omega)) (flat_map (fun _ => flatSc) [v1, v3, v5])) Cvs.nil) .sc) | exact oblA) ?_
 refine fin_ret rfl ?_
 exact .sc

theorem store_Check_L0_ok {Q : AExit → St → Mu → Prop} {μ : Mu} (y0_0 : (List GEntry)) (hl : List.length y0_0 ≤ 140737488355328) : ∀ (xs : List GEntry) (k : Nat) (hx : y0_0.drop k = xs) (o : store_Check_L0_o) (h : store_Check_L0 y0_0 xs k  = some o)
  (C0 : o = store_Check_L0_o.x0 → SemK Tryz.prog 33 0 Q (.exit (.exit 0)) [] ⟨fr [], hp ([]), 0⟩ μ)
  (C1 : o = store_Check_L0_o.x1 → SemK Tryz.prog 33 0 Q (.exit .ret) [] ⟨fr [(2, (aI .i64 8))], hp ([]), 0⟩ μ),
  SemK Tryz.prog 33 0 Q (.loop (loopB 0 (bodyOf Tryz.f46))) [] ⟨fr [(0, (AV.list false (List.map enc_GEntry y0_0))), (8, (AV.list false (List.map enc_GEntry y0_0))), (9, (aI .i64 (List.length y0_0 : Int))), (10, (aI .i64 (k : Int)))], hp ([]), 0⟩ μ := by
 intro xs
 induction xs with
 | nil =>
  intro k hx  o h C0 C1
  have hk := drop_nil hx
  have hc : decide ((k : Int) < (List.length y0_0 : Int)) = false := decide_eq_false (by omega)
  rw [store_Check_L0] at h
  refine SemK.round ?_
  obtain rfl := Option.some.inj h
  refine runT tmD [.br false] ?_
  exact wkT [] (C0  rfl)
 | cons x xs ih =>
  intro k hx  o h C0 C1
  obtain ⟨hk, hg, hx1⟩ := drop_cons hx
  have hc : decide ((k : Int) < (List.length y0_0 : Int)) = true := decide_eq_true (by omega)
  rw [store_Check_L0] at h
  refine SemK.round ?_
  refine bindE h ?_
  clear h; intro j51_31 h60 h
  refine runT tmD [.br true, .el (enc_GEntry x), .stop 6] ?_
  refine SemK.join (s' := ⟨fr [(0, (AV.list false (List.map enc_GEntry y0_0))), (8, (AV.list false (List.map enc_GEntry y0_0))), (9, (aI .i64 (List.length y0_0 : Int))), (10, (aI .i64 (k : Int))), (31, (aB j51_31))], hp ([]), 0⟩) ?_ (fun J => SemK.cut ?_)
  ·
   refine brE h ?_ ?_
   ·clear h; intro h61 h
    obtain rfl := Option.some.inj h
    refine runT tmD [.br true] ?_
    exact wkT [] (C1  rfl)
   ·clear h; intro h61 h
    refine runT tmD [.br false] ?_
    exact wkT [] (ih (k + 1) hx1  o h C0 C1)
  ·
   clear h
   have h := h60
   refine bindE h ?_
   clear h; intro v52 h53 h
   refine brE h ?_ ?_
   ·clear h; intro h54 h
    obtain rfl := Option.some.inj h
    refine run_to tmD 4000 [.pure [(enc_GEntry x)] (aB v52), .go false, .go false, .go false, .no, .no, .no, .no, .no, .no, .no, .no, .go false, .go true] rfl (by repeat' first | refine And.intro ?_ ?_ | exact (PureCall.none (store_right_ok _ _ h53) (Cvs.cons (cvf_GEntry (x := x)) Cvs.nil)) | exact oblA) ?_
    exact wkT [] (SemK.glue J)
   ·clear h; intro h54 h
    refine brE h ?_ ?_
    ·clear h; intro h55 h
     refine bindE h ?_
     clear h; intro e56 h57 h
     try have qh57 := getI_lt h57
     refine bindE h ?_
     clear h; intro v58 h59 h
     obtain rfl := Option.some.inj h
     refine run_to tmD 4000 [.pure [(enc_GEntry x)] (aB v52), .go true, .go true, .go true, .go true, .go true, .go true, .wrap, .go true, .el (enc_GEntry e56), .go true, .go true, .go true, .pure [(enc_GEntry e56), (enc_GEntry x)] (aI .i64 v58), .go true, .go true] rfl (by repeat' first | refine And.intro ?_ ?_ | exact (PureCall.none (store_right_ok _ _ h53) (Cvs.cons (cvf_GEntry (x := x)) Cvs.nil)) | exact (PureCall.none (store_order_ok _ _ _ h59) (Cvs.cons (cvf_GEntry (x := e56)) (Cvs.cons (cvf_GEntry (x := x)) Cvs.nil))) | exact oblA) ?_
     exact wkT [] (SemK.glue J)
    ·clear h; intro h55 h
     obtain rfl := Option.some.inj h
     refine run_to tmD 4000 [.pure [(enc_GEntry x)] (aB v52), .go true, .go true, .go true, .go false, .go false, .go false, .go false, .go false, .go false, .go false, .go false, .go true, .go false] rfl (by repeat' first | refine And.intro ?_ ?_ | exact (PureCall.none (store_right_ok _ _ h53) (Cvs.cons (cvf_GEntry (x := x)) Cvs.nil)) | exact oblA) ?_
     exact wkT [] (SemK.glue J)

theorem store_Check_ok (a0 : (List GEntry)) (r : Int) (h : store_Check a0 = some r) : Pure Tryz.prog 46 [(AV.list false (List.map enc_GEntry a0))] (aI .i64 r) := by
 refine Pure.sym tyTab_ok fn46 (nt := 33) rfl rfl ?_ (allCons .list allNil)
 unfold store_Check at h
 refine brE h ?_ ?_
 ·clear h; intro h1 h
  obtain rfl := Option.some.inj h
  refine runT tmD [.el (aI .i64 (List.length a0 : Int)), .br true] ?_
  refine fin_ret rfl ?_
  exact .sc
 ·clear h; intro h1 h
  refine bindE h ?_
  clear h; intro u2 h3 h
  have qh3 := lenOk_le h3
  refine bindE h ?_
  clear h; intro o62 h63 h
  refine runT tmD [.el (aI .i64 (List.length a0 : Int)), .br false, .el (aI .i64 (List.length a0 : Int))] ?_
  refine wkT [] (SemK.cut (store_Check_L0_ok a0 qh3 a0 0 (by simp) _ h63 ?_ ?_))
  ·intro eo62; subst eo62
   refine SemK.glue ?_
   try dsimp only at h
   obtain rfl := Option.some.inj h
   refine runT tmD [] ?_
   refine fin_ret rfl ?_
   exact .sc
  ·intro eo62; subst eo62
   refine SemK.glue ?_
   try dsimp only at h
   obtain rfl := Option.some.inj h
   refine runT tmD [] ?_
   refine fin_ret rfl ?_
   exact .sc

theorem task_isMark_ok (a0 : Int) (r : Bool) (h : task_isMark a0 = some r) : Pure Tryz.prog 64 [(aI .i64 a0)] (aB r) := by
 refine Pure.sym tyTab_ok fn64 (nt := 11) rfl rfl ?_ (allCons .sc allNil)
 unfold task_isMark at h
 refine bindE h ?_
 clear h; intro j4_2 h8 h
 refine runT tmD [.stop 1] ?_
 refine SemK.join (s' := ⟨fr [(2, (aB j4_2))], hp ([]), 0⟩) ?_ (fun J => SemK.cut ?_)
 ·
  obtain rfl := Option.some.inj h
  refine runT tmD [] ?_
  refine fin_ret rfl ?_
  exact .sc
 ·
  clear h
  have h := h8
  refine brE h ?_ ?_
  ·clear h; intro h5 h
   obtain rfl := Option.some.inj h
   refine runT tmD [.go false, .go false, .go false, .go false] ?_
   exact wkT [] (SemK.glue J)
  ·clear h; intro h5 h
   refine bindE h ?_
   clear h; intro v6 h7 h
   obtain rfl := Option.some.inj h
   refine run_to tmD 4000 [.go true, .go true, .go true, .pure [(enc_GMessage (GMessage.mk 2 (GRecord.mk 0 0 0) a0 (GRow.mk 0 (GSpan.mk 0 0) (V2.mk 0 0))))] (aI .i64 v6), .go true] rfl (by repeat' first | refine And.intro ?_ ?_ | exact (PureCall.none (message_Check_ok _ _ h7) (Cvs.cons (cvf_GMessage (x := (GMessage.mk 2 (GRecord.mk 0 0 0) a0 (GRow.mk 0 (GSpan.mk 0 0) (V2.mk 0 0))))) Cvs.nil)) | exact oblA) ?_
   exact wkT [] (SemK.glue J)

theorem message_Of_ok (a0 : GEvent) (r : GMessage × Int) (h : message_Of a0 = some r) : Pure Tryz.prog 104 [(enc_GEvent a0)] (AV.tup [(enc_GMessage r.1), (aI .i64 r.2)]) := by
 refine Pure.sym tyTab_ok fn104 (nt := 34) rfl rfl ?_ (allCons (free_GEvent _ _).1 allNil)
 unfold message_Of at h
 refine brE h ?_ ?_
 ·clear h; intro h1 h
  refine bindE h ?_
  clear h; intro j5_15 h9 h
  refine runT tmD [.br true, .stop 2] ?_
  refine SemK.join (s' := ⟨fr [(1, (AV.ptr 0 0 0)), (2, (AV.ptr 1 0 0)), (15, (aB j5_15))], hp ([(0, { es := [(enc_GEvent a0)], esz := 5 }), (1, { es := [(enc_GMessage (GMessage.mk 0 (GRecord.mk 0 0 0) 0 (GRow.mk 0 (GSpan.mk 0 0) (V2.mk 0 0))))], esz := 10 })]), 2⟩) ?_ (fun J => SemK.cut ?_)
  ·
   refine brE h ?_ ?_
   ·clear h; intro h10 h
    obtain rfl := Option.some.inj h
    refine runT tmD [.br true] ?_
    refine fin_ret rfl ?_
    exact (cv_tup (Cvs.cons (cvf_GMessage (x := (GMessage.mk 0 (GRecord.mk 0 0 0) 0 (GRow.mk 0 (GSpan.mk 0 0) (V2.mk 0 0))))) (Cvs.cons .sc Cvs.nil)))
   ·clear h; intro h10 h
    obtain rfl := Option.some.inj h
    refine runT tmD [.br false] ?_
    refine fin_ret rfl ?_
    exact (cv_tup (Cvs.cons (cvf_GMessage (x := (GMessage.mk 2 (GRecord.mk 0 0 0) a0.Time (GRow.mk 0 (GSpan.mk 0 0) (V2.mk 0 0))))) (Cvs.cons .sc Cvs.nil)))
  ·
   clear h
   have h := h9
   refine bindE h ?_
   clear h; intro v6 h7 h
   refine brE h ?_ ?_
   ·clear h; intro h8 h
    obtain rfl := Option.some.inj h
    refine run_to tmD 4000 [.pure [(aI .i64 a0.Time)] (aB v6), .go false, .go false, .go false, .go false] rfl (by repeat' first | refine And.intro ?_ ?_ | exact (PureCall.none (message_isMark_ok _ _ h7) (Cvs.cons .sc Cvs.nil)) | exact oblA) ?_
    exact wkT [] (SemK.glue J)
   ·clear h; intro h8 h
    obtain rfl := Option.some.inj h
    refine run_to tmD 4000 [.pure [(aI .i64 a0.Time)] (aB v6), .go true, .go true, .go true, .go true] rfl (by repeat' first | refine And.intro ?_ ?_ | exact (PureCall.none (message_isMark_ok _ _ h7) (Cvs.cons .sc Cvs.nil)) | exact oblA) ?_
    exact wkT [] (SemK.glue J)
 ·clear h; intro h1 h
  refine bindE h ?_
  clear h; intro j14_29 h18 h
  refine runT tmD [.br false, .stop 5] ?_
  refine SemK.join (s' := ⟨fr [(1, (AV.ptr 0 0 0)), (2, (AV.ptr 1 0 0)), (29, (aB j14_29))], hp ([(0, { es := [(enc_GEvent a0)], esz := 5 }), (1, { es := [(enc_GMessage (GMessage.mk 0 (GRecord.mk 0 0 0) 0 (GRow.mk 0 (GSpan.mk 0 0) (V2.mk 0 0))))], esz := 10 })]), 2⟩) ?_ (fun J => SemK.cut ?_)
  ·
   refine brE h ?_ ?_
   ·clear h; intro h19 h
    obtain rfl := Option.some.inj h
    refine runT tmD [.br true] ?_
    refine fin_ret rfl ?_
    exact (cv_tup (Cvs.cons (cvf_GMessage (x := (GMessage.mk 0 (GRecord.mk 0 0 0) 0 (GRow.mk 0 (GSpan.mk 0 0) (V2.mk 0 0))))) (Cvs.cons .sc Cvs.nil)))
   ·clear h; intro h19 h
    obtain rfl := Option.some.inj h
    refine runT tmD [.br false] ?_
    refine fin_ret rfl ?_
    exact (cv_tup (Cvs.cons (cvf_GMessage (x := (GMessage.mk 1 a0.Record 0 (GRow.mk 0 (GSpan.mk 0 0) (V2.mk 0 0))))) (Cvs.cons .sc Cvs.nil)))
  ·
   clear h
   have h := h18
   refine brE h ?_ ?_
   ·clear h; intro h15 h
    obtain rfl := Option.some.inj h
    refine runT tmD [.go false, .go false, .go false, .go false, .go false] ?_
    exact wkT [] (SemK.glue J)
   ·clear h; intro h15 h
    refine bindE h ?_
    clear h; intro v16 h17 h
    obtain rfl := Option.some.inj h
    refine run_to tmD 4000 [.go true, .go true, .go true, .go true, .pure [(aI .i64 a0.Record.Time)] (aB v16), .go true] rfl (by repeat' first | refine And.intro ?_ ?_ | exact (PureCall.none (message_isTime_ok _ _ h17) (Cvs.cons .sc Cvs.nil)) | exact oblA) ?_
    exact wkT [] (SemK.glue J)

theorem message_Event_ok (a0 : GEvent) (r : Int) (h : message_Event a0 = some r) : Pure Tryz.prog 65 [(enc_GEvent a0)] (aI .i64 r) := by
 refine Pure.sym tyTab_ok fn65 (nt := 11) rfl rfl ?_ (allCons (free_GEvent _ _).1 allNil)
 unfold message_Event at h
 refine bindE h ?_
 clear h; intro v1 h2 h
 obtain rfl := Option.some.inj h
 refine run_to tmD 4000 [.pure [(enc_GEvent a0)] (AV.tup [(enc_GMessage v1.1), (aI .i64 v1.2)])] rfl (by repeat' first | refine And.intro ?_ ?_ | exact (PureCall.none (message_Of_ok _ _ h2) (Cvs.cons (cvf_GEvent (x := a0)) Cvs.nil)) | exact oblA) ?_
 refine fin_ret rfl ?_
 exact .sc

theorem task_Check_L0_ok {Q : AExit → St → Mu → Prop} {μ : Mu} (y0_o0 : GTask) (y0_122 : (List Int)) (hl : List.length y0_122 ≤ 140737488355328) : ∀ (xs : List Int) (k : Nat) (hx : y0_122.drop k = xs) (y0_11 : Bool) (o : task_Check_L0_o) (h : task_Check_L0 y0_o0 y0_122 xs k y0_11 = some o)
  (C0 : ∀ (z0_0_11 : Bool), o = task_Check_L0_o.x0 z0_0_11 → SemK Tryz.prog 202 0 Q (.exit (.exit 0)) [] ⟨fr [(1, (AV.ptr 0 0 0)), (11, (aB z0_0_11))], hp ([(0, { es := [(enc_GTask false y0_o0)], esz := 9 })]), 1⟩ μ),
  SemK Tryz.prog 202 0 Q (.loop (loopB 0 (bodyOf Tryz.f34))) [] ⟨fr [(1, (AV.ptr 0 0 0)), (11, (aB y0_11)), (122, (AV.list false (List.map (aI .i64) y0_122))), (123, (aI .i64 (List.length y0_122 : Int))), (124, (aI .i64 (k : Int)))], hp ([(0, { es := [(enc_GTask false y0_o0)], esz := 9 })]), 1⟩ μ := by
 intro xs
 induction xs with
 | nil =>
  intro k hx y0_11 o h C0
  have hk := drop_nil hx
  have hc : decide ((k : Int) < (List.length y0_122 : Int)) = false := decide_eq_false (by omega)
  rw [task_Check_L0] at h
  refine SemK.round ?_
  obtain rfl := Option.some.inj h
  refine runT tmD [.br false] ?_
  exact wkT [] (C0 _  rfl)
 | cons x xs ih =>
  intro k hx y0_11 o h C0
  obtain ⟨hk, hg, hx1⟩ := drop_cons hx
  have hc : decide ((k : Int) < (List.length y0_122 : Int)) = true := decide_eq_true (by omega)
  rw [task_Check_L0] at h
  refine SemK.round ?_
  refine bindE h ?_
  clear h; intro j72_11 h76 h
  refine runT tmD [.br true, .el (aI .i64 x), .stop 10] ?_
  refine SemK.join (s' := ⟨fr [(1, (AV.ptr 0 0 0)), (11, (aB j72_11)), (122, (AV.list false (List.map (aI .i64) y0_122))), (123, (aI .i64 (List.length y0_122 : Int))), (124, (aI .i64 (k : Int)))], hp ([(0, { es := [(enc_GTask false y0_o0)], esz := 9 })]), 1⟩) ?_ (fun J => SemK.cut ?_)
  ·
   refine runT tmD [] ?_
   exact wkT [] (ih (k + 1) hx1 _ o h C0)
  ·
   clear h
   have h := h76
   refine brE h ?_ ?_
   ·clear h; intro h73 h
    refine bindE h ?_
    clear h; intro v74 h75 h
    obtain rfl := Option.some.inj h
    refine run_to tmD 4000 [.go true, .go true, .pure [(aI .i64 x)] (aB v74)] rfl (by repeat' first | refine And.intro ?_ ?_ | exact (PureCall.none (task_isMark_ok _ _ h75) (Cvs.cons .sc Cvs.nil)) | exact oblA) ?_
    exact wkT [] (SemK.glue J)
   ·clear h; intro h73 h
    obtain rfl := Option.some.inj h
    refine runT tmD [.go false, .go false] ?_
    exact wkT [] (SemK.glue J)

theorem task_Check_L1_ok {Q : AExit → St → Mu → Prop} {μ : Mu} (y1_o0 : GTask) (y1_135 : (List GEvent)) (hl : List.length y1_135 ≤ 140737488355328) : ∀ (xs : List GEvent) (k : Nat) (hx : y1_135.drop k = xs) (y1_11 : Bool) (o : task_Check_L1_o) (h : task_Check_L1 y1_o0 y1_135 xs k y1_11 = some o)
  (C0 : ∀ (z1_0_11 : Bool), o = task_Check_L1_o.x0 z1_0_11 → SemK Tryz.prog 202 0 Q (.exit (.exit 2)) [] ⟨fr [(1, (AV.ptr 0 0 0)), (11, (aB z1_0_11))], hp ([(0, { es := [(enc_GTask false y1_o0)], esz := 9 })]), 1⟩ μ),
  SemK Tryz.prog 202 0 Q (.loop (loopB 1 (bodyOf Tryz.f34))) [] ⟨fr [(1, (AV.ptr 0 0 0)), (11, (aB y1_11)), (135, (AV.list false (List.map enc_GEvent y1_135))), (136, (aI .i64 (List.length y1_135 : Int))), (137, (aI .i64 (k : Int)))], hp ([(0, { es := [(enc_GTask false y1_o0)], esz := 9 })]), 1⟩ μ := by
 intro xs
 induction xs with
 | nil =>
  intro k hx y1_11 o h C0
  have hk := drop_nil hx
  have hc : decide ((k : Int) < (List.length y1_135 : Int)) = false := decide_eq_false (by omega)
  rw [task_Check_L1] at h
  refine SemK.round ?_
  obtain rfl := Option.some.inj h
  refine runT tmD [.br false] ?_
  exact wkT [] (C0 _  rfl)
 | cons x xs ih =>
  intro k hx y1_11 o h C0
  obtain ⟨hk, hg, hx1⟩ := drop_cons hx
  have hc : decide ((k : Int) < (List.length y1_135 : Int)) = true := decide_eq_true (by omega)
  rw [task_Check_L1] at h
  refine SemK.round ?_
  refine bindE h ?_
  clear h; intro j101_11 h105 h
  refine runT tmD [.br true, .el (enc_GEvent x), .stop 15] ?_
  refine SemK.join (s' := ⟨fr [(1, (AV.ptr 0 0 0)), (11, (aB j101_11)), (135, (AV.list false (List.map enc_GEvent y1_135))), (136, (aI .i64 (List.length y1_135 : Int))), (137, (aI .i64 (k : Int)))], hp ([(0, { es := [(enc_GTask false y1_o0)], esz := 9 })]), 1⟩) ?_ (fun J => SemK.cut ?_)
  ·
   refine runT tmD [] ?_
   exact wkT [] (ih (k + 1) hx1 _ o h C0)
  ·
   clear h
   have h := h105
   refine brE h ?_ ?_
   ·clear h; intro h102 h
    refine bindE h ?_
    clear h; intro v103 h104 h
    obtain rfl := Option.some.inj h
    refine run_to tmD 4000 [.go true, .go true, .pure [(enc_GEvent x)] (aI .i64 v103), .go true] rfl (by repeat' first | refine And.intro ?_ ?_ | exact (PureCall.none (message_Event_ok _ _ h104) (Cvs.cons (cvf_GEvent (x := x)) Cvs.nil)) | exact oblA) ?_
    exact wkT [] (SemK.glue J)
   ·clear h; intro h102 h
    obtain rfl := Option.some.inj h
    refine runT tmD [.go false, .go false, .go false] ?_
    exact wkT [] (SemK.glue J)

theorem task_Check_L2_ok {Q : AExit → St → Mu → Prop} {μ : Mu} (y2_o0 : GTask) (y2_149 : (List GRow)) (hl : List.length y2_149 ≤ 140737488355328) : ∀ (xs : List GRow) (k : Nat) (hx : y2_149.drop k = xs) (y2_11 : Bool) (o : task_Check_L2_o) (h : task_Check_L2 y2_o0 y2_149 xs k y2_11 = some o)
  (C0 : ∀ (z2_0_11 : Bool), o = task_Check_L2_o.x0 z2_0_11 → SemK Tryz.prog 202 0 Q (.exit (.exit 4)) [] ⟨fr [(1, (AV.ptr 0 0 0)), (11, (aB z2_0_11))], hp ([(0, { es := [(enc_GTask false y2_o0)], esz := 9 })]), 1⟩ μ),
  SemK Tryz.prog 202 0 Q (.loop (loopB 2 (bodyOf Tryz.f34))) [] ⟨fr [(1, (AV.ptr 0 0 0)), (11, (aB y2_11)), (149, (AV.list false (List.map enc_GRow y2_149))), (150, (aI .i64 (List.length y2_149 : Int))), (151, (aI .i64 (k : Int)))], hp ([(0, { es := [(enc_GTask false y2_o0)], esz := 9 })]), 1⟩ μ := by
 intro xs
 induction xs with
 | nil =>
  intro k hx y2_11 o h C0
  have hk := drop_nil hx
  have hc : decide ((k : Int) < (List.length y2_149 : Int)) = false := decide_eq_false (by omega)
  rw [task_Check_L2] at h
  refine SemK.round ?_
  obtain rfl := Option.some.inj h
  refine runT tmD [.br false] ?_
  exact wkT [] (C0 _  rfl)
 | cons x xs ih =>
  intro k hx y2_11 o h C0
  obtain ⟨hk, hg, hx1⟩ := drop_cons hx
  have hc : decide ((k : Int) < (List.length y2_149 : Int)) = true := decide_eq_true (by omega)
  rw [task_Check_L2] at h
  refine SemK.round ?_
  refine bindE h ?_
  clear h; intro j130_11 h134 h
  refine runT tmD [.br true, .el (enc_GRow x), .stop 20] ?_
  refine SemK.join (s' := ⟨fr [(1, (AV.ptr 0 0 0)), (11, (aB j130_11)), (149, (AV.list false (List.map enc_GRow y2_149))), (150, (aI .i64 (List.length y2_149 : Int))), (151, (aI .i64 (k : Int)))], hp ([(0, { es := [(enc_GTask false y2_o0)], esz := 9 })]), 1⟩) ?_ (fun J => SemK.cut ?_)
  ·
   refine runT tmD [] ?_
   exact wkT [] (ih (k + 1) hx1 _ o h C0)
  ·
   clear h
   have h := h134
   refine brE h ?_ ?_
   ·clear h; intro h131 h
    refine bindE h ?_
    clear h; intro v132 h133 h
    obtain rfl := Option.some.inj h
    refine run_to tmD 4000 [.go true, .go true, .go true, .pure [(enc_GMessage (GMessage.mk 3 (GRecord.mk 0 0 0) 0 x))] (aI .i64 v132), .go true] rfl (by repeat' first | refine And.intro ?_ ?_ | exact (PureCall.none (message_Check_ok _ _ h133) (Cvs.cons (cvf_GMessage (x := (GMessage.mk 3 (GRecord.mk 0 0 0) 0 x))) Cvs.nil)) | exact oblA) ?_
    exact wkT [] (SemK.glue J)
   ·clear h; intro h131 h
    obtain rfl := Option.some.inj h
    refine runT tmD [.go false, .go false, .go false, .go false] ?_
    exact wkT [] (SemK.glue J)

theorem task_Check_L3_ok {Q : AExit → St → Mu → Prop} {μ : Mu} (y3_o0 : GTask) (y3_164 : (List GRecord)) (hl : List.length y3_164 ≤ 140737488355328) : ∀ (xs : List GRecord) (k : Nat) (hx : y3_164.drop k = xs) (y3_11 : Bool) (o : task_Check_L3_o) (h : task_Check_L3 y3_o0 y3_164 xs k y3_11 = some o)
  (C0 : ∀ (z3_0_11 : Bool), o = task_Check_L3_o.x0 z3_0_11 → SemK Tryz.prog 202 0 Q (.exit (.exit 6)) [] ⟨fr [(1, (AV.ptr 0 0 0)), (11, (aB z3_0_11))], hp ([(0, { es := [(enc_GTask false y3_o0)], esz := 9 })]), 1⟩ μ),
  SemK Tryz.prog 202 0 Q (.loop (loopB 3 (bodyOf Tryz.f34))) [] ⟨fr [(1, (AV.ptr 0 0 0)), (11, (aB y3_11)), (164, (AV.list false (List.map enc_GRecord y3_164))), (165, (aI .i64 (List.length y3_164 : Int))), (166, (aI .i64 (k : Int)))], hp ([(0, { es := [(enc_GTask false y3_o0)], esz := 9 })]), 1⟩ μ := by
 intro xs
 induction xs with
 | nil =>
  intro k hx y3_11 o h C0
  have hk := drop_nil hx
  have hc : decide ((k : Int) < (List.length y3_164 : Int)) = false := decide_eq_false (by omega)
  rw [task_Check_L3] at h
  refine SemK.round ?_
  obtain rfl := Option.some.inj h
  refine runT tmD [.br false] ?_
  exact wkT [] (C0 _  rfl)
 | cons x xs ih =>
  intro k hx y3_11 o h C0
  obtain ⟨hk, hg, hx1⟩ := drop_cons hx
  have hc : decide ((k : Int) < (List.length y3_164 : Int)) = true := decide_eq_true (by omega)
  rw [task_Check_L3] at h
  refine SemK.round ?_
  refine bindE h ?_
  clear h; intro j159_11 h163 h
  refine runT tmD [.br true, .el (enc_GRecord x), .stop 25] ?_
  refine SemK.join (s' := ⟨fr [(1, (AV.ptr 0 0 0)), (11, (aB j159_11)), (164, (AV.list false (List.map enc_GRecord y3_164))), (165, (aI .i64 (List.length y3_164 : Int))), (166, (aI .i64 (k : Int)))], hp ([(0, { es := [(enc_GTask false y3_o0)], esz := 9 })]), 1⟩) ?_ (fun J => SemK.cut ?_)
  ·
   refine runT tmD [] ?_
   exact wkT [] (ih (k + 1) hx1 _ o h C0)
  ·
   clear h
   have h := h163
   refine brE h ?_ ?_
   ·clear h; intro h160 h
    refine bindE h ?_
    clear h; intro v161 h162 h
    obtain rfl := Option.some.inj h
    refine run_to tmD 4000 [.go true, .go true, .go true, .pure [(enc_GMessage (GMessage.mk 4 x 0 (GRow.mk 0 (GSpan.mk 0 0) (V2.mk 0 0))))] (aI .i64 v161), .go true] rfl (by repeat' first | refine And.intro ?_ ?_ | exact (PureCall.none (message_Check_ok _ _ h162) (Cvs.cons (cvf_GMessage (x := (GMessage.mk 4 x 0 (GRow.mk 0 (GSpan.mk 0 0) (V2.mk 0 0))))) Cvs.nil)) | exact oblA) ?_
    exact wkT [] (SemK.glue J)
   ·clear h; intro h160 h
    obtain rfl := Option.some.inj h
    refine runT tmD [.go false, .go false, .go false, .go false] ?_
    exact wkT [] (SemK.glue J)
end Go.Av.Tryz
