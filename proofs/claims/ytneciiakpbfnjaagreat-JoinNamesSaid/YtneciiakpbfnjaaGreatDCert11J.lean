/- Printed by decomp.py: that the program computes the functions. -/
import Derived.Test.YtneciiakpbfnjaaGreatDCert0J
import Derived.Test.YtneciiakpbfnjaaGreatDCert5J
import Derived.Test.YtneciiakpbfnjaaGreatDCert6J
set_option linter.all false
set_option linter.unusedVariables false
namespace Go.Av.Tryz
open Go.Proofs Go.D
set_option maxRecDepth 10000
set_option maxHeartbeats 4000000

theorem store_Fire_L0_ok {Q : AExit → St → Mu → Prop} {μ : Mu} (y0_1 : Int) (y0_15 : (List GEntry)) (hl : List.length y0_15 ≤ 140737488355328) : ∀ (xs : List GEntry) (k : Nat) (hx : y0_15.drop k = xs) (y0_o0 : (List GEntry)) (y0_o1 : (List GEntry)) (nb_y0_o0 : Nb y0_o0) (nb_y0_o1 : Nb y0_o1) (o : store_Fire_L0_o) (h : store_Fire_L0 y0_1 y0_15 xs k y0_o0 y0_o1 = some o)
  (C0 : ∀ (z0_0_o0 : (List GEntry)) (z0_0_o1 : (List GEntry)) (nb_z0_0_o0 : Nb z0_0_o0) (nb_z0_0_o1 : Nb z0_0_o1), o = store_Fire_L0_o.x0 z0_0_o0 z0_0_o1 → SemK Tryz.prog 37 0 Q (.exit (.exit 0)) [] ⟨fr [(4, (slE nb_z0_0_o0.1 0 (List.map enc_GEntry z0_0_o0))), (5, (slE nb_z0_0_o1.1 1 (List.map enc_GEntry z0_0_o1)))], hp ([] ++ opE nb_z0_0_o0.1 0 11 (List.map enc_GEntry z0_0_o0) ++ opE nb_z0_0_o1.1 1 11 (List.map enc_GEntry z0_0_o1)), 2⟩ μ),
  SemK Tryz.prog 37 0 Q (.loop (loopB 0 (bodyOf Tryz.f38))) [] ⟨fr [(1, (aI .i64 y0_1)), (4, (slE nb_y0_o0.1 0 (List.map enc_GEntry y0_o0))), (5, (slE nb_y0_o1.1 1 (List.map enc_GEntry y0_o1))), (15, (AV.list false (List.map enc_GEntry y0_15))), (16, (aI .i64 (List.length y0_15 : Int))), (17, (aI .i64 (k : Int)))], hp ([] ++ opE nb_y0_o0.1 0 11 (List.map enc_GEntry y0_o0) ++ opE nb_y0_o1.1 1 11 (List.map enc_GEntry y0_o1)), 2⟩ μ := by
 intro xs
 induction xs with
 | nil =>
  intro k hx y0_o0 y0_o1 nb_y0_o0 nb_y0_o1 o h C0
  have hk := drop_nil hx
  have hc : decide ((k : Int) < (List.length y0_15 : Int)) = false := decide_eq_false (by omega)
  rw [store_Fire_L0] at h
  rcases nb_y0_o0 with ⟨_ | _, hn_y0_o0⟩
  ·
   rcases nb_y0_o1 with ⟨_ | _, hn_y0_o1⟩
   ·
    refine SemK.round ?_
    obtain rfl := Option.some.inj h
    refine runT tmD [.br false] ?_
    exact wkT [] (C0 _ _  nbF nbF rfl)
   ·
    obtain rfl := hn_y0_o1 rfl
    refine SemK.round ?_
    obtain rfl := Option.some.inj h
    refine runT tmD [.br false] ?_
    exact wkT [] (C0 _ _  nbF (nbT (by first | rfl | simp [*])) rfl)
  ·
   obtain rfl := hn_y0_o0 rfl
   rcases nb_y0_o1 with ⟨_ | _, hn_y0_o1⟩
   ·
    refine SemK.round ?_
    obtain rfl := Option.some.inj h
    refine runT tmD [.br false] ?_
    exact wkT [] (C0 _ _  (nbT (by first | rfl | simp [*])) nbF rfl)
   ·
    obtain rfl := hn_y0_o1 rfl
    refine SemK.round ?_
    obtain rfl := Option.some.inj h
    refine runT tmD [.br false] ?_
    exact wkT [] (C0 _ _  (nbT (by first | rfl | simp [*])) (nbT (by first | rfl | simp [*])) rfl)
 | cons x xs ih =>
  intro k hx y0_o0 y0_o1 nb_y0_o0 nb_y0_o1 o h C0
  obtain ⟨hk, hg, hx1⟩ := drop_cons hx
  have hc : decide ((k : Int) < (List.length y0_15 : Int)) = true := decide_eq_true (by omega)
  rw [store_Fire_L0] at h
  rcases nb_y0_o0 with ⟨_ | _, hn_y0_o0⟩
  ·
   rcases nb_y0_o1 with ⟨_ | _, hn_y0_o1⟩
   ·
    refine SemK.round ?_
    refine bindE h ?_
    clear h; intro w108 h114 h
    obtain ⟨j108_o0, j108_o1⟩ := w108
    try dsimp only at h
    refine runT tmD [.br true, .el (enc_GEntry x)] ?_
    refine SemK.joinF (fun (q : Nb j108_o0 × Nb j108_o1) => ⟨fr [(1, (aI .i64 y0_1)), (4, (slE q.1.1 0 (List.map enc_GEntry j108_o0))), (5, (slE q.2.1 1 (List.map enc_GEntry j108_o1))), (15, (AV.list false (List.map enc_GEntry y0_15))), (16, (aI .i64 (List.length y0_15 : Int))), (17, (aI .i64 (k : Int)))], hp ([] ++ opE q.1.1 0 11 (List.map enc_GEntry j108_o0) ++ opE q.2.1 1 11 (List.map enc_GEntry j108_o1)), 2⟩) ?_ (fun J => SemK.cut ?_)
    ·
     rintro ⟨nb_j108_o0, nb_j108_o1⟩
     rcases nb_j108_o0 with ⟨_ | _, hn_j108_o0⟩
     ·
      rcases nb_j108_o1 with ⟨_ | _, hn_j108_o1⟩
      ·
       refine runT tmD [] ?_
       exact wkT [] (ih (k + 1) hx1 _ _ nbF nbF o h C0)
      ·
       obtain rfl := hn_j108_o1 rfl
       refine runT tmD [] ?_
       exact wkT [] (ih (k + 1) hx1 _ _ nbF (nbT (by first | rfl | simp [*])) o h C0)
     ·
      obtain rfl := hn_j108_o0 rfl
      rcases nb_j108_o1 with ⟨_ | _, hn_j108_o1⟩
      ·
       refine runT tmD [] ?_
       exact wkT [] (ih (k + 1) hx1 _ _ (nbT (by first | rfl | simp [*])) nbF o h C0)
      ·
       obtain rfl := hn_j108_o1 rfl
       refine runT tmD [] ?_
       exact wkT [] (ih (k + 1) hx1 _ _ (nbT (by first | rfl | simp [*])) (nbT (by first | rfl | simp [*])) o h C0)
    ·
     clear h
     have h := h114
     refine brE h ?_ ?_
     ·clear h; intro h109 h
      refine bindE h ?_
      clear h; intro u110 h111 h
      simp only [Option.some.injEq, Prod.mk.injEq] at h
      obtain ⟨rfl, rfl⟩ := h
      refine run_to tmD 4000 [.br true, .no] rfl (by repeat' first | refine And.intro ?_ ?_ | (refine capLe h111 rfl ?_; first | (simp; done) | (simp; omega) | (simp [hc, h109]; done) | (simp [hc, h109]; omega)) | (refine capMax h111 (by decide) ?_; first | (simp; done) | (simp; omega) | (simp [hc, h109]; done) | (simp [hc, h109]; omega)) | exact oblA) ?_
      exact wkT [(0, 4)] (SemK.glue (J (nbF, nbF)))
     ·clear h; intro h109 h
      refine bindE h ?_
      clear h; intro u112 h113 h
      simp only [Option.some.injEq, Prod.mk.injEq] at h
      obtain ⟨rfl, rfl⟩ := h
      refine run_to tmD 4000 [.br false, .no] rfl (by repeat' first | refine And.intro ?_ ?_ | (refine capLe h113 rfl ?_; first | (simp; done) | (simp; omega) | (simp [hc, h109]; done) | (simp [hc, h109]; omega)) | (refine capMax h113 (by decide) ?_; first | (simp; done) | (simp; omega) | (simp [hc, h109]; done) | (simp [hc, h109]; omega)) | exact oblA) ?_
      exact wkT [(1, 4)] (SemK.glue (J (nbF, nbF)))
   ·
    obtain rfl := hn_y0_o1 rfl
    refine SemK.round ?_
    refine bindE h ?_
    clear h; intro w120 h126 h
    obtain ⟨j120_o0, j120_o1⟩ := w120
    try dsimp only at h
    refine runT tmD [.br true, .el (enc_GEntry x)] ?_
    refine SemK.joinF (fun (q : Nb j120_o0 × Nb j120_o1) => ⟨fr [(1, (aI .i64 y0_1)), (4, (slE q.1.1 0 (List.map enc_GEntry j120_o0))), (5, (slE q.2.1 1 (List.map enc_GEntry j120_o1))), (15, (AV.list false (List.map enc_GEntry y0_15))), (16, (aI .i64 (List.length y0_15 : Int))), (17, (aI .i64 (k : Int)))], hp ([] ++ opE q.1.1 0 11 (List.map enc_GEntry j120_o0) ++ opE q.2.1 1 11 (List.map enc_GEntry j120_o1)), 2⟩) ?_ (fun J => SemK.cut ?_)
    ·
     rintro ⟨nb_j120_o0, nb_j120_o1⟩
     rcases nb_j120_o0 with ⟨_ | _, hn_j120_o0⟩
     ·
      rcases nb_j120_o1 with ⟨_ | _, hn_j120_o1⟩
      ·
       refine runT tmD [] ?_
       exact wkT [] (ih (k + 1) hx1 _ _ nbF nbF o h C0)
      ·
       obtain rfl := hn_j120_o1 rfl
       refine runT tmD [] ?_
       exact wkT [] (ih (k + 1) hx1 _ _ nbF (nbT (by first | rfl | simp [*])) o h C0)
     ·
      obtain rfl := hn_j120_o0 rfl
      rcases nb_j120_o1 with ⟨_ | _, hn_j120_o1⟩
      ·
       refine runT tmD [] ?_
       exact wkT [] (ih (k + 1) hx1 _ _ (nbT (by first | rfl | simp [*])) nbF o h C0)
      ·
       obtain rfl := hn_j120_o1 rfl
       refine runT tmD [] ?_
       exact wkT [] (ih (k + 1) hx1 _ _ (nbT (by first | rfl | simp [*])) (nbT (by first | rfl | simp [*])) o h C0)
    ·
     clear h
     have h := h126
     refine brE h ?_ ?_
     ·clear h; intro h121 h
      refine bindE h ?_
      clear h; intro u122 h123 h
      simp only [Option.some.injEq, Prod.mk.injEq] at h
      obtain ⟨rfl, rfl⟩ := h
      refine run_to tmD 4000 [.br true, .no] rfl (by repeat' first | refine And.intro ?_ ?_ | (refine capLe h123 rfl ?_; first | (simp; done) | (simp; omega) | (simp [hc, h121]; done) | (simp [hc, h121]; omega)) | (refine capMax h123 (by decide) ?_; first | (simp; done) | (simp; omega) | (simp [hc, h121]; done) | (simp [hc, h121]; omega)) | exact oblA) ?_
      exact wkT [(0, 4)] (SemK.glue (J (nbF, (nbT (by first | rfl | simp [*])))))
     ·clear h; intro h121 h
      refine bindE h ?_
      clear h; intro u124 h125 h
      simp only [Option.some.injEq, Prod.mk.injEq] at h
      obtain ⟨rfl, rfl⟩ := h
      refine run_to tmD 4000 [.br false, .no] rfl (by repeat' first | refine And.intro ?_ ?_ | (refine capLe h125 rfl ?_; first | (simp; done) | (simp; omega) | (simp [hc, h121]; done) | (simp [hc, h121]; omega)) | (refine capMax h125 (by decide) ?_; first | (simp; done) | (simp; omega) | (simp [hc, h121]; done) | (simp [hc, h121]; omega)) | exact oblA) ?_
      exact wkT [(1, 4)] (SemK.glue (J (nbF, nbF)))
  ·
   obtain rfl := hn_y0_o0 rfl
   rcases nb_y0_o1 with ⟨_ | _, hn_y0_o1⟩
   ·
    refine SemK.round ?_
    refine bindE h ?_
    clear h; intro w132 h138 h
    obtain ⟨j132_o0, j132_o1⟩ := w132
    try dsimp only at h
    refine runT tmD [.br true, .el (enc_GEntry x)] ?_
    refine SemK.joinF (fun (q : Nb j132_o0 × Nb j132_o1) => ⟨fr [(1, (aI .i64 y0_1)), (4, (slE q.1.1 0 (List.map enc_GEntry j132_o0))), (5, (slE q.2.1 1 (List.map enc_GEntry j132_o1))), (15, (AV.list false (List.map enc_GEntry y0_15))), (16, (aI .i64 (List.length y0_15 : Int))), (17, (aI .i64 (k : Int)))], hp ([] ++ opE q.1.1 0 11 (List.map enc_GEntry j132_o0) ++ opE q.2.1 1 11 (List.map enc_GEntry j132_o1)), 2⟩) ?_ (fun J => SemK.cut ?_)
    ·
     rintro ⟨nb_j132_o0, nb_j132_o1⟩
     rcases nb_j132_o0 with ⟨_ | _, hn_j132_o0⟩
     ·
      rcases nb_j132_o1 with ⟨_ | _, hn_j132_o1⟩
      ·
       refine runT tmD [] ?_
       exact wkT [] (ih (k + 1) hx1 _ _ nbF nbF o h C0)
      ·
       obtain rfl := hn_j132_o1 rfl
       refine runT tmD [] ?_
       exact wkT [] (ih (k + 1) hx1 _ _ nbF (nbT (by first | rfl | simp [*])) o h C0)
     ·
      obtain rfl := hn_j132_o0 rfl
      rcases nb_j132_o1 with ⟨_ | _, hn_j132_o1⟩
      ·
       refine runT tmD [] ?_
       exact wkT [] (ih (k + 1) hx1 _ _ (nbT (by first | rfl | simp [*])) nbF o h C0)
      ·
       obtain rfl := hn_j132_o1 rfl
       refine runT tmD [] ?_
       exact wkT [] (ih (k + 1) hx1 _ _ (nbT (by first | rfl | simp [*])) (nbT (by first | rfl | simp [*])) o h C0)
    ·
     clear h
     have h := h138
     refine brE h ?_ ?_
     ·clear h; intro h133 h
      refine bindE h ?_
      clear h; intro u134 h135 h
      simp only [Option.some.injEq, Prod.mk.injEq] at h
      obtain ⟨rfl, rfl⟩ := h
      refine run_to tmD 4000 [.br true, .no] rfl (by repeat' first | refine And.intro ?_ ?_ | (refine capLe h135 rfl ?_; first | (simp; done) | (simp; omega) | (simp [hc, h133]; done) | (simp [hc, h133]; omega)) | (refine capMax h135 (by decide) ?_; first | (simp; done) | (simp; omega) | (simp [hc, h133]; done) | (simp [hc, h133]; omega)) | exact oblA) ?_
      exact wkT [(0, 4)] (SemK.glue (J (nbF, nbF)))
     ·clear h; intro h133 h
      refine bindE h ?_
      clear h; intro u136 h137 h
      simp only [Option.some.injEq, Prod.mk.injEq] at h
      obtain ⟨rfl, rfl⟩ := h
      refine run_to tmD 4000 [.br false, .no] rfl (by repeat' first | refine And.intro ?_ ?_ | (refine capLe h137 rfl ?_; first | (simp; done) | (simp; omega) | (simp [hc, h133]; done) | (simp [hc, h133]; omega)) | (refine capMax h137 (by decide) ?_; first | (simp; done) | (simp; omega) | (simp [hc, h133]; done) | (simp [hc, h133]; omega)) | exact oblA) ?_
      exact wkT [(1, 4)] (SemK.glue (J ((nbT (by first | rfl | simp [*])), nbF)))
   ·
    obtain rfl := hn_y0_o1 rfl
    refine SemK.round ?_
    refine bindE h ?_
    clear h; intro w144 h150 h
    obtain ⟨j144_o0, j144_o1⟩ := w144
    try dsimp only at h
    refine runT tmD [.br true, .el (enc_GEntry x)] ?_
    refine SemK.joinF (fun (q : Nb j144_o0 × Nb j144_o1) => ⟨fr [(1, (aI .i64 y0_1)), (4, (slE q.1.1 0 (List.map enc_GEntry j144_o0))), (5, (slE q.2.1 1 (List.map enc_GEntry j144_o1))), (15, (AV.list false (List.map enc_GEntry y0_15))), (16, (aI .i64 (List.length y0_15 : Int))), (17, (aI .i64 (k : Int)))], hp ([] ++ opE q.1.1 0 11 (List.map enc_GEntry j144_o0) ++ opE q.2.1 1 11 (List.map enc_GEntry j144_o1)), 2⟩) ?_ (fun J => SemK.cut ?_)
    ·
     rintro ⟨nb_j144_o0, nb_j144_o1⟩
     rcases nb_j144_o0 with ⟨_ | _, hn_j144_o0⟩
     ·
      rcases nb_j144_o1 with ⟨_ | _, hn_j144_o1⟩
      ·
       refine runT tmD [] ?_
       exact wkT [] (ih (k + 1) hx1 _ _ nbF nbF o h C0)
      ·
       obtain rfl := hn_j144_o1 rfl
       refine runT tmD [] ?_
       exact wkT [] (ih (k + 1) hx1 _ _ nbF (nbT (by first | rfl | simp [*])) o h C0)
     ·
      obtain rfl := hn_j144_o0 rfl
      rcases nb_j144_o1 with ⟨_ | _, hn_j144_o1⟩
      ·
       refine runT tmD [] ?_
       exact wkT [] (ih (k + 1) hx1 _ _ (nbT (by first | rfl | simp [*])) nbF o h C0)
      ·
       obtain rfl := hn_j144_o1 rfl
       refine runT tmD [] ?_
       exact wkT [] (ih (k + 1) hx1 _ _ (nbT (by first | rfl | simp [*])) (nbT (by first | rfl | simp [*])) o h C0)
    ·
     clear h
     have h := h150
     refine brE h ?_ ?_
     ·clear h; intro h145 h
      refine bindE h ?_
      clear h; intro u146 h147 h
      simp only [Option.some.injEq, Prod.mk.injEq] at h
      obtain ⟨rfl, rfl⟩ := h
      refine run_to tmD 4000 [.br true, .no] rfl (by repeat' first | refine And.intro ?_ ?_ | (refine capLe h147 rfl ?_; first | (simp; done) | (simp; omega) | (simp [hc, h145]; done) | (simp [hc, h145]; omega)) | (refine capMax h147 (by decide) ?_; first | (simp; done) | (simp; omega) | (simp [hc, h145]; done) | (simp [hc, h145]; omega)) | exact oblA) ?_
      exact wkT [(0, 4)] (SemK.glue (J (nbF, (nbT (by first | rfl | simp [*])))))
     ·clear h; intro h145 h
      refine bindE h ?_
      clear h; intro u148 h149 h
      simp only [Option.some.injEq, Prod.mk.injEq] at h
      obtain ⟨rfl, rfl⟩ := h
      refine run_to tmD 4000 [.br false, .no] rfl (by repeat' first | refine And.intro ?_ ?_ | (refine capLe h149 rfl ?_; first | (simp; done) | (simp; omega) | (simp [hc, h145]; done) | (simp [hc, h145]; omega)) | (refine capMax h149 (by decide) ?_; first | (simp; done) | (simp; omega) | (simp [hc, h145]; done) | (simp [hc, h145]; omega)) | exact oblA) ?_
      exact wkT [(1, 4)] (SemK.glue (J ((nbT (by first | rfl | simp [*])), nbF)))

theorem store_Fire_ok (a0 : (List GEntry)) (a1 : Int) (r : (List GEntry) × (List GEntry) × Int) (h : store_Fire a0 a1 = some r) : Pure Tryz.prog 38 [(AV.list false (List.map enc_GEntry a0)), (aI .i64 a1)] (AV.tup [(AV.list true (List.map enc_GEntry r.1)), (AV.list true (List.map enc_GEntry r.2.1)), (aI .i64 r.2.2)]) := by
 refine Pure.sym tyTab_ok fn38 (nt := 37) rfl rfl ?_ (allCons .list (allCons .sc allNil))
 unfold store_Fire at h
 refine bindE h ?_
 clear h; intro v1 h2 h
 refine brE h ?_ ?_
 ·clear h; intro h3 h
  obtain rfl := Option.some.inj h
  refine run_to tmD 4000 [.pure [(AV.list false (List.map enc_GEntry a0))] (aI .i64 v1), .br true] rfl (by repeat' first | refine And.intro ?_ ?_ | exact (PureCall.none (store_Check_ok _ _ h2) (Cvs.cons (cv_list (flat_map flat_GEntry a0)) Cvs.nil)) | exact oblA) ?_
  refine fin_ret rfl ?_
  exact (cv_tup (Cvs.cons (cv_nils (es := List.map enc_GEntry ([] : List GEntry)) (by simp [*])) (Cvs.cons (cv_nils (es := List.map enc_GEntry ([] : List GEntry)) (by simp [*])) (Cvs.cons .sc Cvs.nil))))
 ·clear h; intro h3 h
  refine bindE h ?_
  clear h; intro u4 h5 h
  have qh5 := lenOk_le h5
  refine bindE h ?_
  clear h; intro o151 h152 h
  refine run_to tmD 4000 [.pure [(AV.list false (List.map enc_GEntry a0))] (aI .i64 v1), .br false, .el (aI .i64 (List.length a0 : Int))] rfl (by repeat' first | refine And.intro ?_ ?_ | exact (PureCall.none (store_Check_ok _ _ h2) (Cvs.cons (cv_list (flat_map flat_GEntry a0)) Cvs.nil)) | exact oblA) ?_
  refine wkT [] (SemK.cut (store_Fire_L0_ok a1 a0 qh5 a0 0 (by simp) _ _ (nbT (by first | rfl | simp [*])) (nbT (by first | rfl | simp [*])) _ h152 ?_))
  ·intro z0_0_o0 z0_0_o1 nb_z0_0_o0 nb_z0_0_o1 eo151; subst eo151
   refine SemK.glue ?_
   try dsimp only at h
   rcases nb_z0_0_o0 with ⟨_ | _, hn_z0_0_o0⟩
   ·
    rcases nb_z0_0_o1 with ⟨_ | _, hn_z0_0_o1⟩
    ·
     obtain rfl := Option.some.inj h
     refine runT tmD [] ?_
     refine fin_ret rfl ?_
     exact (cv_tup (Cvs.cons (cv_ref (es := List.map enc_GEntry z0_0_o0) rfl (by first | rfl | (simp; done) | (simp; rfl) | (simp [h3]; done) | (simp [h3]; rfl) | (simp [h3, List.map_take, List.map_drop]; done) | (simp [h3, List.map_take, List.map_drop]; rfl)) (by first | rfl | (simp; done) | (simp; omega) | (simp [h3]; done) | (simp [h3]; omega)) (flat_map flat_GEntry z0_0_o0)) (Cvs.cons (cv_ref (es := List.map enc_GEntry z0_0_o1) rfl (by first | rfl | (simp; done) | (simp; rfl) | (simp [h3]; done) | (simp [h3]; rfl) | (simp [h3, List.map_take, List.map_drop]; done) | (simp [h3, List.map_take, List.map_drop]; rfl)) (by first | rfl | (simp; done) | (simp; omega) | (simp [h3]; done) | (simp [h3]; omega)) (flat_map flat_GEntry z0_0_o1)) (Cvs.cons .sc Cvs.nil))))
    ·
     obtain rfl := hn_z0_0_o1 rfl
     obtain rfl := Option.some.inj h
     refine runT tmD [] ?_
     refine fin_ret rfl ?_
     exact (cv_tup (Cvs.cons (cv_ref (es := List.map enc_GEntry z0_0_o0) rfl (by first | rfl | (simp; done) | (simp; rfl) | (simp [h3]; done) | (simp [h3]; rfl) | (simp [h3, List.map_take, List.map_drop]; done) | (simp [h3, List.map_take, List.map_drop]; rfl)) (by first | rfl | (simp; done) | (simp; omega) | (simp [h3]; done) | (simp [h3]; omega)) (flat_map flat_GEntry z0_0_o0)) (Cvs.cons (cv_nils (es := List.map enc_GEntry ([] : List GEntry)) (by simp [*])) (Cvs.cons .sc Cvs.nil))))
   ·
    obtain rfl := hn_z0_0_o0 rfl
    rcases nb_z0_0_o1 with ⟨_ | _, hn_z0_0_o1⟩
    ·
     obtain rfl := Option.some.inj h
     refine runT tmD [] ?_
     refine fin_ret rfl ?_
     exact (cv_tup (Cvs.cons (cv_nils (es := List.map enc_GEntry ([] : List GEntry)) (by simp [*])) (Cvs.cons (cv_ref (es := List.map enc_GEntry z0_0_o1) rfl (by first | rfl | (simp; done) | (simp; rfl) | (simp [h3]; done) | (simp [h3]; rfl) | (simp [h3, List.map_take, List.map_drop]; done) | (simp [h3, List.map_take, List.map_drop]; rfl)) (by first | rfl | (simp; done) | (simp; omega) | (simp [h3]; done) | (simp [h3]; omega)) (flat_map flat_GEntry z0_0_o1)) (Cvs.cons .sc Cvs.nil))))
    ·
     obtain rfl := hn_z0_0_o1 rfl
     obtain rfl := Option.some.inj h
     refine runT tmD [] ?_
     refine fin_ret rfl ?_
     exact (cv_tup (Cvs.cons (cv_nils (es := List.map enc_GEntry ([] : List GEntry)) (by simp [*])) (Cvs.cons (cv_nils (es := List.map enc_GEntry ([] : List GEntry)) (by simp [*])) (Cvs.cons .sc Cvs.nil))))

theorem accums_Value_ok (a0 : Int) (a1 : GAccum) (r : Int × Int) (h : accums_Value a0 a1 = some r) : Pure Tryz.prog 71 [(aI .u8 a0), (enc_GAccum a1)] (AV.tup [(aI .i64 r.1), (aI .i64 r.2)]) := by
 refine Pure.sym tyTab_ok fn71 (nt := 34) rfl rfl ?_ (allCons .sc (allCons (free_GAccum _ _).1 allNil))
 unfold accums_Value at h
 refine brE h ?_ ?_
 ·clear h; intro h1 h
  obtain rfl := Option.some.inj h
  refine runT tmD [.br true] ?_
  refine fin_ret rfl ?_
  exact (cv_tup (Cvs.cons .sc (Cvs.cons .sc Cvs.nil)))
 ·clear h; intro h1 h
  refine bindE h ?_
  clear h; intro v2 h3 h
  refine brE h ?_ ?_
  ·clear h; intro h4 h
   obtain rfl := Option.some.inj h
   refine run_to tmD 4000 [.br false, .pure [(enc_GAccum a1)] (aI .i64 v2), .br true] rfl (by repeat' first | refine And.intro ?_ ?_ | exact (PureCall.none (accums_Check_ok _ _ h3) (Cvs.cons (cvf_GAccum (x := a1)) Cvs.nil)) | exact oblA) ?_
   refine fin_ret rfl ?_
   exact (cv_tup (Cvs.cons .sc (Cvs.cons .sc Cvs.nil)))
  ·clear h; intro h4 h
   refine brE h ?_ ?_
   ·clear h; intro h5 h
    obtain rfl := Option.some.inj h
    refine run_to tmD 4000 [.br false, .pure [(enc_GAccum a1)] (aI .i64 v2), .br false, .br true] rfl (by repeat' first | refine And.intro ?_ ?_ | exact (PureCall.none (accums_Check_ok _ _ h3) (Cvs.cons (cvf_GAccum (x := a1)) Cvs.nil)) | exact oblA) ?_
    refine fin_ret rfl ?_
    exact (cv_tup (Cvs.cons .sc (Cvs.cons .sc Cvs.nil)))
   ·clear h; intro h5 h
    refine bindE h ?_
    clear h; intro j11_4 h17 h
    refine run_to tmD 4000 [.br false, .pure [(enc_GAccum a1)] (aI .i64 v2), .br false, .br false, .stop 9] rfl (by repeat' first | refine And.intro ?_ ?_ | exact (PureCall.none (accums_Check_ok _ _ h3) (Cvs.cons (cvf_GAccum (x := a1)) Cvs.nil)) | exact oblA) ?_
    refine SemK.join (s' := ⟨fr [(4, (aI .i64 j11_4)), (5, (aI .i64 0))], hp ([]), 0⟩) ?_ (fun J => SemK.cut ?_)
    ·
     obtain rfl := Option.some.inj h
     refine runT tmD [] ?_
     refine fin_ret rfl ?_
     exact (cv_tup (Cvs.cons .sc (Cvs.cons .sc Cvs.nil)))
    ·
     clear h
     have h := h17
     refine brE h ?_ ?_
     ·clear h; intro h12 h
      obtain rfl := Option.some.inj h
      refine run_to tmD 4000 [.ix 0] rfl (by repeat' first | refine And.intro ?_ ?_ | exact (PureCall.none (accums_Check_ok _ _ h3) (Cvs.cons (cvf_GAccum (x := a1)) Cvs.nil)) | exact ((eq_of_beq h12)) | exact oblA) ?_
      exact wkT [] (SemK.glue J)
     ·clear h; intro h12 h
      refine brE h ?_ ?_
      ·clear h; intro h13 h
       obtain rfl := Option.some.inj h
       refine run_to tmD 4000 [.ix 1] rfl (by repeat' first | refine And.intro ?_ ?_ | exact (PureCall.none (accums_Check_ok _ _ h3) (Cvs.cons (cvf_GAccum (x := a1)) Cvs.nil)) | exact ((eq_of_beq h13)) | exact oblA) ?_
       exact wkT [] (SemK.glue J)
      ·clear h; intro h13 h
       refine brE h ?_ ?_
       ·clear h; intro h14 h
        obtain rfl : a0 = 2 := eq_of_beq h14
        obtain rfl := Option.some.inj h
        refine run_to tmD 4000 [.ix 2] rfl (by repeat' first | refine And.intro ?_ ?_ | exact (PureCall.none (accums_Check_ok _ _ h3) (Cvs.cons (cvf_GAccum (x := a1)) Cvs.nil)) | exact oblA) ?_
        exact wkT [] (SemK.glue J)
       ·clear h; intro h14 h
        refine brE h ?_ ?_
        ·clear h; intro h15 h
         obtain rfl := Option.some.inj h
         refine run_to tmD 4000 [.ix 3] rfl (by repeat' first | refine And.intro ?_ ?_ | exact (PureCall.none (accums_Check_ok _ _ h3) (Cvs.cons (cvf_GAccum (x := a1)) Cvs.nil)) | exact ((eq_of_beq h15)) | exact oblA) ?_
         exact wkT [] (SemK.glue J)
        ·clear h; intro h15 h
         refine brE h ?_ ?_
         ·clear h; intro h16 h
          obtain rfl := Option.some.inj h
          refine run_to tmD 4000 [.ix 4] rfl (by repeat' first | refine And.intro ?_ ?_ | exact (PureCall.none (accums_Check_ok _ _ h3) (Cvs.cons (cvf_GAccum (x := a1)) Cvs.nil)) | exact ((eq_of_beq h16)) | exact oblA) ?_
          exact wkT [] (SemK.glue J)
         ·clear h; intro h16 h
          cases h

theorem join_row_ok (a0 : GQuery) (a1 : GEntry) (r : GRow × Bool) (h : join_row a0 a1 = some r) : Pure Tryz.prog 39 [(enc_GQuery false a0), (enc_GEntry a1)] (AV.tup [(enc_GRow r.1), (aB r.2)]) := by
 refine Pure.sym tyTab_ok fn39 (nt := 43) rfl rfl ?_ (allCons (free_GQuery false _ _).1 (allCons (free_GEntry _ _).1 allNil))
 unfold join_row at h
 refine bindE h ?_
 clear h; intro v1 h2 h
 refine bindE h ?_
 clear h; intro v3 h4 h
 refine run_to tmD 4000 [.ix 0, .pure [(aI .u8 a0.Agg), (enc_GAccum a1.Values.e0)] (AV.tup [(aI .i64 v1.1), (aI .i64 v1.2)]), .ix 1, .pure [(aI .u8 a0.Agg), (enc_GAccum a1.Values.e1)] (AV.tup [(aI .i64 v3.1), (aI .i64 v3.2)])] rfl (by repeat' first | refine And.intro ?_ ?_ | exact (PureCall.none (accums_Value_ok _ _ _ h2) (Cvs.cons .sc (Cvs.cons (cvf_GAccum (x := a1.Values.e0)) Cvs.nil))) | exact (PureCall.none (accums_Value_ok _ _ _ h4) (Cvs.cons .sc (Cvs.cons (cvf_GAccum (x := a1.Values.e1)) Cvs.nil))) | exact oblA) ?_
 refine brE h ?_ ?_
 ·clear h; intro h5 h
  obtain rfl := Option.some.inj h
  refine runT tmD [.br true] ?_
  refine fin_ret rfl ?_
  exact (cv_tup (Cvs.cons (cvf_GRow (x := (GRow.mk 0 (GSpan.mk 0 0) (V2.mk 0 0)))) (Cvs.cons .sc Cvs.nil)))
 ·clear h; intro h5 h
  obtain rfl := Option.some.inj h
  refine runT tmD [.br false] ?_
  refine fin_ret rfl ?_
  exact (cv_tup (Cvs.cons (cvf_GRow (x := (GRow.mk a1.Key a1.Span (V2.mk v1.1 v3.1)))) (Cvs.cons .sc Cvs.nil)))
end Go.Av.Tryz
