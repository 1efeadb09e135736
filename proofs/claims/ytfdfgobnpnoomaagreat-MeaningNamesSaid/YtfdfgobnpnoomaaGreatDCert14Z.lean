/- Printed by decomp.py: that the program computes the functions. -/
import Derived.Test.YtfdfgobnpnoomaaGreatDCert13Z
set_option linter.all false
set_option linter.unusedVariables false
namespace Go.Av.Tryz
open Go.Proofs Go.D
set_option maxRecDepth 10000
set_option maxHeartbeats 4000000

theorem meaning_All_L0_ok {Q : AExit → St → Mu → Prop} {μ : Mu} (y0_o0 : GQuery) (y0_46 : (List (List GEvent))) (hl : List.length y0_46 ≤ 140737488355328) : ∀ (xs : List (List GEvent)) (k : Nat) (hx : y0_46.drop k = xs) (y0_10 : (List GEntry)) (y0_o1 : (List GRecord)) (nb_y0_o1 : Nb y0_o1) (o : meaning_All_L0_o) (h : meaning_All_L0 y0_o0 y0_46 xs k y0_10 y0_o1 = some o)
  (C0 : ∀ (z0_0_10 : (List GEntry)) (z0_0_o1 : (List GRecord)) (nb_z0_0_o1 : Nb z0_0_o1), o = meaning_All_L0_o.x0 z0_0_10 z0_0_o1 → SemK Tryz.prog 119 0 Q (.exit (.exit 0)) [] ⟨fr [(2, (AV.ptr 0 0 0)), (10, (AV.list true (List.map enc_GEntry z0_0_10))), (11, (slE nb_z0_0_o1.1 1 (List.map enc_GRecord z0_0_o1)))], hp ([(0, { es := [(enc_GQuery false y0_o0)], esz := 10 })] ++ opE nb_z0_0_o1.1 1 3 (List.map enc_GRecord z0_0_o1)), 2⟩ μ)
  (C1 : ∀ (z0_1_o0 : (List GRow)) (z0_1_o1 : (List GRecord)) (z0_1_6 : Int) (nb_z0_1_o0 : Nb z0_1_o0) (nb_z0_1_o1 : Nb z0_1_o1), o = meaning_All_L0_o.x1 z0_1_o0 z0_1_o1 z0_1_6 → SemK Tryz.prog 119 0 Q (.exit .ret) [] ⟨fr [(4, (slE nb_z0_1_o0.1 0 (List.map enc_GRow z0_1_o0))), (5, (slE nb_z0_1_o1.1 1 (List.map enc_GRecord z0_1_o1))), (6, (aI .i64 z0_1_6))], hp ([] ++ opE nb_z0_1_o0.1 0 5 (List.map enc_GRow z0_1_o0) ++ opE nb_z0_1_o1.1 1 3 (List.map enc_GRecord z0_1_o1)), 2⟩ μ),
  SemK Tryz.prog 119 0 Q (.loop (loopB 0 (bodyOf Tryz.f19))) [] ⟨fr [(2, (AV.ptr 0 0 0)), (10, (AV.list true (List.map enc_GEntry y0_10))), (11, (slE nb_y0_o1.1 1 (List.map enc_GRecord y0_o1))), (46, (AV.list false (List.map (encl false enc_GEvent) y0_46))), (47, (aI .i64 (List.length y0_46 : Int))), (48, (aI .i64 (k : Int)))], hp ([(0, { es := [(enc_GQuery false y0_o0)], esz := 10 })] ++ opE nb_y0_o1.1 1 3 (List.map enc_GRecord y0_o1)), 2⟩ μ := by
 intro xs
 induction xs with
 | nil =>
  intro k hx y0_10 y0_o1 nb_y0_o1 o h C0 C1
  have hk := drop_nil hx
  have hc : decide ((k : Int) < (List.length y0_46 : Int)) = false := decide_eq_false (by omega)
  rw [meaning_All_L0] at h
  rcases nb_y0_o1 with ⟨_ | _, hn_y0_o1⟩
  ·
   refine SemK.round ?_
   obtain rfl := Option.some.inj h
   refine runT tmD [.br false] ?_
   exact wkT [] (C0 _ _  nbF rfl)
  ·
   obtain rfl := hn_y0_o1 rfl
   refine SemK.round ?_
   obtain rfl := Option.some.inj h
   refine runT tmD [.br false] ?_
   exact wkT [] (C0 _ _  (nbT (by first | rfl | simp [*])) rfl)
 | cons x xs ih =>
  intro k hx y0_10 y0_o1 nb_y0_o1 o h C0 C1
  obtain ⟨hk, hg, hx1⟩ := drop_cons hx
  have hc : decide ((k : Int) < (List.length y0_46 : Int)) = true := decide_eq_true (by omega)
  rw [meaning_All_L0] at h
  rcases nb_y0_o1 with ⟨_ | _, hn_y0_o1⟩
  ·
   refine SemK.round ?_
   refine bindE h ?_
   clear h; intro v435 h436 h
   refine run_to tmD 4000 [.br true, .el (encl false enc_GEvent x), .pure [(AV.list false (List.map enc_GEvent x))] (AV.tup [(AV.list true (List.map enc_GRecord v435.1)), (AV.list true (List.map enc_GRecord v435.2.1)), (aI .i64 v435.2.2)])] rfl (by repeat' first | refine And.intro ?_ ?_ | exact (PureCall.none (late_Split_ok _ _ h436) (Cvs.cons (cv_list (flat_map flat_GEvent x)) Cvs.nil)) | exact oblA) ?_
   refine brE h ?_ ?_
   ·clear h; intro h437 h
    obtain rfl := Option.some.inj h
    refine runT tmD [.br true] ?_
    exact wkT [] (C1 _ _ _  (nbT (by first | rfl | simp [*])) (nbT (by first | rfl | simp [*])) rfl)
   ·clear h; intro h437 h
    refine brE h ?_ ?_
    ·clear h; intro q h
     have h438 : v435.2.1 = [] := List.isEmpty_iff.1 q
     refine bindE h ?_
     clear h; intro u439 h440 h
     have qh440 := lenOk_le h440
     refine bindE h ?_
     clear h; intro o502 h503 h
     refine runT tmD [.br false, .ne false, .el (aI .i64 (List.length v435.1 : Int))] ?_
     refine wkT [] (SemK.cut (meaning_All_L1_ok y0_o0 (y0_o1 ++ v435.2.1) (k : Int) y0_46 (List.length y0_46 : Int) (k : Int) v435.1 nbF qh440 v435.1 0 (by simp) _ _ h503 ?_ ?_))
     ·intro z1_0_10 z1_0_o1 nb_z1_0_o1 eo502; subst eo502
      refine SemK.glue ?_
      try dsimp only at h
      rcases nb_z1_0_o1 with ⟨_ | _, hn_z1_0_o1⟩
      ·
       refine runT tmD [] ?_
       exact wkT [] (ih (k + 1) hx1 _ _ nbF o h C0 C1)
      ·
       obtain rfl := hn_z1_0_o1 rfl
       refine runT tmD [] ?_
       exact wkT [] (ih (k + 1) hx1 _ _ (nbT (by first | rfl | simp [*])) o h C0 C1)
     ·intro z1_1_o0 z1_1_o1 z1_1_6 nb_z1_1_o0 nb_z1_1_o1 eo502; subst eo502
      refine SemK.glue ?_
      try dsimp only at h
      rcases nb_z1_1_o0 with ⟨_ | _, hn_z1_1_o0⟩
      ·
       rcases nb_z1_1_o1 with ⟨_ | _, hn_z1_1_o1⟩
       ·
        obtain rfl := Option.some.inj h
        refine runT tmD [] ?_
        exact wkT [] (C1 _ _ _  nbF nbF rfl)
       ·
        obtain rfl := hn_z1_1_o1 rfl
        obtain rfl := Option.some.inj h
        refine runT tmD [] ?_
        exact wkT [] (C1 _ _ _  nbF (nbT (by first | rfl | simp [*])) rfl)
      ·
       obtain rfl := hn_z1_1_o0 rfl
       rcases nb_z1_1_o1 with ⟨_ | _, hn_z1_1_o1⟩
       ·
        obtain rfl := Option.some.inj h
        refine runT tmD [] ?_
        exact wkT [] (C1 _ _ _  (nbT (by first | rfl | simp [*])) nbF rfl)
       ·
        obtain rfl := hn_z1_1_o1 rfl
        obtain rfl := Option.some.inj h
        refine runT tmD [] ?_
        exact wkT [] (C1 _ _ _  (nbT (by first | rfl | simp [*])) (nbT (by first | rfl | simp [*])) rfl)
    ·clear h; intro q h
     have h438 : ¬ (v435.2.1 = []) := (fun e => by rw [e] at q; cases q)
     refine bindE h ?_
     clear h; intro u504 h505 h
     refine bindE h ?_
     clear h; intro u506 h507 h
     have qh507 := lenOk_le h507
     refine bindE h ?_
     clear h; intro o549 h550 h
     refine run_to tmD 4000 [.br false, .via (AV.list true (List.map enc_GRecord v435.2.1)), .el (aI .i64 (List.length v435.1 : Int))] rfl (by repeat' first | refine And.intro ?_ ?_ | (refine capLe h505 rfl ?_; first | (simp; done) | (simp; omega) | (simp [hc, h437, h438]; done) | (simp [hc, h437, h438]; omega)) | (refine capMax h505 (by decide) ?_; first | (simp; done) | (simp; omega) | (simp [hc, h437, h438]; done) | (simp [hc, h437, h438]; omega)) | exact oblA) ?_
     refine wkT [(1, 2)] (SemK.cut (meaning_All_L1_ok y0_o0 (y0_o1 ++ v435.2.1) (k : Int) y0_46 (List.length y0_46 : Int) (k : Int) v435.1 nbF qh507 v435.1 0 (by simp) _ _ h550 ?_ ?_))
     ·intro z1_0_10 z1_0_o1 nb_z1_0_o1 eo549; subst eo549
      refine SemK.glue ?_
      try dsimp only at h
      rcases nb_z1_0_o1 with ⟨_ | _, hn_z1_0_o1⟩
      ·
       refine run_to tmD 4000 [] rfl (by repeat' first | refine And.intro ?_ ?_ | (refine capLe h505 rfl ?_; first | (simp; done) | (simp; omega) | (simp [hc, h437, h438]; done) | (simp [hc, h437, h438]; omega)) | (refine capMax h505 (by decide) ?_; first | (simp; done) | (simp; omega) | (simp [hc, h437, h438]; done) | (simp [hc, h437, h438]; omega)) | exact oblA) ?_
       exact wkT [] (ih (k + 1) hx1 _ _ nbF o h C0 C1)
      ·
       obtain rfl := hn_z1_0_o1 rfl
       refine run_to tmD 4000 [] rfl (by repeat' first | refine And.intro ?_ ?_ | (refine capLe h505 rfl ?_; first | (simp; done) | (simp; omega) | (simp [hc, h437, h438]; done) | (simp [hc, h437, h438]; omega)) | (refine capMax h505 (by decide) ?_; first | (simp; done) | (simp; omega) | (simp [hc, h437, h438]; done) | (simp [hc, h437, h438]; omega)) | exact oblA) ?_
       exact wkT [] (ih (k + 1) hx1 _ _ (nbT (by first | rfl | simp [*])) o h C0 C1)
     ·intro z1_1_o0 z1_1_o1 z1_1_6 nb_z1_1_o0 nb_z1_1_o1 eo549; subst eo549
      refine SemK.glue ?_
      try dsimp only at h
      rcases nb_z1_1_o0 with ⟨_ | _, hn_z1_1_o0⟩
      ·
       rcases nb_z1_1_o1 with ⟨_ | _, hn_z1_1_o1⟩
       ·
        obtain rfl := Option.some.inj h
        refine run_to tmD 4000 [] rfl (by repeat' first | refine And.intro ?_ ?_ | (refine capLe h505 rfl ?_; first | (simp; done) | (simp; omega) | (simp [hc, h437, h438]; done) | (simp [hc, h437, h438]; omega)) | (refine capMax h505 (by decide) ?_; first | (simp; done) | (simp; omega) | (simp [hc, h437, h438]; done) | (simp [hc, h437, h438]; omega)) | exact oblA) ?_
        exact wkT [] (C1 _ _ _  nbF nbF rfl)
       ·
        obtain rfl := hn_z1_1_o1 rfl
        obtain rfl := Option.some.inj h
        refine run_to tmD 4000 [] rfl (by repeat' first | refine And.intro ?_ ?_ | (refine capLe h505 rfl ?_; first | (simp; done) | (simp; omega) | (simp [hc, h437, h438]; done) | (simp [hc, h437, h438]; omega)) | (refine capMax h505 (by decide) ?_; first | (simp; done) | (simp; omega) | (simp [hc, h437, h438]; done) | (simp [hc, h437, h438]; omega)) | exact oblA) ?_
        exact wkT [] (C1 _ _ _  nbF (nbT (by first | rfl | simp [*])) rfl)
      ·
       obtain rfl := hn_z1_1_o0 rfl
       rcases nb_z1_1_o1 with ⟨_ | _, hn_z1_1_o1⟩
       ·
        obtain rfl := Option.some.inj h
        refine run_to tmD 4000 [] rfl (by repeat' first | refine And.intro ?_ ?_ | (refine capLe h505 rfl ?_; first | (simp; done) | (simp; omega) | (simp [hc, h437, h438]; done) | (simp [hc, h437, h438]; omega)) | (refine capMax h505 (by decide) ?_; first | (simp; done) | (simp; omega) | (simp [hc, h437, h438]; done) | (simp [hc, h437, h438]; omega)) | exact oblA) ?_
        exact wkT [] (C1 _ _ _  (nbT (by first | rfl | simp [*])) nbF rfl)
       ·
        obtain rfl := hn_z1_1_o1 rfl
        obtain rfl := Option.some.inj h
        refine run_to tmD 4000 [] rfl (by repeat' first | refine And.intro ?_ ?_ | (refine capLe h505 rfl ?_; first | (simp; done) | (simp; omega) | (simp [hc, h437, h438]; done) | (simp [hc, h437, h438]; omega)) | (refine capMax h505 (by decide) ?_; first | (simp; done) | (simp; omega) | (simp [hc, h437, h438]; done) | (simp [hc, h437, h438]; omega)) | exact oblA) ?_
        exact wkT [] (C1 _ _ _  (nbT (by first | rfl | simp [*])) (nbT (by first | rfl | simp [*])) rfl)
  ·
   obtain rfl := hn_y0_o1 rfl
   refine SemK.round ?_
   refine bindE h ?_
   clear h; intro v551 h552 h
   refine run_to tmD 4000 [.br true, .el (encl false enc_GEvent x), .pure [(AV.list false (List.map enc_GEvent x))] (AV.tup [(AV.list true (List.map enc_GRecord v551.1)), (AV.list true (List.map enc_GRecord v551.2.1)), (aI .i64 v551.2.2)])] rfl (by repeat' first | refine And.intro ?_ ?_ | exact (PureCall.none (late_Split_ok _ _ h552) (Cvs.cons (cv_list (flat_map flat_GEvent x)) Cvs.nil)) | exact oblA) ?_
   refine brE h ?_ ?_
   ·clear h; intro h553 h
    obtain rfl := Option.some.inj h
    refine runT tmD [.br true] ?_
    exact wkT [] (C1 _ _ _  (nbT (by first | rfl | simp [*])) (nbT (by first | rfl | simp [*])) rfl)
   ·clear h; intro h553 h
    refine brE h ?_ ?_
    ·clear h; intro q h
     have h554 : v551.2.1 = [] := List.isEmpty_iff.1 q
     refine bindE h ?_
     clear h; intro u555 h556 h
     have qh556 := lenOk_le h556
     refine bindE h ?_
     clear h; intro o598 h599 h
     refine runT tmD [.br false, .ne false, .el (aI .i64 (List.length v551.1 : Int))] ?_
     refine wkT [] (SemK.cut (meaning_All_L1_ok y0_o0 (([] : List GRecord) ++ v551.2.1) (k : Int) y0_46 (List.length y0_46 : Int) (k : Int) v551.1 (nbT (by first | rfl | simp [*])) qh556 v551.1 0 (by simp) _ _ h599 ?_ ?_))
     ·intro z1_0_10 z1_0_o1 nb_z1_0_o1 eo598; subst eo598
      refine SemK.glue ?_
      try dsimp only at h
      rcases nb_z1_0_o1 with ⟨_ | _, hn_z1_0_o1⟩
      ·
       refine runT tmD [] ?_
       exact wkT [] (ih (k + 1) hx1 _ _ nbF o h C0 C1)
      ·
       obtain rfl := hn_z1_0_o1 rfl
       refine runT tmD [] ?_
       exact wkT [] (ih (k + 1) hx1 _ _ (nbT (by first | rfl | simp [*])) o h C0 C1)
     ·intro z1_1_o0 z1_1_o1 z1_1_6 nb_z1_1_o0 nb_z1_1_o1 eo598; subst eo598
      refine SemK.glue ?_
      try dsimp only at h
      rcases nb_z1_1_o0 with ⟨_ | _, hn_z1_1_o0⟩
      ·
       rcases nb_z1_1_o1 with ⟨_ | _, hn_z1_1_o1⟩
       ·
        obtain rfl := Option.some.inj h
        refine runT tmD [] ?_
        exact wkT [] (C1 _ _ _  nbF nbF rfl)
       ·
        obtain rfl := hn_z1_1_o1 rfl
        obtain rfl := Option.some.inj h
        refine runT tmD [] ?_
        exact wkT [] (C1 _ _ _  nbF (nbT (by first | rfl | simp [*])) rfl)
      ·
       obtain rfl := hn_z1_1_o0 rfl
       rcases nb_z1_1_o1 with ⟨_ | _, hn_z1_1_o1⟩
       ·
        obtain rfl := Option.some.inj h
        refine runT tmD [] ?_
        exact wkT [] (C1 _ _ _  (nbT (by first | rfl | simp [*])) nbF rfl)
       ·
        obtain rfl := hn_z1_1_o1 rfl
        obtain rfl := Option.some.inj h
        refine runT tmD [] ?_
        exact wkT [] (C1 _ _ _  (nbT (by first | rfl | simp [*])) (nbT (by first | rfl | simp [*])) rfl)
    ·clear h; intro q h
     have h554 : ¬ (v551.2.1 = []) := (fun e => by rw [e] at q; cases q)
     refine bindE h ?_
     clear h; intro u600 h601 h
     refine bindE h ?_
     clear h; intro u602 h603 h
     have qh603 := lenOk_le h603
     refine bindE h ?_
     clear h; intro o645 h646 h
     refine run_to tmD 4000 [.br false, .via (AV.list true (List.map enc_GRecord v551.2.1)), .el (aI .i64 (List.length v551.1 : Int))] rfl (by repeat' first | refine And.intro ?_ ?_ | (refine capLe h601 rfl ?_; first | (simp; done) | (simp; omega) | (simp [hc, h553, h554]; done) | (simp [hc, h553, h554]; omega)) | (refine capMax h601 (by decide) ?_; first | (simp; done) | (simp; omega) | (simp [hc, h553, h554]; done) | (simp [hc, h553, h554]; omega)) | exact oblA) ?_
     refine wkT [(1, 2)] (SemK.cut (meaning_All_L1_ok y0_o0 (([] : List GRecord) ++ v551.2.1) (k : Int) y0_46 (List.length y0_46 : Int) (k : Int) v551.1 nbF qh603 v551.1 0 (by simp) _ _ h646 ?_ ?_))
     ·intro z1_0_10 z1_0_o1 nb_z1_0_o1 eo645; subst eo645
      refine SemK.glue ?_
      try dsimp only at h
      rcases nb_z1_0_o1 with ⟨_ | _, hn_z1_0_o1⟩
      ·
       refine run_to tmD 4000 [] rfl (by repeat' first | refine And.intro ?_ ?_ | (refine capLe h601 rfl ?_; first | (simp; done) | (simp; omega) | (simp [hc, h553, h554]; done) | (simp [hc, h553, h554]; omega)) | (refine capMax h601 (by decide) ?_; first | (simp; done) | (simp; omega) | (simp [hc, h553, h554]; done) | (simp [hc, h553, h554]; omega)) | exact oblA) ?_
       exact wkT [] (ih (k + 1) hx1 _ _ nbF o h C0 C1)
      ·
       obtain rfl := hn_z1_0_o1 rfl
       refine run_to tmD 4000 [] rfl (by repeat' first | refine And.intro ?_ ?_ | (refine capLe h601 rfl ?_; first | (simp; done) | (simp; omega) | (simp [hc, h553, h554]; done) | (simp [hc, h553, h554]; omega)) | (refine capMax h601 (by decide) ?_; first | (simp; done) | (simp; omega) | (simp [hc, h553, h554]; done) | (simp [hc, h553, h554]; omega)) | exact oblA) ?_
       exact wkT [] (ih (k + 1) hx1 _ _ (nbT (by first | rfl | simp [*])) o h C0 C1)
     ·intro z1_1_o0 z1_1_o1 z1_1_6 nb_z1_1_o0 nb_z1_1_o1 eo645; subst eo645
      refine SemK.glue ?_
      try dsimp only at h
      rcases nb_z1_1_o0 with ⟨_ | _, hn_z1_1_o0⟩
      ·
       rcases nb_z1_1_o1 with ⟨_ | _, hn_z1_1_o1⟩
       ·
        obtain rfl := Option.some.inj h
        refine run_to tmD 4000 [] rfl (by repeat' first | refine And.intro ?_ ?_ | (refine capLe h601 rfl ?_; first | (simp; done) | (simp; omega) | (simp [hc, h553, h554]; done) | (simp [hc, h553, h554]; omega)) | (refine capMax h601 (by decide) ?_; first | (simp; done) | (simp; omega) | (simp [hc, h553, h554]; done) | (simp [hc, h553, h554]; omega)) | exact oblA) ?_
        exact wkT [] (C1 _ _ _  nbF nbF rfl)
       ·
        obtain rfl := hn_z1_1_o1 rfl
        obtain rfl := Option.some.inj h
        refine run_to tmD 4000 [] rfl (by repeat' first | refine And.intro ?_ ?_ | (refine capLe h601 rfl ?_; first | (simp; done) | (simp; omega) | (simp [hc, h553, h554]; done) | (simp [hc, h553, h554]; omega)) | (refine capMax h601 (by decide) ?_; first | (simp; done) | (simp; omega) | (simp [hc, h553, h554]; done) | (simp [hc, h553, h554]; omega)) | exact oblA) ?_
        exact wkT [] (C1 _ _ _  nbF (nbT (by first | rfl | simp [*])) rfl)
      ·
       obtain rfl := hn_z1_1_o0 rfl
       rcases nb_z1_1_o1 with ⟨_ | _, hn_z1_1_o1⟩
       ·
        obtain rfl := Option.some.inj h
        refine run_to tmD 4000 [] rfl (by repeat' first | refine And.intro ?_ ?_ | (refine capLe h601 rfl ?_; first | (simp; done) | (simp; omega) | (simp [hc, h553, h554]; done) | (simp [hc, h553, h554]; omega)) | (refine capMax h601 (by decide) ?_; first | (simp; done) | (simp; omega) | (simp [hc, h553, h554]; done) | (simp [hc, h553, h554]; omega)) | exact oblA) ?_
        exact wkT [] (C1 _ _ _  (nbT (by first | rfl | simp [*])) nbF rfl)
       ·
        obtain rfl := hn_z1_1_o1 rfl
        obtain rfl := Option.some.inj h
        refine run_to tmD 4000 [] rfl (by repeat' first | refine And.intro ?_ ?_ | (refine capLe h601 rfl ?_; first | (simp; done) | (simp; omega) | (simp [hc, h553, h554]; done) | (simp [hc, h553, h554]; omega)) | (refine capMax h601 (by decide) ?_; first | (simp; done) | (simp; omega) | (simp [hc, h553, h554]; done) | (simp [hc, h553, h554]; omega)) | exact oblA) ?_
        exact wkT [] (C1 _ _ _  (nbT (by first | rfl | simp [*])) (nbT (by first | rfl | simp [*])) rfl)
end Go.Av.Tryz
