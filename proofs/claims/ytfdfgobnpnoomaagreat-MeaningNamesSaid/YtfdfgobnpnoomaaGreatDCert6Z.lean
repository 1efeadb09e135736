/- Printed by decomp.py: that the program computes the functions. -/
import Derived.Test.YtfdfgobnpnoomaaGreatDCert5Z
set_option linter.all false
set_option linter.unusedVariables false
namespace Go.Av.Tryz
open Go.Proofs Go.D
set_option maxRecDepth 10000
set_option maxHeartbeats 4000000

theorem late_Split_L0_ok {Q : AExit → St → Mu → Prop} {μ : Mu} (y0_16 : (List GEvent)) (hl : List.length y0_16 ≤ 140737488355328) : ∀ (xs : List GEvent) (k : Nat) (hx : y0_16.drop k = xs) (y0_o0 : (List GRecord)) (y0_o1 : (List GRecord)) (y0_o2 : Int) (nb_y0_o0 : Nb y0_o0) (nb_y0_o1 : Nb y0_o1) (o : late_Split_L0_o) (h : late_Split_L0 y0_16 xs k y0_o0 y0_o1 y0_o2 = some o)
  (C0 : ∀ (z0_0_o0 : (List GRecord)) (z0_0_o1 : (List GRecord)) (nb_z0_0_o0 : Nb z0_0_o0) (nb_z0_0_o1 : Nb z0_0_o1), o = late_Split_L0_o.x0 z0_0_o0 z0_0_o1 → SemK Tryz.prog 47 0 Q (.exit (.exit 0)) [] ⟨fr [(2, (slE nb_z0_0_o0.1 0 (List.map enc_GRecord z0_0_o0))), (3, (slE nb_z0_0_o1.1 1 (List.map enc_GRecord z0_0_o1)))], hp ([] ++ opE nb_z0_0_o0.1 0 3 (List.map enc_GRecord z0_0_o0) ++ opE nb_z0_0_o1.1 1 3 (List.map enc_GRecord z0_0_o1)), 2⟩ μ),
  SemK Tryz.prog 47 0 Q (.loop (loopB 0 (bodyOf Tryz.f49))) [] ⟨fr [(2, (slE nb_y0_o0.1 0 (List.map enc_GRecord y0_o0))), (3, (slE nb_y0_o1.1 1 (List.map enc_GRecord y0_o1))), (6, (AV.fn 105 [(AV.ptr 2 0 0)])), (16, (AV.list false (List.map enc_GEvent y0_16))), (17, (aI .i64 (List.length y0_16 : Int))), (18, (aI .i64 (k : Int)))], hp ([(2, { es := [(aI .i64 y0_o2)], esz := 1 })] ++ opE nb_y0_o0.1 0 3 (List.map enc_GRecord y0_o0) ++ opE nb_y0_o1.1 1 3 (List.map enc_GRecord y0_o1)), 3⟩ μ := by
 intro xs
 induction xs with
 | nil =>
  intro k hx y0_o0 y0_o1 y0_o2 nb_y0_o0 nb_y0_o1 o h C0
  have hk := drop_nil hx
  have hc : decide ((k : Int) < (List.length y0_16 : Int)) = false := decide_eq_false (by omega)
  rw [late_Split_L0] at h
  rcases nb_y0_o0 with ⟨_ | _, hn_y0_o0⟩
  ·
   rcases nb_y0_o1 with ⟨_ | _, hn_y0_o1⟩
   ·
    refine SemK.round ?_
    obtain rfl := Option.some.inj h
    refine runT tmD [.br false] ?_
    exact wkT [] (C0 _ _  nbF nbF rfl)
   ·
    obtain rfl := hn_y0_o1 rfl
    refine SemK.round ?_
    obtain rfl := Option.some.inj h
    refine runT tmD [.br false] ?_
    exact wkT [] (C0 _ _  nbF (nbT (by first | rfl | simp [*])) rfl)
  ·
   obtain rfl := hn_y0_o0 rfl
   rcases nb_y0_o1 with ⟨_ | _, hn_y0_o1⟩
   ·
    refine SemK.round ?_
    obtain rfl := Option.some.inj h
    refine runT tmD [.br false] ?_
    exact wkT [] (C0 _ _  (nbT (by first | rfl | simp [*])) nbF rfl)
   ·
    obtain rfl := hn_y0_o1 rfl
    refine SemK.round ?_
    obtain rfl := Option.some.inj h
    refine runT tmD [.br false] ?_
    exact wkT [] (C0 _ _  (nbT (by first | rfl | simp [*])) (nbT (by first | rfl | simp [*])) rfl)
 | cons x xs ih =>
  intro k hx y0_o0 y0_o1 y0_o2 nb_y0_o0 nb_y0_o1 o h C0
  obtain ⟨hk, hg, hx1⟩ := drop_cons hx
  have hc : decide ((k : Int) < (List.length y0_16 : Int)) = true := decide_eq_true (by omega)
  rw [late_Split_L0] at h
  rcases nb_y0_o0 with ⟨_ | _, hn_y0_o0⟩
  ·
   rcases nb_y0_o1 with ⟨_ | _, hn_y0_o1⟩
   ·
    refine SemK.round ?_
    refine runT tmD [.br true, .el (enc_GEvent x)] ?_
    refine SemK.inline tyTab_ok fn105 rfl rfl rfl rfl rfl trivial trivial rfl rfl ?_
    refine bindE h ?_
    clear h; intro j188_o2 h190 h
    refine runT tmD [] ?_
    refine SemK.join (s' := ⟨fr [(4, (aI .i64 y0_o2))], hp ([(0, { es := List.map enc_GRecord y0_o0, esz := 3 }), (1, { es := List.map enc_GRecord y0_o1, esz := 3 }), (2, { es := [(aI .i64 j188_o2)], esz := 1 }), (3, { es := [(enc_GEvent x)], esz := 5 })]), 4⟩) ?_ (fun J => SemK.cut ?_)
    ·
     refine runT tmD [] ?_
     refine SemK.back (by intro id h; cases h) rfl ?_
     refine bindE h ?_
     clear h; intro w197 h204 h
     obtain ⟨j197_o0, j197_o1⟩ := w197
     try dsimp only at h
     refine runT tmD [] ?_
     refine SemK.joinF (fun (q : Nb j197_o0 × Nb j197_o1) => ⟨fr [(2, (slE q.1.1 0 (List.map enc_GRecord j197_o0))), (3, (slE q.2.1 1 (List.map enc_GRecord j197_o1))), (6, (AV.fn 105 [(AV.ptr 2 0 0)])), (16, (AV.list false (List.map enc_GEvent y0_16))), (17, (aI .i64 (List.length y0_16 : Int))), (18, (aI .i64 (k : Int)))], hp ([(2, { es := [(aI .i64 j188_o2)], esz := 1 })] ++ opE q.1.1 0 3 (List.map enc_GRecord j197_o0) ++ opE q.2.1 1 3 (List.map enc_GRecord j197_o1)), 3⟩) ?_ (fun J => SemK.cut ?_)
     ·
      rintro ⟨nb_j197_o0, nb_j197_o1⟩
      rcases nb_j197_o0 with ⟨_ | _, hn_j197_o0⟩
      ·
       rcases nb_j197_o1 with ⟨_ | _, hn_j197_o1⟩
       ·
        refine runT tmD [] ?_
        exact wkT [] (ih (k + 1) hx1 _ _ _ nbF nbF o h C0)
       ·
        obtain rfl := hn_j197_o1 rfl
        refine runT tmD [] ?_
        exact wkT [] (ih (k + 1) hx1 _ _ _ nbF (nbT (by first | rfl | simp [*])) o h C0)
      ·
       obtain rfl := hn_j197_o0 rfl
       rcases nb_j197_o1 with ⟨_ | _, hn_j197_o1⟩
       ·
        refine runT tmD [] ?_
        exact wkT [] (ih (k + 1) hx1 _ _ _ (nbT (by first | rfl | simp [*])) nbF o h C0)
       ·
        obtain rfl := hn_j197_o1 rfl
        refine runT tmD [] ?_
        exact wkT [] (ih (k + 1) hx1 _ _ _ (nbT (by first | rfl | simp [*])) (nbT (by first | rfl | simp [*])) o h C0)
     ·
      clear h
      have h := h204
      refine brE h ?_ ?_
      ·clear h; intro h198 h
       cases h
       refine runT tmD [.br true] ?_
       exact wkT [] (SemK.glue (J (nbF, nbF)))
      ·clear h; intro h198 h
       refine brE h ?_ ?_
       ·clear h; intro h199 h
        refine bindE h ?_
        clear h; intro u200 h201 h
        cases h
        refine run_to tmD 4000 [.br false, .br true, .no] rfl (by repeat' first | refine And.intro ?_ ?_ | (refine capLe h201 rfl ?_; first | (simp; done) | (simp; omega) | (simp [hc, h198, h199]; done) | (simp [hc, h198, h199]; omega)) | (refine capMax h201 (by decide) ?_; first | (simp; done) | (simp; omega) | (simp [hc, h198, h199]; done) | (simp [hc, h198, h199]; omega)) | exact oblA) ?_
        exact wkT [(1, 5)] (SemK.glue (J (nbF, nbF)))
       ·clear h; intro h199 h
        refine bindE h ?_
        clear h; intro u202 h203 h
        cases h
        refine run_to tmD 4000 [.br false, .br false, .no] rfl (by repeat' first | refine And.intro ?_ ?_ | (refine capLe h203 rfl ?_; first | (simp; done) | (simp; omega) | (simp [hc, h198, h199]; done) | (simp [hc, h198, h199]; omega)) | (refine capMax h203 (by decide) ?_; first | (simp; done) | (simp; omega) | (simp [hc, h198, h199]; done) | (simp [hc, h198, h199]; omega)) | exact oblA) ?_
        exact wkT [(0, 5)] (SemK.glue (J (nbF, nbF)))
    ·
     clear h
     have h := h190
     refine brE h ?_ ?_
     ·clear h; intro h189 h
      obtain rfl := Option.some.inj h
      refine runT tmD [.br true] ?_
      exact wkT [] (SemK.glue J)
     ·clear h; intro h189 h
      obtain rfl := Option.some.inj h
      refine runT tmD [.br false] ?_
      exact wkT [] (SemK.glue J)
   ·
    obtain rfl := hn_y0_o1 rfl
    refine SemK.round ?_
    refine runT tmD [.br true, .el (enc_GEvent x)] ?_
    refine SemK.inline tyTab_ok fn105 rfl rfl rfl rfl rfl trivial trivial rfl rfl ?_
    refine bindE h ?_
    clear h; intro j210_o2 h212 h
    refine runT tmD [] ?_
    refine SemK.join (s' := ⟨fr [(4, (aI .i64 y0_o2))], hp ([(0, { es := List.map enc_GRecord y0_o0, esz := 3 }), (2, { es := [(aI .i64 j210_o2)], esz := 1 }), (3, { es := [(enc_GEvent x)], esz := 5 })]), 4⟩) ?_ (fun J => SemK.cut ?_)
    ·
     refine runT tmD [] ?_
     refine SemK.back (by intro id h; cases h) rfl ?_
     refine bindE h ?_
     clear h; intro w219 h226 h
     obtain ⟨j219_o0, j219_o1⟩ := w219
     try dsimp only at h
     refine runT tmD [] ?_
     refine SemK.joinF (fun (q : Nb j219_o0 × Nb j219_o1) => ⟨fr [(2, (slE q.1.1 0 (List.map enc_GRecord j219_o0))), (3, (slE q.2.1 1 (List.map enc_GRecord j219_o1))), (6, (AV.fn 105 [(AV.ptr 2 0 0)])), (16, (AV.list false (List.map enc_GEvent y0_16))), (17, (aI .i64 (List.length y0_16 : Int))), (18, (aI .i64 (k : Int)))], hp ([(2, { es := [(aI .i64 j210_o2)], esz := 1 })] ++ opE q.1.1 0 3 (List.map enc_GRecord j219_o0) ++ opE q.2.1 1 3 (List.map enc_GRecord j219_o1)), 3⟩) ?_ (fun J => SemK.cut ?_)
     ·
      rintro ⟨nb_j219_o0, nb_j219_o1⟩
      rcases nb_j219_o0 with ⟨_ | _, hn_j219_o0⟩
      ·
       rcases nb_j219_o1 with ⟨_ | _, hn_j219_o1⟩
       ·
        refine runT tmD [] ?_
        exact wkT [] (ih (k + 1) hx1 _ _ _ nbF nbF o h C0)
       ·
        obtain rfl := hn_j219_o1 rfl
        refine runT tmD [] ?_
        exact wkT [] (ih (k + 1) hx1 _ _ _ nbF (nbT (by first | rfl | simp [*])) o h C0)
      ·
       obtain rfl := hn_j219_o0 rfl
       rcases nb_j219_o1 with ⟨_ | _, hn_j219_o1⟩
       ·
        refine runT tmD [] ?_
        exact wkT [] (ih (k + 1) hx1 _ _ _ (nbT (by first | rfl | simp [*])) nbF o h C0)
       ·
        obtain rfl := hn_j219_o1 rfl
        refine runT tmD [] ?_
        exact wkT [] (ih (k + 1) hx1 _ _ _ (nbT (by first | rfl | simp [*])) (nbT (by first | rfl | simp [*])) o h C0)
     ·
      clear h
      have h := h226
      refine brE h ?_ ?_
      ·clear h; intro h220 h
       cases h
       refine runT tmD [.br true] ?_
       exact wkT [] (SemK.glue (J (nbF, (nbT (by first | rfl | simp [*])))))
      ·clear h; intro h220 h
       refine brE h ?_ ?_
       ·clear h; intro h221 h
        refine bindE h ?_
        clear h; intro u222 h223 h
        cases h
        refine run_to tmD 4000 [.br false, .br true, .no] rfl (by repeat' first | refine And.intro ?_ ?_ | (refine capLe h223 rfl ?_; first | (simp; done) | (simp; omega) | (simp [hc, h220, h221]; done) | (simp [hc, h220, h221]; omega)) | (refine capMax h223 (by decide) ?_; first | (simp; done) | (simp; omega) | (simp [hc, h220, h221]; done) | (simp [hc, h220, h221]; omega)) | exact oblA) ?_
        exact wkT [(1, 5)] (SemK.glue (J (nbF, nbF)))
       ·clear h; intro h221 h
        refine bindE h ?_
        clear h; intro u224 h225 h
        cases h
        refine run_to tmD 4000 [.br false, .br false, .no] rfl (by repeat' first | refine And.intro ?_ ?_ | (refine capLe h225 rfl ?_; first | (simp; done) | (simp; omega) | (simp [hc, h220, h221]; done) | (simp [hc, h220, h221]; omega)) | (refine capMax h225 (by decide) ?_; first | (simp; done) | (simp; omega) | (simp [hc, h220, h221]; done) | (simp [hc, h220, h221]; omega)) | exact oblA) ?_
        exact wkT [(0, 5)] (SemK.glue (J (nbF, (nbT (by first | rfl | simp [*])))))
    ·
     clear h
     have h := h212
     refine brE h ?_ ?_
     ·clear h; intro h211 h
      obtain rfl := Option.some.inj h
      refine runT tmD [.br true] ?_
      exact wkT [] (SemK.glue J)
     ·clear h; intro h211 h
      obtain rfl := Option.some.inj h
      refine runT tmD [.br false] ?_
      exact wkT [] (SemK.glue J)
  ·
   obtain rfl := hn_y0_o0 rfl
   rcases nb_y0_o1 with ⟨_ | _, hn_y0_o1⟩
   ·
    refine SemK.round ?_
    refine runT tmD [.br true, .el (enc_GEvent x)] ?_
    refine SemK.inline tyTab_ok fn105 rfl rfl rfl rfl rfl trivial trivial rfl rfl ?_
    refine bindE h ?_
    clear h; intro j232_o2 h234 h
    refine runT tmD [] ?_
    refine SemK.join (s' := ⟨fr [(4, (aI .i64 y0_o2))], hp ([(1, { es := List.map enc_GRecord y0_o1, esz := 3 }), (2, { es := [(aI .i64 j232_o2)], esz := 1 }), (3, { es := [(enc_GEvent x)], esz := 5 })]), 4⟩) ?_ (fun J => SemK.cut ?_)
    ·
     refine runT tmD [] ?_
     refine SemK.back (by intro id h; cases h) rfl ?_
     refine bindE h ?_
     clear h; intro w241 h248 h
     obtain ⟨j241_o0, j241_o1⟩ := w241
     try dsimp only at h
     refine runT tmD [] ?_
     refine SemK.joinF (fun (q : Nb j241_o0 × Nb j241_o1) => ⟨fr [(2, (slE q.1.1 0 (List.map enc_GRecord j241_o0))), (3, (slE q.2.1 1 (List.map enc_GRecord j241_o1))), (6, (AV.fn 105 [(AV.ptr 2 0 0)])), (16, (AV.list false (List.map enc_GEvent y0_16))), (17, (aI .i64 (List.length y0_16 : Int))), (18, (aI .i64 (k : Int)))], hp ([(2, { es := [(aI .i64 j232_o2)], esz := 1 })] ++ opE q.1.1 0 3 (List.map enc_GRecord j241_o0) ++ opE q.2.1 1 3 (List.map enc_GRecord j241_o1)), 3⟩) ?_ (fun J => SemK.cut ?_)
     ·
      rintro ⟨nb_j241_o0, nb_j241_o1⟩
      rcases nb_j241_o0 with ⟨_ | _, hn_j241_o0⟩
      ·
       rcases nb_j241_o1 with ⟨_ | _, hn_j241_o1⟩
       ·
        refine runT tmD [] ?_
        exact wkT [] (ih (k + 1) hx1 _ _ _ nbF nbF o h C0)
       ·
        obtain rfl := hn_j241_o1 rfl
        refine runT tmD [] ?_
        exact wkT [] (ih (k + 1) hx1 _ _ _ nbF (nbT (by first | rfl | simp [*])) o h C0)
      ·
       obtain rfl := hn_j241_o0 rfl
       rcases nb_j241_o1 with ⟨_ | _, hn_j241_o1⟩
       ·
        refine runT tmD [] ?_
        exact wkT [] (ih (k + 1) hx1 _ _ _ (nbT (by first | rfl | simp [*])) nbF o h C0)
       ·
        obtain rfl := hn_j241_o1 rfl
        refine runT tmD [] ?_
        exact wkT [] (ih (k + 1) hx1 _ _ _ (nbT (by first | rfl | simp [*])) (nbT (by first | rfl | simp [*])) o h C0)
     ·
      clear h
      have h := h248
      refine brE h ?_ ?_
      ·clear h; intro h242 h
       cases h
       refine runT tmD [.br true] ?_
       exact wkT [] (SemK.glue (J ((nbT (by first | rfl | simp [*])), nbF)))
      ·clear h; intro h242 h
       refine brE h ?_ ?_
       ·clear h; intro h243 h
        refine bindE h ?_
        clear h; intro u244 h245 h
        cases h
        refine run_to tmD 4000 [.br false, .br true, .no] rfl (by repeat' first | refine And.intro ?_ ?_ | (refine capLe h245 rfl ?_; first | (simp; done) | (simp; omega) | (simp [hc, h242, h243]; done) | (simp [hc, h242, h243]; omega)) | (refine capMax h245 (by decide) ?_; first | (simp; done) | (simp; omega) | (simp [hc, h242, h243]; done) | (simp [hc, h242, h243]; omega)) | exact oblA) ?_
        exact wkT [(1, 5)] (SemK.glue (J ((nbT (by first | rfl | simp [*])), nbF)))
       ·clear h; intro h243 h
        refine bindE h ?_
        clear h; intro u246 h247 h
        cases h
        refine run_to tmD 4000 [.br false, .br false, .no] rfl (by repeat' first | refine And.intro ?_ ?_ | (refine capLe h247 rfl ?_; first | (simp; done) | (simp; omega) | (simp [hc, h242, h243]; done) | (simp [hc, h242, h243]; omega)) | (refine capMax h247 (by decide) ?_; first | (simp; done) | (simp; omega) | (simp [hc, h242, h243]; done) | (simp [hc, h242, h243]; omega)) | exact oblA) ?_
        exact wkT [(0, 5)] (SemK.glue (J (nbF, nbF)))
    ·
     clear h
     have h := h234
     refine brE h ?_ ?_
     ·clear h; intro h233 h
      obtain rfl := Option.some.inj h
      refine runT tmD [.br true] ?_
      exact wkT [] (SemK.glue J)
     ·clear h; intro h233 h
      obtain rfl := Option.some.inj h
      refine runT tmD [.br false] ?_
      exact wkT [] (SemK.glue J)
   ·
    obtain rfl := hn_y0_o1 rfl
    refine SemK.round ?_
    refine runT tmD [.br true, .el (enc_GEvent x)] ?_
    refine SemK.inline tyTab_ok fn105 rfl rfl rfl rfl rfl trivial trivial rfl rfl ?_
    refine bindE h ?_
    clear h; intro j254_o2 h256 h
    refine runT tmD [] ?_
    refine SemK.join (s' := ⟨fr [(4, (aI .i64 y0_o2))], hp ([(2, { es := [(aI .i64 j254_o2)], esz := 1 }), (3, { es := [(enc_GEvent x)], esz := 5 })]), 4⟩) ?_ (fun J => SemK.cut ?_)
    ·
     refine runT tmD [] ?_
     refine SemK.back (by intro id h; cases h) rfl ?_
     refine bindE h ?_
     clear h; intro w263 h270 h
     obtain ⟨j263_o0, j263_o1⟩ := w263
     try dsimp only at h
     refine runT tmD [] ?_
     refine SemK.joinF (fun (q : Nb j263_o0 × Nb j263_o1) => ⟨fr [(2, (slE q.1.1 0 (List.map enc_GRecord j263_o0))), (3, (slE q.2.1 1 (List.map enc_GRecord j263_o1))), (6, (AV.fn 105 [(AV.ptr 2 0 0)])), (16, (AV.list false (List.map enc_GEvent y0_16))), (17, (aI .i64 (List.length y0_16 : Int))), (18, (aI .i64 (k : Int)))], hp ([(2, { es := [(aI .i64 j254_o2)], esz := 1 })] ++ opE q.1.1 0 3 (List.map enc_GRecord j263_o0) ++ opE q.2.1 1 3 (List.map enc_GRecord j263_o1)), 3⟩) ?_ (fun J => SemK.cut ?_)
     ·
      rintro ⟨nb_j263_o0, nb_j263_o1⟩
      rcases nb_j263_o0 with ⟨_ | _, hn_j263_o0⟩
      ·
       rcases nb_j263_o1 with ⟨_ | _, hn_j263_o1⟩
       ·
        refine runT tmD [] ?_
        exact wkT [] (ih (k + 1) hx1 _ _ _ nbF nbF o h C0)
       ·
        obtain rfl := hn_j263_o1 rfl
        refine runT tmD [] ?_
        exact wkT [] (ih (k + 1) hx1 _ _ _ nbF (nbT (by first | rfl | simp [*])) o h C0)
      ·
       obtain rfl := hn_j263_o0 rfl
       rcases nb_j263_o1 with ⟨_ | _, hn_j263_o1⟩
       ·
        refine runT tmD [] ?_
        exact wkT [] (ih (k + 1) hx1 _ _ _ (nbT (by first | rfl | simp [*])) nbF o h C0)
       ·
        obtain rfl := hn_j263_o1 rfl
        refine runT tmD [] ?_
        exact wkT [] (ih (k + 1) hx1 _ _ _ (nbT (by first | rfl | simp [*])) (nbT (by first | rfl | simp [*])) o h C0)
     ·
      clear h
      have h := h270
      refine brE h ?_ ?_
      ·clear h; intro h264 h
       cases h
       refine runT tmD [.br true] ?_
       exact wkT [] (SemK.glue (J ((nbT (by first | rfl | simp [*])), (nbT (by first | rfl | simp [*])))))
      ·clear h; intro h264 h
       refine brE h ?_ ?_
       ·clear h; intro h265 h
        refine bindE h ?_
        clear h; intro u266 h267 h
        cases h
        refine run_to tmD 4000 [.br false, .br true, .no] rfl (by repeat' first | refine And.intro ?_ ?_ | (refine capLe h267 rfl ?_; first | (simp; done) | (simp; omega) | (simp [hc, h264, h265]; done) | (simp [hc, h264, h265]; omega)) | (refine capMax h267 (by decide) ?_; first | (simp; done) | (simp; omega) | (simp [hc, h264, h265]; done) | (simp [hc, h264, h265]; omega)) | exact oblA) ?_
        exact wkT [(1, 5)] (SemK.glue (J ((nbT (by first | rfl | simp [*])), nbF)))
       ·clear h; intro h265 h
        refine bindE h ?_
        clear h; intro u268 h269 h
        cases h
        refine run_to tmD 4000 [.br false, .br false, .no] rfl (by repeat' first | refine And.intro ?_ ?_ | (refine capLe h269 rfl ?_; first | (simp; done) | (simp; omega) | (simp [hc, h264, h265]; done) | (simp [hc, h264, h265]; omega)) | (refine capMax h269 (by decide) ?_; first | (simp; done) | (simp; omega) | (simp [hc, h264, h265]; done) | (simp [hc, h264, h265]; omega)) | exact oblA) ?_
        exact wkT [(0, 5)] (SemK.glue (J (nbF, (nbT (by first | rfl | simp [*])))))
    ·
     clear h
     have h := h256
     refine brE h ?_ ?_
     ·clear h; intro h255 h
      obtain rfl := Option.some.inj h
      refine runT tmD [.br true] ?_
      exact wkT [] (SemK.glue J)
     ·clear h; intro h255 h
      obtain rfl := Option.some.inj h
      refine runT tmD [.br false] ?_
      exact wkT [] (SemK.glue J)

theorem late_Split_ok (a0 : (List GEvent)) (r : (List GRecord) × (List GRecord) × Int) (h : late_Split a0 = some r) : Pure Tryz.prog 49 [(AV.list false (List.map enc_GEvent a0))] (AV.tup [(AV.list true (List.map enc_GRecord r.1)), (AV.list true (List.map enc_GRecord r.2.1)), (aI .i64 r.2.2)]) := by
 refine Pure.sym tyTab_ok fn49 (nt := 47) rfl rfl ?_ (allCons .list allNil)
 unfold late_Split at h
 refine bindE h ?_
 clear h; intro v1 h2 h
 refine brE h ?_ ?_
 ·clear h; intro h3 h
  obtain rfl := Option.some.inj h
  refine run_to tmD 4000 [.pure [(AV.list false (List.map enc_GEvent a0))] (aI .i64 v1), .br true] rfl (by repeat' first | refine And.intro ?_ ?_ | exact (PureCall.none (late_Check_ok _ _ h2) (Cvs.cons (cv_list (flat_map flat_GEvent a0)) Cvs.nil)) | exact oblA) ?_
  refine fin_ret rfl ?_
  exact (cv_tup (Cvs.cons (cv_nils (es := List.map enc_GRecord ([] : List GRecord)) (by simp [*])) (Cvs.cons (cv_nils (es := List.map enc_GRecord ([] : List GRecord)) (by simp [*])) (Cvs.cons .sc Cvs.nil))))
 ·clear h; intro h3 h
  refine run_to tmD 4000 [.pure [(AV.list false (List.map enc_GEvent a0))] (aI .i64 v1), .br false] rfl (by repeat' first | refine And.intro ?_ ?_ | exact (PureCall.none (late_Check_ok _ _ h2) (Cvs.cons (cv_list (flat_map flat_GEvent a0)) Cvs.nil)) | exact oblA) ?_
  refine SemK.inline tyTab_ok fn71 rfl rfl rfl rfl rfl trivial trivial rfl rfl ?_
  refine runT tmD [] ?_
  refine SemK.back (by intro id h; cases h) rfl ?_
  refine bindE h ?_
  clear h; intro u4 h5 h
  have qh5 := lenOk_le h5
  refine bindE h ?_
  clear h; intro o271 h272 h
  refine runT tmD [.el (aI .i64 (List.length a0 : Int))] ?_
  refine wkT [(2, 0)] (SemK.cut (late_Split_L0_ok a0 qh5 a0 0 (by simp) _ _ _ (nbT (by first | rfl | simp [*])) (nbT (by first | rfl | simp [*])) _ h272 ?_))
  ·intro z0_0_o0 z0_0_o1 nb_z0_0_o0 nb_z0_0_o1 eo271; subst eo271
   refine SemK.glue ?_
   try dsimp only at h
   rcases nb_z0_0_o0 with ⟨_ | _, hn_z0_0_o0⟩
   ·
    rcases nb_z0_0_o1 with ⟨_ | _, hn_z0_0_o1⟩
    ·
     obtain rfl := Option.some.inj h
     refine runT tmD [] ?_
     refine fin_ret rfl ?_
     exact (cv_tup (Cvs.cons (cv_ref (es := List.map enc_GRecord z0_0_o0) rfl (by first | rfl | (simp; done) | (simp; rfl) | (simp [h3]; done) | (simp [h3]; rfl) | (simp [h3, List.map_take, List.map_drop]; done) | (simp [h3, List.map_take, List.map_drop]; rfl)) (by first | rfl | (simp; done) | (simp; omega) | (simp [h3]; done) | (simp [h3]; omega)) (flat_map flat_GRecord z0_0_o0)) (Cvs.cons (cv_ref (es := List.map enc_GRecord z0_0_o1) rfl (by first | rfl | (simp; done) | (simp; rfl) | (simp [h3]; done) | (simp [h3]; rfl) | (simp [h3, List.map_take, List.map_drop]; done) | (simp [h3, List.map_take, List.map_drop]; rfl)) (by first | rfl | (simp; done) | (simp; omega) | (simp [h3]; done) | (simp [h3]; omega)) (flat_map flat_GRecord z0_0_o1)) (Cvs.cons .sc Cvs.nil))))
    ·
     obtain rfl := hn_z0_0_o1 rfl
     obtain rfl := Option.some.inj h
     refine runT tmD [] ?_
     refine fin_ret rfl ?_
     exact (cv_tup (Cvs.cons (cv_ref (es := List.map enc_GRecord z0_0_o0) rfl (by first | rfl | (simp; done) | (simp; rfl) | (simp [h3]; done) | (simp [h3]; rfl) | (simp [h3, List.map_take, List.map_drop]; done) | (simp [h3, List.map_take, List.map_drop]; rfl)) (by first | rfl | (simp; done) | (simp; omega) | (simp [h3]; done) | (simp [h3]; omega)) (flat_map flat_GRecord z0_0_o0)) (Cvs.cons (cv_nils (es := List.map enc_GRecord ([] : List GRecord)) (by simp [*])) (Cvs.cons .sc Cvs.nil))))
   ·
    obtain rfl := hn_z0_0_o0 rfl
    rcases nb_z0_0_o1 with ⟨_ | _, hn_z0_0_o1⟩
    ·
     obtain rfl := Option.some.inj h
     refine runT tmD [] ?_
     refine fin_ret rfl ?_
     exact (cv_tup (Cvs.cons (cv_nils (es := List.map enc_GRecord ([] : List GRecord)) (by simp [*])) (Cvs.cons (cv_ref (es := List.map enc_GRecord z0_0_o1) rfl (by first | rfl | (simp; done) | (simp; rfl) | (simp [h3]; done) | (simp [h3]; rfl) | (simp [h3, List.map_take, List.map_drop]; done) | (simp [h3, List.map_take, List.map_drop]; rfl)) (by first | rfl | (simp; done) | (simp; omega) | (simp [h3]; done) | (simp [h3]; omega)) (flat_map flat_GRecord z0_0_o1)) (Cvs.cons .sc Cvs.nil))))
    ·
     obtain rfl := hn_z0_0_o1 rfl
     obtain rfl := Option.some.inj h
     refine runT tmD [] ?_
     refine fin_ret rfl ?_
     exact (cv_tup (Cvs.cons (cv_nils (es := List.map enc_GRecord ([] : List GRecord)) (by simp [*])) (Cvs.cons (cv_nils (es := List.map enc_GRecord ([] : List GRecord)) (by simp [*])) (Cvs.cons .sc Cvs.nil))))

theorem evals_check_ok (a0 : (List GNode)) (r : Int) (h : evals_check a0 = some r) : Pure Tryz.prog 96 [(AV.list false (List.map enc_GNode a0))] (aI .i64 r) := by
 refine Pure.sym tyTab_ok fn96 (nt := 13) rfl rfl ?_ (allCons .list allNil)
 unfold evals_check at h
 refine bindE h ?_
 clear h; intro v1 h2 h
 obtain rfl := Option.some.inj h
 refine run_to tmD 4000 [.pure [(AV.list false (List.map enc_GNode a0))] (AV.tup [(aB v1.1), (aI .i64 v1.2.1), (aI .i64 v1.2.2)])] rfl (by repeat' first | refine And.intro ?_ ?_ | exact (PureCall.none (kinds_Of_ok _ _ h2) (Cvs.cons (cv_list (flat_map flat_GNode a0)) Cvs.nil)) | exact oblA) ?_
 refine fin_ret rfl ?_
 exact .sc

theorem ints_truth_ok (a0 : Bool) (r : Int) (h : ints_truth a0 = some r) : Pure Tryz.prog 131 [(aB a0)] (aI .i64 r) := by
 refine Pure.sym tyTab_ok fn131 (nt := 4) rfl rfl ?_ (allCons .sc allNil)
 unfold ints_truth at h
 refine brE h ?_ ?_
 ·clear h; intro h1 h
  obtain rfl := Option.some.inj h
  refine runT tmD [.br true] ?_
  refine fin_ret rfl ?_
  exact .sc
 ·clear h; intro h1 h
  obtain rfl := Option.some.inj h
  refine runT tmD [.br false] ?_
  refine fin_ret rfl ?_
  exact .sc
end Go.Av.Tryz
