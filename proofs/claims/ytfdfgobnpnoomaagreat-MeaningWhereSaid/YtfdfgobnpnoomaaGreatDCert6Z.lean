/- Printed by decomp.py: that the program computes the functions. -/
import Derived.Test.YtfdfgobnpnoomaaGreatDCert5Z
set_option linter.all false

namespace Go.Av.Tryz
open Go.Proofs Go.D
set_option maxRecDepth 10000
set_option maxHeartbeats 40000000
theorem Xhy {Q : X0d -> St -> Mu -> Prop} {μ : Mu} (Xd8 : (List Xi)) (hl : Xd8.length <= 140737488355328) : ∀ (xs : List Xi) (k : Nat) (hx : Xd8.drop k = xs) (Xm : (List Xj)) (Xk : (List Xj)) (X6d : Int) (X1l : Nb Xm) (X02 : Nb Xk) (o : Xab) (h : X47 Xd8 xs k Xm Xk X6d = some o)
  (C0 : ∀ (Xq : (List Xj)) (X0m : (List Xj)) (X0i : Nb Xq) (X0z : Nb X0m), o = Xab.x0 Xq X0m -> Xa Tryz.prog 47 0 Q (.exit (.exit 0)) [] ⟨fr [(2, (slE X0i.1 0 (Xq.map X3))), (3, (slE X0z.1 1 (X0m.map X3)))], hp ([] ++ opE X0i.1 0 3 (Xq.map X3) ++ opE X0z.1 1 3 (X0m.map X3)), 2⟩ μ),
  Xa Tryz.prog 47 0 Q (.loop (X5o 0 (Xt Tryz.f49))) [] ⟨fr [(2, (slE X1l.1 0 (Xm.map X3))), (3, (slE X02.1 1 (Xk.map X3))), (6, (AV.fn 105 [(AV.ptr 2 0 0)])), (16, (Lf (Xd8.map X4))), (17, (aI .i64 (Xd8.length : Int))), (18, (aI .i64 (k : Int)))], hp ([(2, Ob [(aI .i64 X6d)] 1)] ++ opE X1l.1 0 3 (Xm.map X3) ++ opE X02.1 1 3 (Xk.map X3)), 3⟩ μ := by
 intro xs
 induction xs with
 | nil =>
  intro k hx Xm Xk X6d X1l X02 o h C0
  have hk := X1u hx
  have hc : decide ((k : Int) < (Xd8.length : Int)) = false := Yf (by omega)
  rw [X47] at h
  rcases X1l with ⟨_ | _, X49⟩
  ·
   rcases X02 with ⟨_ | _, X0n⟩
   ·
    refine Xa.round ?_
    obtain rfl := oj h
    refine Xe tmD [Bf] ?_
    exact wkT [] (C0 _ _  nbF nbF rfl)
   obtain rfl := X0n rfl
   refine Xa.round ?_
   obtain rfl := oj h
   refine Xe tmD [Bf] ?_
   exact wkT [] (C0 _ _  nbF (nbT (by first | rfl | simp [*])) rfl)
  ·
   obtain rfl := X49 rfl
   rcases X02 with ⟨_ | _, X0n⟩
   ·
    refine Xa.round ?_
    obtain rfl := oj h
    refine Xe tmD [Bf] ?_
    exact wkT [] (C0 _ _  (nbT (by first | rfl | simp [*])) nbF rfl)
   ·
    obtain rfl := X0n rfl
    refine Xa.round ?_
    obtain rfl := oj h
    refine Xe tmD [Bf] ?_
    exact wkT [] (C0 _ _  (nbT (by first | rfl | simp [*])) (nbT (by first | rfl | simp [*])) rfl)
 | cons x xs ih =>
  intro k hx Xm Xk X6d X1l X02 o h C0
  obtain ⟨hk, hg, hx1⟩ := X16 hx
  have hc : decide ((k : Int) < (Xd8.length : Int)) = true := Yt (by omega)
  rw [X47] at h
  rcases X1l with ⟨_ | _, X49⟩
  ·
   rcases X02 with ⟨_ | _, X0n⟩
   ·
    refine Xa.round ?_
    refine Xe tmD [Bt, .el (X4 x)] ?_
    refine Xa.inline Xg Xtq rfl rfl rfl rfl rfl trivial trivial rfl rfl ?_
    refine X9 h ?_
    clear h; intro Xmv h190 h
    refine Xe tmD [] ?_
    refine Xa.join (s' := ⟨fr [(4, (aI .i64 X6d))], hp ([(0, Ob (Xm.map X3) 3), (1, Ob (Xk.map X3) 3), (2, Ob [(aI .i64 Xmv)] 1), (3, Ob [(X4 x)] 5)]), 4⟩) ?_ (fun J => Xa.cut ?_)
    ·
     refine Xe tmD [] ?_
     refine Xa.back (by intro id h; cases h) rfl ?_
     refine X9 h ?_
     clear h; intro w197 h204 h
     obtain ⟨Xq8, Xq7⟩ := w197
     try dsimp only at h
     refine Xe tmD [] ?_
     refine Xa.joinF (fun (q : Nb Xq8 × Nb Xq7) => ⟨fr [(2, (slE q.1.1 0 (Xq8.map X3))), (3, (slE q.2.1 1 (Xq7.map X3))), (6, (AV.fn 105 [(AV.ptr 2 0 0)])), (16, (Lf (Xd8.map X4))), (17, (aI .i64 (Xd8.length : Int))), (18, (aI .i64 (k : Int)))], hp ([(2, Ob [(aI .i64 Xmv)] 1)] ++ opE q.1.1 0 3 (Xq8.map X3) ++ opE q.2.1 1 3 (Xq7.map X3)), 3⟩) ?_ (fun J => Xa.cut ?_)
     ·
      rintro ⟨Xsu, Xlk⟩
      rcases Xsu with ⟨_ | _, Xtk⟩
      ·
       rcases Xlk with ⟨_ | _, Xgw⟩
       ·
        refine Xe tmD [] ?_
        exact wkT [] (ih (k + 1) hx1 _ _ _ nbF nbF o h C0)
       obtain rfl := Xgw rfl
       refine Xe tmD [] ?_
       exact wkT [] (ih (k + 1) hx1 _ _ _ nbF (nbT (by first | rfl | simp [*])) o h C0)
      obtain rfl := Xtk rfl
      rcases Xlk with ⟨_ | _, Xgw⟩
      ·
       refine Xe tmD [] ?_
       exact wkT [] (ih (k + 1) hx1 _ _ _ (nbT (by first | rfl | simp [*])) nbF o h C0)
      obtain rfl := Xgw rfl
      refine Xe tmD [] ?_
      exact wkT [] (ih (k + 1) hx1 _ _ _ (nbT (by first | rfl | simp [*])) (nbT (by first | rfl | simp [*])) o h C0)
     clear h
     have h := h204
     refine brE h ?_ ?_
     ·clear h; intro h198 h
      simp only [Option.some.injEq, Prod.mk.injEq] at h
      obtain ⟨rfl, rfl⟩ := h
      refine Xe tmD [Bt] ?_
      exact wkT [] (Xa.glue (J (nbF, nbF)))
     clear h; intro h198 h
     refine brE h ?_ ?_
     ·clear h; intro h199 h
      refine X9 h ?_
      clear h; intro u200 h201 h
      simp only [Option.some.injEq, Prod.mk.injEq] at h
      obtain ⟨rfl, rfl⟩ := h
      refine rn tmD [Bf, Bt, .no] rfl (by repeat' first | refine Ya ?_ ?_ | (refine X0w h201 rfl ?_; first | (simp; done) | (simp; omega) | (simp [hc, h198, h199]; done) | (simp [hc, h198, h199]; omega)) | (refine X0a h201 (by decide) ?_; first | (simp; done) | (simp; omega) | (simp [hc, h198, h199]; done) | (simp [hc, h198, h199]; omega))|exact Xv) ?_
      exact wkT [(1, 5)] (Xa.glue (J (nbF, nbF)))
     clear h; intro h199 h
     refine X9 h ?_
     clear h; intro u202 h203 h
     simp only [Option.some.injEq, Prod.mk.injEq] at h
     obtain ⟨rfl, rfl⟩ := h
     refine rn tmD [Bf, Bf, .no] rfl (by repeat' first | refine Ya ?_ ?_ | (refine X0w h203 rfl ?_; first | (simp; done) | (simp; omega) | (simp [hc, h198, h199]; done) | (simp [hc, h198, h199]; omega)) | (refine X0a h203 (by decide) ?_; first | (simp; done) | (simp; omega) | (simp [hc, h198, h199]; done) | (simp [hc, h198, h199]; omega))|exact Xv) ?_
     exact wkT [(0, 5)] (Xa.glue (J (nbF, nbF)))
    clear h
    have h := h190
    refine brE h ?_ ?_
    ·clear h; intro h189 h
     obtain rfl := oj h
     refine Xe tmD [Bt] ?_
     exact wkT [] (Xa.glue J)
    clear h; intro h189 h
    obtain rfl := oj h
    refine Xe tmD [Bf] ?_
    exact wkT [] (Xa.glue J)
   obtain rfl := X0n rfl
   refine Xa.round ?_
   refine Xe tmD [Bt, .el (X4 x)] ?_
   refine Xa.inline Xg Xtq rfl rfl rfl rfl rfl trivial trivial rfl rfl ?_
   refine X9 h ?_
   clear h; intro Xvr h212 h
   refine Xe tmD [] ?_
   refine Xa.join (s' := ⟨fr [(4, (aI .i64 X6d))], hp ([(0, Ob (Xm.map X3) 3), (2, Ob [(aI .i64 Xvr)] 1), (3, Ob [(X4 x)] 5)]), 4⟩) ?_ (fun J => Xa.cut ?_)
   ·
    refine Xe tmD [] ?_
    refine Xa.back (by intro id h; cases h) rfl ?_
    refine X9 h ?_
    clear h; intro w219 h226 h
    obtain ⟨Xq6, Xq5⟩ := w219
    try dsimp only at h
    refine Xe tmD [] ?_
    refine Xa.joinF (fun (q : Nb Xq6 × Nb Xq5) => ⟨fr [(2, (slE q.1.1 0 (Xq6.map X3))), (3, (slE q.2.1 1 (Xq5.map X3))), (6, (AV.fn 105 [(AV.ptr 2 0 0)])), (16, (Lf (Xd8.map X4))), (17, (aI .i64 (Xd8.length : Int))), (18, (aI .i64 (k : Int)))], hp ([(2, Ob [(aI .i64 Xvr)] 1)] ++ opE q.1.1 0 3 (Xq6.map X3) ++ opE q.2.1 1 3 (Xq5.map X3)), 3⟩) ?_ (fun J => Xa.cut ?_)
    ·
     rintro ⟨Xst, Xlj⟩
     rcases Xst with ⟨_ | _, Xtj⟩
     ·
      rcases Xlj with ⟨_ | _, Xgv⟩
      ·
       refine Xe tmD [] ?_
       exact wkT [] (ih (k + 1) hx1 _ _ _ nbF nbF o h C0)
      obtain rfl := Xgv rfl
      refine Xe tmD [] ?_
      exact wkT [] (ih (k + 1) hx1 _ _ _ nbF (nbT (by first | rfl | simp [*])) o h C0)
     obtain rfl := Xtj rfl
     rcases Xlj with ⟨_ | _, Xgv⟩
     ·
      refine Xe tmD [] ?_
      exact wkT [] (ih (k + 1) hx1 _ _ _ (nbT (by first | rfl | simp [*])) nbF o h C0)
     obtain rfl := Xgv rfl
     refine Xe tmD [] ?_
     exact wkT [] (ih (k + 1) hx1 _ _ _ (nbT (by first | rfl | simp [*])) (nbT (by first | rfl | simp [*])) o h C0)
    clear h
    have h := h226
    refine brE h ?_ ?_
    ·clear h; intro h220 h
     simp only [Option.some.injEq, Prod.mk.injEq] at h
     obtain ⟨rfl, rfl⟩ := h
     refine Xe tmD [Bt] ?_
     exact wkT [] (Xa.glue (J (nbF, (nbT (by first | rfl | simp [*])))))
    clear h; intro h220 h
    refine brE h ?_ ?_
    ·clear h; intro h221 h
     refine X9 h ?_
     clear h; intro u222 h223 h
     simp only [Option.some.injEq, Prod.mk.injEq] at h
     obtain ⟨rfl, rfl⟩ := h
     refine rn tmD [Bf, Bt, .no] rfl (by repeat' first | refine Ya ?_ ?_ | (refine X0w h223 rfl ?_; first | (simp; done) | (simp; omega) | (simp [hc, h220, h221]; done) | (simp [hc, h220, h221]; omega)) | (refine X0a h223 (by decide) ?_; first | (simp; done) | (simp; omega) | (simp [hc, h220, h221]; done) | (simp [hc, h220, h221]; omega))|exact Xv) ?_
     exact wkT [(1, 5)] (Xa.glue (J (nbF, nbF)))
    clear h; intro h221 h
    refine X9 h ?_
    clear h; intro u224 h225 h
    simp only [Option.some.injEq, Prod.mk.injEq] at h
    obtain ⟨rfl, rfl⟩ := h
    refine rn tmD [Bf, Bf, .no] rfl (by repeat' first | refine Ya ?_ ?_ | (refine X0w h225 rfl ?_; first | (simp; done) | (simp; omega) | (simp [hc, h220, h221]; done) | (simp [hc, h220, h221]; omega)) | (refine X0a h225 (by decide) ?_; first | (simp; done) | (simp; omega) | (simp [hc, h220, h221]; done) | (simp [hc, h220, h221]; omega))|exact Xv) ?_
    exact wkT [(0, 5)] (Xa.glue (J (nbF, (nbT (by first | rfl | simp [*])))))
   clear h
   have h := h212
   refine brE h ?_ ?_
   ·clear h; intro h211 h
    obtain rfl := oj h
    refine Xe tmD [Bt] ?_
    exact wkT [] (Xa.glue J)
   clear h; intro h211 h
   obtain rfl := oj h
   refine Xe tmD [Bf] ?_
   exact wkT [] (Xa.glue J)
  obtain rfl := X49 rfl
  rcases X02 with ⟨_ | _, X0n⟩
  ·
   refine Xa.round ?_
   refine Xe tmD [Bt, .el (X4 x)] ?_
   refine Xa.inline Xg Xtq rfl rfl rfl rfl rfl trivial trivial rfl rfl ?_
   refine X9 h ?_
   clear h; intro Xvq h234 h
   refine Xe tmD [] ?_
   refine Xa.join (s' := ⟨fr [(4, (aI .i64 X6d))], hp ([(1, Ob (Xk.map X3) 3), (2, Ob [(aI .i64 Xvq)] 1), (3, Ob [(X4 x)] 5)]), 4⟩) ?_ (fun J => Xa.cut ?_)
   ·
    refine Xe tmD [] ?_
    refine Xa.back (by intro id h; cases h) rfl ?_
    refine X9 h ?_
    clear h; intro w241 h248 h
    obtain ⟨Xq4, Xq3⟩ := w241
    try dsimp only at h
    refine Xe tmD [] ?_
    refine Xa.joinF (fun (q : Nb Xq4 × Nb Xq3) => ⟨fr [(2, (slE q.1.1 0 (Xq4.map X3))), (3, (slE q.2.1 1 (Xq3.map X3))), (6, (AV.fn 105 [(AV.ptr 2 0 0)])), (16, (Lf (Xd8.map X4))), (17, (aI .i64 (Xd8.length : Int))), (18, (aI .i64 (k : Int)))], hp ([(2, Ob [(aI .i64 Xvq)] 1)] ++ opE q.1.1 0 3 (Xq4.map X3) ++ opE q.2.1 1 3 (Xq3.map X3)), 3⟩) ?_ (fun J => Xa.cut ?_)
    ·
     rintro ⟨Xss, Xli⟩
     rcases Xss with ⟨_ | _, Xti⟩
     ·
      rcases Xli with ⟨_ | _, Xgu⟩
      ·
       refine Xe tmD [] ?_
       exact wkT [] (ih (k + 1) hx1 _ _ _ nbF nbF o h C0)
      obtain rfl := Xgu rfl
      refine Xe tmD [] ?_
      exact wkT [] (ih (k + 1) hx1 _ _ _ nbF (nbT (by first | rfl | simp [*])) o h C0)
     obtain rfl := Xti rfl
     rcases Xli with ⟨_ | _, Xgu⟩
     ·
      refine Xe tmD [] ?_
      exact wkT [] (ih (k + 1) hx1 _ _ _ (nbT (by first | rfl | simp [*])) nbF o h C0)
     obtain rfl := Xgu rfl
     refine Xe tmD [] ?_
     exact wkT [] (ih (k + 1) hx1 _ _ _ (nbT (by first | rfl | simp [*])) (nbT (by first | rfl | simp [*])) o h C0)
    clear h
    have h := h248
    refine brE h ?_ ?_
    ·clear h; intro h242 h
     simp only [Option.some.injEq, Prod.mk.injEq] at h
     obtain ⟨rfl, rfl⟩ := h
     refine Xe tmD [Bt] ?_
     exact wkT [] (Xa.glue (J ((nbT (by first | rfl | simp [*])), nbF)))
    clear h; intro h242 h
    refine brE h ?_ ?_
    ·clear h; intro h243 h
     refine X9 h ?_
     clear h; intro u244 h245 h
     simp only [Option.some.injEq, Prod.mk.injEq] at h
     obtain ⟨rfl, rfl⟩ := h
     refine rn tmD [Bf, Bt, .no] rfl (by repeat' first | refine Ya ?_ ?_ | (refine X0w h245 rfl ?_; first | (simp; done) | (simp; omega) | (simp [hc, h242, h243]; done) | (simp [hc, h242, h243]; omega)) | (refine X0a h245 (by decide) ?_; first | (simp; done) | (simp; omega) | (simp [hc, h242, h243]; done) | (simp [hc, h242, h243]; omega))|exact Xv) ?_
     exact wkT [(1, 5)] (Xa.glue (J ((nbT (by first | rfl | simp [*])), nbF)))
    clear h; intro h243 h
    refine X9 h ?_
    clear h; intro u246 h247 h
    simp only [Option.some.injEq, Prod.mk.injEq] at h
    obtain ⟨rfl, rfl⟩ := h
    refine rn tmD [Bf, Bf, .no] rfl (by repeat' first | refine Ya ?_ ?_ | (refine X0w h247 rfl ?_; first | (simp; done) | (simp; omega) | (simp [hc, h242, h243]; done) | (simp [hc, h242, h243]; omega)) | (refine X0a h247 (by decide) ?_; first | (simp; done) | (simp; omega) | (simp [hc, h242, h243]; done) | (simp [hc, h242, h243]; omega))|exact Xv) ?_
    exact wkT [(0, 5)] (Xa.glue (J (nbF, nbF)))
   clear h
   have h := h234
   refine brE h ?_ ?_
   ·clear h; intro h233 h
    obtain rfl := oj h
    refine Xe tmD [Bt] ?_
    exact wkT [] (Xa.glue J)
   clear h; intro h233 h
   obtain rfl := oj h
   refine Xe tmD [Bf] ?_
   exact wkT [] (Xa.glue J)
  obtain rfl := X0n rfl
  refine Xa.round ?_
  refine Xe tmD [Bt, .el (X4 x)] ?_
  refine Xa.inline Xg Xtq rfl rfl rfl rfl rfl trivial trivial rfl rfl ?_
  refine X9 h ?_
  clear h; intro Xvn h256 h
  refine Xe tmD [] ?_
  refine Xa.join (s' := ⟨fr [(4, (aI .i64 X6d))], hp ([(2, Ob [(aI .i64 Xvn)] 1), (3, Ob [(X4 x)] 5)]), 4⟩) ?_ (fun J => Xa.cut ?_)
  ·
   refine Xe tmD [] ?_
   refine Xa.back (by intro id h; cases h) rfl ?_
   refine X9 h ?_
   clear h; intro w263 h270 h
   obtain ⟨Xq2, Xq1⟩ := w263
   try dsimp only at h
   refine Xe tmD [] ?_
   refine Xa.joinF (fun (q : Nb Xq2 × Nb Xq1) => ⟨fr [(2, (slE q.1.1 0 (Xq2.map X3))), (3, (slE q.2.1 1 (Xq1.map X3))), (6, (AV.fn 105 [(AV.ptr 2 0 0)])), (16, (Lf (Xd8.map X4))), (17, (aI .i64 (Xd8.length : Int))), (18, (aI .i64 (k : Int)))], hp ([(2, Ob [(aI .i64 Xvn)] 1)] ++ opE q.1.1 0 3 (Xq2.map X3) ++ opE q.2.1 1 3 (Xq1.map X3)), 3⟩) ?_ (fun J => Xa.cut ?_)
   ·
    rintro ⟨Xsr, Xlh⟩
    rcases Xsr with ⟨_ | _, Xth⟩
    ·
     rcases Xlh with ⟨_ | _, Xgt⟩
     ·
      refine Xe tmD [] ?_
      exact wkT [] (ih (k + 1) hx1 _ _ _ nbF nbF o h C0)
     obtain rfl := Xgt rfl
     refine Xe tmD [] ?_
     exact wkT [] (ih (k + 1) hx1 _ _ _ nbF (nbT (by first | rfl | simp [*])) o h C0)
    obtain rfl := Xth rfl
    rcases Xlh with ⟨_ | _, Xgt⟩
    ·
     refine Xe tmD [] ?_
     exact wkT [] (ih (k + 1) hx1 _ _ _ (nbT (by first | rfl | simp [*])) nbF o h C0)
    obtain rfl := Xgt rfl
    refine Xe tmD [] ?_
    exact wkT [] (ih (k + 1) hx1 _ _ _ (nbT (by first | rfl | simp [*])) (nbT (by first | rfl | simp [*])) o h C0)
   clear h
   have h := h270
   refine brE h ?_ ?_
   ·clear h; intro h264 h
    simp only [Option.some.injEq, Prod.mk.injEq] at h
    obtain ⟨rfl, rfl⟩ := h
    refine Xe tmD [Bt] ?_
    exact wkT [] (Xa.glue (J ((nbT (by first | rfl | simp [*])), (nbT (by first | rfl | simp [*])))))
   clear h; intro h264 h
   refine brE h ?_ ?_
   ·clear h; intro h265 h
    refine X9 h ?_
    clear h; intro u266 h267 h
    simp only [Option.some.injEq, Prod.mk.injEq] at h
    obtain ⟨rfl, rfl⟩ := h
    refine rn tmD [Bf, Bt, .no] rfl (by repeat' first | refine Ya ?_ ?_ | (refine X0w h267 rfl ?_; first | (simp; done) | (simp; omega) | (simp [hc, h264, h265]; done) | (simp [hc, h264, h265]; omega)) | (refine X0a h267 (by decide) ?_; first | (simp; done) | (simp; omega) | (simp [hc, h264, h265]; done) | (simp [hc, h264, h265]; omega))|exact Xv) ?_
    exact wkT [(1, 5)] (Xa.glue (J ((nbT (by first | rfl | simp [*])), nbF)))
   clear h; intro h265 h
   refine X9 h ?_
   clear h; intro u268 h269 h
   simp only [Option.some.injEq, Prod.mk.injEq] at h
   obtain ⟨rfl, rfl⟩ := h
   refine rn tmD [Bf, Bf, .no] rfl (by repeat' first | refine Ya ?_ ?_ | (refine X0w h269 rfl ?_; first | (simp; done) | (simp; omega) | (simp [hc, h264, h265]; done) | (simp [hc, h264, h265]; omega)) | (refine X0a h269 (by decide) ?_; first | (simp; done) | (simp; omega) | (simp [hc, h264, h265]; done) | (simp [hc, h264, h265]; omega))|exact Xv) ?_
   exact wkT [(0, 5)] (Xa.glue (J (nbF, (nbT (by first | rfl | simp [*])))))
  clear h
  have h := h256
  refine brE h ?_ ?_
  ·clear h; intro h255 h
   obtain rfl := oj h
   refine Xe tmD [Bt] ?_
   exact wkT [] (Xa.glue J)
  clear h; intro h255 h
  obtain rfl := oj h
  refine Xe tmD [Bf] ?_
  exact wkT [] (Xa.glue J)
theorem Xft (a0 : (List Xi)) (r : (List Xj) × (List Xj) × Int) (h : Xbu a0 = some r) : X19 Tryz.prog 49 [(Lf (a0.map X4))] (AV.tup [(AV.list true (r.1.map X3)), (AV.list true (r.2.1.map X3)), (aI .i64 r.2.2)]) := by
 refine X19.sym Xg fn49 (nt := 47) rfl rfl ?_ (Xf .list X08)
 unfold Xbu at h
 refine X9 h ?_
 clear h; intro v1 h2 h
 refine brE h ?_ ?_
 ·clear h; intro h3 h
  obtain rfl := oj h
  refine rn tmD [.pure [(Lf (a0.map X4))] (aI .i64 v1), Bt] rfl (by repeat' first|apply Ya|exact (pn (X67 _ _ h2) (cc (X8 (X0 Xx a0)) cn))|exact Xv) ?_
  exact X6 rfl (Xl (cc (Zn X3) (cc (Zn X3) (cc .sc cn))))
 clear h; intro h3 h
 refine rn tmD [.pure [(Lf (a0.map X4))] (aI .i64 v1), Bf] rfl (by repeat' first|apply Ya|exact (pn (X67 _ _ h2) (cc (X8 (X0 Xx a0)) cn))|exact Xv) ?_
 refine Xa.inline Xg fn71 rfl rfl rfl rfl rfl trivial trivial rfl rfl ?_
 refine Xe tmD [] ?_
 refine Xa.back (by intro id h; cases h) rfl ?_
 refine X9 h ?_
 clear h; intro u4 h5 h
 have qh5 := X11 h5
 refine X9 h ?_
 clear h; intro o271 h272 h
 refine Xe tmD [.el (aI .i64 (a0.length : Int))] ?_
 refine wkT [(2, 0)] (Xa.cut (Xhy a0 qh5 a0 0 (by simp) _ _ _ (nbT (by first | rfl | simp [*])) (nbT (by first | rfl | simp [*])) _ h272 ?_))
 intro Xq X0m X0i X0z eo271; subst eo271
 refine Xa.glue ?_
 try dsimp only at h
 rcases X0i with ⟨_ | _, X35⟩
 ·
  rcases X0z with ⟨_ | _, X34⟩
  ·
   obtain rfl := oj h
   refine Xe tmD [] ?_
   exact X6 rfl (Xl (cc (X0o (es := Xq.map X3) rfl (by first | rfl | (simp; done) | (simp; rfl) | (simp [h3]; done) | (simp [h3]; rfl) | (simp [h3, Ym, Yd]; done) | (simp [h3, Ym, Yd]; rfl)) (by first | rfl | (simp; done) | (simp; omega) | (simp [h3]; done) | (simp [h3]; omega)) (X0 X0k Xq)) (cc (X0o (es := X0m.map X3) rfl (by first | rfl | (simp; done) | (simp; rfl) | (simp [h3]; done) | (simp [h3]; rfl) | (simp [h3, Ym, Yd]; done) | (simp [h3, Ym, Yd]; rfl)) (by first | rfl | (simp; done) | (simp; omega) | (simp [h3]; done) | (simp [h3]; omega)) (X0 X0k X0m)) (cc .sc cn))))
  obtain rfl := X34 rfl
  obtain rfl := oj h
  refine Xe tmD [] ?_
  exact X6 rfl (Xl (cc (X0o (es := Xq.map X3) rfl (by first | rfl | (simp; done) | (simp; rfl) | (simp [h3]; done) | (simp [h3]; rfl) | (simp [h3, Ym, Yd]; done) | (simp [h3, Ym, Yd]; rfl)) (by first | rfl | (simp; done) | (simp; omega) | (simp [h3]; done) | (simp [h3]; omega)) (X0 X0k Xq)) (cc (Zn X3) (cc .sc cn))))
 obtain rfl := X35 rfl
 rcases X0z with ⟨_ | _, X34⟩
 ·
  obtain rfl := oj h
  refine Xe tmD [] ?_
  exact X6 rfl (Xl (cc (Zn X3) (cc (X0o (es := X0m.map X3) rfl (by first | rfl | (simp; done) | (simp; rfl) | (simp [h3]; done) | (simp [h3]; rfl) | (simp [h3, Ym, Yd]; done) | (simp [h3, Ym, Yd]; rfl)) (by first | rfl | (simp; done) | (simp; omega) | (simp [h3]; done) | (simp [h3]; omega)) (X0 X0k X0m)) (cc .sc cn))))
 obtain rfl := X34 rfl
 obtain rfl := oj h
 refine Xe tmD [] ?_
 exact X6 rfl (Xl (cc (Zn X3) (cc (Zn X3) (cc .sc cn))))
theorem Xbb (a0 : (List X00)) (r : Int) (h : Xcp a0 = some r) : X19 Tryz.prog 96 [(Lf (a0.map X1))] (aI .i64 r) := by
 refine X19.sym Xg fn96 (nt := 13) rfl rfl ?_ (Xf .list X08)
 unfold Xcp at h
 refine X9 h ?_
 clear h; intro v1 h2 h
 obtain rfl := oj h
 refine rn tmD [.pure [(Lf (a0.map X1))] (AV.tup [(aB v1.1), (aI .i64 v1.2.1), (aI .i64 v1.2.2)])] rfl (by repeat' first|apply Ya|exact (pn (Xcj _ _ h2) (cc (X8 (X0 X7 a0)) cn))|exact Xv) ?_
 exact X6 rfl .sc
theorem X3m (a0 : Bool) (r : Int) (h : X42 a0 = some r) : X19 Tryz.prog 131 [(aB a0)] (aI .i64 r) := by
 refine X19.sym Xg X04n (nt := 4) rfl rfl ?_ (Xf .sc X08)
 unfold X42 at h
 refine brE h ?_ ?_
 ·clear h; intro h1 h
  obtain rfl := oj h
  refine Xe tmD [Bt] ?_
  exact X6 rfl .sc
 clear h; intro h1 h
 obtain rfl := oj h
 refine Xe tmD [Bf] ?_
 exact X6 rfl .sc
end Go.Av.Tryz