/- Printed by decomp.py: that the program computes the functions. -/
import Derived.Test.YtoadgjfleafafaaGreatDCert6A
set_option linter.all false

namespace Go.Av.Tryz
open Go.Proofs Go.D
set_option maxRecDepth 10000
set_option maxHeartbeats 40000000
theorem Xcu {Q : X0d -> St -> Mu -> Prop} {μ : Mu} (Xhg : Int) (X2g : (List X9)) (hl : X2g.length <= 140737488355328) : ∀ (xs : List X9) (k : Nat) (hx : X2g.drop k = xs) (X09 : (List X9)) (X05 : (List X9)) (X49 : Nb X09) (X0e : Nb X05) (o : X7e) (h : X5g Xhg X2g xs k X09 X05 = some o)
  (C0 : ∀ (X0u : (List X9)) (X12 : (List X9)) (X27 : Nb X0u) (X26 : Nb X12), o = X7e.x0 X0u X12 -> Xa Tryz.prog 37 0 Q (.exit (.exit 0)) [] ⟨fr [(4, (slE X27.1 0 (X0u.map X2))), (5, (slE X26.1 1 (X12.map X2)))], hp ([] ++ opE X27.1 0 11 (X0u.map X2) ++ opE X26.1 1 11 (X12.map X2)), 2⟩ μ),
  Xa Tryz.prog 37 0 Q (.loop (X7i 0 (X01 Tryz.f23))) [] ⟨fr [(1, (aI .i64 Xhg)), (4, (slE X49.1 0 (X09.map X2))), (5, (slE X0e.1 1 (X05.map X2))), (15, (Lf (X2g.map X2))), (16, (aI .i64 (X2g.length : Int))), (17, (aI .i64 (k : Int)))], hp ([] ++ opE X49.1 0 11 (X09.map X2) ++ opE X0e.1 1 11 (X05.map X2)), 2⟩ μ := by
 intro xs
 induction xs with
 | nil =>
  intro k hx X09 X05 X49 X0e o h C0
  have hk := X2m hx
  have hc : decide ((k : Int) < (X2g.length : Int)) = false := Yf (by omega)
  rw [X5g] at h
  rcases X49 with ⟨_ | _, X8y⟩
  ·
   rcases X0e with ⟨_ | _, X17⟩
   ·
    refine Xa.round ?_
    obtain rfl := oj h
    refine Xm tmD [Bf] ?_
    exact wkT [] (C0 _ _  nbF nbF rfl)
   obtain rfl := X17 rfl
   refine Xa.round ?_
   obtain rfl := oj h
   refine Xm tmD [Bf] ?_
   exact wkT [] (C0 _ _  nbF (nbT (by first | rfl | simp [*])) rfl)
  ·
   obtain rfl := X8y rfl
   rcases X0e with ⟨_ | _, X17⟩
   ·
    refine Xa.round ?_
    obtain rfl := oj h
    refine Xm tmD [Bf] ?_
    exact wkT [] (C0 _ _  (nbT (by first | rfl | simp [*])) nbF rfl)
   ·
    obtain rfl := X17 rfl
    refine Xa.round ?_
    obtain rfl := oj h
    refine Xm tmD [Bf] ?_
    exact wkT [] (C0 _ _  (nbT (by first | rfl | simp [*])) (nbT (by first | rfl | simp [*])) rfl)
 | cons x xs ih =>
  intro k hx X09 X05 X49 X0e o h C0
  obtain ⟨hk, hg, hx1⟩ := X20 hx
  have hc : decide ((k : Int) < (X2g.length : Int)) = true := Yt (by omega)
  rw [X5g] at h
  rcases X49 with ⟨_ | _, X8y⟩
  ·
   rcases X0e with ⟨_ | _, X17⟩
   ·
    refine Xa.round ?_
    refine X3 h ?_
    clear h; intro w108 h114 h
    obtain ⟨Xi7, Xi6⟩ := w108
    try dsimp only at h
    refine Xm tmD [Bt, .el (X2 x)] ?_
    refine Xa.joinF (fun (q : Nb Xi7 × Nb Xi6) => ⟨fr [(1, (aI .i64 Xhg)), (4, (slE q.1.1 0 (Xi7.map X2))), (5, (slE q.2.1 1 (Xi6.map X2))), (15, (Lf (X2g.map X2))), (16, (aI .i64 (X2g.length : Int))), (17, (aI .i64 (k : Int)))], hp ([] ++ opE q.1.1 0 11 (Xi7.map X2) ++ opE q.2.1 1 11 (Xi6.map X2)), 2⟩) ?_ (fun J => Xa.cut ?_)
    ·
     rintro ⟨Xjf, Xfa⟩
     rcases Xjf with ⟨_ | _, Xjs⟩
     ·
      rcases Xfa with ⟨_ | _, Xc1⟩
      ·
       refine Xm tmD [] ?_
       exact wkT [] (ih (k + 1) hx1 _ _ nbF nbF o h C0)
      obtain rfl := Xc1 rfl
      refine Xm tmD [] ?_
      exact wkT [] (ih (k + 1) hx1 _ _ nbF (nbT (by first | rfl | simp [*])) o h C0)
     obtain rfl := Xjs rfl
     rcases Xfa with ⟨_ | _, Xc1⟩
     ·
      refine Xm tmD [] ?_
      exact wkT [] (ih (k + 1) hx1 _ _ (nbT (by first | rfl | simp [*])) nbF o h C0)
     obtain rfl := Xc1 rfl
     refine Xm tmD [] ?_
     exact wkT [] (ih (k + 1) hx1 _ _ (nbT (by first | rfl | simp [*])) (nbT (by first | rfl | simp [*])) o h C0)
    clear h
    have h := h114
    refine brE h ?_ ?_
    ·clear h; intro h109 h
     refine X3 h ?_
     clear h; intro u110 h111 h
     simp only [Option.some.injEq, Prod.mk.injEq] at h
     obtain ⟨rfl, rfl⟩ := h
     refine rn tmD [Bt, .no] rfl (by repeat' first | refine Ya ?_ ?_ | (refine X2p h111 rfl ?_; first | (simp; done) | (simp; omega) | (simp [hc, h109]; done) | (simp [hc, h109]; omega)) | (refine X1e h111 (by decide) ?_; first | (simp; done) | (simp; omega) | (simp [hc, h109]; done) | (simp [hc, h109]; omega))|exact X00) ?_
     exact wkT [(0, 4)] (Xa.glue (J (nbF, nbF)))
    clear h; intro h109 h
    refine X3 h ?_
    clear h; intro u112 h113 h
    simp only [Option.some.injEq, Prod.mk.injEq] at h
    obtain ⟨rfl, rfl⟩ := h
    refine rn tmD [Bf, .no] rfl (by repeat' first | refine Ya ?_ ?_ | (refine X2p h113 rfl ?_; first | (simp; done) | (simp; omega) | (simp [hc, h109]; done) | (simp [hc, h109]; omega)) | (refine X1e h113 (by decide) ?_; first | (simp; done) | (simp; omega) | (simp [hc, h109]; done) | (simp [hc, h109]; omega))|exact X00) ?_
    exact wkT [(1, 4)] (Xa.glue (J (nbF, nbF)))
   obtain rfl := X17 rfl
   refine Xa.round ?_
   refine X3 h ?_
   clear h; intro w120 h126 h
   obtain ⟨Xi5, Xi4⟩ := w120
   try dsimp only at h
   refine Xm tmD [Bt, .el (X2 x)] ?_
   refine Xa.joinF (fun (q : Nb Xi5 × Nb Xi4) => ⟨fr [(1, (aI .i64 Xhg)), (4, (slE q.1.1 0 (Xi5.map X2))), (5, (slE q.2.1 1 (Xi4.map X2))), (15, (Lf (X2g.map X2))), (16, (aI .i64 (X2g.length : Int))), (17, (aI .i64 (k : Int)))], hp ([] ++ opE q.1.1 0 11 (Xi5.map X2) ++ opE q.2.1 1 11 (Xi4.map X2)), 2⟩) ?_ (fun J => Xa.cut ?_)
   ·
    rintro ⟨Xje, Xf9⟩
    rcases Xje with ⟨_ | _, Xjr⟩
    ·
     rcases Xf9 with ⟨_ | _, Xc0⟩
     ·
      refine Xm tmD [] ?_
      exact wkT [] (ih (k + 1) hx1 _ _ nbF nbF o h C0)
     obtain rfl := Xc0 rfl
     refine Xm tmD [] ?_
     exact wkT [] (ih (k + 1) hx1 _ _ nbF (nbT (by first | rfl | simp [*])) o h C0)
    obtain rfl := Xjr rfl
    rcases Xf9 with ⟨_ | _, Xc0⟩
    ·
     refine Xm tmD [] ?_
     exact wkT [] (ih (k + 1) hx1 _ _ (nbT (by first | rfl | simp [*])) nbF o h C0)
    obtain rfl := Xc0 rfl
    refine Xm tmD [] ?_
    exact wkT [] (ih (k + 1) hx1 _ _ (nbT (by first | rfl | simp [*])) (nbT (by first | rfl | simp [*])) o h C0)
   clear h
   have h := h126
   refine brE h ?_ ?_
   ·clear h; intro h121 h
    refine X3 h ?_
    clear h; intro u122 h123 h
    simp only [Option.some.injEq, Prod.mk.injEq] at h
    obtain ⟨rfl, rfl⟩ := h
    refine rn tmD [Bt, .no] rfl (by repeat' first | refine Ya ?_ ?_ | (refine X2p h123 rfl ?_; first | (simp; done) | (simp; omega) | (simp [hc, h121]; done) | (simp [hc, h121]; omega)) | (refine X1e h123 (by decide) ?_; first | (simp; done) | (simp; omega) | (simp [hc, h121]; done) | (simp [hc, h121]; omega))|exact X00) ?_
    exact wkT [(0, 4)] (Xa.glue (J (nbF, (nbT (by first | rfl | simp [*])))))
   clear h; intro h121 h
   refine X3 h ?_
   clear h; intro u124 h125 h
   simp only [Option.some.injEq, Prod.mk.injEq] at h
   obtain ⟨rfl, rfl⟩ := h
   refine rn tmD [Bf, .no] rfl (by repeat' first | refine Ya ?_ ?_ | (refine X2p h125 rfl ?_; first | (simp; done) | (simp; omega) | (simp [hc, h121]; done) | (simp [hc, h121]; omega)) | (refine X1e h125 (by decide) ?_; first | (simp; done) | (simp; omega) | (simp [hc, h121]; done) | (simp [hc, h121]; omega))|exact X00) ?_
   exact wkT [(1, 4)] (Xa.glue (J (nbF, nbF)))
  obtain rfl := X8y rfl
  rcases X0e with ⟨_ | _, X17⟩
  ·
   refine Xa.round ?_
   refine X3 h ?_
   clear h; intro w132 h138 h
   obtain ⟨Xi2, Xi1⟩ := w132
   try dsimp only at h
   refine Xm tmD [Bt, .el (X2 x)] ?_
   refine Xa.joinF (fun (q : Nb Xi2 × Nb Xi1) => ⟨fr [(1, (aI .i64 Xhg)), (4, (slE q.1.1 0 (Xi2.map X2))), (5, (slE q.2.1 1 (Xi1.map X2))), (15, (Lf (X2g.map X2))), (16, (aI .i64 (X2g.length : Int))), (17, (aI .i64 (k : Int)))], hp ([] ++ opE q.1.1 0 11 (Xi2.map X2) ++ opE q.2.1 1 11 (Xi1.map X2)), 2⟩) ?_ (fun J => Xa.cut ?_)
   ·
    rintro ⟨Xjd, Xf8⟩
    rcases Xjd with ⟨_ | _, Xjq⟩
    ·
     rcases Xf8 with ⟨_ | _, Xbz⟩
     ·
      refine Xm tmD [] ?_
      exact wkT [] (ih (k + 1) hx1 _ _ nbF nbF o h C0)
     obtain rfl := Xbz rfl
     refine Xm tmD [] ?_
     exact wkT [] (ih (k + 1) hx1 _ _ nbF (nbT (by first | rfl | simp [*])) o h C0)
    obtain rfl := Xjq rfl
    rcases Xf8 with ⟨_ | _, Xbz⟩
    ·
     refine Xm tmD [] ?_
     exact wkT [] (ih (k + 1) hx1 _ _ (nbT (by first | rfl | simp [*])) nbF o h C0)
    obtain rfl := Xbz rfl
    refine Xm tmD [] ?_
    exact wkT [] (ih (k + 1) hx1 _ _ (nbT (by first | rfl | simp [*])) (nbT (by first | rfl | simp [*])) o h C0)
   clear h
   have h := h138
   refine brE h ?_ ?_
   ·clear h; intro h133 h
    refine X3 h ?_
    clear h; intro u134 h135 h
    simp only [Option.some.injEq, Prod.mk.injEq] at h
    obtain ⟨rfl, rfl⟩ := h
    refine rn tmD [Bt, .no] rfl (by repeat' first | refine Ya ?_ ?_ | (refine X2p h135 rfl ?_; first | (simp; done) | (simp; omega) | (simp [hc, h133]; done) | (simp [hc, h133]; omega)) | (refine X1e h135 (by decide) ?_; first | (simp; done) | (simp; omega) | (simp [hc, h133]; done) | (simp [hc, h133]; omega))|exact X00) ?_
    exact wkT [(0, 4)] (Xa.glue (J (nbF, nbF)))
   clear h; intro h133 h
   refine X3 h ?_
   clear h; intro u136 h137 h
   simp only [Option.some.injEq, Prod.mk.injEq] at h
   obtain ⟨rfl, rfl⟩ := h
   refine rn tmD [Bf, .no] rfl (by repeat' first | refine Ya ?_ ?_ | (refine X2p h137 rfl ?_; first | (simp; done) | (simp; omega) | (simp [hc, h133]; done) | (simp [hc, h133]; omega)) | (refine X1e h137 (by decide) ?_; first | (simp; done) | (simp; omega) | (simp [hc, h133]; done) | (simp [hc, h133]; omega))|exact X00) ?_
   exact wkT [(1, 4)] (Xa.glue (J ((nbT (by first | rfl | simp [*])), nbF)))
  obtain rfl := X17 rfl
  refine Xa.round ?_
  refine X3 h ?_
  clear h; intro w144 h150 h
  obtain ⟨Xi0, Xhz⟩ := w144
  try dsimp only at h
  refine Xm tmD [Bt, .el (X2 x)] ?_
  refine Xa.joinF (fun (q : Nb Xi0 × Nb Xhz) => ⟨fr [(1, (aI .i64 Xhg)), (4, (slE q.1.1 0 (Xi0.map X2))), (5, (slE q.2.1 1 (Xhz.map X2))), (15, (Lf (X2g.map X2))), (16, (aI .i64 (X2g.length : Int))), (17, (aI .i64 (k : Int)))], hp ([] ++ opE q.1.1 0 11 (Xi0.map X2) ++ opE q.2.1 1 11 (Xhz.map X2)), 2⟩) ?_ (fun J => Xa.cut ?_)
  ·
   rintro ⟨Xjc, Xf7⟩
   rcases Xjc with ⟨_ | _, Xjp⟩
   ·
    rcases Xf7 with ⟨_ | _, Xby⟩
    ·
     refine Xm tmD [] ?_
     exact wkT [] (ih (k + 1) hx1 _ _ nbF nbF o h C0)
    obtain rfl := Xby rfl
    refine Xm tmD [] ?_
    exact wkT [] (ih (k + 1) hx1 _ _ nbF (nbT (by first | rfl | simp [*])) o h C0)
   obtain rfl := Xjp rfl
   rcases Xf7 with ⟨_ | _, Xby⟩
   ·
    refine Xm tmD [] ?_
    exact wkT [] (ih (k + 1) hx1 _ _ (nbT (by first | rfl | simp [*])) nbF o h C0)
   obtain rfl := Xby rfl
   refine Xm tmD [] ?_
   exact wkT [] (ih (k + 1) hx1 _ _ (nbT (by first | rfl | simp [*])) (nbT (by first | rfl | simp [*])) o h C0)
  clear h
  have h := h150
  refine brE h ?_ ?_
  ·clear h; intro h145 h
   refine X3 h ?_
   clear h; intro u146 h147 h
   simp only [Option.some.injEq, Prod.mk.injEq] at h
   obtain ⟨rfl, rfl⟩ := h
   refine rn tmD [Bt, .no] rfl (by repeat' first | refine Ya ?_ ?_ | (refine X2p h147 rfl ?_; first | (simp; done) | (simp; omega) | (simp [hc, h145]; done) | (simp [hc, h145]; omega)) | (refine X1e h147 (by decide) ?_; first | (simp; done) | (simp; omega) | (simp [hc, h145]; done) | (simp [hc, h145]; omega))|exact X00) ?_
   exact wkT [(0, 4)] (Xa.glue (J (nbF, (nbT (by first | rfl | simp [*])))))
  clear h; intro h145 h
  refine X3 h ?_
  clear h; intro u148 h149 h
  simp only [Option.some.injEq, Prod.mk.injEq] at h
  obtain ⟨rfl, rfl⟩ := h
  refine rn tmD [Bf, .no] rfl (by repeat' first | refine Ya ?_ ?_ | (refine X2p h149 rfl ?_; first | (simp; done) | (simp; omega) | (simp [hc, h145]; done) | (simp [hc, h145]; omega)) | (refine X1e h149 (by decide) ?_; first | (simp; done) | (simp; omega) | (simp [hc, h145]; done) | (simp [hc, h145]; omega))|exact X00) ?_
  exact wkT [(1, 4)] (Xa.glue (J ((nbT (by first | rfl | simp [*])), nbF)))
theorem Xfn (a0 : (List X9)) (a1 : Int) (r : (List X9) × (List X9) × Int) (h : Xbm a0 a1 = some r) : X16 Tryz.prog 23 [(Lf (a0.map X2)), (aI .i64 a1)] (AV.tup [(AV.list true (r.1.map X2)), (AV.list true (r.2.1.map X2)), (aI .i64 r.2.2)]) := by
 refine X16.sym Xe Xsu (nt := 37) rfl rfl ?_ (X6 .list (X6 .sc X08))
 unfold Xbm at h
 refine X3 h ?_
 clear h; intro v1 h2 h
 refine brE h ?_ ?_
 ·clear h; intro h3 h
  obtain rfl := oj h
  refine rn tmD [.pure [(Lf (a0.map X2))] (aI .i64 v1), Bt] rfl (by repeat' first|apply Ya|exact (pn (X1k _ _ h2) (cc (X4 (X0 Xl a0)) cn))|exact X00) ?_
  exact X8 rfl (X04 (cc (Zn X2) (cc (Zn X2) (cc .sc cn))))
 clear h; intro h3 h
 refine X3 h ?_
 clear h; intro u4 h5 h
 have qh5 := X1w h5
 refine X3 h ?_
 clear h; intro o151 h152 h
 refine rn tmD [.pure [(Lf (a0.map X2))] (aI .i64 v1), Bf, .el (aI .i64 (a0.length : Int))] rfl (by repeat' first|apply Ya|exact (pn (X1k _ _ h2) (cc (X4 (X0 Xl a0)) cn))|exact X00) ?_
 refine wkT [] (Xa.cut (Xcu a1 a0 qh5 a0 0 (by simp) _ _ (nbT (by first | rfl | simp [*])) (nbT (by first | rfl | simp [*])) _ h152 ?_))
 intro X0u X12 X27 X26 eo151; subst eo151
 refine Xa.glue ?_
 try dsimp only at h
 rcases X27 with ⟨_ | _, X67⟩
 ·
  rcases X26 with ⟨_ | _, X4a⟩
  ·
   obtain rfl := oj h
   refine Xm tmD [] ?_
   exact X8 rfl (X04 (cc (X1b (es := X0u.map X2) rfl (by first | rfl | (simp; done) | (simp; rfl) | (simp [h3]; done) | (simp [h3]; rfl) | (simp [h3, Ym, Yd]; done) | (simp [h3, Ym, Yd]; rfl)) (by first | rfl | (simp; done) | (simp; omega) | (simp [h3]; done) | (simp [h3]; omega)) (X0 Xl X0u)) (cc (X1b (es := X12.map X2) rfl (by first | rfl | (simp; done) | (simp; rfl) | (simp [h3]; done) | (simp [h3]; rfl) | (simp [h3, Ym, Yd]; done) | (simp [h3, Ym, Yd]; rfl)) (by first | rfl | (simp; done) | (simp; omega) | (simp [h3]; done) | (simp [h3]; omega)) (X0 Xl X12)) (cc .sc cn))))
  obtain rfl := X4a rfl
  obtain rfl := oj h
  refine Xm tmD [] ?_
  exact X8 rfl (X04 (cc (X1b (es := X0u.map X2) rfl (by first | rfl | (simp; done) | (simp; rfl) | (simp [h3]; done) | (simp [h3]; rfl) | (simp [h3, Ym, Yd]; done) | (simp [h3, Ym, Yd]; rfl)) (by first | rfl | (simp; done) | (simp; omega) | (simp [h3]; done) | (simp [h3]; omega)) (X0 Xl X0u)) (cc (Zn X2) (cc .sc cn))))
 obtain rfl := X67 rfl
 rcases X26 with ⟨_ | _, X4a⟩
 ·
  obtain rfl := oj h
  refine Xm tmD [] ?_
  exact X8 rfl (X04 (cc (Zn X2) (cc (X1b (es := X12.map X2) rfl (by first | rfl | (simp; done) | (simp; rfl) | (simp [h3]; done) | (simp [h3]; rfl) | (simp [h3, Ym, Yd]; done) | (simp [h3, Ym, Yd]; rfl)) (by first | rfl | (simp; done) | (simp; omega) | (simp [h3]; done) | (simp [h3]; omega)) (X0 Xl X12)) (cc .sc cn))))
 obtain rfl := X4a rfl
 obtain rfl := oj h
 refine Xm tmD [] ?_
 exact X8 rfl (X04 (cc (Zn X2) (cc (Zn X2) (cc .sc cn))))
theorem X7n (a0 : Int) (a1 : X1f) (r : Int × Int) (h : X7y a0 a1 = some r) : X16 Tryz.prog 27 [(aI .u8 a0), (X0g a1)] (AV.tup [(aI .i64 r.1), (aI .i64 r.2)]) := by
 refine X16.sym Xe Xsr (nt := 34) rfl rfl ?_ (X6 .sc (X6 (X40 _ _).1 X08))
 unfold X7y at h
 refine brE h ?_ ?_
 ·clear h; intro h1 h
  obtain rfl := oj h
  refine Xm tmD [Bt] ?_
  exact X8 rfl (X04 (cc .sc (cc .sc cn)))
 clear h; intro h1 h
 refine X3 h ?_
 clear h; intro v2 h3 h
 refine brE h ?_ ?_
 ·clear h; intro h4 h
  obtain rfl := oj h
  refine rn tmD [Bf, .pure [(X0g a1)] (aI .i64 v2), Bt] rfl (by repeat' first|apply Ya|exact (pn (X0x _ _ h3) (cc (X0q (x := a1)) cn))|exact X00) ?_
  exact X8 rfl (X04 (cc .sc (cc .sc cn)))
 clear h; intro h4 h
 refine brE h ?_ ?_
 ·clear h; intro h5 h
  obtain rfl := oj h
  refine rn tmD [Bf, .pure [(X0g a1)] (aI .i64 v2), Bf, Bt] rfl (by repeat' first|apply Ya|exact (pn (X0x _ _ h3) (cc (X0q (x := a1)) cn))|exact X00) ?_
  exact X8 rfl (X04 (cc .sc (cc .sc cn)))
 clear h; intro h5 h
 refine X3 h ?_
 clear h; intro Xoe h17 h
 refine rn tmD [Bf, .pure [(X0g a1)] (aI .i64 v2), Bf, Bf, .stop 9] rfl (by repeat' first|apply Ya|exact (pn (X0x _ _ h3) (cc (X0q (x := a1)) cn))|exact X00) ?_
 refine Xa.join (s' := ⟨fr [(4, (aI .i64 Xoe)), (5, (aI .i64 0))], hp ([]), 0⟩) ?_ (fun J => Xa.cut ?_)
 ·
  obtain rfl := oj h
  refine Xm tmD [] ?_
  exact X8 rfl (X04 (cc .sc (cc .sc cn)))
 clear h
 have h := h17
 refine brE h ?_ ?_
 ·clear h; intro h12 h
  obtain rfl := oj h
  refine rn tmD [.ix 0] rfl (by repeat' first|apply Ya|exact (pn (X0x _ _ h3) (cc (X0q (x := a1)) cn))|exact ((eq_of_beq h12))|exact X00) ?_
  exact wkT [] (Xa.glue J)
 clear h; intro h12 h
 refine brE h ?_ ?_
 ·clear h; intro h13 h
  obtain rfl : a0 = 1 := eq_of_beq h13
  obtain rfl := oj h
  refine rn tmD [.ix 1] rfl (by repeat' first|apply Ya|exact (pn (X0x _ _ h3) (cc (X0q (x := a1)) cn))|exact X00) ?_
  exact wkT [] (Xa.glue J)
 clear h; intro h13 h
 refine brE h ?_ ?_
 ·clear h; intro h14 h
  obtain rfl : a0 = 2 := eq_of_beq h14
  obtain rfl := oj h
  refine rn tmD [.ix 2] rfl (by repeat' first|apply Ya|exact (pn (X0x _ _ h3) (cc (X0q (x := a1)) cn))|exact X00) ?_
  exact wkT [] (Xa.glue J)
 clear h; intro h14 h
 refine brE h ?_ ?_
 ·clear h; intro h15 h
  obtain rfl := oj h
  refine rn tmD [.ix 3] rfl (by repeat' first|apply Ya|exact (pn (X0x _ _ h3) (cc (X0q (x := a1)) cn))|exact ((eq_of_beq h15))|exact X00) ?_
  exact wkT [] (Xa.glue J)
 clear h; intro h15 h
 refine brE h ?_ ?_
 ·clear h; intro h16 h
  obtain rfl : a0 = 4 := eq_of_beq h16
  obtain rfl := oj h
  refine rn tmD [.ix 4] rfl (by repeat' first|apply Ya|exact (pn (X0x _ _ h3) (cc (X0q (x := a1)) cn))|exact X00) ?_
  exact wkT [] (Xa.glue J)
 clear h; intro h16 h
 cases h
theorem Xc6 {Q : X0d -> St -> Mu -> Prop}  {rb rD : Nat} {rr : Loop} (rh1 : rr.state = .ready) (rh2 : rr.pending = none) (rh3 : rr.params = (rfB 0 (X01 Tryz.f6)).1) (rh4 : rr.assign = (rfB 0 (X01 Tryz.f6)).2.1) (rh5 : rr.body = (rfB 0 (X01 Tryz.f6)).2.2) (X05 : Xn) (X57 : Xn) (Xgi : X2n) (Xdh : (List X9)) (hl : Xdh.length <= 140737488355328) : ∀ (xs : List X9) (k : Nat) (hx : Xdh.drop k = xs) (Xdg : (List Xz)) (Xa3 : Nb Xdg) (o : X6r) (h : X4r X05 X57 Xgi Xdh xs k Xdg = some o)
  (C0 : ∀ (X75 : (List Xz)) (Xa1 : Nb X75), o = X6r.x0 X75 -> Xa Tryz.prog 34 8 Q (.exit (.exit 0)) [] ⟨fr [], hp ([(1, Ob [(Xg false X05)] 9), (3, Ob [(Xg true X57)] 9), (4, Ob [(slE Xa1.1 8 (X75.map Xp))] 1), (5, Ob [(AV.fn 24 [(AV.ptr 4 0 0)])] 1), (6, Ob [(X02 false Xgi)] 10), (7, Ob [(AV.list true (Xdh.map X2))] 1)] ++ opE Xa1.1 8 11 (X75.map Xp)), 9⟩ [(rb, MuE.loop rr 141 8 (fr [(5, (AV.ptr 1 0 0)), (8, (AV.ptr 3 0 0)), (21, (AV.ptr 4 0 0)), (22, (AV.ptr 5 0 0)), (131, (AV.fn 49 [(AV.ptr 7 0 0), (AV.ptr 6 0 0)]))])), (rD, MuE.blk (Go.Obj.deferred (some [])))]),
  Xa Tryz.prog 34 8 Q (.loop (X7i 0 (X01 Tryz.f49))) [] ⟨fr [(0, (AV.sc (.func (.yield rb) #[] #[]))), (2, (AV.ptr 6 0 0)), (8, (AV.list true (Xdh.map X2))), (9, (aI .i64 (Xdh.length : Int))), (10, (aI .i64 (k : Int)))], hp ([(1, Ob [(Xg false X05)] 9), (3, Ob [(Xg true X57)] 9), (4, Ob [(slE Xa3.1 8 (Xdg.map Xp))] 1), (5, Ob [(AV.fn 24 [(AV.ptr 4 0 0)])] 1), (6, Ob [(X02 false Xgi)] 10), (7, Ob [(AV.list true (Xdh.map X2))] 1)] ++ opE Xa3.1 8 11 (Xdg.map Xp)), 9⟩ [(rb, MuE.loop rr 141 8 (fr [(5, (AV.ptr 1 0 0)), (8, (AV.ptr 3 0 0)), (21, (AV.ptr 4 0 0)), (22, (AV.ptr 5 0 0)), (131, (AV.fn 49 [(AV.ptr 7 0 0), (AV.ptr 6 0 0)]))])), (rD, MuE.blk (Go.Obj.deferred (some [])))] := by
 intro xs
 induction xs with
 | nil =>
  intro k hx Xdg Xa3 o h C0
  have hk := X2m hx
  have hc : decide ((k : Int) < (Xdh.length : Int)) = false := Yf (by omega)
  rw [X4r] at h
  rcases Xa3 with ⟨_ | _, Xg2⟩
  ·
   refine Xa.round ?_
   obtain rfl := oj h
   refine Xm tmD [Bf] ?_
   exact wkT [] (C0 _  nbF rfl)
  ·
   obtain rfl := Xg2 rfl
   refine Xa.round ?_
   obtain rfl := oj h
   refine Xm tmD [Bf] ?_
   exact wkT [] (C0 _  (nbT (by first | rfl | simp [*])) rfl)
 | cons x xs ih =>
  intro k hx Xdg Xa3 o h C0
  obtain ⟨hk, hg, hx1⟩ := X20 hx
  have hc : decide ((k : Int) < (Xdh.length : Int)) = true := Yt (by omega)
  rw [X4r] at h
  rcases Xa3 with ⟨_ | _, Xg2⟩
  ·
   refine Xa.round ?_
   refine X3 h ?_
   clear h; intro v76 h77 h
   refine rn tmD [Bt, .el (X2 x), .ix 0, .pure [(aI .u8 Xgi.Agg), (X0g x.Values.e0)] (AV.tup [(aI .i64 v76.1), (aI .i64 v76.2)])] rfl (by repeat' first|apply Ya|exact (pn (X7n _ _ _ h77) (cc .sc (cc (X0q (x := x.Values.e0)) cn)))|exact X00) ?_
   refine Xa.yield rfl rfl rfl rfl rfl trivial trivial (.head _) rh1 rh2 rh3 rh4 rh5 rfl rfl ?_
   refine Xm tmD [] ?_
   refine Xa.asg ?_
   refine Xm tmD [] ?_
   refine Xa.inline Xe Xr3 rfl rfl rfl rfl rfl trivial trivial rfl rfl ?_
   refine X3 h ?_
   clear h; intro u84 h85 h
   refine rn tmD [.no] rfl (by repeat' first | refine Ya ?_ ?_ | (refine X2p h85 rfl ?_; first | (simp; done) | (simp; omega) | (simp [hc]; done) | (simp [hc]; omega)) | (refine X1e h85 (by decide) ?_; first | (simp; done) | (simp; omega) | (simp [hc]; done) | (simp [hc]; omega))|exact X00) ?_
   refine Xa.back (by intro id h; cases h) rfl ?_
   refine rn tmD [] rfl (by repeat' first | refine Ya ?_ ?_ | (refine X2p h85 rfl ?_; first | (simp; done) | (simp; omega) | (simp [hc]; done) | (simp [hc]; omega)) | (refine X1e h85 (by decide) ?_; first | (simp; done) | (simp; omega) | (simp [hc]; done) | (simp [hc]; omega))|exact X00) ?_
   refine Xa.rndEnd ?_
   refine rn tmD [Bf] rfl (by repeat' first | refine Ya ?_ ?_ | (refine X2p h85 rfl ?_; first | (simp; done) | (simp; omega) | (simp [hc]; done) | (simp [hc]; omega)) | (refine X1e h85 (by decide) ?_; first | (simp; done) | (simp; omega) | (simp [hc]; done) | (simp [hc]; omega))|exact X00) ?_
   exact wkT [(8, 13)] (ih (k + 1) hx1 _ nbF o h C0)
  obtain rfl := Xg2 rfl
  refine Xa.round ?_
  refine X3 h ?_
  clear h; intro v86 h87 h
  refine rn tmD [Bt, .el (X2 x), .ix 0, .pure [(aI .u8 Xgi.Agg), (X0g x.Values.e0)] (AV.tup [(aI .i64 v86.1), (aI .i64 v86.2)])] rfl (by repeat' first|apply Ya|exact (pn (X7n _ _ _ h87) (cc .sc (cc (X0q (x := x.Values.e0)) cn)))|exact X00) ?_
  refine Xa.yield rfl rfl rfl rfl rfl trivial trivial (.head _) rh1 rh2 rh3 rh4 rh5 rfl rfl ?_
  refine Xm tmD [] ?_
  refine Xa.asg ?_
  refine Xm tmD [] ?_
  refine Xa.inline Xe Xr3 rfl rfl rfl rfl rfl trivial trivial rfl rfl ?_
  refine X3 h ?_
  clear h; intro u94 h95 h
  refine rn tmD [.no] rfl (by repeat' first | refine Ya ?_ ?_ | (refine X2p h95 rfl ?_; first | (simp; done) | (simp; omega) | (simp [hc]; done) | (simp [hc]; omega)) | (refine X1e h95 (by decide) ?_; first | (simp; done) | (simp; omega) | (simp [hc]; done) | (simp [hc]; omega))|exact X00) ?_
  refine Xa.back (by intro id h; cases h) rfl ?_
  refine rn tmD [] rfl (by repeat' first | refine Ya ?_ ?_ | (refine X2p h95 rfl ?_; first | (simp; done) | (simp; omega) | (simp [hc]; done) | (simp [hc]; omega)) | (refine X1e h95 (by decide) ?_; first | (simp; done) | (simp; omega) | (simp [hc]; done) | (simp [hc]; omega))|exact X00) ?_
  refine Xa.rndEnd ?_
  refine rn tmD [Bf] rfl (by repeat' first | refine Ya ?_ ?_ | (refine X2p h95 rfl ?_; first | (simp; done) | (simp; omega) | (simp [hc]; done) | (simp [hc]; omega)) | (refine X1e h95 (by decide) ?_; first | (simp; done) | (simp; omega) | (simp [hc]; done) | (simp [hc]; omega))|exact X00) ?_
  exact wkT [(8, 13)] (ih (k + 1) hx1 _ nbF o h C0)
end Go.Av.Tryz