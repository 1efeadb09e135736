/- Printed by decomp.py: that the program computes the functions. -/
import Derived.Test.YtfdfgobnpnoomaaGreatDCert7Z
set_option linter.all false

namespace Go.Av.Tryz
open Go.Proofs Go.D
set_option maxRecDepth 10000
set_option maxHeartbeats 40000000
theorem X2h (a0 : Xp) (a1 : Xj) (r : Xj × Bool) (h : X6j a0 a1 = some r) : X19 Tryz.prog 50 [(Xh false a0), (X3 a1)] (AV.tup [(X3 r.1), (aB r.2)]) := by
 refine X19.sym Xg fn50 (nt := 47) rfl rfl ?_ (Xf (X1a false _ _).1 (Xf (X4y _ _).1 X08))
 unfold X6j at h
 refine brE h ?_ ?_
 ·clear h; intro h1 h
  refine X9 h ?_
  clear h; intro v2 h3 h
  refine rn tmD [.el (aI .i64 (a0.Where.length : Int)), Bt, .pure [(Lf (a0.Where.map X1)), (X3 a1)] (AV.tup [(aI .i64 v2.1), (aI .i64 v2.2)])] rfl (by repeat' first|apply Ya|exact (pn (X4n _ _ _ h3) (cc (X8 (X0 X7 a0.Where)) (cc (X1b (x := a1)) cn)))|exact Xv) ?_
  refine brE h ?_ ?_
  ·clear h; intro h4 h
   obtain rfl := oj h
   refine Xe tmD [Bt] ?_
   exact X6 rfl (Xl (cc (X1b (x := (Xj.mk 0 0 0))) (cc .sc cn)))
  clear h; intro h4 h
  refine X9 h ?_
  clear h; intro Xmj h8 h
  refine Xe tmD [Bf] ?_
  refine Xa.join (s' := ⟨fr [(2, (AV.ptr 0 0 0)), (3, (AV.ptr 1 0 0)), (4, (AV.ptr 2 0 0)), (8, (AV.ptr 3 0 0))], hp ([(0, Ob [(Xh false a0)] 10), (1, Ob [(X3 a1)] 3), (2, Ob [(X3 (Xj.mk 0 0 0))] 3), (3, Ob [(X3 Xmj)] 3)]), 4⟩) ?_ (fun J => Xa.cut ?_)
  ·
   refine X9 h ?_
   clear h; intro Xlm h16 h
   refine Xe tmD [] ?_
   refine Xa.join (s' := ⟨fr [(4, (AV.ptr 0 0 0)), (8, (AV.ptr 1 0 0))], hp ([(0, Ob [(X3 (Xj.mk 0 0 0))] 3), (1, Ob [(X3 Xlm)] 3)]), 2⟩) ?_ (fun J => Xa.cut ?_)
   ·
    obtain rfl := oj h
    refine Xe tmD [] ?_
    exact X6 rfl (Xl (cc (X1b (x := Xlm)) (cc .sc cn)))
   clear h
   have h := h16
   refine brE h ?_ ?_
   ·clear h; intro h13 h
    refine X9 h ?_
    clear h; intro v14 h15 h
    obtain rfl := oj h
    refine rn tmD [Bt, .pure [(Lf (a0.Arg.map X1)), (X3 a1)] (AV.tup [(aI .i64 v14.1), (aI .i64 v14.2)])] rfl (by repeat' first|apply Ya|exact (pn (X4n _ _ _ h15) (cc (X8 (X0 X7 a0.Arg)) (cc (X1b (x := a1)) cn)))|exact Xv) ?_
    exact wkT [(0, 2), (1, 3)] (Xa.glue J)
   clear h; intro h13 h
   obtain rfl := oj h
   refine Xe tmD [Bf] ?_
   exact wkT [(0, 2), (1, 3)] (Xa.glue J)
  clear h
  have h := h8
  refine brE h ?_ ?_
  ·clear h; intro h7 h
   obtain rfl := oj h
   refine Xe tmD [Bt] ?_
   exact wkT [] (Xa.glue J)
  clear h; intro h7 h
  obtain rfl := oj h
  refine Xe tmD [Bf] ?_
  exact wkT [] (Xa.glue J)
 clear h; intro h1 h
 refine X9 h ?_
 clear h; intro Xoi h20 h
 refine Xe tmD [.el (aI .i64 (a0.Where.length : Int)), Bf] ?_
 refine Xa.join (s' := ⟨fr [(2, (AV.ptr 0 0 0)), (3, (AV.ptr 1 0 0)), (4, (AV.ptr 2 0 0)), (8, (AV.ptr 3 0 0))], hp ([(0, Ob [(Xh false a0)] 10), (1, Ob [(X3 a1)] 3), (2, Ob [(X3 (Xj.mk 0 0 0))] 3), (3, Ob [(X3 Xoi)] 3)]), 4⟩) ?_ (fun J => Xa.cut ?_)
 ·
  refine X9 h ?_
  clear h; intro Xrm h28 h
  refine Xe tmD [] ?_
  refine Xa.join (s' := ⟨fr [(4, (AV.ptr 0 0 0)), (8, (AV.ptr 1 0 0))], hp ([(0, Ob [(X3 (Xj.mk 0 0 0))] 3), (1, Ob [(X3 Xrm)] 3)]), 2⟩) ?_ (fun J => Xa.cut ?_)
  ·
   obtain rfl := oj h
   refine Xe tmD [] ?_
   exact X6 rfl (Xl (cc (X1b (x := Xrm)) (cc .sc cn)))
  clear h
  have h := h28
  refine brE h ?_ ?_
  ·clear h; intro h25 h
   refine X9 h ?_
   clear h; intro v26 h27 h
   obtain rfl := oj h
   refine rn tmD [Bt, .pure [(Lf (a0.Arg.map X1)), (X3 a1)] (AV.tup [(aI .i64 v26.1), (aI .i64 v26.2)])] rfl (by repeat' first|apply Ya|exact (pn (X4n _ _ _ h27) (cc (X8 (X0 X7 a0.Arg)) (cc (X1b (x := a1)) cn)))|exact Xv) ?_
   exact wkT [(0, 2), (1, 3)] (Xa.glue J)
  clear h; intro h25 h
  obtain rfl := oj h
  refine Xe tmD [Bf] ?_
  exact wkT [(0, 2), (1, 3)] (Xa.glue J)
 clear h
 have h := h20
 refine brE h ?_ ?_
 ·clear h; intro h19 h
  obtain rfl := oj h
  refine Xe tmD [Bt] ?_
  exact wkT [] (Xa.glue J)
 clear h; intro h19 h
 obtain rfl := oj h
 refine Xe tmD [Bf] ?_
 exact wkT [] (Xa.glue J)
theorem X0l (a0 : X1j) (r : Int) (h : X3p a0 = some r) : X19 Tryz.prog 121 [(X04 a0)] (aI .i64 r) := by
 refine X19.sym Xg X04r (nt := 43) rfl rfl ?_ (Xf (X5z _ _).1 X08)
 unfold X3p at h
 refine X9 h ?_
 clear h; intro j4_3 h8 h
 refine Xe tmD [] ?_
 refine Xa.join (s' := ⟨fr [(3, (aB j4_3))], hp ([]), 0⟩) ?_ (fun J => Xa.cut ?_)
 ·
  refine brE h ?_ ?_
  ·clear h; intro h9 h
   obtain rfl := oj h
   refine Xe tmD [Bt] ?_
   exact X6 rfl .sc
  clear h; intro h9 h
  obtain rfl := oj h
  refine Xe tmD [Bf] ?_
  exact X6 rfl .sc
 clear h
 have h := h8
 refine brE h ?_ ?_
 ·clear h; intro h5 h
  obtain rfl := oj h
  refine Xe tmD [Bt] ?_
  exact wkT [] (Xa.glue J)
 clear h; intro h5 h
 refine brE h ?_ ?_
 ·clear h; intro h6 h
  obtain rfl := oj h
  refine Xe tmD [Bf, Bt] ?_
  exact wkT [] (Xa.glue J)
 clear h; intro h6 h
 refine brE h ?_ ?_
 ·clear h; intro h7 h
  obtain rfl := oj h
  refine Xe tmD [Bf, Bf, Bt] ?_
  exact wkT [] (Xa.glue J)
 clear h; intro h7 h
 obtain rfl := oj h
 refine Xe tmD [Bf, Bf, Bf] ?_
 exact wkT [] (Xa.glue J)
theorem X6h (a0 : Xb) (r : Bool) (h : X9q a0 = some r) : X19 Tryz.prog 109 [(X2 a0)] (aB r) := by
 refine X19.sym Xg X04z (nt := 46) rfl rfl ?_ (Xf (X56 _ _).1 X08)
 unfold X9q at h
 refine brE h ?_ ?_
 ·clear h; intro h1 h
  obtain rfl := oj h
  refine Xe tmD [Bt] ?_
  exact X6 rfl .sc
 clear h; intro h1 h
 refine X9 h ?_
 clear h; intro j8_2 h15 h
 refine Xe tmD [Bf, .stop 3] ?_
 refine Xa.join (s' := ⟨fr [(2, (aB j8_2))], hp ([]), 0⟩) ?_ (fun J => Xa.cut ?_)
 ·
  obtain rfl := oj h
  refine Xe tmD [] ?_
  exact X6 rfl .sc
 clear h
 have h := h15
 refine X9 h ?_
 clear h; intro v9 h10 h
 refine brE h ?_ ?_
 ·clear h; intro h11 h
  refine X9 h ?_
  clear h; intro v12 h13 h
  refine rn tmD [.ix 0, .pure [(X04 a0.Values.e0)] (aI .i64 v9), .go true, .go true, .ix 1, .go true, .go true, .pure [(X04 a0.Values.e1)] (aI .i64 v12), .go true, .stop 999999] rfl (by repeat' first|apply Ya|exact (pn (X0l _ _ h10) (cc (X0f (x := a0.Values.e0)) cn))|exact (pn (X0l _ _ h13) (cc (X0f (x := a0.Values.e1)) cn))|exact Xv) ?_
  refine brE h ?_ ?_
  ·clear h; intro h14 h
   obtain rfl := oj h
   refine rn tmD [.go true, .go true, .ix 0, .go true, .go true, .go true, .go true, .ix 1, .go true, .go true, .go true, .wrap, .go true] rfl (by repeat' first|apply Ya|exact ((X05 h11 h14))|exact (X0u (X05 h11 h14))|exact (Xka (X05 h11 h14))|exact Xv) ?_
   exact wkT [] (Xa.glue J)
  clear h; intro h14 h
  obtain rfl := oj h
  refine rn tmD [.go false, .go false, .go false, .go false, .go false, .go false, .go false, .go false, .go false, .go false] rfl (by repeat' first|apply Ya|exact ((X05 h11 h14))|exact (X0u (X05 h11 h14))|exact (Xei (X05 h11 h14))|exact Xv) ?_
  exact wkT [] (Xa.glue J)
 clear h; intro h11 h
 obtain rfl := oj h
 refine rn tmD [.ix 0, .pure [(X04 a0.Values.e0)] (aI .i64 v9), .go false, .go false, .go false, .go false, .go false, .go false, .go false, .go false, .go false, .go false, .go false, .go false, .go false, .go false, .go false] rfl (by repeat' first|apply Ya|exact (pn (X0l _ _ h10) (cc (X0f (x := a0.Values.e0)) cn))|exact ((X0q h11 rfl))|exact (X0u (X0q h11 rfl))|exact (Xei (X0q h11 rfl))|exact Xv) ?_
 exact wkT [] (Xa.glue J)
theorem X12 (a0 : Int) (r : Bool) (h : X63 a0 = some r) : X19 Tryz.prog 102 [(aI .i64 a0)] (aB r) := by
 refine X19.sym Xg X054 (nt := 6) rfl rfl ?_ (Xf .sc X08)
 unfold X63 at h
 obtain rfl := oj h
 refine Xe tmD [] ?_
 exact X6 rfl .sc
theorem X6g (a0 : Int) (a1 : Int) (r : Int) (h : X36 a0 a1 = some r) : X19 Tryz.prog 66 [(aI .i64 a0), (aI .i64 a1)] (aI .i64 r) := by
 refine X19.sym Xg fn66 (nt := 20) rfl rfl ?_ (Xf .sc (Xf .sc X08))
 unfold X36 at h
 refine X9 h ?_
 clear h; intro v1 h2 h
 refine X9 h ?_
 clear h; intro v3 h4 h
 refine brE h ?_ ?_
 ·clear h; intro h5 h
  refine brE h ?_ ?_
  ·clear h; intro h6 h
   obtain rfl := oj h
   refine rn tmD [.pure [(aI .i64 a0)] (aB v1), .pure [(aI .i64 a1)] (aB v3), Bt, Bt] rfl (by repeat' first|apply Ya|exact (pn (X12 _ _ h2) (cc .sc cn))|exact (pn (X12 _ _ h4) (cc .sc cn))|exact Xv) ?_
   exact X6 rfl .sc
  clear h; intro h6 h
  obtain rfl := oj h
  refine rn tmD [.pure [(aI .i64 a0)] (aB v1), .pure [(aI .i64 a1)] (aB v3), Bt, Bf] rfl (by repeat' first|apply Ya|exact (pn (X12 _ _ h2) (cc .sc cn))|exact (pn (X12 _ _ h4) (cc .sc cn))|exact Xv) ?_
  exact X6 rfl .sc
 clear h; intro h5 h
 refine brE h ?_ ?_
 ·clear h; intro h7 h
  obtain rfl := oj h
  refine rn tmD [.pure [(aI .i64 a0)] (aB v1), .pure [(aI .i64 a1)] (aB v3), Bf, Bt] rfl (by repeat' first|apply Ya|exact (pn (X12 _ _ h2) (cc .sc cn))|exact (pn (X12 _ _ h4) (cc .sc cn))|exact Xv) ?_
  exact X6 rfl .sc
 clear h; intro h7 h
 refine brE h ?_ ?_
 ·clear h; intro h8 h
  obtain rfl := oj h
  refine rn tmD [.pure [(aI .i64 a0)] (aB v1), .pure [(aI .i64 a1)] (aB v3), Bf, Bf, Bt] rfl (by repeat' first|apply Ya|exact (pn (X12 _ _ h2) (cc .sc cn))|exact (pn (X12 _ _ h4) (cc .sc cn))|exact Xv) ?_
  exact X6 rfl .sc
 clear h; intro h8 h
 refine brE h ?_ ?_
 ·clear h; intro h9 h
  obtain rfl := oj h
  refine rn tmD [.pure [(aI .i64 a0)] (aB v1), .pure [(aI .i64 a1)] (aB v3), Bf, Bf, Bf, Bt] rfl (by repeat' first|apply Ya|exact (pn (X12 _ _ h2) (cc .sc cn))|exact (pn (X12 _ _ h4) (cc .sc cn))|exact Xv) ?_
  exact X6 rfl .sc
 clear h; intro h9 h
 obtain rfl := oj h
 refine rn tmD [.pure [(aI .i64 a0)] (aB v1), .pure [(aI .i64 a1)] (aB v3), Bf, Bf, Bf, Bf] rfl (by repeat' first|apply Ya|exact (pn (X12 _ _ h2) (cc .sc cn))|exact (pn (X12 _ _ h4) (cc .sc cn))|exact Xv) ?_
 exact X6 rfl .sc
theorem Xi4 {Q : X0d -> St -> Mu -> Prop} {μ : Mu} (Xlu : (List Int)) (hl : Xlu.length <= 140737488355328) : ∀ (xs : List Int) (k : Nat) (hx : Xlu.drop k = xs) (o : X7r) (h : X69 Xlu xs k  = some o)
  (C0 : o = X7r.x0 -> Xa Tryz.prog 18 0 Q (.exit (.exit 0)) [] ⟨fr [(3, (aI .i64 0))], hp ([]), 0⟩ μ)
  (C1 : ∀ (X4r : Int), o = X7r.x1 X4r -> Xa Tryz.prog 18 0 Q (.exit .ret) [] ⟨fr [(2, (aI .i64 X4r))], hp ([]), 0⟩ μ),
  Xa Tryz.prog 18 0 Q (.loop (X5o 0 (Xt Tryz.f65))) [] ⟨fr [(3, (aI .i64 0)), (6, (Lf (List.map (aI .i64) Xlu))), (7, (aI .i64 (Xlu.length : Int))), (8, (aI .i64 (k : Int)))], hp ([]), 0⟩ μ := by
 intro xs
 induction xs with
 | nil =>
  intro k hx  o h C0 C1
  have hk := X1u hx
  have hc : decide ((k : Int) < (Xlu.length : Int)) = false := Yf (by omega)
  rw [X69] at h
  refine Xa.round ?_
  obtain rfl := oj h
  refine Xe tmD [Bf] ?_
  exact wkT [] (C0  rfl)
 | cons x xs ih =>
  intro k hx  o h C0 C1
  obtain ⟨hk, hg, hx1⟩ := X16 hx
  have hc : decide ((k : Int) < (Xlu.length : Int)) = true := Yt (by omega)
  rw [X69] at h
  refine Xa.round ?_
  refine brE h ?_ ?_
  ·clear h; intro h6 h
   obtain rfl := oj h
   refine Xe tmD [Bt, .el (aI .i64 x), Bt] ?_
   exact wkT [] (C1 _  rfl)
  clear h; intro h6 h
  refine Xe tmD [Bt, .el (aI .i64 x), Bf] ?_
  exact wkT [] (ih (k + 1) hx1  o h C0 C1)
theorem Xnd (a0 : (List Int)) (r : Int) (h : Xed a0 = some r) : X19 Tryz.prog 65 [(Lf (List.map (aI .i64) a0))] (aI .i64 r) := by
 refine X19.sym Xg fn65 (nt := 18) rfl rfl ?_ (Xf .list X08)
 unfold Xed at h
 refine X9 h ?_
 clear h; intro u1 h2 h
 have qh2 := X11 h2
 refine X9 h ?_
 clear h; intro o7 h8 h
 refine Xe tmD [.el (aI .i64 (a0.length : Int))] ?_
 refine wkT [] (Xa.cut (Xi4 a0 qh2 a0 0 (by simp) _ h8 ?_ ?_))
 ·intro eo7; subst eo7
  refine Xa.glue ?_
  try dsimp only at h
  obtain rfl := oj h
  refine Xe tmD [] ?_
  exact X6 rfl .sc
 intro X4r eo7; subst eo7
 refine Xa.glue ?_
 try dsimp only at h
 obtain rfl := oj h
 refine Xe tmD [] ?_
 exact X6 rfl .sc
theorem X8n (a0 : Xb) (a1 : Xb) (r : Int) (h : X6t a0 a1 = some r) : X19 Tryz.prog 110 [(X2 a0), (X2 a1)] (aI .i64 r) := by
 refine X19.sym Xg X04y (nt := 26) rfl rfl ?_ (Xf (X56 _ _).1 (Xf (X56 _ _).1 X08))
 unfold X6t at h
 refine X9 h ?_
 clear h; intro v1 h2 h
 refine X9 h ?_
 clear h; intro v3 h4 h
 refine X9 h ?_
 clear h; intro v5 h6 h
 refine X9 h ?_
 clear h; intro v7 h8 h
 obtain rfl := oj h
 refine rn tmD [.pure [(aI .i64 a0.Span.End), (aI .i64 a1.Span.End)] (aI .i64 v1), .pure [(aI .i64 a0.Span.Start), (aI .i64 a1.Span.Start)] (aI .i64 v3), .pure [(aI .i64 a0.Key), (aI .i64 a1.Key)] (aI .i64 v5), .pure [(Lf (List.map (aI .i64) [v1, v3, v5]))] (aI .i64 v7)] rfl (by repeat' first|apply Ya|exact (pn (X6g _ _ _ h2) (cc .sc (cc .sc cn)))|exact (pn (X6g _ _ _ h4) (cc .sc (cc .sc cn)))|exact (pn (X6g _ _ _ h6) (cc .sc (cc .sc cn)))|exact (X2k.lent (Xnd _ _ h8) (cc (X0o (es := List.map (aI .i64) [v1, v3, v5]) rfl (by first | rfl | (simp; done) | (simp; rfl) | (simp []; done) | (simp []; rfl) | (simp [Ym, Yd]; done) | (simp [Ym, Yd]; rfl)) (by first | rfl | (simp; done) | (simp; omega) | (simp []; done) | (simp []; omega)) (X0 (fun _ => X0e) [v1, v3, v5])) cn) .sc)|exact Xv) ?_
 exact X6 rfl .sc
theorem X85 {Q : X0d -> St -> Mu -> Prop} {μ : Mu} (X14 : (List Xb)) (hl : X14.length <= 140737488355328) : ∀ (xs : List Xb) (k : Nat) (hx : X14.drop k = xs) (o : X6l) (h : X4d X14 xs k  = some o)
  (C0 : o = X6l.x0 -> Xa Tryz.prog 33 0 Q (.exit (.exit 0)) [] ⟨fr [], hp ([]), 0⟩ μ)
  (C1 : o = X6l.x1 -> Xa Tryz.prog 33 0 Q (.exit .ret) [] ⟨fr [(2, (aI .i64 8))], hp ([]), 0⟩ μ),
  Xa Tryz.prog 33 0 Q (.loop (X5o 0 (Xt Tryz.f77))) [] ⟨fr [(0, (Lf (X14.map X2))), (8, (Lf (X14.map X2))), (9, (aI .i64 (X14.length : Int))), (10, (aI .i64 (k : Int)))], hp ([]), 0⟩ μ := by
 intro xs
 induction xs with
 | nil =>
  intro k hx  o h C0 C1
  have hk := X1u hx
  have hc : decide ((k : Int) < (X14.length : Int)) = false := Yf (by omega)
  rw [X4d] at h
  refine Xa.round ?_
  obtain rfl := oj h
  refine Xe tmD [Bf] ?_
  exact wkT [] (C0  rfl)
 | cons x xs ih =>
  intro k hx  o h C0 C1
  obtain ⟨hk, hg, hx1⟩ := X16 hx
  have hc : decide ((k : Int) < (X14.length : Int)) = true := Yt (by omega)
  rw [X4d] at h
  refine Xa.round ?_
  refine X9 h ?_
  clear h; intro Xvh h60 h
  refine Xe tmD [Bt, .el (X2 x), .stop 6] ?_
  refine Xa.join (s' := ⟨fr [(0, (Lf (X14.map X2))), (8, (Lf (X14.map X2))), (9, (aI .i64 (X14.length : Int))), (10, (aI .i64 (k : Int))), (31, (aB Xvh))], hp ([]), 0⟩) ?_ (fun J => Xa.cut ?_)
  ·
   refine brE h ?_ ?_
   ·clear h; intro h61 h
    obtain rfl := oj h
    refine Xe tmD [Bt] ?_
    exact wkT [] (C1  rfl)
   clear h; intro h61 h
   refine Xe tmD [Bf] ?_
   exact wkT [] (ih (k + 1) hx1  o h C0 C1)
  clear h
  have h := h60
  refine X9 h ?_
  clear h; intro v52 h53 h
  refine brE h ?_ ?_
  ·clear h; intro h54 h
   obtain rfl := oj h
   refine rn tmD [.pure [(X2 x)] (aB v52), .go false, .go false, .go false, .no, .no, .no, .no, .no, .no, .no, .no, .go false, .go true] rfl (by repeat' first|apply Ya|exact (pn (X6h _ _ h53) (cc (X0t (x := x)) cn))|exact Xv) ?_
   exact wkT [] (Xa.glue J)
  clear h; intro h54 h
  refine brE h ?_ ?_
  ·clear h; intro h55 h
   refine X9 h ?_
   clear h; intro e56 h57 h
   try have qh57 := Xz h57
   refine X9 h ?_
   clear h; intro v58 h59 h
   obtain rfl := oj h
   refine rn tmD [.pure [(X2 x)] (aB v52), .go true, .go true, .go true, .go true, .go true, .go true, .wrap, .go true, .el (X2 e56), .go true, .go true, .go true, .pure [(X2 e56), (X2 x)] (aI .i64 v58), .go true, .go true] rfl (by repeat' first|apply Ya|exact (pn (X6h _ _ h53) (cc (X0t (x := x)) cn))|exact (pn (X8n _ _ _ h59) (cc (X0t (x := e56)) (cc (X0t (x := x)) cn)))|exact Xv) ?_
   exact wkT [] (Xa.glue J)
  clear h; intro h55 h
  obtain rfl := oj h
  refine rn tmD [.pure [(X2 x)] (aB v52), .go true, .go true, .go true, .go false, .go false, .go false, .go false, .go false, .go false, .go false, .go false, .go true, .go false] rfl (by repeat' first|apply Ya|exact (pn (X6h _ _ h53) (cc (X0t (x := x)) cn))|exact Xv) ?_
  exact wkT [] (Xa.glue J)
theorem X2n (a0 : (List Xb)) (r : Int) (h : X9r a0 = some r) : X19 Tryz.prog 77 [(Lf (a0.map X2))] (aI .i64 r) := by
 refine X19.sym Xg fn77 (nt := 33) rfl rfl ?_ (Xf .list X08)
 unfold X9r at h
 refine brE h ?_ ?_
 ·clear h; intro h1 h
  obtain rfl := oj h
  refine Xe tmD [.el (aI .i64 (a0.length : Int)), Bt] ?_
  exact X6 rfl .sc
 clear h; intro h1 h
 refine X9 h ?_
 clear h; intro u2 h3 h
 have qh3 := X11 h3
 refine X9 h ?_
 clear h; intro o62 h63 h
 refine Xe tmD [.el (aI .i64 (a0.length : Int)), Bf, .el (aI .i64 (a0.length : Int))] ?_
 refine wkT [] (Xa.cut (X85 a0 qh3 a0 0 (by simp) _ h63 ?_ ?_))
 ·intro eo62; subst eo62
  refine Xa.glue ?_
  try dsimp only at h
  obtain rfl := oj h
  refine Xe tmD [] ?_
  exact X6 rfl .sc
 intro eo62; subst eo62
 refine Xa.glue ?_
 try dsimp only at h
 obtain rfl := oj h
 refine Xe tmD [] ?_
 exact X6 rfl .sc
theorem Xhr (a0 : Int) (r : X1j) (h : Xag a0 = some r) : X19 Tryz.prog 79 [(aI .i64 a0)] (X04 r) := by
 refine X19.sym Xg fn79 (nt := 7) rfl rfl ?_ (Xf .sc X08)
 unfold Xag at h
 obtain rfl := oj h
 refine Xe tmD [] ?_
 exact X6 rfl (X0f (x := (X1j.mk 1 a0 a0 a0)))
theorem X2u (a0 : Int) (a1 : Int) (r : Int) (h : X45 a0 a1 = some r) : X19 Tryz.prog 111 [(aI .i64 a0), (aI .i64 a1)] (aI .i64 r) := by
 refine X19.sym Xg X04x (nt := 17) rfl rfl ?_ (Xf .sc (Xf .sc X08))
 unfold X45 at h
 refine brE h ?_ ?_
 ·clear h; intro h1 h
  obtain rfl := oj h
  refine Xe tmD [Bt] ?_
  exact X6 rfl .sc
 clear h; intro h1 h
 refine brE h ?_ ?_
 ·clear h; intro h2 h
  obtain rfl := oj h
  refine Xe tmD [Bf, Bt] ?_
  exact X6 rfl .sc
 clear h; intro h2 h
 obtain rfl := oj h
 refine Xe tmD [Bf, Bf] ?_
 exact X6 rfl .sc
theorem Xfo (a0 : Int) (r : Int) (h : Xaa a0 = some r) : X19 Tryz.prog 166 [(aI .u64 a0)] (aI .i64 r) := by
 refine X19.sym Xg X04a (nt := 25) rfl rfl ?_ (Xf .sc X08)
 unfold Xaa at h
 refine X9 h ?_
 clear h; intro w2 h4 h
 obtain ⟨j2_0, j2_2⟩ := w2
 try dsimp only at h
 refine Xe tmD [] ?_
 refine Xa.join (s' := ⟨fr [(0, (aI .u64 j2_0)), (2, (aI .i64 j2_2))], hp ([]), 0⟩) ?_ (fun J => Xa.cut ?_)
 ·
  refine X9 h ?_
  clear h; intro w6 h8 h
  obtain ⟨j6_0, j6_2⟩ := w6
  try dsimp only at h
  refine Xe tmD [] ?_
  refine Xa.join (s' := ⟨fr [(0, (aI .u64 j6_0)), (2, (aI .i64 j6_2))], hp ([]), 0⟩) ?_ (fun J => Xa.cut ?_)
  ·
   refine X9 h ?_
   clear h; intro w10 h12 h
   obtain ⟨X043, X042⟩ := w10
   try dsimp only at h
   refine Xe tmD [] ?_
   refine Xa.join (s' := ⟨fr [(0, (aI .u64 X043)), (2, (aI .i64 X042))], hp ([]), 0⟩) ?_ (fun J => Xa.cut ?_)
   ·
    refine X9 h ?_
    clear h; intro b13 h14 h
    obtain rfl := oj h
    refine rn tmD [.wrap, .el (aI .u8 b13), .wrap, .wrap] rfl (by repeat' first|apply Ya|exact (X8q h14)|exact (X02a (tab := Xh9) rfl h14)|exact Xv) ?_
    exact X6 rfl .sc
   clear h
   have h := h12
   refine brE h ?_ ?_
   ·clear h; intro h11 h
    simp only [Option.some.injEq, Prod.mk.injEq] at h
    obtain ⟨rfl, rfl⟩ := h
    refine Xe tmD [Bt, .wrap] ?_
    exact wkT [] (Xa.glue J)
   clear h; intro h11 h
   simp only [Option.some.injEq, Prod.mk.injEq] at h
   obtain ⟨rfl, rfl⟩ := h
   refine Xe tmD [Bf] ?_
   exact wkT [] (Xa.glue J)
  clear h
  have h := h8
  refine brE h ?_ ?_
  ·clear h; intro h7 h
   simp only [Option.some.injEq, Prod.mk.injEq] at h
   obtain ⟨rfl, rfl⟩ := h
   refine Xe tmD [Bt, .wrap] ?_
   exact wkT [] (Xa.glue J)
  clear h; intro h7 h
  simp only [Option.some.injEq, Prod.mk.injEq] at h
  obtain ⟨rfl, rfl⟩ := h
  refine Xe tmD [Bf] ?_
  exact wkT [] (Xa.glue J)
 clear h
 have h := h4
 refine brE h ?_ ?_
 ·clear h; intro h3 h
  simp only [Option.some.injEq, Prod.mk.injEq] at h
  obtain ⟨rfl, rfl⟩ := h
  refine Xe tmD [Bt] ?_
  exact wkT [] (Xa.glue J)
 clear h; intro h3 h
 simp only [Option.some.injEq, Prod.mk.injEq] at h
 obtain ⟨rfl, rfl⟩ := h
 refine Xe tmD [Bf] ?_
 exact wkT [] (Xa.glue J)
theorem Xcx (a0 : Int) (r : Int) (h : X99 a0 = some r) : X19 Tryz.prog 133 [(aI .u64 a0)] (aI .i64 r) := by
 refine X19.sym Xg X04m (nt := 8) rfl rfl ?_ (Xf .sc X08)
 unfold X99 at h
 refine X9 h ?_
 clear h; intro v1 h2 h
 obtain rfl := oj h
 refine rn tmD [Bf, .pure [(aI .u64 a0)] (aI .i64 v1)] rfl (by repeat' first|apply Ya|exact (pn (Xfo _ _ h2) (cc .sc cn))|exact Xv) ?_
 exact X6 rfl .sc
theorem X4f {Q : X0d -> St -> Mu -> Prop} {μ : Mu} (X14 : (List Xb)) (Xm : Xb) (Xr0 : Int) : ∀ (n : Nat) (Xu6 : Int) (X4q : Int) (o : X1i) (h : X07 X14 Xm Xr0 n Xu6 X4q = some o)
  (C0 : ∀ (Xej : Int), o = X1i.x0 Xej -> Xa Tryz.prog 49 0 Q (.exit (.exit 0)) [] ⟨fr [(0, (Lf (X14.map X2))), (2, (AV.fn 110 [])), (4, (AV.ptr 0 0 0)), (8, (aI .i64 Xr0)), (9, (aI .i64 Xej))], hp ([(0, Ob [(X2 Xm)] 11)]), 1⟩ μ),
  Xa Tryz.prog 49 0 Q (.loop (X5o 0 (Xt Tryz.f119))) [] ⟨fr [(0, (Lf (X14.map X2))), (2, (AV.fn 110 [])), (4, (AV.ptr 0 0 0)), (8, (aI .i64 Xr0)), (9, (aI .i64 Xu6)), (10, (aI .i64 X4q))], hp ([(0, Ob [(X2 Xm)] 11)]), 1⟩ μ := by
 intro n
 induction n with
 | zero => intro Xu6 X4q o h C0; cases h
 | succ n ih =>
  intro Xu6 X4q o h C0
  rw [X07] at h
  refine Xa.round ?_
  refine brE h ?_ ?_
  ·clear h; intro h14 h
   refine X9 h ?_
   clear h; intro e15 h16 h
   try have qh16 := Xz h16
   refine X9 h ?_
   clear h; intro v17 h18 h
   refine brE h ?_ ?_
   ·clear h; intro h19 h
    refine rn tmD [Bt, .wrap, .wrap, .wrap, .el (X2 e15), .pure [(X2 e15), (X2 Xm)] (aI .i64 v17), Bt, .wrap] rfl (by repeat' first|apply Ya|exact (pn (X8n _ _ _ h18) (cc (X0t (x := e15)) (cc (X0t (x := Xm)) cn)))|exact Xv) ?_
    exact wkT [] (ih  _ _ o h C0)
   clear h; intro h19 h
   refine rn tmD [Bt, .wrap, .wrap, .wrap, .el (X2 e15), .pure [(X2 e15), (X2 Xm)] (aI .i64 v17), Bf] rfl (by repeat' first|apply Ya|exact (pn (X8n _ _ _ h18) (cc (X0t (x := e15)) (cc (X0t (x := Xm)) cn)))|exact Xv) ?_
   exact wkT [] (ih  _ _ o h C0)
  clear h; intro h14 h
  obtain rfl := oj h
  refine Xe tmD [Bf] ?_
  exact wkT [] (C0 _  rfl)
end Go.Av.Tryz