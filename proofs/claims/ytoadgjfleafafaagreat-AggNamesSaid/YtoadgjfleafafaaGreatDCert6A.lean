/- Printed by decomp.py: that the program computes the functions. -/
import Derived.Test.YtoadgjfleafafaaGreatDCert5A
set_option linter.all false

namespace Go.Av.Tryz
open Go.Proofs Go.D
set_option maxRecDepth 10000
set_option maxHeartbeats 40000000
theorem X82 (a0 : X9) (r : Bool) (h : Xan a0 = some r) : X16 Tryz.prog 50 [(X2 a0)] (aB r) := by
 refine X16.sym Xe Xsa (nt := 46) rfl rfl ?_ (X6 (X3m _ _).1 X08)
 unfold Xan at h
 refine brE h ?_ ?_
 ·clear h; intro h1 h
  obtain rfl := oj h
  refine Xm tmD [Bt] ?_
  exact X8 rfl .sc
 clear h; intro h1 h
 refine X3 h ?_
 clear h; intro Xpo h15 h
 refine Xm tmD [Bf, .stop 3] ?_
 refine Xa.join (s' := ⟨fr [(2, (aB Xpo))], hp ([]), 0⟩) ?_ (fun J => Xa.cut ?_)
 ·
  obtain rfl := oj h
  refine Xm tmD [] ?_
  exact X8 rfl .sc
 clear h
 have h := h15
 refine X3 h ?_
 clear h; intro v9 h10 h
 refine brE h ?_ ?_
 ·clear h; intro h11 h
  refine X3 h ?_
  clear h; intro v12 h13 h
  refine rn tmD [.ix 0, .pure [(X0g a0.Values.e0)] (aI .i64 v9), .go true, .go true, .ix 1, .go true, .go true, .pure [(X0g a0.Values.e1)] (aI .i64 v12), .go true, .stop 999999] rfl (by repeat' first|apply Ya|exact (pn (X0x _ _ h10) (cc (X0q (x := a0.Values.e0)) cn))|exact (pn (X0x _ _ h13) (cc (X0q (x := a0.Values.e1)) cn))|exact X00) ?_
  refine brE h ?_ ?_
  ·clear h; intro h14 h
   obtain rfl := oj h
   refine rn tmD [.go true, .go true, .ix 0, .go true, .go true, .go true, .go true, .ix 1, .go true, .go true, .go true, .wrap, .go true] rfl (by repeat' first|apply Ya|exact ((Xy h11 h14))|exact (X0o (Xy h11 h14))|exact (Xaa (Xy h11 h14))|exact X00) ?_
   exact wkT [] (Xa.glue J)
  clear h; intro h14 h
  obtain rfl := oj h
  refine rn tmD [.go false, .go false, .go false, .go false, .go false, .go false, .go false, .go false, .go false, .go false] rfl (by repeat' first|apply Ya|exact ((Xy h11 h14))|exact (X0o (Xy h11 h14))|exact (Xiy (Xy h11 h14))|exact X00) ?_
  exact wkT [] (Xa.glue J)
 clear h; intro h11 h
 obtain rfl := oj h
 refine rn tmD [.ix 0, .pure [(X0g a0.Values.e0)] (aI .i64 v9), .go false, .go false, .go false, .go false, .go false, .go false, .go false, .go false, .go false, .go false, .go false, .go false, .go false, .go false, .go false] rfl (by repeat' first|apply Ya|exact (pn (X0x _ _ h10) (cc (X0q (x := a0.Values.e0)) cn))|exact ((X1s h11 rfl))|exact (X0o (X1s h11 rfl))|exact (Xiy (X1s h11 rfl))|exact X00) ?_
 exact wkT [] (Xa.glue J)
theorem X0r (a0 : Int) (r : Bool) (h : X5r a0 = some r) : X16 Tryz.prog 88 [(aI .i64 a0)] (aB r) := by
 refine X16.sym Xe Xrp (nt := 6) rfl rfl ?_ (X6 .sc X08)
 unfold X5r at h
 obtain rfl := oj h
 refine Xm tmD [] ?_
 exact X8 rfl .sc
theorem X4e (a0 : Int) (a1 : Int) (r : Int) (h : X3j a0 a1 = some r) : X16 Tryz.prog 74 [(aI .i64 a0), (aI .i64 a1)] (aI .i64 r) := by
 refine X16.sym Xe Xrv (nt := 20) rfl rfl ?_ (X6 .sc (X6 .sc X08))
 unfold X3j at h
 refine X3 h ?_
 clear h; intro v1 h2 h
 refine X3 h ?_
 clear h; intro v3 h4 h
 refine brE h ?_ ?_
 ·clear h; intro h5 h
  refine brE h ?_ ?_
  ·clear h; intro h6 h
   obtain rfl := oj h
   refine rn tmD [.pure [(aI .i64 a0)] (aB v1), .pure [(aI .i64 a1)] (aB v3), Bt, Bt] rfl (by repeat' first|apply Ya|exact (pn (X0r _ _ h2) (cc .sc cn))|exact (pn (X0r _ _ h4) (cc .sc cn))|exact X00) ?_
   exact X8 rfl .sc
  clear h; intro h6 h
  obtain rfl := oj h
  refine rn tmD [.pure [(aI .i64 a0)] (aB v1), .pure [(aI .i64 a1)] (aB v3), Bt, Bf] rfl (by repeat' first|apply Ya|exact (pn (X0r _ _ h2) (cc .sc cn))|exact (pn (X0r _ _ h4) (cc .sc cn))|exact X00) ?_
  exact X8 rfl .sc
 clear h; intro h5 h
 refine brE h ?_ ?_
 ·clear h; intro h7 h
  obtain rfl := oj h
  refine rn tmD [.pure [(aI .i64 a0)] (aB v1), .pure [(aI .i64 a1)] (aB v3), Bf, Bt] rfl (by repeat' first|apply Ya|exact (pn (X0r _ _ h2) (cc .sc cn))|exact (pn (X0r _ _ h4) (cc .sc cn))|exact X00) ?_
  exact X8 rfl .sc
 clear h; intro h7 h
 refine brE h ?_ ?_
 ·clear h; intro h8 h
  obtain rfl := oj h
  refine rn tmD [.pure [(aI .i64 a0)] (aB v1), .pure [(aI .i64 a1)] (aB v3), Bf, Bf, Bt] rfl (by repeat' first|apply Ya|exact (pn (X0r _ _ h2) (cc .sc cn))|exact (pn (X0r _ _ h4) (cc .sc cn))|exact X00) ?_
  exact X8 rfl .sc
 clear h; intro h8 h
 refine brE h ?_ ?_
 ·clear h; intro h9 h
  obtain rfl := oj h
  refine rn tmD [.pure [(aI .i64 a0)] (aB v1), .pure [(aI .i64 a1)] (aB v3), Bf, Bf, Bf, Bt] rfl (by repeat' first|apply Ya|exact (pn (X0r _ _ h2) (cc .sc cn))|exact (pn (X0r _ _ h4) (cc .sc cn))|exact X00) ?_
  exact X8 rfl .sc
 clear h; intro h9 h
 obtain rfl := oj h
 refine rn tmD [.pure [(aI .i64 a0)] (aB v1), .pure [(aI .i64 a1)] (aB v3), Bf, Bf, Bf, Bf] rfl (by repeat' first|apply Ya|exact (pn (X0r _ _ h2) (cc .sc cn))|exact (pn (X0r _ _ h4) (cc .sc cn))|exact X00) ?_
 exact X8 rfl .sc
theorem Xd4 {Q : X0d -> St -> Mu -> Prop} {μ : Mu} (Xlw : (List Int)) (hl : Xlw.length <= 140737488355328) : ∀ (xs : List Int) (k : Nat) (hx : Xlw.drop k = xs) (o : X5s) (h : X5t Xlw xs k  = some o)
  (C0 : o = X5s.x0 -> Xa Tryz.prog 18 0 Q (.exit (.exit 0)) [] ⟨fr [(3, (aI .i64 0))], hp ([]), 0⟩ μ)
  (C1 : ∀ (Xf0 : Int), o = X5s.x1 Xf0 -> Xa Tryz.prog 18 0 Q (.exit .ret) [] ⟨fr [(2, (aI .i64 Xf0))], hp ([]), 0⟩ μ),
  Xa Tryz.prog 18 0 Q (.loop (X7i 0 (X01 Tryz.f73))) [] ⟨fr [(3, (aI .i64 0)), (6, (Lf (List.map (aI .i64) Xlw))), (7, (aI .i64 (Xlw.length : Int))), (8, (aI .i64 (k : Int)))], hp ([]), 0⟩ μ := by
 intro xs
 induction xs with
 | nil =>
  intro k hx  o h C0 C1
  have hk := X2m hx
  have hc : decide ((k : Int) < (Xlw.length : Int)) = false := Yf (by omega)
  rw [X5t] at h
  refine Xa.round ?_
  obtain rfl := oj h
  refine Xm tmD [Bf] ?_
  exact wkT [] (C0  rfl)
 | cons x xs ih =>
  intro k hx  o h C0 C1
  obtain ⟨hk, hg, hx1⟩ := X20 hx
  have hc : decide ((k : Int) < (Xlw.length : Int)) = true := Yt (by omega)
  rw [X5t] at h
  refine Xa.round ?_
  refine brE h ?_ ?_
  ·clear h; intro h6 h
   obtain rfl := oj h
   refine Xm tmD [Bt, .el (aI .i64 x), Bt] ?_
   exact wkT [] (C1 _  rfl)
  clear h; intro h6 h
  refine Xm tmD [Bt, .el (aI .i64 x), Bf] ?_
  exact wkT [] (ih (k + 1) hx1  o h C0 C1)
theorem Xgd (a0 : (List Int)) (r : Int) (h : Xc5 a0 = some r) : X16 Tryz.prog 73 [(Lf (List.map (aI .i64) a0))] (aI .i64 r) := by
 refine X16.sym Xe Xrw (nt := 18) rfl rfl ?_ (X6 .list X08)
 unfold Xc5 at h
 refine X3 h ?_
 clear h; intro u1 h2 h
 have qh2 := X1w h2
 refine X3 h ?_
 clear h; intro o7 h8 h
 refine Xm tmD [.el (aI .i64 (a0.length : Int))] ?_
 refine wkT [] (Xa.cut (Xd4 a0 qh2 a0 0 (by simp) _ h8 ?_ ?_))
 ·intro eo7; subst eo7
  refine Xa.glue ?_
  try dsimp only at h
  obtain rfl := oj h
  refine Xm tmD [] ?_
  exact X8 rfl .sc
 intro Xf0 eo7; subst eo7
 refine Xa.glue ?_
 try dsimp only at h
 obtain rfl := oj h
 refine Xm tmD [] ?_
 exact X8 rfl .sc
theorem X6c (a0 : X9) (a1 : X9) (r : Int) (h : X7d a0 a1 = some r) : X16 Tryz.prog 51 [(X2 a0), (X2 a1)] (aI .i64 r) := by
 refine X16.sym Xe Xs9 (nt := 26) rfl rfl ?_ (X6 (X3m _ _).1 (X6 (X3m _ _).1 X08))
 unfold X7d at h
 refine X3 h ?_
 clear h; intro v1 h2 h
 refine X3 h ?_
 clear h; intro v3 h4 h
 refine X3 h ?_
 clear h; intro v5 h6 h
 refine X3 h ?_
 clear h; intro v7 h8 h
 obtain rfl := oj h
 refine rn tmD [.pure [(aI .i64 a0.Span.End), (aI .i64 a1.Span.End)] (aI .i64 v1), .pure [(aI .i64 a0.Span.Start), (aI .i64 a1.Span.Start)] (aI .i64 v3), .pure [(aI .i64 a0.Key), (aI .i64 a1.Key)] (aI .i64 v5), .pure [(Lf (List.map (aI .i64) [v1, v3, v5]))] (aI .i64 v7)] rfl (by repeat' first|apply Ya|exact (pn (X4e _ _ _ h2) (cc .sc (cc .sc cn)))|exact (pn (X4e _ _ _ h4) (cc .sc (cc .sc cn)))|exact (pn (X4e _ _ _ h6) (cc .sc (cc .sc cn)))|exact (X22.lent (Xgd _ _ h8) (cc (X1b (es := List.map (aI .i64) [v1, v3, v5]) rfl (by first | rfl | (simp; done) | (simp; rfl) | (simp []; done) | (simp []; rfl) | (simp [Ym, Yd]; done) | (simp [Ym, Yd]; rfl)) (by first | rfl | (simp; done) | (simp; omega) | (simp []; done) | (simp []; omega)) (X0 (fun _ => X06) [v1, v3, v5])) cn) .sc)|exact X00) ?_
 exact X8 rfl .sc
theorem Xbn {Q : X0d -> St -> Mu -> Prop} {μ : Mu} (X2i : (List X9)) (hl : X2i.length <= 140737488355328) : ∀ (xs : List X9) (k : Nat) (hx : X2i.drop k = xs) (o : X4s) (h : X4i X2i xs k  = some o)
  (C0 : o = X4s.x0 -> Xa Tryz.prog 33 0 Q (.exit (.exit 0)) [] ⟨fr [], hp ([]), 0⟩ μ)
  (C1 : o = X4s.x1 -> Xa Tryz.prog 33 0 Q (.exit .ret) [] ⟨fr [(2, (aI .i64 8))], hp ([]), 0⟩ μ),
  Xa Tryz.prog 33 0 Q (.loop (X7i 0 (X01 Tryz.f26))) [] ⟨fr [(0, (Lf (X2i.map X2))), (8, (Lf (X2i.map X2))), (9, (aI .i64 (X2i.length : Int))), (10, (aI .i64 (k : Int)))], hp ([]), 0⟩ μ := by
 intro xs
 induction xs with
 | nil =>
  intro k hx  o h C0 C1
  have hk := X2m hx
  have hc : decide ((k : Int) < (X2i.length : Int)) = false := Yf (by omega)
  rw [X4i] at h
  refine Xa.round ?_
  obtain rfl := oj h
  refine Xm tmD [Bf] ?_
  exact wkT [] (C0  rfl)
 | cons x xs ih =>
  intro k hx  o h C0 C1
  obtain ⟨hk, hg, hx1⟩ := X20 hx
  have hc : decide ((k : Int) < (X2i.length : Int)) = true := Yt (by omega)
  rw [X4i] at h
  refine Xa.round ?_
  refine X3 h ?_
  clear h; intro Xky h60 h
  refine Xm tmD [Bt, .el (X2 x), .stop 6] ?_
  refine Xa.join (s' := ⟨fr [(0, (Lf (X2i.map X2))), (8, (Lf (X2i.map X2))), (9, (aI .i64 (X2i.length : Int))), (10, (aI .i64 (k : Int))), (31, (aB Xky))], hp ([]), 0⟩) ?_ (fun J => Xa.cut ?_)
  ·
   refine brE h ?_ ?_
   ·clear h; intro h61 h
    obtain rfl := oj h
    refine Xm tmD [Bt] ?_
    exact wkT [] (C1  rfl)
   clear h; intro h61 h
   refine Xm tmD [Bf] ?_
   exact wkT [] (ih (k + 1) hx1  o h C0 C1)
  clear h
  have h := h60
  refine X3 h ?_
  clear h; intro v52 h53 h
  refine brE h ?_ ?_
  ·clear h; intro h54 h
   obtain rfl := oj h
   refine rn tmD [.pure [(X2 x)] (aB v52), .go false, .go false, .go false, .no, .no, .no, .no, .no, .no, .no, .no, .go false, .go true] rfl (by repeat' first|apply Ya|exact (pn (X82 _ _ h53) (cc (X28 (x := x)) cn))|exact X00) ?_
   exact wkT [] (Xa.glue J)
  clear h; intro h54 h
  refine brE h ?_ ?_
  ·clear h; intro h55 h
   refine X3 h ?_
   clear h; intro e56 h57 h
   try have qh57 := X18 h57
   refine X3 h ?_
   clear h; intro v58 h59 h
   obtain rfl := oj h
   refine rn tmD [.pure [(X2 x)] (aB v52), .go true, .go true, .go true, .go true, .go true, .go true, .wrap, .go true, .el (X2 e56), .go true, .go true, .go true, .pure [(X2 e56), (X2 x)] (aI .i64 v58), .go true, .go true] rfl (by repeat' first|apply Ya|exact (pn (X82 _ _ h53) (cc (X28 (x := x)) cn))|exact (pn (X6c _ _ _ h59) (cc (X28 (x := e56)) (cc (X28 (x := x)) cn)))|exact X00) ?_
   exact wkT [] (Xa.glue J)
  clear h; intro h55 h
  obtain rfl := oj h
  refine rn tmD [.pure [(X2 x)] (aB v52), .go true, .go true, .go true, .go false, .go false, .go false, .go false, .go false, .go false, .go false, .go false, .go true, .go false] rfl (by repeat' first|apply Ya|exact (pn (X82 _ _ h53) (cc (X28 (x := x)) cn))|exact X00) ?_
  exact wkT [] (Xa.glue J)
theorem X1k (a0 : (List X9)) (r : Int) (h : X60 a0 = some r) : X16 Tryz.prog 26 [(Lf (a0.map X2))] (aI .i64 r) := by
 refine X16.sym Xe Xss (nt := 33) rfl rfl ?_ (X6 .list X08)
 unfold X60 at h
 refine brE h ?_ ?_
 ·clear h; intro h1 h
  obtain rfl := oj h
  refine Xm tmD [.el (aI .i64 (a0.length : Int)), Bt] ?_
  exact X8 rfl .sc
 clear h; intro h1 h
 refine X3 h ?_
 clear h; intro u2 h3 h
 have qh3 := X1w h3
 refine X3 h ?_
 clear h; intro o62 h63 h
 refine Xm tmD [.el (aI .i64 (a0.length : Int)), Bf, .el (aI .i64 (a0.length : Int))] ?_
 refine wkT [] (Xa.cut (Xbn a0 qh3 a0 0 (by simp) _ h63 ?_ ?_))
 ·intro eo62; subst eo62
  refine Xa.glue ?_
  try dsimp only at h
  obtain rfl := oj h
  refine Xm tmD [] ?_
  exact X8 rfl .sc
 intro eo62; subst eo62
 refine Xa.glue ?_
 try dsimp only at h
 obtain rfl := oj h
 refine Xm tmD [] ?_
 exact X8 rfl .sc
theorem Xel (a0 : Int) (r : Bool) (h : Xam a0 = some r) : X16 Tryz.prog 33 [(aI .i64 a0)] (aB r) := by
 refine X16.sym Xe Xsm (nt := 11) rfl rfl ?_ (X6 .sc X08)
 unfold Xam at h
 refine X3 h ?_
 clear h; intro Xqg h8 h
 refine Xm tmD [.stop 1] ?_
 refine Xa.join (s' := ⟨fr [(2, (aB Xqg))], hp ([]), 0⟩) ?_ (fun J => Xa.cut ?_)
 ·
  obtain rfl := oj h
  refine Xm tmD [] ?_
  exact X8 rfl .sc
 clear h
 have h := h8
 refine brE h ?_ ?_
 ·clear h; intro h5 h
  obtain rfl := oj h
  refine Xm tmD [.go false, .go false, .go false, .go false] ?_
  exact wkT [] (Xa.glue J)
 clear h; intro h5 h
 refine X3 h ?_
 clear h; intro v6 h7 h
 obtain rfl := oj h
 refine rn tmD [.go true, .go true, .go true, .pure [(Xc (Xt.mk 2 (Xb.mk 0 0 0) a0 (X0j.mk 0 (X14.mk 0 0) (V2.mk 0 0))))] (aI .i64 v6), .go true] rfl (by repeat' first|apply Ya|exact (pn (X1v _ _ h7) (cc (X0h (x := (Xt.mk 2 (Xb.mk 0 0 0) a0 (X0j.mk 0 (X14.mk 0 0) (V2.mk 0 0))))) cn))|exact X00) ?_
 exact wkT [] (Xa.glue J)
theorem Xft (a0 : Xq) (r : Xt × Int) (h : Xbq a0 = some r) : X16 Tryz.prog 58 [(Xv a0)] (AV.tup [(Xc r.1), (aI .i64 r.2)]) := by
 refine X16.sym Xe Xs3 (nt := 34) rfl rfl ?_ (X6 (X68 _ _).1 X08)
 unfold Xbq at h
 refine brE h ?_ ?_
 ·clear h; intro h1 h
  refine X3 h ?_
  clear h; intro Xny h9 h
  refine Xm tmD [Bt, .stop 2] ?_
  refine Xa.join (s' := ⟨fr [(1, (AV.ptr 0 0 0)), (2, (AV.ptr 1 0 0)), (15, (aB Xny))], hp ([(0, Ob [(Xv a0)] 5), (1, Ob [(Xc (Xt.mk 0 (Xb.mk 0 0 0) 0 (X0j.mk 0 (X14.mk 0 0) (V2.mk 0 0))))] 10)]), 2⟩) ?_ (fun J => Xa.cut ?_)
  ·
   refine brE h ?_ ?_
   ·clear h; intro h10 h
    obtain rfl := oj h
    refine Xm tmD [Bt] ?_
    exact X8 rfl (X04 (cc (X0h (x := (Xt.mk 0 (Xb.mk 0 0 0) 0 (X0j.mk 0 (X14.mk 0 0) (V2.mk 0 0))))) (cc .sc cn)))
   clear h; intro h10 h
   obtain rfl := oj h
   refine Xm tmD [Bf] ?_
   exact X8 rfl (X04 (cc (X0h (x := (Xt.mk 2 (Xb.mk 0 0 0) a0.Time (X0j.mk 0 (X14.mk 0 0) (V2.mk 0 0))))) (cc .sc cn)))
  clear h
  have h := h9
  refine X3 h ?_
  clear h; intro v6 h7 h
  refine brE h ?_ ?_
  ·clear h; intro h8 h
   obtain rfl := oj h
   refine rn tmD [.pure [(aI .i64 a0.Time)] (aB v6), .go false, .go false, .go false, .go false] rfl (by repeat' first|apply Ya|exact (pn (X65 _ _ h7) (cc .sc cn))|exact X00) ?_
   exact wkT [] (Xa.glue J)
  clear h; intro h8 h
  obtain rfl := oj h
  refine rn tmD [.pure [(aI .i64 a0.Time)] (aB v6), .go true, .go true, .go true, .go true] rfl (by repeat' first|apply Ya|exact (pn (X65 _ _ h7) (cc .sc cn))|exact X00) ?_
  exact wkT [] (Xa.glue J)
 clear h; intro h1 h
 refine X3 h ?_
 clear h; intro Xl1 h18 h
 refine Xm tmD [Bf, .stop 5] ?_
 refine Xa.join (s' := ⟨fr [(1, (AV.ptr 0 0 0)), (2, (AV.ptr 1 0 0)), (29, (aB Xl1))], hp ([(0, Ob [(Xv a0)] 5), (1, Ob [(Xc (Xt.mk 0 (Xb.mk 0 0 0) 0 (X0j.mk 0 (X14.mk 0 0) (V2.mk 0 0))))] 10)]), 2⟩) ?_ (fun J => Xa.cut ?_)
 ·
  refine brE h ?_ ?_
  ·clear h; intro h19 h
   obtain rfl := oj h
   refine Xm tmD [Bt] ?_
   exact X8 rfl (X04 (cc (X0h (x := (Xt.mk 0 (Xb.mk 0 0 0) 0 (X0j.mk 0 (X14.mk 0 0) (V2.mk 0 0))))) (cc .sc cn)))
  clear h; intro h19 h
  obtain rfl := oj h
  refine Xm tmD [Bf] ?_
  exact X8 rfl (X04 (cc (X0h (x := (Xt.mk 1 a0.Record 0 (X0j.mk 0 (X14.mk 0 0) (V2.mk 0 0))))) (cc .sc cn)))
 clear h
 have h := h18
 refine brE h ?_ ?_
 ·clear h; intro h15 h
  obtain rfl := oj h
  refine Xm tmD [.go false, .go false, .go false, .go false, .go false] ?_
  exact wkT [] (Xa.glue J)
 clear h; intro h15 h
 refine X3 h ?_
 clear h; intro v16 h17 h
 obtain rfl := oj h
 refine rn tmD [.go true, .go true, .go true, .go true, .pure [(aI .i64 a0.Record.Time)] (aB v16), .go true] rfl (by repeat' first|apply Ya|exact (pn (X64 _ _ h17) (cc .sc cn))|exact X00) ?_
 exact wkT [] (Xa.glue J)
theorem Xcz (a0 : Xq) (r : Int) (h : X8t a0 = some r) : X16 Tryz.prog 34 [(Xv a0)] (aI .i64 r) := by
 refine X16.sym Xe Xsl (nt := 11) rfl rfl ?_ (X6 (X68 _ _).1 X08)
 unfold X8t at h
 refine X3 h ?_
 clear h; intro v1 h2 h
 obtain rfl := oj h
 refine rn tmD [.pure [(Xv a0)] (AV.tup [(Xc v1.1), (aI .i64 v1.2)])] rfl (by repeat' first|apply Ya|exact (pn (Xft _ _ h2) (cc (Xff (x := a0)) cn))|exact X00) ?_
 exact X8 rfl .sc
theorem Xct {Q : X0d -> St -> Mu -> Prop} {μ : Mu} (X09 : Xn) (X9d : (List Int)) (hl : X9d.length <= 140737488355328) : ∀ (xs : List Int) (k : Nat) (hx : X9d.drop k = xs) (Xej : Bool) (o : X7c) (h : X5f X09 X9d xs k Xej = some o)
  (C0 : ∀ (Xbj : Bool), o = X7c.x0 Xbj -> Xa Tryz.prog 202 0 Q (.exit (.exit 0)) [] ⟨fr [(1, (AV.ptr 0 0 0)), (11, (aB Xbj))], hp ([(0, Ob [(Xg false X09)] 9)]), 1⟩ μ),
  Xa Tryz.prog 202 0 Q (.loop (X7i 0 (X01 Tryz.f17))) [] ⟨fr [(1, (AV.ptr 0 0 0)), (11, (aB Xej)), (122, (Lf (List.map (aI .i64) X9d))), (123, (aI .i64 (X9d.length : Int))), (124, (aI .i64 (k : Int)))], hp ([(0, Ob [(Xg false X09)] 9)]), 1⟩ μ := by
 intro xs
 induction xs with
 | nil =>
  intro k hx Xej o h C0
  have hk := X2m hx
  have hc : decide ((k : Int) < (X9d.length : Int)) = false := Yf (by omega)
  rw [X5f] at h
  refine Xa.round ?_
  obtain rfl := oj h
  refine Xm tmD [Bf] ?_
  exact wkT [] (C0 _  rfl)
 | cons x xs ih =>
  intro k hx Xej o h C0
  obtain ⟨hk, hg, hx1⟩ := X20 hx
  have hc : decide ((k : Int) < (X9d.length : Int)) = true := Yt (by omega)
  rw [X5f] at h
  refine Xa.round ?_
  refine X3 h ?_
  clear h; intro Xkx h76 h
  refine Xm tmD [Bt, .el (aI .i64 x), .stop 10] ?_
  refine Xa.join (s' := ⟨fr [(1, (AV.ptr 0 0 0)), (11, (aB Xkx)), (122, (Lf (List.map (aI .i64) X9d))), (123, (aI .i64 (X9d.length : Int))), (124, (aI .i64 (k : Int)))], hp ([(0, Ob [(Xg false X09)] 9)]), 1⟩) ?_ (fun J => Xa.cut ?_)
  ·
   refine Xm tmD [] ?_
   exact wkT [] (ih (k + 1) hx1 _ o h C0)
  clear h
  have h := h76
  refine brE h ?_ ?_
  ·clear h; intro h73 h
   refine X3 h ?_
   clear h; intro v74 h75 h
   obtain rfl := oj h
   refine rn tmD [.go true, .go true, .pure [(aI .i64 x)] (aB v74)] rfl (by repeat' first|apply Ya|exact (pn (Xel _ _ h75) (cc .sc cn))|exact X00) ?_
   exact wkT [] (Xa.glue J)
  clear h; intro h73 h
  obtain rfl := oj h
  refine Xm tmD [.go false, .go false] ?_
  exact wkT [] (Xa.glue J)
theorem Xcs {Q : X0d -> St -> Mu -> Prop} {μ : Mu} (Xcn : Xn) (X9c : (List Xq)) (hl : X9c.length <= 140737488355328) : ∀ (xs : List Xq) (k : Nat) (hx : X9c.drop k = xs) (Xeh : Bool) (o : X7b) (h : X5e Xcn X9c xs k Xeh = some o)
  (C0 : ∀ (Xbi : Bool), o = X7b.x0 Xbi -> Xa Tryz.prog 202 0 Q (.exit (.exit 2)) [] ⟨fr [(1, (AV.ptr 0 0 0)), (11, (aB Xbi))], hp ([(0, Ob [(Xg false Xcn)] 9)]), 1⟩ μ),
  Xa Tryz.prog 202 0 Q (.loop (X7i 1 (X01 Tryz.f17))) [] ⟨fr [(1, (AV.ptr 0 0 0)), (11, (aB Xeh)), (135, (Lf (X9c.map Xv))), (136, (aI .i64 (X9c.length : Int))), (137, (aI .i64 (k : Int)))], hp ([(0, Ob [(Xg false Xcn)] 9)]), 1⟩ μ := by
 intro xs
 induction xs with
 | nil =>
  intro k hx Xeh o h C0
  have hk := X2m hx
  have hc : decide ((k : Int) < (X9c.length : Int)) = false := Yf (by omega)
  rw [X5e] at h
  refine Xa.round ?_
  obtain rfl := oj h
  refine Xm tmD [Bf] ?_
  exact wkT [] (C0 _  rfl)
 | cons x xs ih =>
  intro k hx Xeh o h C0
  obtain ⟨hk, hg, hx1⟩ := X20 hx
  have hc : decide ((k : Int) < (X9c.length : Int)) = true := Yt (by omega)
  rw [X5e] at h
  refine Xa.round ?_
  refine X3 h ?_
  clear h; intro Xi8 h105 h
  refine Xm tmD [Bt, .el (Xv x), .stop 15] ?_
  refine Xa.join (s' := ⟨fr [(1, (AV.ptr 0 0 0)), (11, (aB Xi8)), (135, (Lf (X9c.map Xv))), (136, (aI .i64 (X9c.length : Int))), (137, (aI .i64 (k : Int)))], hp ([(0, Ob [(Xg false Xcn)] 9)]), 1⟩) ?_ (fun J => Xa.cut ?_)
  ·
   refine Xm tmD [] ?_
   exact wkT [] (ih (k + 1) hx1 _ o h C0)
  clear h
  have h := h105
  refine brE h ?_ ?_
  ·clear h; intro h102 h
   refine X3 h ?_
   clear h; intro v103 h104 h
   obtain rfl := oj h
   refine rn tmD [.go true, .go true, .pure [(Xv x)] (aI .i64 v103), .go true] rfl (by repeat' first|apply Ya|exact (pn (Xcz _ _ h104) (cc (Xff (x := x)) cn))|exact X00) ?_
   exact wkT [] (Xa.glue J)
  clear h; intro h102 h
  obtain rfl := oj h
  refine Xm tmD [.go false, .go false, .go false] ?_
  exact wkT [] (Xa.glue J)
theorem Xcr {Q : X0d -> St -> Mu -> Prop} {μ : Mu} (Xj1 : Xn) (X9b : (List X0j)) (hl : X9b.length <= 140737488355328) : ∀ (xs : List X0j) (k : Nat) (hx : X9b.drop k = xs) (Xef : Bool) (o : X7a) (h : X5d Xj1 X9b xs k Xef = some o)
  (C0 : ∀ (Xbh : Bool), o = X7a.x0 Xbh -> Xa Tryz.prog 202 0 Q (.exit (.exit 4)) [] ⟨fr [(1, (AV.ptr 0 0 0)), (11, (aB Xbh))], hp ([(0, Ob [(Xg false Xj1)] 9)]), 1⟩ μ),
  Xa Tryz.prog 202 0 Q (.loop (X7i 2 (X01 Tryz.f17))) [] ⟨fr [(1, (AV.ptr 0 0 0)), (11, (aB Xef)), (149, (Lf (X9b.map Xk))), (150, (aI .i64 (X9b.length : Int))), (151, (aI .i64 (k : Int)))], hp ([(0, Ob [(Xg false Xj1)] 9)]), 1⟩ μ := by
 intro xs
 induction xs with
 | nil =>
  intro k hx Xef o h C0
  have hk := X2m hx
  have hc : decide ((k : Int) < (X9b.length : Int)) = false := Yf (by omega)
  rw [X5d] at h
  refine Xa.round ?_
  obtain rfl := oj h
  refine Xm tmD [Bf] ?_
  exact wkT [] (C0 _  rfl)
 | cons x xs ih =>
  intro k hx Xef o h C0
  obtain ⟨hk, hg, hx1⟩ := X20 hx
  have hc : decide ((k : Int) < (X9b.length : Int)) = true := Yt (by omega)
  rw [X5d] at h
  refine Xa.round ?_
  refine X3 h ?_
  clear h; intro Xi3 h134 h
  refine Xm tmD [Bt, .el (Xk x), .stop 20] ?_
  refine Xa.join (s' := ⟨fr [(1, (AV.ptr 0 0 0)), (11, (aB Xi3)), (149, (Lf (X9b.map Xk))), (150, (aI .i64 (X9b.length : Int))), (151, (aI .i64 (k : Int)))], hp ([(0, Ob [(Xg false Xj1)] 9)]), 1⟩) ?_ (fun J => Xa.cut ?_)
  ·
   refine Xm tmD [] ?_
   exact wkT [] (ih (k + 1) hx1 _ o h C0)
  clear h
  have h := h134
  refine brE h ?_ ?_
  ·clear h; intro h131 h
   refine X3 h ?_
   clear h; intro v132 h133 h
   obtain rfl := oj h
   refine rn tmD [.go true, .go true, .go true, .pure [(Xc (Xt.mk 3 (Xb.mk 0 0 0) 0 x))] (aI .i64 v132), .go true] rfl (by repeat' first|apply Ya|exact (pn (X1v _ _ h133) (cc (X0h (x := (Xt.mk 3 (Xb.mk 0 0 0) 0 x))) cn))|exact X00) ?_
   exact wkT [] (Xa.glue J)
  clear h; intro h131 h
  obtain rfl := oj h
  refine Xm tmD [.go false, .go false, .go false, .go false] ?_
  exact wkT [] (Xa.glue J)
theorem Xcq {Q : X0d -> St -> Mu -> Prop} {μ : Mu} (Xj0 : Xn) (X9a : (List Xb)) (hl : X9a.length <= 140737488355328) : ∀ (xs : List Xb) (k : Nat) (hx : X9a.drop k = xs) (Xee : Bool) (o : X79) (h : X5c Xj0 X9a xs k Xee = some o)
  (C0 : ∀ (Xbg : Bool), o = X79.x0 Xbg -> Xa Tryz.prog 202 0 Q (.exit (.exit 6)) [] ⟨fr [(1, (AV.ptr 0 0 0)), (11, (aB Xbg))], hp ([(0, Ob [(Xg false Xj0)] 9)]), 1⟩ μ),
  Xa Tryz.prog 202 0 Q (.loop (X7i 3 (X01 Tryz.f17))) [] ⟨fr [(1, (AV.ptr 0 0 0)), (11, (aB Xee)), (164, (Lf (X9a.map Xs))), (165, (aI .i64 (X9a.length : Int))), (166, (aI .i64 (k : Int)))], hp ([(0, Ob [(Xg false Xj0)] 9)]), 1⟩ μ := by
 intro xs
 induction xs with
 | nil =>
  intro k hx Xee o h C0
  have hk := X2m hx
  have hc : decide ((k : Int) < (X9a.length : Int)) = false := Yf (by omega)
  rw [X5c] at h
  refine Xa.round ?_
  obtain rfl := oj h
  refine Xm tmD [Bf] ?_
  exact wkT [] (C0 _  rfl)
 | cons x xs ih =>
  intro k hx Xee o h C0
  obtain ⟨hk, hg, hx1⟩ := X20 hx
  have hc : decide ((k : Int) < (X9a.length : Int)) = true := Yt (by omega)
  rw [X5c] at h
  refine Xa.round ?_
  refine X3 h ?_
  clear h; intro Xhy h163 h
  refine Xm tmD [Bt, .el (Xs x), .stop 25] ?_
  refine Xa.join (s' := ⟨fr [(1, (AV.ptr 0 0 0)), (11, (aB Xhy)), (164, (Lf (X9a.map Xs))), (165, (aI .i64 (X9a.length : Int))), (166, (aI .i64 (k : Int)))], hp ([(0, Ob [(Xg false Xj0)] 9)]), 1⟩) ?_ (fun J => Xa.cut ?_)
  ·
   refine Xm tmD [] ?_
   exact wkT [] (ih (k + 1) hx1 _ o h C0)
  clear h
  have h := h163
  refine brE h ?_ ?_
  ·clear h; intro h160 h
   refine X3 h ?_
   clear h; intro v161 h162 h
   obtain rfl := oj h
   refine rn tmD [.go true, .go true, .go true, .pure [(Xc (Xt.mk 4 x 0 (X0j.mk 0 (X14.mk 0 0) (V2.mk 0 0))))] (aI .i64 v161), .go true] rfl (by repeat' first|apply Ya|exact (pn (X1v _ _ h162) (cc (X0h (x := (Xt.mk 4 x 0 (X0j.mk 0 (X14.mk 0 0) (V2.mk 0 0))))) cn))|exact X00) ?_
   exact wkT [] (Xa.glue J)
  clear h; intro h160 h
  obtain rfl := oj h
  refine Xm tmD [.go false, .go false, .go false, .go false] ?_
  exact wkT [] (Xa.glue J)
end Go.Av.Tryz