/- Printed by decomp.py: that the program computes the functions. -/
import Derived.Test.YtfdfgobnpnoomaaGreatDCert8Z
set_option linter.all false

namespace Go.Av.Tryz
open Go.Proofs Go.D
set_option maxRecDepth 10000
set_option maxHeartbeats 40000000
theorem Xw (a0 : (List Xb)) (a1 : Xb) (r : Int × Bool) (h : Xr a0 a1 = some r) : X19 Tryz.prog 119 [(Lf (a0.map X2)), (X2 a1), (AV.fn 110 [])] (AV.tup [(aI .i64 r.1), (aB r.2)]) := by
 refine X19.sym Xg X04s (nt := 49) rfl rfl ?_ (Xf .list (Xf (X56 _ _).1 (Xf Xuy X08)))
 unfold Xr at h
 refine X9 h ?_
 clear h; intro o20 h21 h
 refine Xe tmD [.el (aI .i64 (a0.length : Int))] ?_
 refine wkT [] (Xa.cut (X4f a0 a1 (a0.length : Int) _ _ _ _ h21 ?_))
 intro Xej eo20; subst eo20
 refine Xa.glue ?_
 try dsimp only at h
 refine X9 h ?_
 clear h; intro X00x h33 h
 refine Xe tmD [.stop 8] ?_
 refine Xa.join (s' := ⟨fr [(6, (aI .i64 Xej)), (7, (aB X00x))], hp ([]), 0⟩) ?_ (fun J => Xa.cut ?_)
 ·
  obtain rfl := oj h
  refine Xe tmD [] ?_
  exact X6 rfl (Xl (cc .sc (cc .sc cn)))
 clear h
 have h := h33
 refine brE h ?_ ?_
 ·clear h; intro h28 h
  refine X9 h ?_
  clear h; intro e29 h30 h
  try have qh30 := Xz h30
  refine X9 h ?_
  clear h; intro v31 h32 h
  obtain rfl := oj h
  refine rn tmD [.go true, .go true, .go true, .go true, .el (X2 e29), .go true, .go true, .go true, .pure [(X2 e29), (X2 a1)] (aI .i64 v31), .go true] rfl (by repeat' first|apply Ya|exact (pn (X8n _ _ _ h32) (cc (X0t (x := e29)) (cc (X0t (x := a1)) cn)))|exact Xv) ?_
  exact wkT [] (Xa.glue J)
 clear h; intro h28 h
 obtain rfl := oj h
 refine Xe tmD [.go false, .go false, .go false, .go false, .go false, .go false, .go false, .go false, .go false] ?_
 exact wkT [] (Xa.glue J)
theorem X1g (a0 : X1j) (a1 : X1j) (r : X1j × Int) (h : X2s a0 a1 = some r) : X19 Tryz.prog 142 [(X04 a0), (X04 a1)] (AV.tup [(X04 r.1), (aI .i64 r.2)]) := by
 refine X19.sym Xg X04h (nt := 53) rfl rfl ?_ (Xf (X5z _ _).1 (Xf (X5z _ _).1 X08))
 unfold X2s at h
 refine X9 h ?_
 clear h; intro X00j h12 h
 refine Xe tmD [.stop 1] ?_
 refine Xa.join (s' := ⟨fr [(2, (AV.ptr 0 0 0)), (3, (AV.ptr 1 0 0)), (4, (AV.ptr 2 0 0)), (13, (aB X00j))], hp ([(0, Ob [(X04 a0)] 4), (1, Ob [(X04 a1)] 4), (2, Ob [(X04 (X1j.mk 0 0 0 0))] 4)]), 3⟩) ?_ (fun J => Xa.cut ?_)
 ·
  refine brE h ?_ ?_
  ·clear h; intro h13 h
   obtain rfl := oj h
   refine Xe tmD [Bt] ?_
   exact X6 rfl (Xl (cc (X0f (x := (X1j.mk 0 0 0 0))) (cc .sc cn)))
  clear h; intro h13 h
  refine brE h ?_ ?_
  ·clear h; intro h14 h
   obtain rfl := oj h
   refine Xe tmD [Bf, .wrap, Bt] ?_
   exact X6 rfl (Xl (cc (X0f (x := (X1j.mk 0 0 0 0))) (cc .sc cn)))
  clear h; intro h14 h
  refine brE h ?_ ?_
  ·clear h; intro h15 h
   obtain rfl := oj h
   refine Xe tmD [Bf, .wrap, Bf, Bt] ?_
   exact X6 rfl (Xl (cc (X0f (x := a1)) (cc .sc cn)))
  clear h; intro h15 h
  refine brE h ?_ ?_
  ·clear h; intro h16 h
   obtain rfl := oj h
   refine Xe tmD [Bf, .wrap, Bf, Bf, Bt] ?_
   exact X6 rfl (Xl (cc (X0f (x := a0)) (cc .sc cn)))
  clear h; intro h16 h
  obtain rfl := oj h
  refine Xe tmD [Bf, .wrap, Bf, Bf, Bf, .wrap, .wrap] ?_
  exact X6 rfl (Xl (cc (X0f (x := (X1j.mk (IntKind.i64.wrap (a0.Count + a1.Count)) (IntKind.i64.wrap (a0.Sum + a1.Sum)) (if a1.Min < a0.Min then a1.Min else a0.Min) (if a1.Max > a0.Max then a1.Max else a0.Max)))) (cc .sc cn)))
 clear h
 have h := h12
 refine X9 h ?_
 clear h; intro v7 h8 h
 refine brE h ?_ ?_
 ·clear h; intro h9 h
  obtain rfl := oj h
  refine rn tmD [.pure [(X04 a0)] (aI .i64 v7), .go false, .go false, .go false] rfl (by repeat' first|apply Ya|exact (pn (X0l _ _ h8) (cc (X0f (x := a0)) cn))|exact Xv) ?_
  exact wkT [] (Xa.glue J)
 clear h; intro h9 h
 refine X9 h ?_
 clear h; intro v10 h11 h
 obtain rfl := oj h
 refine rn tmD [.pure [(X04 a0)] (aI .i64 v7), .go true, .go true, .pure [(X04 a1)] (aI .i64 v10), .go true] rfl (by repeat' first|apply Ya|exact (pn (X0l _ _ h8) (cc (X0f (x := a0)) cn))|exact (pn (X0l _ _ h11) (cc (X0f (x := a1)) cn))|exact Xv) ?_
 exact wkT [] (Xa.glue J)
theorem X7c (a0 : Int) (a1 : Int) (r : Int) (h : Xan a0 a1 = some r) : X19 Tryz.prog 178 [(aI .i64 a0), (aI .i64 a1)] (aI .i64 r) := by
 refine X19.sym Xg X047 (nt := 17) rfl rfl ?_ (Xf .sc (Xf .sc X08))
 unfold Xan at h
 refine brE h ?_ ?_
 ·clear h; intro h1 h
  obtain rfl := oj h
  refine Xe tmD [Bt] ?_
  exact X6 rfl .sc
 clear h; intro h1 h
 refine brE h ?_ ?_
 ·clear h; intro h2 h
  obtain rfl := oj h
  refine Xe tmD [Bf, Bt] ?_
  exact X6 rfl .sc
 clear h; intro h2 h
 obtain rfl := oj h
 refine Xe tmD [Bf, Bf] ?_
 exact X6 rfl .sc
theorem Xct (a0 : Int) (a1 : Int) (r : Int × Int) (h : X7d a0 a1 = some r) : X19 Tryz.prog 143 [(aI .i64 a0), (aI .i64 a1)] (AV.tup [(aI .i64 r.1), (aI .i64 r.2)]) := by
 refine X19.sym Xg X04g (nt := 24) rfl rfl ?_ (Xf .sc (Xf .sc X08))
 unfold X7d at h
 refine X9 h ?_
 clear h; intro v1 h2 h
 refine brE h ?_ ?_
 ·clear h; intro h3 h
  obtain rfl := oj h
  refine rn tmD [.pure [(aI .i64 a0), (aI .i64 a1)] (aI .i64 v1), Bt] rfl (by repeat' first|apply Ya|exact (pn (X7c _ _ _ h2) (cc .sc (cc .sc cn)))|exact Xv) ?_
  exact X6 rfl (Xl (cc .sc (cc .sc cn)))
 clear h; intro h3 h
 refine X9 h ?_
 clear h; intro u4 h5 h
 refine X9 h ?_
 clear h; intro j7_7 h9 h
 refine rn tmD [.pure [(aI .i64 a0), (aI .i64 a1)] (aI .i64 v1), Bf, .wrap] rfl (by repeat' first|apply Ya|exact (pn (X7c _ _ _ h2) (cc .sc (cc .sc cn)))|exact Xv) ?_
 refine Xa.join (s' := ⟨fr [(7, (aI .i64 j7_7))], hp ([]), 0⟩) ?_ (fun J => Xa.cut ?_)
 ·
  obtain rfl := oj h
  refine Xe tmD [] ?_
  exact X6 rfl (Xl (cc .sc (cc .sc cn)))
 clear h
 have h := h9
 refine brE h ?_ ?_
 ·clear h; intro h8 h
  obtain rfl := oj h
  refine rn tmD [Bt, .wrap] rfl (by repeat' first|apply Ya|exact (pn (X7c _ _ _ h2) (cc .sc (cc .sc cn)))|exact Xv) ?_
  exact wkT [] (Xa.glue J)
 clear h; intro h8 h
 obtain rfl := oj h
 refine rn tmD [Bf] rfl (by repeat' first|apply Ya|exact (pn (X7c _ _ _ h2) (cc .sc (cc .sc cn)))|exact Xv) ?_
 exact wkT [] (Xa.glue J)
theorem X5t (a0 : Int) (a1 : Int) (r : X13 × Int) (h : Xbj a0 a1 = some r) : X19 Tryz.prog 117 [(aI .i64 a0), (aI .i64 a1)] (AV.tup [(X01 r.1), (aI .i64 r.2)]) := by
 refine X19.sym Xg X04u (nt := 26) rfl rfl ?_ (Xf .sc (Xf .sc X08))
 unfold Xbj at h
 refine X9 h ?_
 clear h; intro v1 h2 h
 refine brE h ?_ ?_
 ·clear h; intro h3 h
  obtain rfl := oj h
  refine rn tmD [.pure [(aI .i64 a0), (aI .i64 a1)] (AV.tup [(aI .i64 v1.1), (aI .i64 v1.2)]), Bt] rfl (by repeat' first|apply Ya|exact (pn (Xct _ _ _ h2) (cc .sc (cc .sc cn)))|exact Xv) ?_
  exact X6 rfl (Xl (cc (Xoy (x := (X13.mk 0 0))) (cc .sc cn)))
 clear h; intro h3 h
 obtain rfl := oj h
 refine rn tmD [.pure [(aI .i64 a0), (aI .i64 a1)] (AV.tup [(aI .i64 v1.1), (aI .i64 v1.2)]), Bf, .wrap, .wrap, .wrap] rfl (by repeat' first|apply Ya|exact (pn (Xct _ _ _ h2) (cc .sc (cc .sc cn)))|exact Xv) ?_
 exact X6 rfl (Xl (cc (Xoy (x := (X13.mk (IntKind.i64.wrap (v1.1 * a1)) (IntKind.i64.wrap ((IntKind.i64.wrap (v1.1 + 1)) * a1))))) (cc .sc cn)))
theorem Xiv {Q : X0d -> St -> Mu -> Prop} {μ : Mu} (X14 : Int) (Xf9 : Int) (y0_2 : Int) : ∀ (n : Nat) (Xm : (List X13)) (Xin : Int) (X1l : Nb Xm) (o : Xb2) (h : X5u X14 Xf9 y0_2 n Xm Xin = some o)
  (C0 : ∀ (Xq : (List X13)) (X0i : Nb Xq), o = Xb2.x0 Xq -> Xa Tryz.prog 70 0 Q (.exit (.exit 0)) [] ⟨fr [(10, (slE X0i.1 0 (Xq.map X01)))], hp ([] ++ opE X0i.1 0 2 (Xq.map X01)), 1⟩ μ),
  Xa Tryz.prog 70 0 Q (.loop (X5o 0 (Xt Tryz.f118))) [] ⟨fr [(0, (aI .i64 X14)), (1, (aI .i64 Xf9)), (2, (aI .i64 y0_2)), (10, (slE X1l.1 0 (Xm.map X01))), (11, (aI .i64 Xin))], hp ([] ++ opE X1l.1 0 2 (Xm.map X01)), 1⟩ μ := by
 intro n
 induction n with
 | zero => intro Xm Xin X1l o h C0; cases h
 | succ n ih =>
  intro Xm Xin X1l o h C0
  rw [X5u] at h
  rcases X1l with ⟨_ | _, X49⟩
  ·
   refine Xa.round ?_
   refine brE h ?_ ?_
   ·clear h; intro h18 h
    refine X9 h ?_
    clear h; intro u19 h20 h
    refine rn tmD [.wrap, Bt, .wrap, .no, .wrap] rfl (by repeat' first | refine Ya ?_ ?_ | (refine X0w h20 rfl ?_; first | (simp; done) | (simp; omega) | (simp [h18]; done) | (simp [h18]; omega)) | (refine X0a h20 (by decide) ?_; first | (simp; done) | (simp; omega) | (simp [h18]; done) | (simp [h18]; omega))|exact Xv) ?_
    exact wkT [(0, 2)] (ih  _ _ nbF o h C0)
   clear h; intro h18 h
   obtain rfl := oj h
   refine Xe tmD [.wrap, Bf] ?_
   exact wkT [] (C0 _  nbF rfl)
  obtain rfl := X49 rfl
  refine Xa.round ?_
  refine brE h ?_ ?_
  ·clear h; intro h21 h
   refine X9 h ?_
   clear h; intro u22 h23 h
   refine rn tmD [.wrap, Bt, .wrap, .no, .wrap] rfl (by repeat' first | refine Ya ?_ ?_ | (refine X0w h23 rfl ?_; first | (simp; done) | (simp; omega) | (simp [h21]; done) | (simp [h21]; omega)) | (refine X0a h23 (by decide) ?_; first | (simp; done) | (simp; omega) | (simp [h21]; done) | (simp [h21]; omega))|exact Xv) ?_
   exact wkT [(0, 2)] (ih  _ _ nbF o h C0)
  clear h; intro h21 h
  obtain rfl := oj h
  refine Xe tmD [.wrap, Bf] ?_
  exact wkT [] (C0 _  (nbT (by first | rfl | simp [*])) rfl)
theorem Xap {Q : X0d -> St -> Mu -> Prop}  {rb rD : Nat} {rr : Loop} (rh1 : rr.state = .ready) (rh2 : rr.pending = none) (rh3 : rr.params = (rfB 0 (Xt Tryz.f118)).1) (rh4 : rr.assign = (rfB 0 (Xt Tryz.f118)).2.1) (rh5 : rr.body = (rfB 0 (Xt Tryz.f118)).2.2) (X1n : (List X13)) (Xie : Nb X1n) : ∀ (n : Nat) (X1k : (List X13)) (Xlv : Int) (X40 : Nb X1k) (o : X88) (h : X3u X1n n X1k Xlv = some o)
  (C0 : ∀ (X2y : (List X13)) (Xd5 : (List X13)) (X3s : Nb X2y) (X75 : Nb Xd5), o = X88.x0 X2y Xd5 -> Xa Tryz.prog 19 3 Q (.exit (.exit 0)) [] ⟨fr [], hp ([(1, Ob [(slE X3s.1 3 (X2y.map X01))] 1), (2, Ob [(slE X75.1 4 (Xd5.map X01))] 1)] ++ opE X3s.1 3 2 (X2y.map X01) ++ opE X75.1 4 2 (Xd5.map X01)), 5⟩ [(rb, MuE.loop rr 70 3 (fr [(12, (AV.ptr 1 0 0)), (62, (AV.fn 179 [(AV.ptr 2 0 0)]))])), (rD, MuE.blk (Go.Obj.deferred (some [])))]),
  Xa Tryz.prog 19 3 Q (.loop (X5o 0 (Xt Tryz.f179))) [] ⟨fr [(0, (AV.sc (.func (.yield rb) #[] #[]))), (1, (AV.ptr 2 0 0)), (3, (aI .i64 Xlv))], hp ([(1, Ob [(slE X40.1 3 (X1k.map X01))] 1), (2, Ob [(slE Xie.1 4 (X1n.map X01))] 1)] ++ opE X40.1 3 2 (X1k.map X01) ++ opE Xie.1 4 2 (X1n.map X01)), 5⟩ [(rb, MuE.loop rr 70 3 (fr [(12, (AV.ptr 1 0 0)), (62, (AV.fn 179 [(AV.ptr 2 0 0)]))])), (rD, MuE.blk (Go.Obj.deferred (some [])))] := by
 intro n
 induction n with
 | zero => intro X1k Xlv X40 o h C0; cases h
 | succ n ih =>
  intro X1k Xlv X40 o h C0
  rw [X3u] at h
  rcases X40 with ⟨_ | _, Xco⟩
  ·
   rcases Xie with ⟨_ | _, Xn2⟩
   ·
    refine Xa.round ?_
    refine brE h ?_ ?_
    ·clear h; intro h67 h
     refine X9 h ?_
     clear h; intro e68 h69 h
     try have qh69 := Xz h69
     refine Xe tmD [Bt, .el (X01 e68), .ld (X01 e68)] ?_
     refine Xa.yield rfl rfl rfl rfl rfl trivial trivial (.head _) rh1 rh2 rh3 rh4 rh5 rfl rfl ?_
     refine Xe tmD [] ?_
     refine Xa.asg ?_
     refine X9 h ?_
     clear h; intro u72 h73 h
     refine rn tmD [.no] rfl (by repeat' first | refine Ya ?_ ?_ | (refine X0w h73 rfl ?_; first | (simp; done) | (simp; omega) | (simp [h67]; done) | (simp [h67]; omega)) | (refine X0a h73 (by decide) ?_; first | (simp; done) | (simp; omega) | (simp [h67]; done) | (simp [h67]; omega))|exact Xv) ?_
     refine Xa.rndEnd ?_
     refine rn tmD [Bf, .wrap] rfl (by repeat' first | refine Ya ?_ ?_ | (refine X0w h73 rfl ?_; first | (simp; done) | (simp; omega) | (simp [h67]; done) | (simp [h67]; omega)) | (refine X0a h73 (by decide) ?_; first | (simp; done) | (simp; omega) | (simp [h67]; done) | (simp [h67]; omega))|exact Xv) ?_
     exact wkT [(3, 7)] (ih  _ _ nbF o h C0)
    clear h; intro h67 h
    obtain rfl := oj h
    refine Xe tmD [Bf] ?_
    exact wkT [] (C0 _ _  nbF nbF rfl)
   obtain rfl := Xn2 rfl
   refine Xa.round ?_
   refine brE h ?_ ?_
   ·clear h; intro h74 h
    refine X9 h ?_
    clear h; intro e75 h76 h
    try have qh76 := Xz h76
    exact absurd (h76) (by simp [X2o])
   clear h; intro h74 h
   obtain rfl := oj h
   refine Xe tmD [Bf] ?_
   exact wkT [] (C0 _ _  nbF (nbT (by first | rfl | simp [*])) rfl)
  obtain rfl := Xco rfl
  rcases Xie with ⟨_ | _, Xn2⟩
  ·
   refine Xa.round ?_
   refine brE h ?_ ?_
   ·clear h; intro h77 h
    refine X9 h ?_
    clear h; intro e78 h79 h
    try have qh79 := Xz h79
    refine Xe tmD [Bt, .el (X01 e78), .ld (X01 e78)] ?_
    refine Xa.yield rfl rfl rfl rfl rfl trivial trivial (.head _) rh1 rh2 rh3 rh4 rh5 rfl rfl ?_
    refine Xe tmD [] ?_
    refine Xa.asg ?_
    refine X9 h ?_
    clear h; intro u82 h83 h
    refine rn tmD [.no] rfl (by repeat' first | refine Ya ?_ ?_ | (refine X0w h83 rfl ?_; first | (simp; done) | (simp; omega) | (simp [h77]; done) | (simp [h77]; omega)) | (refine X0a h83 (by decide) ?_; first | (simp; done) | (simp; omega) | (simp [h77]; done) | (simp [h77]; omega))|exact Xv) ?_
    refine Xa.rndEnd ?_
    refine rn tmD [Bf, .wrap] rfl (by repeat' first | refine Ya ?_ ?_ | (refine X0w h83 rfl ?_; first | (simp; done) | (simp; omega) | (simp [h77]; done) | (simp [h77]; omega)) | (refine X0a h83 (by decide) ?_; first | (simp; done) | (simp; omega) | (simp [h77]; done) | (simp [h77]; omega))|exact Xv) ?_
    exact wkT [(3, 7)] (ih  _ _ nbF o h C0)
   clear h; intro h77 h
   obtain rfl := oj h
   refine Xe tmD [Bf] ?_
   exact wkT [] (C0 _ _  (nbT (by first | rfl | simp [*])) nbF rfl)
  obtain rfl := Xn2 rfl
  refine Xa.round ?_
  refine brE h ?_ ?_
  ·clear h; intro h84 h
   refine X9 h ?_
   clear h; intro e85 h86 h
   try have qh86 := Xz h86
   exact absurd (h86) (by simp [X2o])
  clear h; intro h84 h
  obtain rfl := oj h
  refine Xe tmD [Bf] ?_
  exact wkT [] (C0 _ _  (nbT (by first | rfl | simp [*])) (nbT (by first | rfl | simp [*])) rfl)
theorem Xnx (a0 : Int) (a1 : Int) (a2 : Int) (r : (List X13) × Int) (h : Xdb a0 a1 a2 = some r) : X19 Tryz.prog 118 [(aI .i64 a0), (aI .i64 a1), (aI .i64 a2)] (AV.tup [(AV.list true (r.1.map X01)), (aI .i64 r.2)]) := by
 refine X19.sym Xg X04t (nt := 70) rfl rfl ?_ (Xf .sc (Xf .sc (Xf .sc X08)))
 unfold Xdb at h
 refine brE h ?_ ?_
 ·clear h; intro h1 h
  obtain rfl := oj h
  refine Xe tmD [.wrap, Bt] ?_
  exact X6 rfl (Xl (cc (Zn X01) (cc .sc cn)))
 clear h; intro h1 h
 refine X9 h ?_
 clear h; intro v2 h3 h
 refine brE h ?_ ?_
 ·clear h; intro h4 h
  obtain rfl := oj h
  refine rn tmD [.wrap, Bf, .pure [(aI .i64 a0), (aI .i64 a2)] (AV.tup [(X01 v2.1), (aI .i64 v2.2)]), Bt] rfl (by repeat' first|apply Ya|exact (pn (X5t _ _ _ h3) (cc .sc (cc .sc cn)))|exact Xv) ?_
  exact X6 rfl (Xl (cc (Zn X01) (cc .sc cn)))
 clear h; intro h4 h
 refine X9 h ?_
 clear h; intro o24 h25 h
 refine rn tmD [.wrap, Bf, .pure [(aI .i64 a0), (aI .i64 a2)] (AV.tup [(X01 v2.1), (aI .i64 v2.2)]), Bf] rfl (by repeat' first|apply Ya|exact (pn (X5t _ _ _ h3) (cc .sc (cc .sc cn)))|exact Xv) ?_
 refine wkT [] (Xa.cut (Xiv a0 a1 a2 _ _ _ (nbT (by first | rfl | simp [*])) _ h25 ?_))
 intro Xq X0i eo24; subst eo24
 refine Xa.glue ?_
 try dsimp only at h
 rcases X0i with ⟨_ | _, X35⟩
 ·
  refine Xe tmD [] ?_
  refine Xa.inline Xg X02y rfl rfl rfl rfl rfl trivial trivial rfl rfl ?_
  refine Xe tmD [] ?_
  refine Xa.back (by intro id h; cases h) rfl ?_
  refine Xe tmD [] ?_
  refine Xa.keepL [12, 62] ?_
  refine Xa.rangeFunc rfl trivial X02w rfl rfl rfl ?_
  intro rb rD rr rh1 rh2 rh3 rh4 rh5
  refine X9 h ?_
  clear h; intro o87 h88 h
  refine Xe tmD [.el (aI .i64 (Xq.length : Int)), .wrap] ?_
  refine wkT [(4, 0)] (Xa.cut (Xap rh1 rh2 rh3 rh4 rh5 Xq nbF _ _ _ (nbT (by first | rfl | simp [*])) _ h88 ?_))
  intro X2y Xd5 X3s X75 eo87; subst eo87
  refine Xa.glue ?_
  try dsimp only at h
  rcases X3s with ⟨_ | _, X8l⟩
  ·
   rcases X75 with ⟨_ | _, X8k⟩
   ·
    refine Xe tmD [] ?_
    refine Xa.rfEnd (by intro id h; cases h) ?_
    obtain rfl := oj h
    refine Xe tmD [] ?_
    exact X6 rfl (Xl (cc (X0o (es := X2y.map X01) rfl (by first | rfl | (simp; done) | (simp; rfl) | (simp [h1, h4]; done) | (simp [h1, h4]; rfl) | (simp [h1, h4, Ym, Yd]; done) | (simp [h1, h4, Ym, Yd]; rfl)) (by first | rfl | (simp; done) | (simp; omega) | (simp [h1, h4]; done) | (simp [h1, h4]; omega)) (X0 X8m X2y)) (cc .sc cn)))
   obtain rfl := X8k rfl
   refine Xe tmD [] ?_
   refine Xa.rfEnd (by intro id h; cases h) ?_
   obtain rfl := oj h
   refine Xe tmD [] ?_
   exact X6 rfl (Xl (cc (X0o (es := X2y.map X01) rfl (by first | rfl | (simp; done) | (simp; rfl) | (simp [h1, h4]; done) | (simp [h1, h4]; rfl) | (simp [h1, h4, Ym, Yd]; done) | (simp [h1, h4, Ym, Yd]; rfl)) (by first | rfl | (simp; done) | (simp; omega) | (simp [h1, h4]; done) | (simp [h1, h4]; omega)) (X0 X8m X2y)) (cc .sc cn)))
  obtain rfl := X8l rfl
  rcases X75 with ⟨_ | _, X8k⟩
  ·
   refine Xe tmD [] ?_
   refine Xa.rfEnd (by intro id h; cases h) ?_
   obtain rfl := oj h
   refine Xe tmD [] ?_
   exact X6 rfl (Xl (cc (Zn X01) (cc .sc cn)))
  obtain rfl := X8k rfl
  refine Xe tmD [] ?_
  refine Xa.rfEnd (by intro id h; cases h) ?_
  obtain rfl := oj h
  refine Xe tmD [] ?_
  exact X6 rfl (Xl (cc (Zn X01) (cc .sc cn)))
 obtain rfl := X35 rfl
 refine Xe tmD [] ?_
 refine Xa.inline Xg X02y rfl rfl rfl rfl rfl trivial trivial rfl rfl ?_
 refine Xe tmD [] ?_
 refine Xa.back (by intro id h; cases h) rfl ?_
 refine Xe tmD [] ?_
 refine Xa.keepL [12, 62] ?_
 refine Xa.rangeFunc rfl trivial X02w rfl rfl rfl ?_
 intro rb rD rr rh1 rh2 rh3 rh4 rh5
 refine X9 h ?_
 clear h; intro o130 h131 h
 refine Xe tmD [.el (aI .i64 (List.length ([] : List X13) : Int)), .wrap] ?_
 refine wkT [] (Xa.cut (Xap rh1 rh2 rh3 rh4 rh5 ([] : List X13) (nbT (by first | rfl | simp [*])) _ _ _ (nbT (by first | rfl | simp [*])) _ h131 ?_))
 intro X2y Xd5 X3s X75 eo130; subst eo130
 refine Xa.glue ?_
 try dsimp only at h
 rcases X3s with ⟨_ | _, X8l⟩
 ·
  rcases X75 with ⟨_ | _, X8k⟩
  ·
   refine Xe tmD [] ?_
   refine Xa.rfEnd (by intro id h; cases h) ?_
   obtain rfl := oj h
   refine Xe tmD [] ?_
   exact X6 rfl (Xl (cc (X0o (es := X2y.map X01) rfl (by first | rfl | (simp; done) | (simp; rfl) | (simp [h1, h4]; done) | (simp [h1, h4]; rfl) | (simp [h1, h4, Ym, Yd]; done) | (simp [h1, h4, Ym, Yd]; rfl)) (by first | rfl | (simp; done) | (simp; omega) | (simp [h1, h4]; done) | (simp [h1, h4]; omega)) (X0 X8m X2y)) (cc .sc cn)))
  obtain rfl := X8k rfl
  refine Xe tmD [] ?_
  refine Xa.rfEnd (by intro id h; cases h) ?_
  obtain rfl := oj h
  refine Xe tmD [] ?_
  exact X6 rfl (Xl (cc (X0o (es := X2y.map X01) rfl (by first | rfl | (simp; done) | (simp; rfl) | (simp [h1, h4]; done) | (simp [h1, h4]; rfl) | (simp [h1, h4, Ym, Yd]; done) | (simp [h1, h4, Ym, Yd]; rfl)) (by first | rfl | (simp; done) | (simp; omega) | (simp [h1, h4]; done) | (simp [h1, h4]; omega)) (X0 X8m X2y)) (cc .sc cn)))
 obtain rfl := X8l rfl
 rcases X75 with ⟨_ | _, X8k⟩
 ·
  refine Xe tmD [] ?_
  refine Xa.rfEnd (by intro id h; cases h) ?_
  obtain rfl := oj h
  refine Xe tmD [] ?_
  exact X6 rfl (Xl (cc (Zn X01) (cc .sc cn)))
 obtain rfl := X8k rfl
 refine Xe tmD [] ?_
 refine Xa.rfEnd (by intro id h; cases h) ?_
 obtain rfl := oj h
 refine Xe tmD [] ?_
 exact X6 rfl (Xl (cc (Zn X01) (cc .sc cn)))
theorem X87 (a0 : X0x) (a1 : Int) (r : (List X13) × Int) (h : Xfe a0 a1 = some r) : X19 Tryz.prog 83 [(X0g a0), (aI .i64 a1)] (AV.tup [(AV.list true (r.1.map X01)), (aI .i64 r.2)]) := by
 refine X19.sym Xg fn83 (nt := 40) rfl rfl ?_ (Xf (X4x _ _).1 (Xf .sc X08))
 unfold Xfe at h
 refine X9 h ?_
 clear h; intro v1 h2 h
 refine brE h ?_ ?_
 ·clear h; intro h3 h
  obtain rfl := oj h
  refine rn tmD [.pure [(X0g a0)] (aI .i64 v1), Bt] rfl (by repeat' first|apply Ya|exact (pn (X0c _ _ h2) (cc (X17 (x := a0)) cn))|exact Xv) ?_
  exact X6 rfl (Xl (cc (Zn X01) (cc .sc cn)))
 clear h; intro h3 h
 refine brE h ?_ ?_
 ·clear h; intro h4 h
  refine X9 h ?_
  clear h; intro v5 h6 h
  refine brE h ?_ ?_
  ·clear h; intro h7 h
   obtain rfl := oj h
   refine rn tmD [.pure [(X0g a0)] (aI .i64 v1), Bf, Bt, .pure [(aI .i64 a1), (aI .i64 a0.Size)] (AV.tup [(X01 v5.1), (aI .i64 v5.2)]), Bt] rfl (by repeat' first|apply Ya|exact (pn (X0c _ _ h2) (cc (X17 (x := a0)) cn))|exact (pn (X5t _ _ _ h6) (cc .sc (cc .sc cn)))|exact Xv) ?_
   exact X6 rfl (Xl (cc (Zn X01) (cc .sc cn)))
  clear h; intro h7 h
  obtain rfl := oj h
  refine rn tmD [.pure [(X0g a0)] (aI .i64 v1), Bf, Bt, .pure [(aI .i64 a1), (aI .i64 a0.Size)] (AV.tup [(X01 v5.1), (aI .i64 v5.2)]), Bf] rfl (by repeat' first|apply Ya|exact (pn (X0c _ _ h2) (cc (X17 (x := a0)) cn))|exact (pn (X5t _ _ _ h6) (cc .sc (cc .sc cn)))|exact Xv) ?_
  exact X6 rfl (Xl (cc (X0o (es := List.map X01 [v5.1]) rfl (by first | rfl | (simp; done) | (simp; rfl) | (simp [h3, h4, h7]; done) | (simp [h3, h4, h7]; rfl) | (simp [h3, h4, h7, Ym, Yd]; done) | (simp [h3, h4, h7, Ym, Yd]; rfl)) (by first | rfl | (simp; done) | (simp; omega) | (simp [h3, h4, h7]; done) | (simp [h3, h4, h7]; omega)) (X0 X8m [v5.1])) (cc .sc cn)))
 clear h; intro h4 h
 refine brE h ?_ ?_
 ·clear h; intro h8 h
  refine X9 h ?_
  clear h; intro v9 h10 h
  obtain rfl := oj h
  refine rn tmD [.pure [(X0g a0)] (aI .i64 v1), Bf, Bf, Bt, .pure [(aI .i64 a1), (aI .i64 a0.Size), (aI .i64 a0.Every)] (AV.tup [(AV.list true (v9.1.map X01)), (aI .i64 v9.2)])] rfl (by repeat' first|apply Ya|exact (pn (X0c _ _ h2) (cc (X17 (x := a0)) cn))|exact (pn (Xnx _ _ _ _ h10) (cc .sc (cc .sc (cc .sc cn))))|exact Xv) ?_
  exact X6 rfl (Xl (cc (.listS rfl) (cc .sc cn)))
 clear h; intro h8 h
 obtain rfl := oj h
 refine rn tmD [.pure [(X0g a0)] (aI .i64 v1), Bf, Bf, Bf] rfl (by repeat' first|apply Ya|exact (pn (X0c _ _ h2) (cc (X17 (x := a0)) cn))|exact Xv) ?_
 exact X6 rfl (Xl (cc (Zn X01) (cc .sc cn)))
end Go.Av.Tryz