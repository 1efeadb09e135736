/- Printed by decomp.py: that the program computes the functions. -/
import Derived.Test.YtfdfgobnpnoomaaGreatDCert9Z
set_option linter.all false

namespace Go.Av.Tryz
open Go.Proofs Go.D
set_option maxRecDepth 10000
set_option maxHeartbeats 40000000
theorem X1s {Q : X0d -> St -> Mu -> Prop} {μ : Mu} (X1k : (List Xb)) (X1n : Xb) (X40 : Nb X1k) (hl : X1k.length <= 140737488355328) : ∀ (xs : List Xb) (k : Nat) (hx : X1k.drop k = xs) (o : X0j) (h : Xs X1k X1n xs k  = some o)
  (C0 : o = X0j.x0 -> Xa Tryz.prog 19 5 Q (.exit (.exit 0)) [] ⟨fr [], hp ([(4, Ob [(X2 X1n)] 11)] ++ opE X40.1 3 11 (X1k.map X2)), 5⟩ μ)
  (C1 : ∀ (Xaj : Int), o = X0j.x1 Xaj -> Xa Tryz.prog 19 5 Q (.exit .ret) [] ⟨fr [(4, (aI .i64 Xaj))], hp ([(4, Ob [(X2 X1n)] 11)] ++ opE X40.1 3 11 (X1k.map X2)), 5⟩ μ),
  Xa Tryz.prog 19 5 Q (.loop (X5o 0 (Xt Tryz.f113))) [] ⟨fr [(0, (slE X40.1 3 (X1k.map X2))), (1, (AV.fn 114 [(AV.ptr 4 0 0)])), (7, (aI .i64 (X1k.length : Int))), (8, (aI .i64 (k : Int)))], hp ([(4, Ob [(X2 X1n)] 11)] ++ opE X40.1 3 11 (X1k.map X2)), 5⟩ μ := by
 intro xs
 induction xs with
 | nil =>
  intro k hx  o h C0 C1
  have hk := X1u hx
  have hc : decide ((k : Int) < (X1k.length : Int)) = false := Yf (by omega)
  rw [Xs] at h
  rcases X40 with ⟨_ | _, Xco⟩
  ·
   refine Xa.round ?_
   obtain rfl := oj h
   refine Xe tmD [Bf] ?_
   exact wkT [] (C0  rfl)
  ·
   obtain rfl := Xco rfl
   refine Xa.round ?_
   obtain rfl := oj h
   refine Xe tmD [Bf] ?_
   exact wkT [] (C0  rfl)
 | cons x xs ih =>
  intro k hx  o h C0 C1
  obtain ⟨hk, hg, hx1⟩ := X16 hx
  have hc : decide ((k : Int) < (X1k.length : Int)) = true := Yt (by omega)
  rw [Xs] at h
  rcases X40 with ⟨_ | _, Xco⟩
  ·
   refine Xa.round ?_
   refine Xe tmD [Bt, .el (X2 x), .ld (X2 x)] ?_
   refine Xa.inline Xg X04w rfl rfl rfl rfl rfl trivial trivial rfl rfl ?_
   refine Xe tmD [] ?_
   refine Xa.back (by intro id h; cases h) rfl ?_
   refine brE h ?_ ?_
   ·clear h; intro h1341 h
    obtain rfl := oj h
    refine Xe tmD [Bt] ?_
    exact wkT [] (C1 _  rfl)
   clear h; intro h1341 h
   refine Xe tmD [Bf] ?_
   exact wkT [] (ih (k + 1) hx1  o h C0 C1)
  obtain rfl := Xco rfl
  refine Xa.round ?_
  exact absurd hk (by simp)
theorem X6b {Q : X0d -> St -> Mu -> Prop} {μ : Mu} : ∀ (n : Nat) (X1k : (List Xb)) (X1n : Xb) (X40 : Nb X1k) (o : X4e) (h : X21  n X1k X1n = some o)
  (C0 : ∀ (X2y : (List Xb)) (Xak : Int) (X3s : Nb X2y), o = X4e.x0 X2y Xak -> Xa Tryz.prog 54 3 Q (.exit .ret) [] ⟨fr [(4, (slE X3s.1 3 (X2y.map X2))), (5, (aI .i64 Xak))], hp ([] ++ opE X3s.1 3 11 (X2y.map X2)), 4⟩ μ),
  Xa Tryz.prog 54 3 Q (.loop (X5o 0 (Xt Tryz.f82))) [] ⟨fr [(0, (slE X40.1 3 (X1k.map X2))), (3, (AV.ptr 4 0 0))], hp ([(4, Ob [(X2 X1n)] 11)] ++ opE X40.1 3 11 (X1k.map X2)), 5⟩ μ := by
 intro n
 induction n with
 | zero => intro X1k X1n X40 o h C0; cases h
 | succ n ih =>
  intro X1k X1n X40 o h C0
  rw [X21] at h
  rcases X40 with ⟨_ | _, Xco⟩
  ·
   refine Xa.round ?_
   refine X9 h ?_
   clear h; intro Xe8 h1344 h
   refine Xe tmD [] ?_
   refine Xa.joinOp (s' := ⟨fr [(0, (AV.ref 3 0 (X1k.length))), (3, (AV.ptr 4 0 0)), (10, (aI .i64 Xe8))], hp ([(3, Ob (X1k.map X2) 11), (4, Ob [(X2 X1n)] 11)]), 5⟩) ?_ (fun J => ?_)
   ·
    refine brE h ?_ ?_
    ·clear h; intro h1345 h
     refine X9 h ?_
     clear h; intro w1392 h1439 h
     obtain ⟨Xmy, Xt1⟩ := w1392
     try dsimp only at h
     refine Xe tmD [Bt] ?_
     refine Xa.joinOpF (fun (q : Nb Xmy) => ⟨fr [(15, (AV.tup [(slE q.1 3 (Xmy.map X2)), (aI .i64 Xt1)]))], hp ([] ++ opE q.1 3 11 (Xmy.map X2)), 4⟩) ?_ (fun J => ?_)
     ·
      rintro Xpo
      rcases Xpo with ⟨_ | _, Xqk⟩
      ·
       obtain rfl := oj h
       refine Xe tmD [] ?_
       exact wkT [] (C0 _ _  nbF rfl)
      obtain rfl := Xqk rfl
      obtain rfl := oj h
      refine Xe tmD [] ?_
      exact wkT [] (C0 _ _  (nbT (by first | rfl | simp [*])) rfl)
     clear h
     have h := h1439
     refine Xa.inline Xg fn84 rfl rfl rfl rfl rfl trivial trivial rfl rfl ?_
     refine X9 h ?_
     clear h; intro v1393 h1394 h
     refine brE h ?_ ?_
     ·clear h; intro h1395 h
      refine brE h ?_ ?_
      ·clear h; intro h1396 h
       refine X9 h ?_
       clear h; intro _ h1412 h
       refine rn tmD [.pure [(Lf (X1k.map X2)), (X2 X1n), (AV.fn 110 [])] (AV.tup [(aI .i64 v1393.1), (aB v1393.2)]), Bt] rfl (by repeat' first|apply Ya|exact (X2k.lent (Xw _ _ _ h1394) (cc (X0o (es := X1k.map X2) rfl (by first | rfl | (simp; done) | (simp; rfl) | (simp [h1345]; done) | (simp [h1345]; rfl) | (simp [h1345, Ym, Yd]; done) | (simp [h1345, Ym, Yd]; rfl)) (by first | rfl | (simp; done) | (simp; omega) | (simp [h1345]; done) | (simp [h1345]; omega)) (X0 X1f X1k)) (cc (X0t (x := X1n)) (cc .fn0 cn))) (Xa4 (Xf .sc (Xf .sc X08))))|exact Xv) ?_
       refine Xa.joinOp (s' := ⟨fr [(21, (AV.ref 5 0 (List.length (X1k ++ [X1n]))))], hp ([(5, Ob (List.map X2 (X1k ++ [X1n])) 11)]), 6⟩) ?_ (fun J => ?_)
       ·
        simp only [Option.some.injEq, Prod.mk.injEq] at h
        obtain ⟨rfl, rfl⟩ := h
        refine Xe tmD [] ?_
        refine Xa.back (by intro id h; cases h) rfl ?_
        exact wkT [(3, 5)] ((J nbF))
       clear h
       have h := h1412
       refine Xa.inline Xg Xtp rfl rfl rfl rfl rfl trivial trivial rfl rfl ?_
       refine X9 h ?_
       clear h; intro m1405 h1406 h
       obtain ⟨qah1406, qbh1406, qch1406, qh1406⟩ := X3v h1406
       have qlh1406 := X89 h1406
       refine brE h ?_ ?_
       ·clear h; intro h1407 h
        refine X9 h ?_
        clear h; intro u1408 h1409 h
        refine rn tmD [.ne false, Bf, .el (aI .i64 (X1k.length : Int)), Bt, .no] rfl (by repeat' first | refine Ya ?_ ?_ | (simp at qah1406 qbh1406 qch1406 ⊢; omega) | (simp at qah1406 qbh1406 qch1406 qlh1406 ⊢; have qz := X3k h1407; omega) | (refine X0w h1409 rfl ?_; first | (simp; done) | (simp; omega) | (simp [h1345, h1395, h1396, h1407]; done) | (simp [h1345, h1395, h1396, h1407]; omega)) | (refine X0a h1409 (by decide) ?_; first | (simp; done) | (simp; omega) | (simp [h1345, h1395, h1396, h1407]; done) | (simp [h1345, h1395, h1396, h1407]; omega))|exact Xv) ?_
        refine Xa.back (by intro id h; cases h) rfl ?_
        exact wkT [(5, 7)] (J)
       clear h; intro h1407 h
       refine X9 h ?_
       clear h; intro u1410 h1411 h
       refine rn tmD [.via (.ref 3 (Int.toNat v1393.1) (m1405.length)), Bf, .el (aI .i64 (X1k.length : Int)), Bt, .no] rfl (by repeat' first | refine Ya ?_ ?_ | (simp at qah1406 qbh1406 qch1406 ⊢; omega) | (simp at qah1406 qbh1406 qch1406 qlh1406 ⊢; have qz := X1h h1407; omega) | (simp at qah1406 qbh1406 qch1406 qlh1406 ⊢; omega) | (simp; done) | (refine X0w h1411 rfl ?_; first | (simp; done) | (simp; omega) | (simp [h1345, h1395, h1396, h1407]; done) | (simp [h1345, h1395, h1396, h1407]; omega)) | (refine X0a h1411 (by decide) ?_; first | (simp; done) | (simp; omega) | (simp [h1345, h1395, h1396, h1407]; done) | (simp [h1345, h1395, h1396, h1407]; omega))|exact Xv) ?_
       refine Xa.back (by intro id h; cases h) rfl ?_
       exact wkT [(5, 7)] (J)
      clear h; intro h1396 h
      refine X9 h ?_
      clear h; intro m1413 h1414 h
      refine rn tmD [.pure [(Lf (X1k.map X2)), (X2 X1n), (AV.fn 110 [])] (AV.tup [(aI .i64 v1393.1), (aB v1393.2)]), Bt] rfl (by repeat' first|apply Ya|exact (X2k.lent (Xw _ _ _ h1394) (cc (X0o (es := X1k.map X2) rfl (by first | rfl | (simp; done) | (simp; rfl) | (simp [h1345]; done) | (simp [h1345]; rfl) | (simp [h1345, Ym, Yd]; done) | (simp [h1345, Ym, Yd]; rfl)) (by first | rfl | (simp; done) | (simp; omega) | (simp [h1345]; done) | (simp [h1345]; omega)) (X0 X1f X1k)) (cc (X0t (x := X1n)) (cc .fn0 cn))) (Xa4 (Xf .sc (Xf .sc X08))))|exact Xv) ?_
      refine Xa.hcall rfl rfl rfl rfl rfl trivial trivial (Xro ⟨_, _, Xtp⟩ (f := X2) (l := X1k) (x := X1n) h1414 rfl rfl rfl (by first | rfl | simp)) ?_
      simp only [Option.some.injEq, Prod.mk.injEq] at h
      obtain ⟨rfl, rfl⟩ := h
      refine Xe tmD [] ?_
      refine Xa.back (by intro id h; cases h) rfl ?_
      exact wkT [(3, 7)] ((J nbF))
     clear h; intro h1395 h
     refine rn tmD [.pure [(Lf (X1k.map X2)), (X2 X1n), (AV.fn 110 [])] (AV.tup [(aI .i64 v1393.1), (aB v1393.2)]), Bf, .stop 4] rfl (by repeat' first|apply Ya|exact (X2k.lent (Xw _ _ _ h1394) (cc (X0o (es := X1k.map X2) rfl (by first | rfl | (simp; done) | (simp; rfl) | (simp [h1345]; done) | (simp [h1345]; rfl) | (simp [h1345, Ym, Yd]; done) | (simp [h1345, Ym, Yd]; rfl)) (by first | rfl | (simp; done) | (simp; omega) | (simp [h1345]; done) | (simp [h1345]; omega)) (X0 X1f X1k)) (cc (X0t (x := X1n)) (cc .fn0 cn))) (Xa4 (Xf .sc (Xf .sc X08))))|exact Xv) ?_
     refine X9 h ?_
     clear h; intro e1415 h1416 h
     try have qh1416 := Xz h1416
     refine Xa.drawnCut 5 tmD [.el (X2 e1415)] rfl rfl rfl rfl rfl (by repeat' first|apply Ya|exact Xv) ?_
     refine X9 h ?_
     clear h; intro w1427 h1438 h
     obtain ⟨Xmx, Xy2⟩ := w1427
     try dsimp only at h
     refine Xe tmD [] ?_
     refine Xa.joinOpF (fun (q : Nb Xmx) => ⟨fr [(0, (slE q.1 5 (Xmx.map X2))), (27, (aI .i64 Xy2))], hp ([] ++ opE q.1 5 11 (Xmx.map X2)), 6⟩) ?_ (fun J => ?_)
     ·
      rintro Xpn
      rcases Xpn with ⟨_ | _, Xqj⟩
      ·
       simp only [Option.some.injEq, Prod.mk.injEq] at h
       obtain ⟨rfl, rfl⟩ := h
       refine Xe tmD [] ?_
       refine Xa.back (by intro id h; cases h) rfl ?_
       exact wkT [(3, 5)] ((J nbF))
      obtain rfl := Xqj rfl
      simp only [Option.some.injEq, Prod.mk.injEq] at h
      obtain ⟨rfl, rfl⟩ := h
      refine Xe tmD [] ?_
      refine Xa.back (by intro id h; cases h) rfl ?_
      exact wkT [] ((J (nbT (by first | rfl | simp [*]))))
     clear h
     have h := h1438
     refine Xa.inline Xg X015 rfl rfl rfl rfl rfl trivial trivial rfl rfl ?_
     refine Xe tmD [] ?_
     refine Xa.round ?_
     refine X9 h ?_
     clear h; intro v1430 h1431 h
     refine rn tmD [Bt, .ix 0, .ix 0, .ld (X2 e1415), .pure [(X04 e1415.Values.e0), (X04 X1n.Values.e0)] (AV.tup [(X04 v1430.1), (aI .i64 v1430.2)])] rfl (by repeat' first|apply Ya|exact (pn (X1g _ _ _ h1431) (cc (X0f (x := e1415.Values.e0)) (cc (X0f (x := X1n.Values.e0)) cn)))|exact Xv) ?_
     refine brE h ?_ ?_
     ·clear h; intro h1432 h
      simp only [Option.some.injEq, Prod.mk.injEq] at h
      obtain ⟨rfl, rfl⟩ := h
      refine Xe tmD [Bt] ?_
      refine Xa.back (by intro id h; cases h) rfl ?_
      exact wkT [(5, 3)] ((J nbF))
     clear h; intro h1432 h
     refine rn tmD [Bf, .ix 0, .ld (X2 e1415)] rfl (by repeat' first|apply Ya|exact (List.getElem?_set_self (by have hq := X2w h1416; simp; omega)).trans rfl|exact Xv) ?_
     refine Xa.round ?_
     refine X9 h ?_
     clear h; intro v1435 h1436 h
     refine rn tmD [Bt, .ix 1, .ix 1, .ld (X2 (Xb.mk e1415.Key e1415.Span (V2.mk v1430.1 e1415.Values.e1))), .pure [(X04 (((Xb.mk e1415.Key e1415.Span (V2.mk v1430.1 e1415.Values.e1)).Values).e1)), (X04 X1n.Values.e1)] (AV.tup [(X04 v1435.1), (aI .i64 v1435.2)])] rfl (by repeat' first|apply Ya|exact (List.getElem?_set_self (by have hq := X2w h1416; simp; omega)).trans rfl|exact (pn (X1g _ _ _ h1436) (cc (X0f (x := ((Xb.mk e1415.Key e1415.Span (V2.mk v1430.1 e1415.Values.e1)).Values).e1)) (cc (X0f (x := X1n.Values.e1)) cn)))|exact Xv) ?_
     refine brE h ?_ ?_
     ·clear h; intro h1437 h
      simp only [Option.some.injEq, Prod.mk.injEq] at h
      obtain ⟨rfl, rfl⟩ := h
      refine rn tmD [Bt] rfl (by repeat' first|apply Ya|exact (List.getElem?_set_self (by have hq := X2w h1416; simp; omega)).trans rfl|exact Xv) ?_
      refine Xa.back (by intro id h; cases h) rfl ?_
      exact wkT [(5, 3)] ((J nbF))
     clear h; intro h1437 h
     refine rn tmD [Bf, .ix 1, .ld (X2 (Xb.mk e1415.Key e1415.Span (V2.mk v1430.1 e1415.Values.e1)))] rfl (by repeat' first|apply Ya|exact (List.getElem?_set_self (by have hq := X2w h1416; simp; omega)).trans rfl|exact Xv) ?_
     refine Xa.round ?_
     simp only [Option.some.injEq, Prod.mk.injEq] at h
     obtain ⟨rfl, rfl⟩ := h
     refine rn tmD [Bf] rfl (by repeat' first|apply Ya|exact (List.getElem?_set_self (by have hq := X2w h1416; simp; omega)).trans rfl|exact Xv) ?_
     refine Xa.back (by intro id h; cases h) rfl ?_
     exact wkT [(5, 3)] ((J nbF))
    clear h; intro h1345 h
    refine X9 h ?_
    clear h; intro e1440 h1441 h
    try have qh1441 := Xz h1441
    refine X9 h ?_
    clear h; intro w1452 h1463 h
    obtain ⟨Xy0, Xy1⟩ := w1452
    try dsimp only at h
    refine Xe tmD [Bf, .el (X2 e1440), .ld (X2 e1440)] ?_
    refine Xa.joinOp (s' := ⟨fr [(0, (AV.ref 3 0 (X1k.length))), (3, (AV.ptr 4 0 0)), (6, (aI .i64 Xe8)), (23, (aI .i64 Xy1))], hp ([(3, Ob (X1k.map X2) 11), (4, Ob [(X2 Xy0)] 11)]), 5⟩) ?_ (fun J => ?_)
    ·
     refine brE h ?_ ?_
     ·clear h; intro h1464 h
      obtain rfl := oj h
      refine Xe tmD [Bt] ?_
      exact wkT [] (C0 _ _  (nbT (by first | rfl | simp [*])) rfl)
     clear h; intro h1464 h
     refine X9 h ?_
     clear h; intro m1465 h1466 h
     refine Xe tmD [Bf, .el (X2 e1440), .ld (X2 e1440), .el (X2 e1440), .ld (X2 e1440), .wrap] ?_
     refine Xa.hcall rfl rfl rfl rfl rfl trivial trivial (Xyj ⟨_, _, X04v⟩ (f := X2) (l := X1k) h1466 rfl rfl (by first | rfl | simp)) ?_
     refine Xe tmD [] ?_
     exact wkT [(3, 28)] (ih  _ _ nbF o h C0)
    clear h
    have h := h1463
    refine Xa.inline Xg X015 rfl rfl rfl rfl rfl trivial trivial rfl rfl ?_
    refine Xe tmD [] ?_
    refine Xa.round ?_
    refine X9 h ?_
    clear h; intro v1455 h1456 h
    refine brE h ?_ ?_
    ·clear h; intro h1457 h
     simp only [Option.some.injEq, Prod.mk.injEq] at h
     obtain ⟨rfl, rfl⟩ := h
     refine rn tmD [Bt, .ix 0, .ix 0, .pure [(X04 X1n.Values.e0), (X04 e1440.Values.e0)] (AV.tup [(X04 v1455.1), (aI .i64 v1455.2)]), Bt] rfl (by repeat' first|apply Ya|exact (pn (X1g _ _ _ h1456) (cc (X0f (x := X1n.Values.e0)) (cc (X0f (x := e1440.Values.e0)) cn)))|exact Xv) ?_
     refine Xa.back (by intro id h; cases h) rfl ?_
     exact wkT [] (J)
    clear h; intro h1457 h
    refine rn tmD [Bt, .ix 0, .ix 0, .pure [(X04 X1n.Values.e0), (X04 e1440.Values.e0)] (AV.tup [(X04 v1455.1), (aI .i64 v1455.2)]), Bf, .ix 0] rfl (by repeat' first|apply Ya|exact (pn (X1g _ _ _ h1456) (cc (X0f (x := X1n.Values.e0)) (cc (X0f (x := e1440.Values.e0)) cn)))|exact Xv) ?_
    refine Xa.round ?_
    refine X9 h ?_
    clear h; intro v1460 h1461 h
    refine brE h ?_ ?_
    ·clear h; intro h1462 h
     simp only [Option.some.injEq, Prod.mk.injEq] at h
     obtain ⟨rfl, rfl⟩ := h
     refine rn tmD [Bt, .ix 1, .ix 1, .pure [(X04 X1n.Values.e1), (X04 e1440.Values.e1)] (AV.tup [(X04 v1460.1), (aI .i64 v1460.2)]), Bt] rfl (by repeat' first|apply Ya|exact (pn (X1g _ _ _ h1461) (cc (X0f (x := X1n.Values.e1)) (cc (X0f (x := e1440.Values.e1)) cn)))|exact Xv) ?_
     refine Xa.back (by intro id h; cases h) rfl ?_
     exact wkT [] (J)
    clear h; intro h1462 h
    refine rn tmD [Bt, .ix 1, .ix 1, .pure [(X04 X1n.Values.e1), (X04 e1440.Values.e1)] (AV.tup [(X04 v1460.1), (aI .i64 v1460.2)]), Bf, .ix 1] rfl (by repeat' first|apply Ya|exact (pn (X1g _ _ _ h1461) (cc (X0f (x := X1n.Values.e1)) (cc (X0f (x := e1440.Values.e1)) cn)))|exact Xv) ?_
    refine Xa.round ?_
    simp only [Option.some.injEq, Prod.mk.injEq] at h
    obtain ⟨rfl, rfl⟩ := h
    refine Xe tmD [Bf] ?_
    refine Xa.back (by intro id h; cases h) rfl ?_
    exact wkT [] (J)
   clear h
   have h := h1344
   refine Xa.inline Xg X031 rfl rfl rfl rfl rfl trivial trivial rfl rfl ?_
   refine X9 h ?_
   clear h; intro u1330 h1331 h
   have qh1331 := X11 h1331
   refine X9 h ?_
   clear h; intro o1342 h1343 h
   refine Xe tmD [.el (aI .i64 (X1k.length : Int))] ?_
   refine wkT [] (Xa.cut (X1s X1k X1n nbF qh1331 X1k 0 (by simp) _ h1343 ?_ ?_))
   ·intro eo1342; subst eo1342
    refine Xa.glue ?_
    try dsimp only at h
    obtain rfl := oj h
    refine Xe tmD [] ?_
    refine Xa.back (by intro id h; cases h) rfl ?_
    exact wkT [] (J)
   intro Xaj eo1342; subst eo1342
   refine Xa.glue ?_
   try dsimp only at h
   obtain rfl := oj h
   refine Xe tmD [] ?_
   refine Xa.back (by intro id h; cases h) rfl ?_
   exact wkT [] (J)
  obtain rfl := Xco rfl
  refine Xa.round ?_
  refine X9 h ?_
  clear h; intro Xxz h1502 h
  refine Xe tmD [] ?_
  refine Xa.joinOp (s' := ⟨fr [(0, AV.nils), (3, (AV.ptr 4 0 0)), (10, (aI .i64 Xxz))], hp ([(4, Ob [(X2 X1n)] 11)]), 5⟩) ?_ (fun J => ?_)
  ·
   refine brE h ?_ ?_
   ·clear h; intro h1503 h
    refine X9 h ?_
    clear h; intro w1524 h1545 h
    obtain ⟨Xmw, Xt0⟩ := w1524
    try dsimp only at h
    refine Xe tmD [Bt] ?_
    refine Xa.joinOpF (fun (q : Nb Xmw) => ⟨fr [(15, (AV.tup [(slE q.1 3 (Xmw.map X2)), (aI .i64 Xt0)]))], hp ([] ++ opE q.1 3 11 (Xmw.map X2)), 4⟩) ?_ (fun J => ?_)
    ·
     rintro Xpm
     rcases Xpm with ⟨_ | _, Xqi⟩
     ·
      obtain rfl := oj h
      refine Xe tmD [] ?_
      exact wkT [] (C0 _ _  nbF rfl)
     obtain rfl := Xqi rfl
     obtain rfl := oj h
     refine Xe tmD [] ?_
     exact wkT [] (C0 _ _  (nbT (by first | rfl | simp [*])) rfl)
    clear h
    have h := h1545
    refine Xa.inline Xg fn84 rfl rfl rfl rfl rfl trivial trivial rfl rfl ?_
    refine X9 h ?_
    clear h; intro v1525 h1526 h
    refine brE h ?_ ?_
    ·clear h; intro h1527 h
     refine brE h ?_ ?_
     ·clear h; intro h1528 h
      refine X9 h ?_
      clear h; intro _ h1540 h
      refine rn tmD [.pure [(Lf (List.map X2 ([] : List Xb))), (X2 X1n), (AV.fn 110 [])] (AV.tup [(aI .i64 v1525.1), (aB v1525.2)]), Bt] rfl (by repeat' first|apply Ya|exact (pn (Xw _ _ _ h1526) (cc (Zn X2) (cc (X0t (x := X1n)) (cc .fn0 cn))))|exact Xv) ?_
      refine Xa.joinOp (s' := ⟨fr [(21, (AV.ref 5 0 (List.length (([] : List Xb) ++ [X1n]))))], hp ([(5, Ob (List.map X2 (([] : List Xb) ++ [X1n])) 11)]), 6⟩) ?_ (fun J => ?_)
      ·
       simp only [Option.some.injEq, Prod.mk.injEq] at h
       obtain ⟨rfl, rfl⟩ := h
       refine Xe tmD [] ?_
       refine Xa.back (by intro id h; cases h) rfl ?_
       exact wkT [(3, 5)] ((J nbF))
      clear h
      have h := h1540
      refine Xa.inline Xg Xtp rfl rfl rfl rfl rfl trivial trivial rfl rfl ?_
      refine X9 h ?_
      clear h; intro m1535 h1536 h
      obtain ⟨qah1536, qbh1536, qch1536, qh1536⟩ := X3v h1536
      obtain rfl := X9d h1536
      refine brE h ?_ ?_
      ·clear h; intro h1537 h
       refine X9 h ?_
       clear h; intro u1538 h1539 h
       refine rn tmD [Bf, .el (aI .i64 (List.length ([] : List Xb) : Int)), Bt, .no] rfl (by repeat' first | refine Ya ?_ ?_ | (simp at qah1536 qbh1536 qch1536 ⊢; omega) | (refine X0w h1539 rfl ?_; first | (simp; done) | (simp; omega) | (simp [h1503, h1527, h1528, h1537]; done) | (simp [h1503, h1527, h1528, h1537]; omega)) | (refine X0a h1539 (by decide) ?_; first | (simp; done) | (simp; omega) | (simp [h1503, h1527, h1528, h1537]; done) | (simp [h1503, h1527, h1528, h1537]; omega))|exact Xv) ?_
       refine Xa.back (by intro id h; cases h) rfl ?_
       exact wkT [(5, 7)] (J)
      clear h; intro h1537 h
      exact absurd h1537 (by simp)
     clear h; intro h1528 h
     refine X9 h ?_
     clear h; intro m1541 h1542 h
     exact absurd h1542 (by simp [Xt2])
    clear h; intro h1527 h
    refine rn tmD [.pure [(Lf (List.map X2 ([] : List Xb))), (X2 X1n), (AV.fn 110 [])] (AV.tup [(aI .i64 v1525.1), (aB v1525.2)]), Bf, .stop 4] rfl (by repeat' first|apply Ya|exact (pn (Xw _ _ _ h1526) (cc (Zn X2) (cc (X0t (x := X1n)) (cc .fn0 cn))))|exact Xv) ?_
    refine X9 h ?_
    clear h; intro e1543 h1544 h
    try have qh1544 := Xz h1544
    exact absurd (h1544) (by simp [X2o])
   clear h; intro h1503 h
   refine X9 h ?_
   clear h; intro e1546 h1547 h
   try have qh1547 := Xz h1547
   exact absurd (h1547) (by simp [X2o])
  clear h
  have h := h1502
  refine Xa.inline Xg X031 rfl rfl rfl rfl rfl trivial trivial rfl rfl ?_
  refine X9 h ?_
  clear h; intro u1490 h1491 h
  have qh1491 := X11 h1491
  refine X9 h ?_
  clear h; intro o1500 h1501 h
  refine Xe tmD [.el (aI .i64 (List.length ([] : List Xb) : Int))] ?_
  refine wkT [] (Xa.cut (X1s ([] : List Xb) X1n (nbT (by first | rfl | simp [*])) qh1491 ([] : List Xb) 0 (by simp) _ h1501 ?_ ?_))
  ·intro eo1500; subst eo1500
   refine Xa.glue ?_
   try dsimp only at h
   obtain rfl := oj h
   refine Xe tmD [] ?_
   refine Xa.back (by intro id h; cases h) rfl ?_
   exact wkT [] (J)
  intro Xaj eo1500; subst eo1500
  refine Xa.glue ?_
  try dsimp only at h
  obtain rfl := oj h
  refine Xe tmD [] ?_
  refine Xa.back (by intro id h; cases h) rfl ?_
  exact wkT [] (J)
end Go.Av.Tryz