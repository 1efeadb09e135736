/- Printed by decomp.py: that the program computes the functions. -/
import Derived.Test.YtfdfgobnpnoomaaGreatDCert10Z
import Derived.Test.YtfdfgobnpnoomaaGreatDCert11Z
set_option linter.all false

namespace Go.Av.Tryz
open Go.Proofs Go.D
set_option maxRecDepth 10000
set_option maxHeartbeats 40000000
theorem Xao (a0 : (List Xb)) (a1 : X0x) (a2 : Xj) (a3 : Int) (r : (List Xb) × Int) (h : X8u a0 a1 a2 a3 = some r) : X19 Tryz.prog 51 [(Lf (a0.map X2)), (X0g a1), (X3 a2), (aI .i64 a3)] (AV.tup [(AV.list true (r.1.map X2)), (aI .i64 r.2)]) := by
 refine X19.sym Xg fn51 (nt := 112) rfl rfl ?_ (Xf .list (Xf (X4x _ _).1 (Xf (X4y _ _).1 (Xf .sc X08))))
 unfold X8u at h
 refine X9 h ?_
 clear h; intro v1 h2 h
 refine brE h ?_ ?_
 ·clear h; intro h3 h
  obtain rfl := oj h
  refine rn tmD [.pure [(Lf (a0.map X2))] (aI .i64 v1), Bt] rfl (by repeat' first|apply Ya|exact (pn (X2n _ _ h2) (cc (X8 (X0 X1f a0)) cn))|exact Xv) ?_
  exact X6 rfl (Xl (cc (Zn X2) (cc .sc cn)))
 clear h; intro h3 h
 refine X9 h ?_
 clear h; intro v4 h5 h
 refine brE h ?_ ?_
 ·clear h; intro h6 h
  obtain rfl := oj h
  refine rn tmD [.pure [(Lf (a0.map X2))] (aI .i64 v1), Bf, .pure [(X0g a1)] (aI .i64 v4), Bt] rfl (by repeat' first|apply Ya|exact (pn (X2n _ _ h2) (cc (X8 (X0 X1f a0)) cn))|exact (pn (X0c _ _ h5) (cc (X17 (x := a1)) cn))|exact Xv) ?_
  exact X6 rfl (Xl (cc (Zn X2) (cc .sc cn)))
 clear h; intro h6 h
 refine brE h ?_ ?_
 ·clear h; intro h7 h
  obtain rfl := oj h
  refine rn tmD [.pure [(Lf (a0.map X2))] (aI .i64 v1), Bf, .pure [(X0g a1)] (aI .i64 v4), Bf, Bt] rfl (by repeat' first|apply Ya|exact (pn (X2n _ _ h2) (cc (X8 (X0 X1f a0)) cn))|exact (pn (X0c _ _ h5) (cc (X17 (x := a1)) cn))|exact Xv) ?_
  exact X6 rfl (Xl (cc (Zn X2) (cc .sc cn)))
 clear h; intro h7 h
 refine brE h ?_ ?_
 ·clear h; intro h8 h
  obtain rfl := oj h
  refine rn tmD [.pure [(Lf (a0.map X2))] (aI .i64 v1), Bf, .pure [(X0g a1)] (aI .i64 v4), Bf, Bf, Bt] rfl (by repeat' first|apply Ya|exact (pn (X2n _ _ h2) (cc (X8 (X0 X1f a0)) cn))|exact (pn (X0c _ _ h5) (cc (X17 (x := a1)) cn))|exact Xv) ?_
  exact X6 rfl (Xl (cc (Zn X2) (cc .sc cn)))
 clear h; intro h8 h
 refine X9 h ?_
 clear h; intro Xhl h18 h
 refine rn tmD [.pure [(Lf (a0.map X2))] (aI .i64 v1), Bf, .pure [(X0g a1)] (aI .i64 v4), Bf, Bf, Bf, .stop 12] rfl (by repeat' first|apply Ya|exact (pn (X2n _ _ h2) (cc (X8 (X0 X1f a0)) cn))|exact (pn (X0c _ _ h5) (cc (X17 (x := a1)) cn))|exact Xv) ?_
 refine Xa.join (s' := ⟨fr [(0, (Lf (a0.map X2))), (5, (AV.ptr 0 0 0)), (6, (AV.ptr 1 0 0)), (12, (AV.ptr 2 0 0))], hp ([(0, Ob [(X0g a1)] 3), (1, Ob [(X3 a2)] 3), (2, Ob [(X2 Xhl)] 11)]), 3⟩) ?_ (fun J => Xa.cut ?_)
 ·
  refine X9 h ?_
  clear h; intro Xhk h30 h
  refine Xe tmD [] ?_
  refine Xa.joinOpF (fun (q : Nb Xhk) => ⟨fr [(5, (AV.ptr 0 0 0)), (6, (AV.ptr 1 0 0)), (12, (AV.ptr 2 0 0)), (52, (slE q.1 3 (Xhk.map X2)))], hp ([(0, Ob [(X0g a1)] 3), (1, Ob [(X3 a2)] 3), (2, Ob [(X2 Xhl)] 11)] ++ opE q.1 3 11 (Xhk.map X2)), 4⟩) ?_ (fun J => ?_)
  ·
   rintro Xv6
   rcases Xv6 with ⟨_ | _, Xvy⟩
   ·
    refine brE h ?_ ?_
    ·clear h; intro h31 h
     refine X9 h ?_
     clear h; intro w50 h69 h
     obtain ⟨Xvi, Xxo⟩ := w50
     try dsimp only at h
     refine Xe tmD [Bt] ?_
     refine Xa.joinOpF (fun (q : Nb Xvi) => ⟨fr [(12, (AV.ptr 0 0 0)), (13, (AV.ref 1 0 (Xhk.length))), (62, (AV.tup [(slE q.1 2 (Xvi.map X01)), (aI .i64 Xxo)]))], hp ([(0, Ob [(X2 Xhl)] 11), (1, Ob (Xhk.map X2) 11)] ++ opE q.1 2 2 (Xvi.map X01)), 3⟩) ?_ (fun J => ?_)
     ·
      rintro Xv4
      rcases Xv4 with ⟨_ | _, Xvw⟩
      ·
       refine brE h ?_ ?_
       ·clear h; intro h70 h
        obtain rfl := oj h
        refine Xe tmD [Bt] ?_
        exact X6 rfl (Xl (cc (Zn X2) (cc .sc cn)))
       clear h; intro h70 h
       refine X9 h ?_
       clear h; intro e71 h72 h
       try have qh72 := Xz h72
       refine X9 h ?_
       clear h; intro w811 h1550 h
       obtain ⟨Xf5, Xve⟩ := w811
       try dsimp only at h
       refine Xe tmD [Bf, .el (X01 e71), .ld (X01 e71)] ?_
       refine Xa.joinOpF (fun (q : Nb Xf5) => ⟨fr [(75, (AV.tup [(slE q.1 0 (Xf5.map X2)), (aI .i64 Xve)]))], hp ([] ++ opE q.1 0 11 (Xf5.map X2)), 1⟩) ?_ (fun J => ?_)
       ·
        rintro Xsi
        rcases Xsi with ⟨_ | _, Xt8⟩
        ·
         refine brE h ?_ ?_
         ·clear h; intro h1551 h
          obtain rfl := oj h
          refine Xe tmD [Bt] ?_
          exact X6 rfl (Xl (cc (Zn X2) (cc .sc cn)))
         clear h; intro h1551 h
         refine brE h ?_ ?_
         ·clear h; intro h1552 h
          obtain rfl := oj h
          refine Xe tmD [Bf, .el (aI .i64 (Xf5.length : Int)), Bt] ?_
          exact X6 rfl (Xl (cc (Zn X2) (cc .sc cn)))
         clear h; intro h1552 h
         obtain rfl := oj h
         refine Xe tmD [Bf, .el (aI .i64 (Xf5.length : Int)), Bf] ?_
         exact X6 rfl (Xl (cc (X0o (es := Xf5.map X2) rfl (by first | rfl | (simp; done) | (simp; rfl) | (simp [h3, h6, h7, h8, h31, h70, h1551, h1552]; done) | (simp [h3, h6, h7, h8, h31, h70, h1551, h1552]; rfl) | (simp [h3, h6, h7, h8, h31, h70, h1551, h1552, Ym, Yd]; done) | (simp [h3, h6, h7, h8, h31, h70, h1551, h1552, Ym, Yd]; rfl)) (by first | rfl | (simp; done) | (simp; omega) | (simp [h3, h6, h7, h8, h31, h70, h1551, h1552]; done) | (simp [h3, h6, h7, h8, h31, h70, h1551, h1552]; omega)) (X0 X1f Xf5)) (cc .sc cn)))
        obtain rfl := Xt8 rfl
        refine brE h ?_ ?_
        ·clear h; intro h1553 h
         obtain rfl := oj h
         refine Xe tmD [Bt] ?_
         exact X6 rfl (Xl (cc (Zn X2) (cc .sc cn)))
        clear h; intro h1553 h
        refine brE h ?_ ?_
        ·clear h; intro h1554 h
         obtain rfl := oj h
         refine Xe tmD [Bf, .el (aI .i64 (List.length ([] : List Xb) : Int)), Bt] ?_
         exact X6 rfl (Xl (cc (Zn X2) (cc .sc cn)))
        clear h; intro h1554 h
        obtain rfl := oj h
        refine Xe tmD [Bf, .el (aI .i64 (List.length ([] : List Xb) : Int)), Bf] ?_
        exact X6 rfl (Xl (cc (Zn X2) (cc .sc cn)))
       clear h
       have h := h1550
       refine Xa.inline Xg fn82 rfl rfl rfl rfl rfl trivial trivial rfl rfl ?_
       refine X9 h ?_
       clear h; intro o1548 h1549 h
       refine Xe tmD [] ?_
       refine wkT [(3, 1), (4, 3)] (Xa.cut (X6b _ _ _ nbF _ h1549 ?_))
       intro X2y Xak X3s eo1548; subst eo1548
       refine Xa.glue ?_
       try dsimp only at h
       rcases X3s with ⟨_ | _, X8l⟩
       ·
        simp only [Option.some.injEq, Prod.mk.injEq] at h
        obtain ⟨rfl, rfl⟩ := h
        refine Xe tmD [] ?_
        refine Xa.back (by intro id h; cases h) rfl ?_
        exact wkT [(0, 3)] ((J nbF))
       obtain rfl := X8l rfl
       simp only [Option.some.injEq, Prod.mk.injEq] at h
       obtain ⟨rfl, rfl⟩ := h
       refine Xe tmD [] ?_
       refine Xa.back (by intro id h; cases h) rfl ?_
       exact wkT [] ((J (nbT (by first | rfl | simp [*]))))
      obtain rfl := Xvw rfl
      refine brE h ?_ ?_
      ·clear h; intro h1555 h
       obtain rfl := oj h
       refine Xe tmD [Bt] ?_
       exact X6 rfl (Xl (cc (Zn X2) (cc .sc cn)))
      clear h; intro h1555 h
      refine X9 h ?_
      clear h; intro e1556 h1557 h
      try have qh1557 := Xz h1557
      exact absurd (h1557) (by simp [X2o])
     clear h
     have h := h69
     refine Xa.inline Xg fn81 rfl rfl rfl rfl rfl trivial trivial rfl rfl ?_
     refine X9 h ?_
     clear h; intro v51 h52 h
     refine brE h ?_ ?_
     ·clear h; intro h53 h
      simp only [Option.some.injEq, Prod.mk.injEq] at h
      obtain ⟨rfl, rfl⟩ := h
      refine rn tmD [.pure [(aI .i64 0), (aI .i64 a1.Size)] (aI .i64 v51), Bt] rfl (by repeat' first|apply Ya|exact (pn (X2u _ _ _ h52) (cc .sc (cc .sc cn)))|exact Xv) ?_
      refine Xa.back (by intro id h; cases h) rfl ?_
      exact wkT [(0, 2), (1, 3)] ((J (nbT (by first | rfl | simp [*]))))
     clear h; intro h53 h
     refine rn tmD [.pure [(aI .i64 0), (aI .i64 a1.Size)] (aI .i64 v51), Bf, Bf] rfl (by repeat' first|apply Ya|exact (pn (X2u _ _ _ h52) (cc .sc (cc .sc cn)))|exact Xv) ?_
     refine Xa.round ?_
     refine X9 h ?_
     clear h; intro v54 h55 h
     refine brE h ?_ ?_
     ·clear h; intro h56 h
      simp only [Option.some.injEq, Prod.mk.injEq] at h
      obtain ⟨rfl, rfl⟩ := h
      refine rn tmD [Bt, .el ((aI .i64 a2.Time)), .pure [(aI .i64 a2.Time), (aI .i64 a1.Size)] (aI .i64 v54), Bt] rfl (by repeat' first|apply Ya|exact (pn (X2u _ _ _ h55) (cc .sc (cc .sc cn)))|exact Xv) ?_
      refine Xa.back (by intro id h; cases h) rfl ?_
      exact wkT [(0, 2), (1, 3)] ((J (nbT (by first | rfl | simp [*]))))
     clear h; intro h56 h
     refine rn tmD [Bt, .el ((aI .i64 a2.Time)), .pure [(aI .i64 a2.Time), (aI .i64 a1.Size)] (aI .i64 v54), Bf, .wrap, .no] rfl (by repeat' first|apply Ya|exact (pn (X2u _ _ _ h55) (cc .sc (cc .sc cn)))|exact Xv) ?_
     refine Xa.round ?_
     refine Xe tmD [Bf] ?_
     refine Xa.inline Xg X032 rfl rfl rfl rfl rfl trivial trivial rfl rfl ?_
     refine Xe tmD [] ?_
     refine Xa.inline Xg X030 rfl rfl rfl rfl rfl trivial trivial rfl rfl ?_
     refine Xe tmD [] ?_
     refine Xa.eqNil Xg (may := false) rfl rfl rfl rfl rfl rfl trivial rfl fun b64 qb64 => ?_
     obtain rfl := qb64 rfl
     refine Xe tmD [Bf, .no] ?_
     refine Xa.back (by intro id h; cases h) rfl ?_
     refine Xe tmD [] ?_
     refine Xa.inline Xg X02z rfl rfl rfl rfl rfl trivial trivial rfl rfl ?_
     refine X9 h ?_
     clear h; intro v67 h68 h
     refine rn tmD [.wrap, .pure [(aI .u64 1)] (aI .i64 v67)] rfl (by repeat' first|apply Ya|exact (pn (Xcx _ _ h68) (cc .sc cn))|exact Xv) ?_
     refine Xa.inline Xg X02x rfl rfl rfl rfl rfl trivial trivial rfl rfl ?_
     refine Xe tmD [] ?_
     refine Xa.round ?_
     refine Xe tmD [Bt] ?_
     refine Xa.inline Xg X02v rfl rfl rfl rfl rfl trivial trivial rfl rfl ?_
     refine Xe tmD [] ?_
     refine Xa.round ?_
     refine Xe tmD [Bf] ?_
     refine Xa.back (by intro id h; cases h) rfl ?_
     refine Xe tmD [] ?_
     refine Xa.back (by intro id h; cases h) rfl ?_
     refine Xe tmD [] ?_
     refine Xa.back (by intro id h; cases h) rfl ?_
     refine Xe tmD [] ?_
     refine Xa.round ?_
     refine Xe tmD [Bt, .el (AV.agg [(aI .i64 a2.Time), (aI .i64 (IntKind.i64.wrap (a2.Time + a1.Size)))]), .go false, .go false, .go false, .go false, .go false, .go false, .go false, .go false, .go false, .go false, Bf, .no] ?_
     refine Xa.round ?_
     refine Xe tmD [Bf] ?_
     refine Xa.back (by intro id h; cases h) rfl ?_
     simp only [Option.some.injEq, Prod.mk.injEq] at h
     obtain ⟨rfl, rfl⟩ := h
     refine Xe tmD [] ?_
     refine Xa.back (by intro id h; cases h) rfl ?_
     exact wkT [(0, 2), (1, 3), (2, 24)] ((J nbF))
    clear h; intro h31 h
    refine X9 h ?_
    clear h; intro v1558 h1559 h
    refine brE h ?_ ?_
    ·clear h; intro h1560 h
     obtain rfl := oj h
     refine rn tmD [Bf, .pure [(X0g a1), (aI .i64 a2.Time)] (AV.tup [(AV.list true (v1558.1.map X01)), (aI .i64 v1558.2)]), Bt] rfl (by repeat' first|apply Ya|exact (pn (X87 _ _ _ h1559) (cc (X17 (x := a1)) (cc .sc cn)))|exact Xv) ?_
     exact X6 rfl (Xl (cc (Zn X2) (cc .sc cn)))
    clear h; intro h1560 h
    refine X9 h ?_
    clear h; intro u1561 h1562 h
    have qh1562 := X11 h1562
    refine X9 h ?_
    clear h; intro o1984 h1985 h
    refine rn tmD [Bf, .pure [(X0g a1), (aI .i64 a2.Time)] (AV.tup [(AV.list true (v1558.1.map X01)), (aI .i64 v1558.2)]), Bf, .el (aI .i64 (v1558.1.length : Int))] rfl (by repeat' first|apply Ya|exact (pn (X87 _ _ _ h1559) (cc (X17 (x := a1)) (cc .sc cn)))|exact Xv) ?_
    refine wkT [(0, 2), (1, 3)] (Xa.cut (Xda v1558.1 qh1562 v1558.1 0 (by simp) _ _ nbF _ h1985 ?_ ?_))
    ·intro Xq X0i eo1984; subst eo1984
     refine Xa.glue ?_
     try dsimp only at h
     rcases X0i with ⟨_ | _, X35⟩
     ·
      refine brE h ?_ ?_
      ·clear h; intro h1986 h
       obtain rfl := oj h
       refine Xe tmD [.el (aI .i64 (Xq.length : Int)), Bt] ?_
       exact X6 rfl (Xl (cc (Zn X2) (cc .sc cn)))
      clear h; intro h1986 h
      obtain rfl := oj h
      refine Xe tmD [.el (aI .i64 (Xq.length : Int)), Bf] ?_
      exact X6 rfl (Xl (cc (X0o (es := Xq.map X2) rfl (by first | rfl | (simp; done) | (simp; rfl) | (simp [h3, h6, h7, h8, h31, h1560, h1986]; done) | (simp [h3, h6, h7, h8, h31, h1560, h1986]; rfl) | (simp [h3, h6, h7, h8, h31, h1560, h1986, Ym, Yd]; done) | (simp [h3, h6, h7, h8, h31, h1560, h1986, Ym, Yd]; rfl)) (by first | rfl | (simp; done) | (simp; omega) | (simp [h3, h6, h7, h8, h31, h1560, h1986]; done) | (simp [h3, h6, h7, h8, h31, h1560, h1986]; omega)) (X0 X1f Xq)) (cc .sc cn)))
     obtain rfl := X35 rfl
     refine brE h ?_ ?_
     ·clear h; intro h1987 h
      obtain rfl := oj h
      refine Xe tmD [.el (aI .i64 (List.length ([] : List Xb) : Int)), Bt] ?_
      exact X6 rfl (Xl (cc (Zn X2) (cc .sc cn)))
     clear h; intro h1987 h
     obtain rfl := oj h
     refine Xe tmD [.el (aI .i64 (List.length ([] : List Xb) : Int)), Bf] ?_
     exact X6 rfl (Xl (cc (Zn X2) (cc .sc cn)))
    intro X06 Xil X0h eo1984; subst eo1984
    refine Xa.glue ?_
    try dsimp only at h
    rcases X0h with ⟨_ | _, X33⟩
    ·
     obtain rfl := oj h
     refine Xe tmD [] ?_
     exact X6 rfl (Xl (cc (X0o (es := X06.map X2) rfl (by first | rfl | (simp; done) | (simp; rfl) | (simp [h3, h6, h7, h8, h31, h1560]; done) | (simp [h3, h6, h7, h8, h31, h1560]; rfl) | (simp [h3, h6, h7, h8, h31, h1560, Ym, Yd]; done) | (simp [h3, h6, h7, h8, h31, h1560, Ym, Yd]; rfl)) (by first | rfl | (simp; done) | (simp; omega) | (simp [h3, h6, h7, h8, h31, h1560]; done) | (simp [h3, h6, h7, h8, h31, h1560]; omega)) (X0 X1f X06)) (cc .sc cn)))
    obtain rfl := X33 rfl
    obtain rfl := oj h
    refine Xe tmD [] ?_
    exact X6 rfl (Xl (cc (Zn X2) (cc .sc cn)))
   obtain rfl := Xvy rfl
   refine brE h ?_ ?_
   ·clear h; intro h1988 h
    refine X9 h ?_
    clear h; intro w2007 h2026 h
    obtain ⟨Xmr, Xsz⟩ := w2007
    try dsimp only at h
    refine Xe tmD [Bt] ?_
    refine Xa.joinOpF (fun (q : Nb Xmr) => ⟨fr [(12, (AV.ptr 0 0 0)), (13, AV.nils), (62, (AV.tup [(slE q.1 2 (Xmr.map X01)), (aI .i64 Xsz)]))], hp ([(0, Ob [(X2 Xhl)] 11)] ++ opE q.1 2 2 (Xmr.map X01)), 3⟩) ?_ (fun J => ?_)
    ·
     rintro Xpi
     rcases Xpi with ⟨_ | _, Xqe⟩
     ·
      refine brE h ?_ ?_
      ·clear h; intro h2027 h
       obtain rfl := oj h
       refine Xe tmD [Bt] ?_
       exact X6 rfl (Xl (cc (Zn X2) (cc .sc cn)))
      clear h; intro h2027 h
      refine X9 h ?_
      clear h; intro e2028 h2029 h
      try have qh2029 := Xz h2029
      refine X9 h ?_
      clear h; intro w2511 h2993 h
      obtain ⟨Xcm, Xsy⟩ := w2511
      try dsimp only at h
      refine Xe tmD [Bf, .el (X01 e2028), .ld (X01 e2028)] ?_
      refine Xa.joinOpF (fun (q : Nb Xcm) => ⟨fr [(75, (AV.tup [(slE q.1 0 (Xcm.map X2)), (aI .i64 Xsy)]))], hp ([] ++ opE q.1 0 11 (Xcm.map X2)), 1⟩) ?_ (fun J => ?_)
      ·
       rintro Xph
       rcases Xph with ⟨_ | _, Xqd⟩
       ·
        refine brE h ?_ ?_
        ·clear h; intro h2994 h
         obtain rfl := oj h
         refine Xe tmD [Bt] ?_
         exact X6 rfl (Xl (cc (Zn X2) (cc .sc cn)))
        clear h; intro h2994 h
        refine brE h ?_ ?_
        ·clear h; intro h2995 h
         obtain rfl := oj h
         refine Xe tmD [Bf, .el (aI .i64 (Xcm.length : Int)), Bt] ?_
         exact X6 rfl (Xl (cc (Zn X2) (cc .sc cn)))
        clear h; intro h2995 h
        obtain rfl := oj h
        refine Xe tmD [Bf, .el (aI .i64 (Xcm.length : Int)), Bf] ?_
        exact X6 rfl (Xl (cc (X0o (es := Xcm.map X2) rfl (by first | rfl | (simp; done) | (simp; rfl) | (simp [h3, h6, h7, h8, h1988, h2027, h2994, h2995]; done) | (simp [h3, h6, h7, h8, h1988, h2027, h2994, h2995]; rfl) | (simp [h3, h6, h7, h8, h1988, h2027, h2994, h2995, Ym, Yd]; done) | (simp [h3, h6, h7, h8, h1988, h2027, h2994, h2995, Ym, Yd]; rfl)) (by first | rfl | (simp; done) | (simp; omega) | (simp [h3, h6, h7, h8, h1988, h2027, h2994, h2995]; done) | (simp [h3, h6, h7, h8, h1988, h2027, h2994, h2995]; omega)) (X0 X1f Xcm)) (cc .sc cn)))
       obtain rfl := Xqd rfl
       refine brE h ?_ ?_
       ·clear h; intro h2996 h
        obtain rfl := oj h
        refine Xe tmD [Bt] ?_
        exact X6 rfl (Xl (cc (Zn X2) (cc .sc cn)))
       clear h; intro h2996 h
       refine brE h ?_ ?_
       ·clear h; intro h2997 h
        obtain rfl := oj h
        refine Xe tmD [Bf, .el (aI .i64 (List.length ([] : List Xb) : Int)), Bt] ?_
        exact X6 rfl (Xl (cc (Zn X2) (cc .sc cn)))
       clear h; intro h2997 h
       obtain rfl := oj h
       refine Xe tmD [Bf, .el (aI .i64 (List.length ([] : List Xb) : Int)), Bf] ?_
       exact X6 rfl (Xl (cc (Zn X2) (cc .sc cn)))
      clear h
      have h := h2993
      refine Xa.inline Xg fn82 rfl rfl rfl rfl rfl trivial trivial rfl rfl ?_
      refine X9 h ?_
      clear h; intro o2991 h2992 h
      refine Xe tmD [] ?_
      refine wkT [(4, 3)] (Xa.cut (X6b _ _ _ (nbT (by first | rfl | simp [*])) _ h2992 ?_))
      intro X2y Xak X3s eo2991; subst eo2991
      refine Xa.glue ?_
      try dsimp only at h
      rcases X3s with ⟨_ | _, X8l⟩
      ·
       simp only [Option.some.injEq, Prod.mk.injEq] at h
       obtain ⟨rfl, rfl⟩ := h
       refine Xe tmD [] ?_
       refine Xa.back (by intro id h; cases h) rfl ?_
       exact wkT [(0, 3)] ((J nbF))
      obtain rfl := X8l rfl
      simp only [Option.some.injEq, Prod.mk.injEq] at h
      obtain ⟨rfl, rfl⟩ := h
      refine Xe tmD [] ?_
      refine Xa.back (by intro id h; cases h) rfl ?_
      exact wkT [] ((J (nbT (by first | rfl | simp [*]))))
     obtain rfl := Xqe rfl
     refine brE h ?_ ?_
     ·clear h; intro h2998 h
      obtain rfl := oj h
      refine Xe tmD [Bt] ?_
      exact X6 rfl (Xl (cc (Zn X2) (cc .sc cn)))
     clear h; intro h2998 h
     refine X9 h ?_
     clear h; intro e2999 h3000 h
     try have qh3000 := Xz h3000
     exact absurd (h3000) (by simp [X2o])
    clear h
    have h := h2026
    refine Xa.inline Xg fn81 rfl rfl rfl rfl rfl trivial trivial rfl rfl ?_
    refine X9 h ?_
    clear h; intro v2008 h2009 h
    refine brE h ?_ ?_
    ·clear h; intro h2010 h
     simp only [Option.some.injEq, Prod.mk.injEq] at h
     obtain ⟨rfl, rfl⟩ := h
     refine rn tmD [.pure [(aI .i64 0), (aI .i64 a1.Size)] (aI .i64 v2008), Bt] rfl (by repeat' first|apply Ya|exact (pn (X2u _ _ _ h2009) (cc .sc (cc .sc cn)))|exact Xv) ?_
     refine Xa.back (by intro id h; cases h) rfl ?_
     exact wkT [(0, 2)] ((J (nbT (by first | rfl | simp [*]))))
    clear h; intro h2010 h
    refine rn tmD [.pure [(aI .i64 0), (aI .i64 a1.Size)] (aI .i64 v2008), Bf, Bf] rfl (by repeat' first|apply Ya|exact (pn (X2u _ _ _ h2009) (cc .sc (cc .sc cn)))|exact Xv) ?_
    refine Xa.round ?_
    refine X9 h ?_
    clear h; intro v2011 h2012 h
    refine brE h ?_ ?_
    ·clear h; intro h2013 h
     simp only [Option.some.injEq, Prod.mk.injEq] at h
     obtain ⟨rfl, rfl⟩ := h
     refine rn tmD [Bt, .el ((aI .i64 a2.Time)), .pure [(aI .i64 a2.Time), (aI .i64 a1.Size)] (aI .i64 v2011), Bt] rfl (by repeat' first|apply Ya|exact (pn (X2u _ _ _ h2012) (cc .sc (cc .sc cn)))|exact Xv) ?_
     refine Xa.back (by intro id h; cases h) rfl ?_
     exact wkT [(0, 2)] ((J (nbT (by first | rfl | simp [*]))))
    clear h; intro h2013 h
    refine rn tmD [Bt, .el ((aI .i64 a2.Time)), .pure [(aI .i64 a2.Time), (aI .i64 a1.Size)] (aI .i64 v2011), Bf, .wrap, .no] rfl (by repeat' first|apply Ya|exact (pn (X2u _ _ _ h2012) (cc .sc (cc .sc cn)))|exact Xv) ?_
    refine Xa.round ?_
    refine Xe tmD [Bf] ?_
    refine Xa.inline Xg X032 rfl rfl rfl rfl rfl trivial trivial rfl rfl ?_
    refine Xe tmD [] ?_
    refine Xa.inline Xg X030 rfl rfl rfl rfl rfl trivial trivial rfl rfl ?_
    refine Xe tmD [] ?_
    refine Xa.eqNil Xg (may := false) rfl rfl rfl rfl rfl rfl trivial rfl fun b2021 qb2021 => ?_
    obtain rfl := qb2021 rfl
    refine Xe tmD [Bf, .no] ?_
    refine Xa.back (by intro id h; cases h) rfl ?_
    refine Xe tmD [] ?_
    refine Xa.inline Xg X02z rfl rfl rfl rfl rfl trivial trivial rfl rfl ?_
    refine X9 h ?_
    clear h; intro v2024 h2025 h
    refine rn tmD [.wrap, .pure [(aI .u64 1)] (aI .i64 v2024)] rfl (by repeat' first|apply Ya|exact (pn (Xcx _ _ h2025) (cc .sc cn))|exact Xv) ?_
    refine Xa.inline Xg X02x rfl rfl rfl rfl rfl trivial trivial rfl rfl ?_
    refine Xe tmD [] ?_
    refine Xa.round ?_
    refine Xe tmD [Bt] ?_
    refine Xa.inline Xg X02v rfl rfl rfl rfl rfl trivial trivial rfl rfl ?_
    refine Xe tmD [] ?_
    refine Xa.round ?_
    refine Xe tmD [Bf] ?_
    refine Xa.back (by intro id h; cases h) rfl ?_
    refine Xe tmD [] ?_
    refine Xa.back (by intro id h; cases h) rfl ?_
    refine Xe tmD [] ?_
    refine Xa.back (by intro id h; cases h) rfl ?_
    refine Xe tmD [] ?_
    refine Xa.round ?_
    refine Xe tmD [Bt, .el (AV.agg [(aI .i64 a2.Time), (aI .i64 (IntKind.i64.wrap (a2.Time + a1.Size)))]), .go false, .go false, .go false, .go false, .go false, .go false, .go false, .go false, .go false, .go false, Bf, .no] ?_
    refine Xa.round ?_
    refine Xe tmD [Bf] ?_
    refine Xa.back (by intro id h; cases h) rfl ?_
    simp only [Option.some.injEq, Prod.mk.injEq] at h
    obtain ⟨rfl, rfl⟩ := h
    refine Xe tmD [] ?_
    refine Xa.back (by intro id h; cases h) rfl ?_
    exact wkT [(0, 2), (2, 24)] ((J nbF))
   clear h; intro h1988 h
   refine X9 h ?_
   clear h; intro v3001 h3002 h
   refine brE h ?_ ?_
   ·clear h; intro h3003 h
    obtain rfl := oj h
    refine rn tmD [Bf, .pure [(X0g a1), (aI .i64 a2.Time)] (AV.tup [(AV.list true (v3001.1.map X01)), (aI .i64 v3001.2)]), Bt] rfl (by repeat' first|apply Ya|exact (pn (X87 _ _ _ h3002) (cc (X17 (x := a1)) (cc .sc cn)))|exact Xv) ?_
    exact X6 rfl (Xl (cc (Zn X2) (cc .sc cn)))
   clear h; intro h3003 h
   refine X9 h ?_
   clear h; intro u3004 h3005 h
   have qh3005 := X11 h3005
   refine X9 h ?_
   clear h; intro o3287 h3288 h
   refine rn tmD [Bf, .pure [(X0g a1), (aI .i64 a2.Time)] (AV.tup [(AV.list true (v3001.1.map X01)), (aI .i64 v3001.2)]), Bf, .el (aI .i64 (v3001.1.length : Int))] rfl (by repeat' first|apply Ya|exact (pn (X87 _ _ _ h3002) (cc (X17 (x := a1)) (cc .sc cn)))|exact Xv) ?_
   refine wkT [(0, 2)] (Xa.cut (Xda v3001.1 qh3005 v3001.1 0 (by simp) _ _ (nbT (by first | rfl | simp [*])) _ h3288 ?_ ?_))
   ·intro Xq X0i eo3287; subst eo3287
    refine Xa.glue ?_
    try dsimp only at h
    rcases X0i with ⟨_ | _, X35⟩
    ·
     refine brE h ?_ ?_
     ·clear h; intro h3289 h
      obtain rfl := oj h
      refine Xe tmD [.el (aI .i64 (Xq.length : Int)), Bt] ?_
      exact X6 rfl (Xl (cc (Zn X2) (cc .sc cn)))
     clear h; intro h3289 h
     obtain rfl := oj h
     refine Xe tmD [.el (aI .i64 (Xq.length : Int)), Bf] ?_
     exact X6 rfl (Xl (cc (X0o (es := Xq.map X2) rfl (by first | rfl | (simp; done) | (simp; rfl) | (simp [h3, h6, h7, h8, h1988, h3003, h3289]; done) | (simp [h3, h6, h7, h8, h1988, h3003, h3289]; rfl) | (simp [h3, h6, h7, h8, h1988, h3003, h3289, Ym, Yd]; done) | (simp [h3, h6, h7, h8, h1988, h3003, h3289, Ym, Yd]; rfl)) (by first | rfl | (simp; done) | (simp; omega) | (simp [h3, h6, h7, h8, h1988, h3003, h3289]; done) | (simp [h3, h6, h7, h8, h1988, h3003, h3289]; omega)) (X0 X1f Xq)) (cc .sc cn)))
    obtain rfl := X35 rfl
    refine brE h ?_ ?_
    ·clear h; intro h3290 h
     obtain rfl := oj h
     refine Xe tmD [.el (aI .i64 (List.length ([] : List Xb) : Int)), Bt] ?_
     exact X6 rfl (Xl (cc (Zn X2) (cc .sc cn)))
    clear h; intro h3290 h
    obtain rfl := oj h
    refine Xe tmD [.el (aI .i64 (List.length ([] : List Xb) : Int)), Bf] ?_
    exact X6 rfl (Xl (cc (Zn X2) (cc .sc cn)))
   intro X06 Xil X0h eo3287; subst eo3287
   refine Xa.glue ?_
   try dsimp only at h
   rcases X0h with ⟨_ | _, X33⟩
   ·
    obtain rfl := oj h
    refine Xe tmD [] ?_
    exact X6 rfl (Xl (cc (X0o (es := X06.map X2) rfl (by first | rfl | (simp; done) | (simp; rfl) | (simp [h3, h6, h7, h8, h1988, h3003]; done) | (simp [h3, h6, h7, h8, h1988, h3003]; rfl) | (simp [h3, h6, h7, h8, h1988, h3003, Ym, Yd]; done) | (simp [h3, h6, h7, h8, h1988, h3003, Ym, Yd]; rfl)) (by first | rfl | (simp; done) | (simp; omega) | (simp [h3, h6, h7, h8, h1988, h3003]; done) | (simp [h3, h6, h7, h8, h1988, h3003]; omega)) (X0 X1f X06)) (cc .sc cn)))
   obtain rfl := X33 rfl
   obtain rfl := oj h
   refine Xe tmD [] ?_
   exact X6 rfl (Xl (cc (Zn X2) (cc .sc cn)))
  clear h
  have h := h30
  refine Xa.inline Xg fn80 rfl rfl rfl rfl rfl trivial trivial rfl rfl ?_
  refine brE h ?_ ?_
  ·clear h; intro q h
   have h25 : a0 = [] := List.isEmpty_iff.1 q
   refine Xe tmD [] ?_
   refine Xa.eqNil Xg (may := true) rfl rfl rfl rfl rfl rfl trivial (by simp [Xlg, *]) fun b26 qb26 => ?_
   cases b26
   ·
    obtain rfl := oj h
    refine Xe tmD [Bf, .ne false] ?_
    refine Xa.back (by intro id h; cases h) rfl ?_
    exact wkT [] ((J (nbT (by first | rfl | simp [*]))))
   obtain rfl := oj h
   refine Xe tmD [Bt] ?_
   refine Xa.back (by intro id h; cases h) rfl ?_
   exact wkT [] ((J (nbT (by first | rfl | simp [*]))))
  clear h; intro q h
  have h25 : ¬ (a0 = []) := (fun e => by rw [e] at q; cases q)
  refine Xe tmD [] ?_
  refine Xa.eqNil Xg (may := false) rfl rfl rfl rfl rfl rfl trivial (by simp [Xlg, *]) fun b27 qb27 => ?_
  obtain rfl := qb27 rfl
  refine X9 h ?_
  clear h; intro u28 h29 h
  obtain rfl := oj h
  refine rn tmD [Bf, .via (AV.list true (a0.map X2))] rfl (by repeat' first | refine Ya ?_ ?_ | (refine X0w h29 rfl ?_; first | (simp; done) | (simp; omega) | (simp [h3, h6, h7, h8, h25]; done) | (simp [h3, h6, h7, h8, h25]; omega)) | (refine X0a h29 (by decide) ?_; first | (simp; done) | (simp; omega) | (simp [h3, h6, h7, h8, h25]; done) | (simp [h3, h6, h7, h8, h25]; omega))|exact Xv) ?_
  refine Xa.back (by intro id h; cases h) rfl ?_
  exact wkT [(3, 4)] ((J nbF))
 clear h
 have h := h18
 refine X9 h ?_
 clear h; intro v14 h15 h
 refine brE h ?_ ?_
 ·clear h; intro h16 h
  obtain rfl := oj h
  refine rn tmD [.pure [(aI .i64 a2.Value)] (X04 v14), .ix 0] rfl (by repeat' first|apply Ya|exact (pn (X2n _ _ h2) (cc (X8 (X0 X1f a0)) cn))|exact (pn (X0c _ _ h5) (cc (X17 (x := a1)) cn))|exact (pn (Xhr _ _ h15) (cc .sc cn))|exact ((eq_of_beq h16))|exact Xv) ?_
  exact wkT [] (Xa.glue J)
 clear h; intro h16 h
 refine brE h ?_ ?_
 ·clear h; intro h17 h
  obtain rfl := oj h
  refine rn tmD [.pure [(aI .i64 a2.Value)] (X04 v14), .ix 1] rfl (by repeat' first|apply Ya|exact (pn (X2n _ _ h2) (cc (X8 (X0 X1f a0)) cn))|exact (pn (X0c _ _ h5) (cc (X17 (x := a1)) cn))|exact (pn (Xhr _ _ h15) (cc .sc cn))|exact ((eq_of_beq h17))|exact Xv) ?_
  exact wkT [] (Xa.glue J)
 clear h; intro h17 h
 cases h
end Go.Av.Tryz