/- Printed by decomp.py: that the program computes the functions. -/
import Derived.Test.YtoadgjfleafafaaGreatDCert7A
set_option linter.all false

namespace Go.Av.Tryz
open Go.Proofs Go.D
set_option maxRecDepth 10000
set_option maxHeartbeats 40000000
theorem Xaj (a0 : X1f) (a1 : X1f) (r : X1f × Int) (h : X92 a0 a1 = some r) : X16 Tryz.prog 83 [(X0g a0), (X0g a1)] (AV.tup [(X0g r.1), (aI .i64 r.2)]) := by
 refine X16.sym Xe Xrr (nt := 53) rfl rfl ?_ (X6 (X40 _ _).1 (X6 (X40 _ _).1 X08))
 unfold X92 at h
 refine X3 h ?_
 clear h; intro Xnx h12 h
 refine Xm tmD [.stop 1] ?_
 refine Xa.join (s' := ⟨fr [(2, (AV.ptr 0 0 0)), (3, (AV.ptr 1 0 0)), (4, (AV.ptr 2 0 0)), (13, (aB Xnx))], hp ([(0, Ob [(X0g a0)] 4), (1, Ob [(X0g a1)] 4), (2, Ob [(X0g (X1f.mk 0 0 0 0))] 4)]), 3⟩) ?_ (fun J => Xa.cut ?_)
 ·
  refine brE h ?_ ?_
  ·clear h; intro h13 h
   obtain rfl := oj h
   refine Xm tmD [Bt] ?_
   exact X8 rfl (X04 (cc (X0q (x := (X1f.mk 0 0 0 0))) (cc .sc cn)))
  clear h; intro h13 h
  refine brE h ?_ ?_
  ·clear h; intro h14 h
   obtain rfl := oj h
   refine Xm tmD [Bf, .wrap, Bt] ?_
   exact X8 rfl (X04 (cc (X0q (x := (X1f.mk 0 0 0 0))) (cc .sc cn)))
  clear h; intro h14 h
  refine brE h ?_ ?_
  ·clear h; intro h15 h
   obtain rfl := oj h
   refine Xm tmD [Bf, .wrap, Bf, Bt] ?_
   exact X8 rfl (X04 (cc (X0q (x := a1)) (cc .sc cn)))
  clear h; intro h15 h
  refine brE h ?_ ?_
  ·clear h; intro h16 h
   obtain rfl := oj h
   refine Xm tmD [Bf, .wrap, Bf, Bf, Bt] ?_
   exact X8 rfl (X04 (cc (X0q (x := a0)) (cc .sc cn)))
  clear h; intro h16 h
  obtain rfl := oj h
  refine Xm tmD [Bf, .wrap, Bf, Bf, Bf, .wrap, .wrap] ?_
  exact X8 rfl (X04 (cc (X0q (x := (X1f.mk (IntKind.i64.wrap (a0.Count + a1.Count)) (IntKind.i64.wrap (a0.Sum + a1.Sum)) (if a1.Min < a0.Min then a1.Min else a0.Min) (if a1.Max > a0.Max then a1.Max else a0.Max)))) (cc .sc cn)))
 clear h
 have h := h12
 refine X3 h ?_
 clear h; intro v7 h8 h
 refine brE h ?_ ?_
 ·clear h; intro h9 h
  obtain rfl := oj h
  refine rn tmD [.pure [(X0g a0)] (aI .i64 v7), .go false, .go false, .go false] rfl (by repeat' first|apply Ya|exact (pn (X0x _ _ h8) (cc (X0q (x := a0)) cn))|exact X00) ?_
  exact wkT [] (Xa.glue J)
 clear h; intro h9 h
 refine X3 h ?_
 clear h; intro v10 h11 h
 obtain rfl := oj h
 refine rn tmD [.pure [(X0g a0)] (aI .i64 v7), .go true, .go true, .pure [(X0g a1)] (aI .i64 v10), .go true] rfl (by repeat' first|apply Ya|exact (pn (X0x _ _ h8) (cc (X0q (x := a0)) cn))|exact (pn (X0x _ _ h11) (cc (X0q (x := a1)) cn))|exact X00) ?_
 exact wkT [] (Xa.glue J)
theorem X9h {Q : X0d -> St -> Mu -> Prop} {μ : Mu} (Xbk : (List X14)) (hl : Xbk.length <= 140737488355328) : ∀ (xs : List X14) (k : Nat) (hx : Xbk.drop k = xs) (X09 : X9) (X05 : (List X9)) (X0e : Nb X05) (o : X6d) (h : X6j Xbk xs k X09 X05 = some o)
  (C0 : ∀ (X0u : (List X9)) (X27 : Nb X0u), o = X6d.x0 X0u -> Xa Tryz.prog 112 0 Q (.exit (.exit 0)) [] ⟨fr [(13, (slE X27.1 0 (X0u.map X2)))], hp ([] ++ opE X27.1 0 11 (X0u.map X2)), 1⟩ μ)
  (C1 : ∀ (X1i : (List X9)) (Xdd : Int) (X25 : Nb X1i), o = X6d.x1 X1i Xdd -> Xa Tryz.prog 112 0 Q (.exit .ret) [] ⟨fr [(8, (slE X25.1 0 (X1i.map X2))), (9, (aI .i64 Xdd))], hp ([] ++ opE X25.1 0 11 (X1i.map X2)), 1⟩ μ),
  Xa Tryz.prog 112 0 Q (.loop (X7i 0 (X01 Tryz.f19))) [] ⟨fr [(12, (AV.ptr 0 0 0)), (13, (slE X0e.1 1 (X05.map X2))), (91, (AV.list true (Xbk.map X1z))), (92, (aI .i64 (Xbk.length : Int))), (93, (aI .i64 (k : Int)))], hp ([(0, Ob [(X2 X09)] 11)] ++ opE X0e.1 1 11 (X05.map X2)), 2⟩ μ := by
 intro xs
 induction xs with
 | nil =>
  intro k hx X09 X05 X0e o h C0 C1
  have hk := X2m hx
  have hc : decide ((k : Int) < (Xbk.length : Int)) = false := Yf (by omega)
  rw [X6j] at h
  rcases X0e with ⟨_ | _, X17⟩
  ·
   refine Xa.round ?_
   obtain rfl := oj h
   refine Xm tmD [Bf] ?_
   exact wkT [(0, 1)] (C0 _  nbF rfl)
  ·
   obtain rfl := X17 rfl
   refine Xa.round ?_
   obtain rfl := oj h
   refine Xm tmD [Bf] ?_
   exact wkT [] (C0 _  (nbT (by first | rfl | simp [*])) rfl)
 | cons x xs ih =>
  intro k hx X09 X05 X0e o h C0 C1
  obtain ⟨hk, hg, hx1⟩ := X20 hx
  have hc : decide ((k : Int) < (Xbk.length : Int)) = true := Yt (by omega)
  rw [X6j] at h
  rcases X0e with ⟨_ | _, X17⟩
  ·
   refine Xa.round ?_
   refine X3 h ?_
   clear h; intro w364 h411 h
   obtain ⟨Xo9, Xhs, Xji⟩ := w364
   try dsimp only at h
   refine Xm tmD [Bt, .el (X1z x)] ?_
   refine Xa.joinOpF (fun (q : Nb Xhs) => ⟨fr [(12, (AV.ptr 0 0 0)), (91, (AV.list true (Xbk.map X1z))), (92, (aI .i64 (Xbk.length : Int))), (93, (aI .i64 (k : Int))), (101, (AV.tup [(slE q.1 1 (Xhs.map X2)), (aI .i64 Xji)]))], hp ([(0, Ob [(X2 Xo9)] 11)] ++ opE q.1 1 11 (Xhs.map X2)), 2⟩) ?_ (fun J => ?_)
   ·
    rintro Xjb
    rcases Xjb with ⟨_ | _, Xjo⟩
    ·
     refine brE h ?_ ?_
     ·clear h; intro h412 h
      obtain rfl := oj h
      refine Xm tmD [Bt] ?_
      exact wkT [] (C1 _ _  (nbT (by first | rfl | simp [*])) rfl)
     clear h; intro h412 h
     refine Xm tmD [Bf] ?_
     exact wkT [] (ih (k + 1) hx1 _ _ nbF o h C0 C1)
    obtain rfl := Xjo rfl
    refine brE h ?_ ?_
    ·clear h; intro h413 h
     obtain rfl := oj h
     refine Xm tmD [Bt] ?_
     exact wkT [] (C1 _ _  (nbT (by first | rfl | simp [*])) rfl)
    clear h; intro h413 h
    refine Xm tmD [Bf] ?_
    exact wkT [] (ih (k + 1) hx1 _ _ (nbT (by first | rfl | simp [*])) o h C0 C1)
   clear h
   have h := h411
   refine Xa.inline Xe Xr1 rfl rfl rfl rfl rfl trivial trivial rfl rfl ?_
   refine X3 h ?_
   clear h; intro v365 h366 h
   refine rn tmD [.pure [(Lf (X05.map X2)), (X2 (X9.mk X09.Key x X09.Values)), (AV.fn 51 [])] (AV.tup [(aI .i64 v365.1), (aB v365.2)])] rfl (by repeat' first|apply Ya|exact (X22.lent (X1a _ _ _ h366) (cc (X1b (es := X05.map X2) rfl (by first | rfl | (simp; done) | (simp; rfl) | (simp [hc]; done) | (simp [hc]; rfl) | (simp [hc, Ym, Yd]; done) | (simp [hc, Ym, Yd]; rfl)) (by first | rfl | (simp; done) | (simp; omega) | (simp [hc]; done) | (simp [hc]; omega)) (X0 Xl X05)) (cc (X28 (x := (X9.mk X09.Key x X09.Values))) (cc .fn0 cn))) (Xae (X6 .sc (X6 .sc X08))))|exact X00) ?_
   refine brE h ?_ ?_
   ·clear h; intro h367 h
    refine brE h ?_ ?_
    ·clear h; intro h368 h
     refine X3 h ?_
     clear h; intro _ h384 h
     refine Xm tmD [Bt] ?_
     refine Xa.joinOp (s' := ⟨fr [(21, (AV.ref 2 0 (List.length (X05 ++ [(X9.mk X09.Key x X09.Values)]))))], hp ([(0, Ob [(X2 (X9.mk X09.Key x X09.Values))] 11), (2, Ob (List.map X2 (X05 ++ [(X9.mk X09.Key x X09.Values)])) 11)]), 3⟩) ?_ (fun J => ?_)
     ·
      simp only [Option.some.injEq, Prod.mk.injEq] at h
      obtain ⟨rfl, rfl, rfl⟩ := h
      refine Xm tmD [] ?_
      refine Xa.back (by intro id h; cases h) rfl ?_
      exact wkT [(1, 2)] ((J nbF))
     clear h
     have h := h384
     refine Xa.inline Xe Xqj rfl rfl rfl rfl rfl trivial trivial rfl rfl ?_
     refine X3 h ?_
     clear h; intro m377 h378 h
     obtain ⟨qah378, qbh378, qch378, qh378⟩ := X3o h378
     have qlh378 := X89 h378
     refine brE h ?_ ?_
     ·clear h; intro h379 h
      refine X3 h ?_
      clear h; intro u380 h381 h
      refine rn tmD [.ne false, Bf, .el (aI .i64 (X05.length : Int)), Bt, .no] rfl (by repeat' first | refine Ya ?_ ?_ | (simp at qah378 qbh378 qch378 ⊢; omega) | (simp at qah378 qbh378 qch378 qlh378 ⊢; have qz := X30 h379; omega) | (refine X2p h381 rfl ?_; first | (simp; done) | (simp; omega) | (simp [hc, h367, h368, h379]; done) | (simp [hc, h367, h368, h379]; omega)) | (refine X1e h381 (by decide) ?_; first | (simp; done) | (simp; omega) | (simp [hc, h367, h368, h379]; done) | (simp [hc, h367, h368, h379]; omega))|exact X00) ?_
      refine Xa.back (by intro id h; cases h) rfl ?_
      exact wkT [(2, 4)] (J)
     clear h; intro h379 h
     refine X3 h ?_
     clear h; intro u382 h383 h
     refine rn tmD [.via (.ref 1 (Int.toNat v365.1) (m377.length)), Bf, .el (aI .i64 (X05.length : Int)), Bt, .no] rfl (by repeat' first | refine Ya ?_ ?_ | (simp at qah378 qbh378 qch378 ⊢; omega) | (simp at qah378 qbh378 qch378 qlh378 ⊢; have qz := X11 h379; omega) | (simp at qah378 qbh378 qch378 qlh378 ⊢; omega) | (simp; done) | (refine X2p h383 rfl ?_; first | (simp; done) | (simp; omega) | (simp [hc, h367, h368, h379]; done) | (simp [hc, h367, h368, h379]; omega)) | (refine X1e h383 (by decide) ?_; first | (simp; done) | (simp; omega) | (simp [hc, h367, h368, h379]; done) | (simp [hc, h367, h368, h379]; omega))|exact X00) ?_
     refine Xa.back (by intro id h; cases h) rfl ?_
     exact wkT [(2, 4)] (J)
    clear h; intro h368 h
    refine X3 h ?_
    clear h; intro m385 h386 h
    refine Xm tmD [Bt] ?_
    refine Xa.hcall rfl rfl rfl rfl rfl trivial trivial (Xmb ⟨_, _, Xqj⟩ (f := X2) (l := X05) (x := (X9.mk X09.Key x X09.Values)) h386 rfl rfl rfl (by first | rfl | simp)) ?_
    simp only [Option.some.injEq, Prod.mk.injEq] at h
    obtain ⟨rfl, rfl, rfl⟩ := h
    refine Xm tmD [] ?_
    refine Xa.back (by intro id h; cases h) rfl ?_
    exact wkT [(1, 4)] ((J nbF))
   clear h; intro h367 h
   refine Xm tmD [Bf, .stop 4] ?_
   refine X3 h ?_
   clear h; intro e387 h388 h
   try have qh388 := X18 h388
   refine Xa.drawnCut 5 tmD [.el (X2 e387)] rfl rfl rfl rfl rfl (by repeat' first|apply Ya|exact X00) ?_
   refine X3 h ?_
   clear h; intro w399 h410 h
   obtain ⟨Xhr, Xo6⟩ := w399
   try dsimp only at h
   refine Xm tmD [] ?_
   refine Xa.joinOpF (fun (q : Nb Xhr) => ⟨fr [(0, (slE q.1 2 (Xhr.map X2))), (27, (aI .i64 Xo6))], hp ([(0, Ob [(X2 (X9.mk X09.Key x X09.Values))] 11)] ++ opE q.1 2 11 (Xhr.map X2)), 3⟩) ?_ (fun J => ?_)
   ·
    rintro Xja
    rcases Xja with ⟨_ | _, Xjn⟩
    ·
     simp only [Option.some.injEq, Prod.mk.injEq] at h
     obtain ⟨rfl, rfl, rfl⟩ := h
     refine Xm tmD [] ?_
     refine Xa.back (by intro id h; cases h) rfl ?_
     exact wkT [(1, 2)] ((J nbF))
    obtain rfl := Xjn rfl
    simp only [Option.some.injEq, Prod.mk.injEq] at h
    obtain ⟨rfl, rfl, rfl⟩ := h
    refine Xm tmD [] ?_
    refine Xa.back (by intro id h; cases h) rfl ?_
    exact wkT [] ((J (nbT (by first | rfl | simp [*]))))
   clear h
   have h := h410
   refine Xa.inline Xe Xs2 rfl rfl rfl rfl rfl trivial trivial rfl rfl ?_
   refine Xm tmD [] ?_
   refine Xa.round ?_
   refine X3 h ?_
   clear h; intro v402 h403 h
   refine rn tmD [Bt, .ix 0, .ix 0, .ld (X2 e387), .pure [(X0g e387.Values.e0), (X0g X09.Values.e0)] (AV.tup [(X0g v402.1), (aI .i64 v402.2)])] rfl (by repeat' first|apply Ya|exact (pn (Xaj _ _ _ h403) (cc (X0q (x := e387.Values.e0)) (cc (X0q (x := X09.Values.e0)) cn)))|exact X00) ?_
   refine brE h ?_ ?_
   ·clear h; intro h404 h
    simp only [Option.some.injEq, Prod.mk.injEq] at h
    obtain ⟨rfl, rfl⟩ := h
    refine Xm tmD [Bt] ?_
    refine Xa.back (by intro id h; cases h) rfl ?_
    exact wkT [(2, 1)] ((J nbF))
   clear h; intro h404 h
   refine rn tmD [Bf, .ix 0, .ld (X2 e387)] rfl (by repeat' first|apply Ya|exact (List.getElem?_set_self (by have hq := Xa7 h388; simp; omega)).trans rfl|exact X00) ?_
   refine Xa.round ?_
   refine X3 h ?_
   clear h; intro v407 h408 h
   refine rn tmD [Bt, .ix 1, .ix 1, .ld (X2 (X9.mk e387.Key e387.Span (V2.mk v402.1 e387.Values.e1))), .pure [(X0g (((X9.mk e387.Key e387.Span (V2.mk v402.1 e387.Values.e1)).Values).e1)), (X0g X09.Values.e1)] (AV.tup [(X0g v407.1), (aI .i64 v407.2)])] rfl (by repeat' first|apply Ya|exact (List.getElem?_set_self (by have hq := Xa7 h388; simp; omega)).trans rfl|exact (pn (Xaj _ _ _ h408) (cc (X0q (x := ((X9.mk e387.Key e387.Span (V2.mk v402.1 e387.Values.e1)).Values).e1)) (cc (X0q (x := X09.Values.e1)) cn)))|exact X00) ?_
   refine brE h ?_ ?_
   ·clear h; intro h409 h
    simp only [Option.some.injEq, Prod.mk.injEq] at h
    obtain ⟨rfl, rfl⟩ := h
    refine rn tmD [Bt] rfl (by repeat' first|apply Ya|exact (List.getElem?_set_self (by have hq := Xa7 h388; simp; omega)).trans rfl|exact X00) ?_
    refine Xa.back (by intro id h; cases h) rfl ?_
    exact wkT [(2, 1)] ((J nbF))
   clear h; intro h409 h
   refine rn tmD [Bf, .ix 1, .ld (X2 (X9.mk e387.Key e387.Span (V2.mk v402.1 e387.Values.e1)))] rfl (by repeat' first|apply Ya|exact (List.getElem?_set_self (by have hq := Xa7 h388; simp; omega)).trans rfl|exact X00) ?_
   refine Xa.round ?_
   simp only [Option.some.injEq, Prod.mk.injEq] at h
   obtain ⟨rfl, rfl⟩ := h
   refine rn tmD [Bf] rfl (by repeat' first|apply Ya|exact (List.getElem?_set_self (by have hq := Xa7 h388; simp; omega)).trans rfl|exact X00) ?_
   refine Xa.back (by intro id h; cases h) rfl ?_
   exact wkT [(2, 1)] ((J nbF))
  obtain rfl := X17 rfl
  refine Xa.round ?_
  refine X3 h ?_
  clear h; intro w434 h455 h
  obtain ⟨Xo2, Xhp, Xjh⟩ := w434
  try dsimp only at h
  refine Xm tmD [Bt, .el (X1z x)] ?_
  refine Xa.joinOpF (fun (q : Nb Xhp) => ⟨fr [(12, (AV.ptr 0 0 0)), (91, (AV.list true (Xbk.map X1z))), (92, (aI .i64 (Xbk.length : Int))), (93, (aI .i64 (k : Int))), (101, (AV.tup [(slE q.1 1 (Xhp.map X2)), (aI .i64 Xjh)]))], hp ([(0, Ob [(X2 Xo2)] 11)] ++ opE q.1 1 11 (Xhp.map X2)), 2⟩) ?_ (fun J => ?_)
  ·
   rintro Xj9
   rcases Xj9 with ⟨_ | _, Xjm⟩
   ·
    refine brE h ?_ ?_
    ·clear h; intro h456 h
     obtain rfl := oj h
     refine Xm tmD [Bt] ?_
     exact wkT [] (C1 _ _  (nbT (by first | rfl | simp [*])) rfl)
    clear h; intro h456 h
    refine Xm tmD [Bf] ?_
    exact wkT [] (ih (k + 1) hx1 _ _ nbF o h C0 C1)
   obtain rfl := Xjm rfl
   refine brE h ?_ ?_
   ·clear h; intro h457 h
    obtain rfl := oj h
    refine Xm tmD [Bt] ?_
    exact wkT [] (C1 _ _  (nbT (by first | rfl | simp [*])) rfl)
   clear h; intro h457 h
   refine Xm tmD [Bf] ?_
   exact wkT [] (ih (k + 1) hx1 _ _ (nbT (by first | rfl | simp [*])) o h C0 C1)
  clear h
  have h := h455
  refine Xa.inline Xe Xr1 rfl rfl rfl rfl rfl trivial trivial rfl rfl ?_
  refine X3 h ?_
  clear h; intro v435 h436 h
  refine rn tmD [.pure [(Lf (List.map X2 ([] : List X9))), (X2 (X9.mk X09.Key x X09.Values)), (AV.fn 51 [])] (AV.tup [(aI .i64 v435.1), (aB v435.2)])] rfl (by repeat' first|apply Ya|exact (pn (X1a _ _ _ h436) (cc (Zn X2) (cc (X28 (x := (X9.mk X09.Key x X09.Values))) (cc .fn0 cn))))|exact X00) ?_
  refine brE h ?_ ?_
  ·clear h; intro h437 h
   refine brE h ?_ ?_
   ·clear h; intro h438 h
    refine X3 h ?_
    clear h; intro _ h450 h
    refine Xm tmD [Bt] ?_
    refine Xa.joinOp (s' := ⟨fr [(21, (AV.ref 2 0 (List.length (([] : List X9) ++ [(X9.mk X09.Key x X09.Values)]))))], hp ([(0, Ob [(X2 (X9.mk X09.Key x X09.Values))] 11), (2, Ob (List.map X2 (([] : List X9) ++ [(X9.mk X09.Key x X09.Values)])) 11)]), 3⟩) ?_ (fun J => ?_)
    ·
     simp only [Option.some.injEq, Prod.mk.injEq] at h
     obtain ⟨rfl, rfl, rfl⟩ := h
     refine Xm tmD [] ?_
     refine Xa.back (by intro id h; cases h) rfl ?_
     exact wkT [(1, 2)] ((J nbF))
    clear h
    have h := h450
    refine Xa.inline Xe Xqj rfl rfl rfl rfl rfl trivial trivial rfl rfl ?_
    refine X3 h ?_
    clear h; intro m445 h446 h
    obtain ⟨qah446, qbh446, qch446, qh446⟩ := X3o h446
    obtain rfl := X88 h446
    refine brE h ?_ ?_
    ·clear h; intro h447 h
     refine X3 h ?_
     clear h; intro u448 h449 h
     refine rn tmD [Bf, .el (aI .i64 (List.length ([] : List X9) : Int)), Bt, .no] rfl (by repeat' first | refine Ya ?_ ?_ | (simp at qah446 qbh446 qch446 ⊢; omega) | (refine X2p h449 rfl ?_; first | (simp; done) | (simp; omega) | (simp [hc, h437, h438, h447]; done) | (simp [hc, h437, h438, h447]; omega)) | (refine X1e h449 (by decide) ?_; first | (simp; done) | (simp; omega) | (simp [hc, h437, h438, h447]; done) | (simp [hc, h437, h438, h447]; omega))|exact X00) ?_
     refine Xa.back (by intro id h; cases h) rfl ?_
     exact wkT [(2, 4)] (J)
    clear h; intro h447 h
    exact absurd h447 (by simp)
   clear h; intro h438 h
   refine X3 h ?_
   clear h; intro m451 h452 h
   exact absurd h452 (by simp [Xps])
  clear h; intro h437 h
  refine Xm tmD [Bf, .stop 4] ?_
  refine X3 h ?_
  clear h; intro e453 h454 h
  try have qh454 := X18 h454
  exact absurd (h454) (by simp [X98])
end Go.Av.Tryz