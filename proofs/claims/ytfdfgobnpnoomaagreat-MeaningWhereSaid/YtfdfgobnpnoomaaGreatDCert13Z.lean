/- Printed by decomp.py: that the program computes the functions. -/
import Derived.Test.YtfdfgobnpnoomaaGreatDCert12Z
set_option linter.all false

namespace Go.Av.Tryz
open Go.Proofs Go.D
set_option maxRecDepth 10000
set_option maxHeartbeats 40000000
theorem Xdv (a0 : Int) (a1 : X1j) (r : Int × Int) (h : X77 a0 a1 = some r) : X19 Tryz.prog 85 [(aI .u8 a0), (X04 a1)] (AV.tup [(aI .i64 r.1), (aI .i64 r.2)]) := by
 refine X19.sym Xg fn85 (nt := 34) rfl rfl ?_ (Xf .sc (Xf (X5z _ _).1 X08))
 unfold X77 at h
 refine brE h ?_ ?_
 ·clear h; intro h1 h
  obtain rfl := oj h
  refine Xe tmD [Bt] ?_
  exact X6 rfl (Xl (cc .sc (cc .sc cn)))
 clear h; intro h1 h
 refine X9 h ?_
 clear h; intro v2 h3 h
 refine brE h ?_ ?_
 ·clear h; intro h4 h
  obtain rfl := oj h
  refine rn tmD [Bf, .pure [(X04 a1)] (aI .i64 v2), Bt] rfl (by repeat' first|apply Ya|exact (pn (X0l _ _ h3) (cc (X0f (x := a1)) cn))|exact Xv) ?_
  exact X6 rfl (Xl (cc .sc (cc .sc cn)))
 clear h; intro h4 h
 refine brE h ?_ ?_
 ·clear h; intro h5 h
  obtain rfl := oj h
  refine rn tmD [Bf, .pure [(X04 a1)] (aI .i64 v2), Bf, Bt] rfl (by repeat' first|apply Ya|exact (pn (X0l _ _ h3) (cc (X0f (x := a1)) cn))|exact Xv) ?_
  exact X6 rfl (Xl (cc .sc (cc .sc cn)))
 clear h; intro h5 h
 refine X9 h ?_
 clear h; intro X00z h17 h
 refine rn tmD [Bf, .pure [(X04 a1)] (aI .i64 v2), Bf, Bf, .stop 9] rfl (by repeat' first|apply Ya|exact (pn (X0l _ _ h3) (cc (X0f (x := a1)) cn))|exact Xv) ?_
 refine Xa.join (s' := ⟨fr [(4, (aI .i64 X00z)), (5, (aI .i64 0))], hp ([]), 0⟩) ?_ (fun J => Xa.cut ?_)
 ·
  obtain rfl := oj h
  refine Xe tmD [] ?_
  exact X6 rfl (Xl (cc .sc (cc .sc cn)))
 clear h
 have h := h17
 refine brE h ?_ ?_
 ·clear h; intro h12 h
  obtain rfl := oj h
  refine rn tmD [.ix 0] rfl (by repeat' first|apply Ya|exact (pn (X0l _ _ h3) (cc (X0f (x := a1)) cn))|exact ((eq_of_beq h12))|exact Xv) ?_
  exact wkT [] (Xa.glue J)
 clear h; intro h12 h
 refine brE h ?_ ?_
 ·clear h; intro h13 h
  obtain rfl := oj h
  refine rn tmD [.ix 1] rfl (by repeat' first|apply Ya|exact (pn (X0l _ _ h3) (cc (X0f (x := a1)) cn))|exact ((eq_of_beq h13))|exact Xv) ?_
  exact wkT [] (Xa.glue J)
 clear h; intro h13 h
 refine brE h ?_ ?_
 ·clear h; intro h14 h
  obtain rfl := oj h
  refine rn tmD [.ix 2] rfl (by repeat' first|apply Ya|exact (pn (X0l _ _ h3) (cc (X0f (x := a1)) cn))|exact ((eq_of_beq h14))|exact Xv) ?_
  exact wkT [] (Xa.glue J)
 clear h; intro h14 h
 refine brE h ?_ ?_
 ·clear h; intro h15 h
  obtain rfl := oj h
  refine rn tmD [.ix 3] rfl (by repeat' first|apply Ya|exact (pn (X0l _ _ h3) (cc (X0f (x := a1)) cn))|exact ((eq_of_beq h15))|exact Xv) ?_
  exact wkT [] (Xa.glue J)
 clear h; intro h15 h
 refine brE h ?_ ?_
 ·clear h; intro h16 h
  obtain rfl := oj h
  refine rn tmD [.ix 4] rfl (by repeat' first|apply Ya|exact (pn (X0l _ _ h3) (cc (X0f (x := a1)) cn))|exact ((eq_of_beq h16))|exact Xv) ?_
  exact wkT [] (Xa.glue J)
 clear h; intro h16 h
 cases h
theorem X1z (a0 : Xp) (a1 : Xb) (r : X5g × Bool) (h : Xa9 a0 a1 = some r) : X19 Tryz.prog 52 [(Xh false a0), (X2 a1)] (AV.tup [(Xn r.1), (aB r.2)]) := by
 refine X19.sym Xg fn52 (nt := 44) rfl rfl ?_ (Xf (X1a false _ _).1 (Xf (X56 _ _).1 X08))
 unfold Xa9 at h
 refine Xe tmD [] ?_
 refine Xa.round ?_
 refine X9 h ?_
 clear h; intro v3 h4 h
 refine rn tmD [Bt, .go false, .go false, .go false, Bf, .ix 0, .pure [(aI .u8 a0.Agg), (X04 a1.Values.e0)] (AV.tup [(aI .i64 v3.1), (aI .i64 v3.2)])] rfl (by repeat' first|apply Ya|exact (pn (Xdv _ _ _ h4) (cc .sc (cc (X0f (x := a1.Values.e0)) cn)))|exact Xv) ?_
 refine brE h ?_ ?_
 ·clear h; intro h5 h
  obtain rfl := oj h
  refine Xe tmD [Bt] ?_
  exact X6 rfl (Xl (cc (Xg4 (x := (X5g.mk 0 (X13.mk 0 0) (V2.mk 0 0)))) (cc .sc cn)))
 clear h; intro h5 h
 refine Xe tmD [Bf, .ix 0] ?_
 refine Xa.round ?_
 refine brE h ?_ ?_
 ·clear h; intro h6 h
  obtain rfl := oj h
  refine Xe tmD [Bt, .go true, .go true, .go true, Bt] ?_
  exact X6 rfl (Xl (cc (Xg4 (x := (X5g.mk a1.Key a1.Span (V2.mk v3.1 0)))) (cc .sc cn)))
 clear h; intro h6 h
 refine X9 h ?_
 clear h; intro v9 h10 h
 refine rn tmD [Bt, .go true, .go true, .go true, Bf, .ix 1, .pure [(aI .u8 a0.Agg), (X04 a1.Values.e1)] (AV.tup [(aI .i64 v9.1), (aI .i64 v9.2)])] rfl (by repeat' first|apply Ya|exact (pn (Xdv _ _ _ h10) (cc .sc (cc (X0f (x := a1.Values.e1)) cn)))|exact Xv) ?_
 refine brE h ?_ ?_
 ·clear h; intro h11 h
  obtain rfl := oj h
  refine Xe tmD [Bt] ?_
  exact X6 rfl (Xl (cc (Xg4 (x := (X5g.mk 0 (X13.mk 0 0) (V2.mk 0 0)))) (cc .sc cn)))
 clear h; intro h11 h
 refine Xe tmD [Bf, .ix 1] ?_
 refine Xa.round ?_
 obtain rfl := oj h
 refine Xe tmD [Bf] ?_
 exact X6 rfl (Xl (cc (Xg4 (x := (X5g.mk a1.Key a1.Span (V2.mk v3.1 v9.1)))) (cc .sc cn)))
theorem X66 {Q : X0d -> St -> Mu -> Prop} {μ : Mu} (X2q : Xp) (Xd7 : (List Xj)) (Xnp : Int) (Xno : (List (List Xi))) (Xnn : Int) (Xnm : Int) (Xfb : (List Xj)) (Xid : Nb Xd7) (hl : Xfb.length <= 140737488355328) : ∀ (xs : List Xj) (k : Nat) (hx : Xfb.drop k = xs) (X8z : (List Xb)) (o : X6q) (h : X39 X2q Xd7 Xnp Xno Xnn Xnm Xfb xs k X8z = some o)
  (C0 : ∀ (X9l : (List Xb)) (X81 : (List Xj)) (X5c : Nb X81), o = X6q.x0 X9l X81 -> Xa Tryz.prog 119 0 Q (.exit (.exit 2)) [] ⟨fr [(2, (AV.ptr 0 0 0)), (10, (AV.list true (X9l.map X2))), (11, (slE X5c.1 1 (X81.map X3))), (46, (Lf (List.map (X3e false X4) Xno))), (47, (aI .i64 Xnn)), (48, (aI .i64 Xnm))], hp ([(0, Ob [(Xh false X2q)] 10)] ++ opE X5c.1 1 3 (X81.map X3)), 2⟩ μ)
  (C1 : ∀ (X80 : (List X5g)) (X7z : (List Xj)) (Xd4 : Int) (X5b : Nb X80) (X3d : Nb X7z), o = X6q.x1 X80 X7z Xd4 -> Xa Tryz.prog 119 0 Q (.exit .ret) [] ⟨fr [(4, (slE X5b.1 0 (X80.map Xn))), (5, (slE X3d.1 1 (X7z.map X3))), (6, (aI .i64 Xd4))], hp ([] ++ opE X5b.1 0 5 (X80.map Xn) ++ opE X3d.1 1 3 (X7z.map X3)), 2⟩ μ),
  Xa Tryz.prog 119 0 Q (.loop (X5o 1 (Xt Tryz.f19))) [] ⟨fr [(2, (AV.ptr 0 0 0)), (10, (AV.list true (X8z.map X2))), (11, (slE Xid.1 1 (Xd7.map X3))), (12, (aI .i64 Xnp)), (46, (Lf (List.map (X3e false X4) Xno))), (47, (aI .i64 Xnn)), (48, (aI .i64 Xnm)), (65, (AV.list true (Xfb.map X3))), (66, (aI .i64 (Xfb.length : Int))), (67, (aI .i64 (k : Int)))], hp ([(0, Ob [(Xh false X2q)] 10)] ++ opE Xid.1 1 3 (Xd7.map X3)), 2⟩ μ := by
 intro xs
 induction xs with
 | nil =>
  intro k hx X8z o h C0 C1
  have hk := X1u hx
  have hc : decide ((k : Int) < (Xfb.length : Int)) = false := Yf (by omega)
  rw [X39] at h
  rcases Xid with ⟨_ | _, Xn1⟩
  ·
   refine Xa.round ?_
   obtain rfl := oj h
   refine Xe tmD [Bf] ?_
   exact wkT [] (C0 _ _  nbF rfl)
  ·
   obtain rfl := Xn1 rfl
   refine Xa.round ?_
   obtain rfl := oj h
   refine Xe tmD [Bf] ?_
   exact wkT [] (C0 _ _  (nbT (by first | rfl | simp [*])) rfl)
 | cons x xs ih =>
  intro k hx X8z o h C0 C1
  obtain ⟨hk, hg, hx1⟩ := X16 hx
  have hc : decide ((k : Int) < (Xfb.length : Int)) = true := Yt (by omega)
  rw [X39] at h
  rcases Xid with ⟨_ | _, Xn1⟩
  ·
   refine Xa.round ?_
   refine X9 h ?_
   clear h; intro v482 h483 h
   refine brE h ?_ ?_
   ·clear h; intro h484 h
    refine rn tmD [Bt, .el (X3 x), .pure [(Xh false X2q), (X3 x)] (AV.tup [(X3 v482.1), (aB v482.2)]), Bt] rfl (by repeat' first|apply Ya|exact (pn (X2h _ _ _ h483) (cc (X0v (cc .sc (cc (X8 (X0 X7 X2q.Arg)) (cc (X8 (X0 (fun _ => X0e) X2q.Sources)) (cc .sc (cc (X8 (X0 X7 X2q.Where)) (cc .sc (cc .sc (cc .sc (cc .sc (cc .sc cn))))))))))) (cc (X1b (x := x)) cn)))|exact Xv) ?_
    exact wkT [] (ih (k + 1) hx1 _ o h C0 C1)
   clear h; intro h484 h
   refine X9 h ?_
   clear h; intro Xmk h488 h
   refine rn tmD [Bt, .el (X3 x), .pure [(Xh false X2q), (X3 x)] (AV.tup [(X3 v482.1), (aB v482.2)]), Bf] rfl (by repeat' first|apply Ya|exact (pn (X2h _ _ _ h483) (cc (X0v (cc .sc (cc (X8 (X0 X7 X2q.Arg)) (cc (X8 (X0 (fun _ => X0e) X2q.Sources)) (cc .sc (cc (X8 (X0 X7 X2q.Where)) (cc .sc (cc .sc (cc .sc (cc .sc (cc .sc cn))))))))))) (cc (X1b (x := x)) cn)))|exact Xv) ?_
   refine Xa.join (s' := ⟨fr [(2, (AV.ptr 0 0 0)), (10, (AV.list true (X8z.map X2))), (11, (AV.ref 1 0 (Xd7.length))), (12, (aI .i64 Xnp)), (19, (AV.ptr 2 0 0)), (21, (aI .i64 Xmk)), (46, (Lf (List.map (X3e false X4) Xno))), (47, (aI .i64 Xnn)), (48, (aI .i64 Xnm)), (65, (AV.list true (Xfb.map X3))), (66, (aI .i64 (Xfb.length : Int))), (67, (aI .i64 (k : Int)))], hp ([(0, Ob [(Xh false X2q)] 10), (1, Ob (Xd7.map X3) 3), (2, Ob [(X3 v482.1)] 3)]), 3⟩) ?_ (fun J => Xa.cut ?_)
   ·
    refine X9 h ?_
    clear h; intro v489 h490 h
    refine rn tmD [.pure [(Lf (X8z.map X2)), (X0g X2q.Window), (X3 v482.1), (aI .i64 Xmk)] (AV.tup [(AV.list true (v489.1.map X2)), (aI .i64 v489.2)])] rfl (by repeat' first|apply Ya|exact (pn (Xao _ _ _ _ _ h490) (cc (X8 (X0 X1f X8z)) (cc (X17 (x := X2q.Window)) (cc (X1b (x := v482.1)) (cc .sc cn)))))|exact Xv) ?_
    refine brE h ?_ ?_
    ·clear h; intro h491 h
     obtain rfl := oj h
     refine Xe tmD [Bt] ?_
     exact wkT [] (C1 _ _ _  (nbT (by first | rfl | simp [*])) (nbT (by first | rfl | simp [*])) rfl)
    clear h; intro h491 h
    refine Xe tmD [Bf] ?_
    exact wkT [] (ih (k + 1) hx1 _ o h C0 C1)
   clear h
   have h := h488
   refine brE h ?_ ?_
   ·clear h; intro h487 h
    obtain rfl := oj h
    refine rn tmD [Bt] rfl (by repeat' first|apply Ya|exact (pn (X2h _ _ _ h483) (cc (X0v (cc .sc (cc (X8 (X0 X7 X2q.Arg)) (cc (X8 (X0 (fun _ => X0e) X2q.Sources)) (cc .sc (cc (X8 (X0 X7 X2q.Where)) (cc .sc (cc .sc (cc .sc (cc .sc (cc .sc cn))))))))))) (cc (X1b (x := x)) cn)))|exact Xv) ?_
    exact wkT [(2, 3)] (Xa.glue J)
   clear h; intro h487 h
   obtain rfl := oj h
   refine rn tmD [Bf] rfl (by repeat' first|apply Ya|exact (pn (X2h _ _ _ h483) (cc (X0v (cc .sc (cc (X8 (X0 X7 X2q.Arg)) (cc (X8 (X0 (fun _ => X0e) X2q.Sources)) (cc .sc (cc (X8 (X0 X7 X2q.Where)) (cc .sc (cc .sc (cc .sc (cc .sc (cc .sc cn))))))))))) (cc (X1b (x := x)) cn)))|exact Xv) ?_
   exact wkT [(2, 3)] (Xa.glue J)
  obtain rfl := Xn1 rfl
  refine Xa.round ?_
  refine X9 h ?_
  clear h; intro v492 h493 h
  refine brE h ?_ ?_
  ·clear h; intro h494 h
   refine rn tmD [Bt, .el (X3 x), .pure [(Xh false X2q), (X3 x)] (AV.tup [(X3 v492.1), (aB v492.2)]), Bt] rfl (by repeat' first|apply Ya|exact (pn (X2h _ _ _ h493) (cc (X0v (cc .sc (cc (X8 (X0 X7 X2q.Arg)) (cc (X8 (X0 (fun _ => X0e) X2q.Sources)) (cc .sc (cc (X8 (X0 X7 X2q.Where)) (cc .sc (cc .sc (cc .sc (cc .sc (cc .sc cn))))))))))) (cc (X1b (x := x)) cn)))|exact Xv) ?_
   exact wkT [] (ih (k + 1) hx1 _ o h C0 C1)
  clear h; intro h494 h
  refine X9 h ?_
  clear h; intro Xvj h498 h
  refine rn tmD [Bt, .el (X3 x), .pure [(Xh false X2q), (X3 x)] (AV.tup [(X3 v492.1), (aB v492.2)]), Bf] rfl (by repeat' first|apply Ya|exact (pn (X2h _ _ _ h493) (cc (X0v (cc .sc (cc (X8 (X0 X7 X2q.Arg)) (cc (X8 (X0 (fun _ => X0e) X2q.Sources)) (cc .sc (cc (X8 (X0 X7 X2q.Where)) (cc .sc (cc .sc (cc .sc (cc .sc (cc .sc cn))))))))))) (cc (X1b (x := x)) cn)))|exact Xv) ?_
  refine Xa.join (s' := ⟨fr [(2, (AV.ptr 0 0 0)), (10, (AV.list true (X8z.map X2))), (11, AV.nils), (12, (aI .i64 Xnp)), (19, (AV.ptr 2 0 0)), (21, (aI .i64 Xvj)), (46, (Lf (List.map (X3e false X4) Xno))), (47, (aI .i64 Xnn)), (48, (aI .i64 Xnm)), (65, (AV.list true (Xfb.map X3))), (66, (aI .i64 (Xfb.length : Int))), (67, (aI .i64 (k : Int)))], hp ([(0, Ob [(Xh false X2q)] 10), (2, Ob [(X3 v492.1)] 3)]), 3⟩) ?_ (fun J => Xa.cut ?_)
  ·
   refine X9 h ?_
   clear h; intro v499 h500 h
   refine rn tmD [.pure [(Lf (X8z.map X2)), (X0g X2q.Window), (X3 v492.1), (aI .i64 Xvj)] (AV.tup [(AV.list true (v499.1.map X2)), (aI .i64 v499.2)])] rfl (by repeat' first|apply Ya|exact (pn (Xao _ _ _ _ _ h500) (cc (X8 (X0 X1f X8z)) (cc (X17 (x := X2q.Window)) (cc (X1b (x := v492.1)) (cc .sc cn)))))|exact Xv) ?_
   refine brE h ?_ ?_
   ·clear h; intro h501 h
    obtain rfl := oj h
    refine Xe tmD [Bt] ?_
    exact wkT [] (C1 _ _ _  (nbT (by first | rfl | simp [*])) (nbT (by first | rfl | simp [*])) rfl)
   clear h; intro h501 h
   refine Xe tmD [Bf] ?_
   exact wkT [] (ih (k + 1) hx1 _ o h C0 C1)
  clear h
  have h := h498
  refine brE h ?_ ?_
  ·clear h; intro h497 h
   obtain rfl := oj h
   refine rn tmD [Bt] rfl (by repeat' first|apply Ya|exact (pn (X2h _ _ _ h493) (cc (X0v (cc .sc (cc (X8 (X0 X7 X2q.Arg)) (cc (X8 (X0 (fun _ => X0e) X2q.Sources)) (cc .sc (cc (X8 (X0 X7 X2q.Where)) (cc .sc (cc .sc (cc .sc (cc .sc (cc .sc cn))))))))))) (cc (X1b (x := x)) cn)))|exact Xv) ?_
   exact wkT [(2, 3)] (Xa.glue J)
  clear h; intro h497 h
  obtain rfl := oj h
  refine rn tmD [Bf] rfl (by repeat' first|apply Ya|exact (pn (X2h _ _ _ h493) (cc (X0v (cc .sc (cc (X8 (X0 X7 X2q.Arg)) (cc (X8 (X0 (fun _ => X0e) X2q.Sources)) (cc .sc (cc (X8 (X0 X7 X2q.Where)) (cc .sc (cc .sc (cc .sc (cc .sc (cc .sc cn))))))))))) (cc (X1b (x := x)) cn)))|exact Xv) ?_
  exact wkT [(2, 3)] (Xa.glue J)
end Go.Av.Tryz