/- Printed by decomp.py: that the program computes the functions. -/
import Derived.Test.YtfdfgobnpnoomaaGreatDCert20Z
set_option linter.all false

namespace Go.Av.Tryz
open Go.Proofs Go.D
set_option maxRecDepth 10000
set_option maxHeartbeats 40000000
theorem Xeq (a0 : Xp) (r : Int × Int) (h : Xa0 a0 = some r) : X19 Tryz.prog 28 [(Xh false a0)] (AV.tup [(aI .i64 r.1), (aI .i64 r.2)]) := by
 refine X19.sym Xg fn28 (nt := 13) rfl rfl ?_ (Xf (X1a false _ _).1 X08)
 unfold Xa0 at h
 refine X9 h ?_
 clear h; intro v1 h2 h
 refine brE h ?_ ?_
 ·clear h; intro h3 h
  obtain rfl := oj h
  refine rn tmD [.pure [(Xh false a0)] (aI .i64 v1), Bt, .pure [(Xh false a0)] (aI .i64 v1)] rfl (by repeat' first|apply Ya|exact (pn (Xer _ _ h2) (cc (X0v (cc .sc (cc (X8 (X0 X7 a0.Arg)) (cc (X8 (X0 (fun _ => X0e) a0.Sources)) (cc .sc (cc (X8 (X0 X7 a0.Where)) (cc .sc (cc .sc (cc .sc (cc .sc (cc .sc cn))))))))))) cn))|exact Xv) ?_
  exact X6 rfl (Xl (cc .sc (cc .sc cn)))
 clear h; intro h3 h
 refine X9 h ?_
 clear h; intro v4 h5 h
 obtain rfl := oj h
 refine rn tmD [.pure [(Xh false a0)] (aI .i64 v1), Bf, .pure [(Xh false a0)] (AV.tup [(aI .i64 v4.1), (aI .i64 v4.2)])] rfl (by repeat' first|apply Ya|exact (pn (Xer _ _ h2) (cc (X0v (cc .sc (cc (X8 (X0 X7 a0.Arg)) (cc (X8 (X0 (fun _ => X0e) a0.Sources)) (cc .sc (cc (X8 (X0 X7 a0.Where)) (cc .sc (cc .sc (cc .sc (cc .sc (cc .sc cn))))))))))) cn))|exact (pn (Xkk _ _ h5) (cc (X0v (cc .sc (cc (X8 (X0 X7 a0.Arg)) (cc (X8 (X0 (fun _ => X0e) a0.Sources)) (cc .sc (cc (X8 (X0 X7 a0.Where)) (cc .sc (cc .sc (cc .sc (cc .sc (cc .sc cn))))))))))) cn))|exact Xv) ?_
 exact X6 rfl (Xl (cc .sc (cc .sc cn)))
theorem Xep (a0 : Int) (a1 : Int) (r : Int) (h : X8a a0 a1 = some r) : X19 Tryz.prog 58 [(aI .i64 a0), (aI .i64 a1)] (aI .i64 r) := by
 refine X19.sym Xg fn58 (nt := 17) rfl rfl ?_ (Xf .sc (Xf .sc X08))
 unfold X8a at h
 refine brE h ?_ ?_
 ·clear h; intro h1 h
  obtain rfl := oj h
  refine Xe tmD [Bt] ?_
  exact X6 rfl .sc
 clear h; intro h1 h
 refine brE h ?_ ?_
 ·clear h; intro h2 h
  obtain rfl := oj h
  refine Xe tmD [Bf, Bt] ?_
  exact X6 rfl .sc
 clear h; intro h2 h
 obtain rfl := oj h
 refine Xe tmD [Bf, Bf] ?_
 exact X6 rfl .sc
theorem Xen (a0 : Xi) (r : Bool) (h : X9x a0 = some r) : X19 Tryz.prog 34 [(X4 a0)] (aB r) := by
 refine X19.sym Xg fn34 (nt := 30) rfl rfl ?_ (Xf (Xad _ _).1 X08)
 unfold X9x at h
 refine brE h ?_ ?_
 ·clear h; intro h1 h
  refine X9 h ?_
  clear h; intro j6_2 h11 h
  refine Xe tmD [Bt, .stop 2] ?_
  refine Xa.join (s' := ⟨fr [(2, (aB j6_2))], hp ([]), 0⟩) ?_ (fun J => Xa.cut ?_)
  ·
   obtain rfl := oj h
   refine Xe tmD [] ?_
   exact X6 rfl .sc
  clear h
  have h := h11
  refine brE h ?_ ?_
  ·clear h; intro h7 h
   refine brE h ?_ ?_
   ·clear h; intro h8 h
    obtain rfl := oj h
    refine Xe tmD [.go true, .go true, .go true, .go true, .go false, .go false, .go false, .go false, .go true] ?_
    exact wkT [] (Xa.glue J)
   clear h; intro h8 h
   refine X9 h ?_
   clear h; intro v9 h10 h
   obtain rfl := oj h
   refine rn tmD [.go true, .go true, .go true, .go true, .go true, .go true, .go true, .pure [(aI .i64 a0.Time), (aI .i64 1)] (aI .i64 v9), .go true, .go true] rfl (by repeat' first|apply Ya|exact (pn (Xep _ _ _ h10) (cc .sc (cc .sc cn)))|exact Xv) ?_
   exact wkT [] (Xa.glue J)
  clear h; intro h7 h
  obtain rfl := oj h
  refine Xe tmD [.go false, .go false, .go false, .go false, .go false, .go false, .go false, .go false, .go false] ?_
  exact wkT [] (Xa.glue J)
 clear h; intro h1 h
 refine X9 h ?_
 clear h; intro X00y h19 h
 refine Xe tmD [Bf, .stop 3] ?_
 refine Xa.join (s' := ⟨fr [(2, (aB X00y))], hp ([]), 0⟩) ?_ (fun J => Xa.cut ?_)
 ·
  obtain rfl := oj h
  refine Xe tmD [] ?_
  exact X6 rfl .sc
 clear h
 have h := h19
 refine brE h ?_ ?_
 ·clear h; intro h16 h
  refine X9 h ?_
  clear h; intro v17 h18 h
  obtain rfl := oj h
  refine rn tmD [.go true, .go true, .go true, .go true, .pure [(aI .i64 a0.Record.Time), (aI .i64 1)] (aI .i64 v17), .go true] rfl (by repeat' first|apply Ya|exact (pn (Xep _ _ _ h18) (cc .sc (cc .sc cn)))|exact Xv) ?_
  exact wkT [] (Xa.glue J)
 clear h; intro h16 h
 obtain rfl := oj h
 refine Xe tmD [.go false, .go false, .go false, .go false, .go false] ?_
 exact wkT [] (Xa.glue J)
theorem Xge {Q : X0d -> St -> Mu -> Prop} {μ : Mu} (X14 : (List Xi)) (hl : X14.length <= 140737488355328) : ∀ (xs : List Xi) (k : Nat) (hx : X14.drop k = xs) (o : X6o) (h : X4j X14 xs k  = some o)
  (C0 : o = X6o.x0 -> Xa Tryz.prog 19 0 Q (.exit (.exit 0)) [] ⟨fr [], hp ([]), 0⟩ μ)
  (C1 : o = X6o.x1 -> Xa Tryz.prog 19 0 Q (.exit .ret) [] ⟨fr [(2, (aI .i64 8))], hp ([]), 0⟩ μ),
  Xa Tryz.prog 19 0 Q (.loop (X5o 0 (Xt Tryz.f72))) [] ⟨fr [(0, (Lf (X14.map X4))), (3, (aI .i64 (k : Int)))], hp ([]), 0⟩ μ := by
 intro xs
 induction xs with
 | nil =>
  intro k hx  o h C0 C1
  have hk := X1u hx
  have hc : decide ((k : Int) < (X14.length : Int)) = false := Yf (by omega)
  rw [X4j] at h
  refine Xa.round ?_
  obtain rfl := oj h
  refine Xe tmD [.el (aI .i64 (X14.length : Int)), Bf] ?_
  exact wkT [] (C0  rfl)
 | cons x xs ih =>
  intro k hx  o h C0 C1
  obtain ⟨hk, hg, hx1⟩ := X16 hx
  have hc : decide ((k : Int) < (X14.length : Int)) = true := Yt (by omega)
  rw [X4j] at h
  refine Xa.round ?_
  refine X9 h ?_
  clear h; intro v11 h12 h
  refine brE h ?_ ?_
  ·clear h; intro h13 h
   obtain rfl := oj h
   refine rn tmD [.el (aI .i64 (X14.length : Int)), Bt, .el (X4 x), .pure [(X4 x)] (aB v11), Bt] rfl (by repeat' first|apply Ya|exact (pn (Xen _ _ h12) (cc (Xec (x := x)) cn))|exact Xv) ?_
   exact wkT [] (C1  rfl)
  clear h; intro h13 h
  refine rn tmD [.el (aI .i64 (X14.length : Int)), Bt, .el (X4 x), .pure [(X4 x)] (aB v11), Bf] rfl (by repeat' first|apply Ya|exact (pn (Xen _ _ h12) (cc (Xec (x := x)) cn))|exact Xv) ?_
  exact wkT [] (ih (k + 1) hx1  o h C0 C1)
theorem Xeo (a0 : (List Xi)) (r : Int) (h : X9y a0 = some r) : X19 Tryz.prog 72 [(Lf (a0.map X4))] (aI .i64 r) := by
 refine X19.sym Xg fn72 (nt := 19) rfl rfl ?_ (Xf .list X08)
 unfold X9y at h
 refine brE h ?_ ?_
 ·clear h; intro h1 h
  obtain rfl := oj h
  refine Xe tmD [.el (aI .i64 (a0.length : Int)), Bt] ?_
  exact X6 rfl .sc
 clear h; intro h1 h
 refine X9 h ?_
 clear h; intro u2 h3 h
 have qh3 := X11 h3
 refine X9 h ?_
 clear h; intro o14 h15 h
 refine Xe tmD [.el (aI .i64 (a0.length : Int)), Bf] ?_
 refine wkT [] (Xa.cut (Xge a0 qh3 a0 0 (by simp) _ h15 ?_ ?_))
 ·intro eo14; subst eo14
  refine Xa.glue ?_
  try dsimp only at h
  obtain rfl := oj h
  refine Xe tmD [] ?_
  exact X6 rfl .sc
 intro eo14; subst eo14
 refine Xa.glue ?_
 try dsimp only at h
 obtain rfl := oj h
 refine Xe tmD [] ?_
 exact X6 rfl .sc
theorem Xgc {Q : X0d -> St -> Mu -> Prop} {μ : Mu} (X14 : (List (List Xi))) (hl : X14.length <= 140737488355328) : ∀ (xs : List (List Xi)) (k : Nat) (hx : X14.drop k = xs) (o : X6m) (h : X4h X14 xs k  = some o)
  (C0 : o = X6m.x0 -> Xa Tryz.prog 19 0 Q (.exit (.exit 0)) [] ⟨fr [], hp ([]), 0⟩ μ)
  (C1 : ∀ (X4r : Int), o = X6m.x1 X4r -> Xa Tryz.prog 19 0 Q (.exit .ret) [] ⟨fr [(2, (aI .i64 X4r))], hp ([]), 0⟩ μ),
  Xa Tryz.prog 19 0 Q (.loop (X5o 0 (Xt Tryz.f46))) [] ⟨fr [(0, (Lf (List.map (X3e false X4) X14))), (3, (aI .i64 (k : Int)))], hp ([]), 0⟩ μ := by
 intro xs
 induction xs with
 | nil =>
  intro k hx  o h C0 C1
  have hk := X1u hx
  have hc : decide ((k : Int) < (X14.length : Int)) = false := Yf (by omega)
  rw [X4h] at h
  refine Xa.round ?_
  obtain rfl := oj h
  refine Xe tmD [.el (aI .i64 (X14.length : Int)), Bf] ?_
  exact wkT [] (C0  rfl)
 | cons x xs ih =>
  intro k hx  o h C0 C1
  obtain ⟨hk, hg, hx1⟩ := X16 hx
  have hc : decide ((k : Int) < (X14.length : Int)) = true := Yt (by omega)
  rw [X4h] at h
  refine Xa.round ?_
  refine X9 h ?_
  clear h; intro v10 h11 h
  refine brE h ?_ ?_
  ·clear h; intro h12 h
   obtain rfl := oj h
   refine rn tmD [.el (aI .i64 (X14.length : Int)), Bt, .el (X3e false X4 x), .pure [(Lf (x.map X4))] (aI .i64 v10), Bt] rfl (by repeat' first|apply Ya|exact (pn (Xeo _ _ h11) (cc (X8 (X0 Xx x)) cn))|exact Xv) ?_
   exact wkT [] (C1 _  rfl)
  clear h; intro h12 h
  refine rn tmD [.el (aI .i64 (X14.length : Int)), Bt, .el (X3e false X4 x), .pure [(Lf (x.map X4))] (aI .i64 v10), Bf] rfl (by repeat' first|apply Ya|exact (pn (Xeo _ _ h11) (cc (X8 (X0 Xx x)) cn))|exact Xv) ?_
  exact wkT [] (ih (k + 1) hx1  o h C0 C1)
theorem Xkd (a0 : (List (List Xi))) (r : Int) (h : X9v a0 = some r) : X19 Tryz.prog 46 [(Lf (List.map (X3e false X4) a0))] (aI .i64 r) := by
 refine X19.sym Xg fn46 (nt := 19) rfl rfl ?_ (Xf .list X08)
 unfold X9v at h
 refine X9 h ?_
 clear h; intro u1 h2 h
 have qh2 := X11 h2
 refine X9 h ?_
 clear h; intro o13 h14 h
 refine Xe tmD [] ?_
 refine wkT [] (Xa.cut (Xgc a0 qh2 a0 0 (by simp) _ h14 ?_ ?_))
 ·intro eo13; subst eo13
  refine Xa.glue ?_
  try dsimp only at h
  obtain rfl := oj h
  refine Xe tmD [] ?_
  exact X6 rfl .sc
 intro X4r eo13; subst eo13
 refine Xa.glue ?_
 try dsimp only at h
 obtain rfl := oj h
 refine Xe tmD [] ?_
 exact X6 rfl .sc
theorem Xkg (a0 : Xp) (a1 : (List (List Xi))) (r : Int) (h : Xc5 a0 a1 = some r) : X19 Tryz.prog 53 [(Xh false a0), (Lf (List.map (X3e false X4) a1))] (aI .i64 r) := by
 refine X19.sym Xg fn53 (nt := 23) rfl rfl ?_ (Xf (X1a false _ _).1 (Xf .list X08))
 unfold Xc5 at h
 refine X9 h ?_
 clear h; intro v1 h2 h
 refine brE h ?_ ?_
 ·clear h; intro h3 h
  obtain rfl := oj h
  refine rn tmD [.pure [(Xh false a0)] (AV.tup [(aI .i64 v1.1), (aI .i64 v1.2)]), Bt] rfl (by repeat' first|apply Ya|exact (pn (Xeq _ _ h2) (cc (X0v (cc .sc (cc (X8 (X0 X7 a0.Arg)) (cc (X8 (X0 (fun _ => X0e) a0.Sources)) (cc .sc (cc (X8 (X0 X7 a0.Where)) (cc .sc (cc .sc (cc .sc (cc .sc (cc .sc cn))))))))))) cn))|exact Xv) ?_
  exact X6 rfl .sc
 clear h; intro h3 h
 refine rn tmD [.pure [(Xh false a0)] (AV.tup [(aI .i64 v1.1), (aI .i64 v1.2)]), Bf, .el (aI .i64 (a1.length : Int)), .el (aI .i64 (a0.Sources.length : Int))] rfl (by repeat' first|apply Ya|exact (pn (Xeq _ _ h2) (cc (X0v (cc .sc (cc (X8 (X0 X7 a0.Arg)) (cc (X8 (X0 (fun _ => X0e) a0.Sources)) (cc .sc (cc (X8 (X0 X7 a0.Where)) (cc .sc (cc .sc (cc .sc (cc .sc (cc .sc cn))))))))))) cn))|exact Xv) ?_
 refine brE h ?_ ?_
 ·clear h; intro h4 h
  obtain rfl := oj h
  refine Xe tmD [Bt] ?_
  exact X6 rfl .sc
 clear h; intro h4 h
 refine X9 h ?_
 clear h; intro v5 h6 h
 obtain rfl := oj h
 refine rn tmD [Bf, .pure [(Lf (List.map (X3e false X4) a1))] (aI .i64 v5)] rfl (by repeat' first|apply Ya|exact (pn (Xkd _ _ h6) (cc (X3z (fun _ => rfl) (fun x => X1w (X8 (X0 Xx _))) a1) cn))|exact Xv) ?_
 exact X6 rfl .sc
theorem Xhi (a0 : Xp) (a1 : (List (List Xi))) (r : Bool) (h : Xdh a0 a1 = some r) : X19 Tryz.prog 31 [(Xh false a0), (Lf (List.map (X3e false X4) a1))] (aB r) := by
 refine X19.sym Xg fn31 (nt := 19) rfl rfl ?_ (Xf (X1a false _ _).1 (Xf .list X08))
 unfold Xdh at h
 refine X9 h ?_
 clear h; intro j9_4 h18 h
 refine Xe tmD [.stop 1] ?_
 refine Xa.join (s' := ⟨fr [(4, (aB j9_4))], hp ([]), 0⟩) ?_ (fun J => Xa.cut ?_)
 ·
  obtain rfl := oj h
  refine Xe tmD [] ?_
  exact X6 rfl .sc
 clear h
 have h := h18
 refine X9 h ?_
 clear h; intro v10 h11 h
 refine brE h ?_ ?_
 ·clear h; intro h12 h
  refine X9 h ?_
  clear h; intro v13 h14 h
  refine brE h ?_ ?_
  ·clear h; intro h15 h
   refine X9 h ?_
   clear h; intro v16 h17 h
   obtain rfl := oj h
   refine rn tmD [.pure [(Xh false a0)] (aB v10), .go true, .go true, .pure [(Lf (List.map (X3e false X4) a1))] (aB v13), .go true, .go true, .go true, .go true, .pure [(Xh false a0), (Lf (List.map (X3e false X4) a1))] (aI .i64 v16), .go true] rfl (by repeat' first|apply Ya|exact (pn (Xb3 _ _ h11) (cc (X0v (cc .sc (cc (X8 (X0 X7 a0.Arg)) (cc (X8 (X0 (fun _ => X0e) a0.Sources)) (cc .sc (cc (X8 (X0 X7 a0.Where)) (cc .sc (cc .sc (cc .sc (cc .sc (cc .sc cn))))))))))) cn))|exact (pn (Xem _ _ h14) (cc (X3z (fun _ => rfl) (fun x => X1w (X8 (X0 Xx _))) a1) cn))|exact ((X05 h12 h15))|exact (X0u (X05 h12 h15))|exact (pn (Xkg _ _ _ h17) (cc (X0v (cc .sc (cc (X8 (X0 X7 a0.Arg)) (cc (X8 (X0 (fun _ => X0e) a0.Sources)) (cc .sc (cc (X8 (X0 X7 a0.Where)) (cc .sc (cc .sc (cc .sc (cc .sc (cc .sc cn))))))))))) (cc (X3z (fun _ => rfl) (fun x => X1w (X8 (X0 Xx _))) a1) cn)))|exact (Xka (X05 h12 h15))|exact Xv) ?_
   exact wkT [] (Xa.glue J)
  clear h; intro h15 h
  obtain rfl := oj h
  refine rn tmD [.pure [(Xh false a0)] (aB v10), .go true, .go true, .pure [(Lf (List.map (X3e false X4) a1))] (aB v13), .go true, .go false, .go false, .go false, .go false] rfl (by repeat' first|apply Ya|exact (pn (Xb3 _ _ h11) (cc (X0v (cc .sc (cc (X8 (X0 X7 a0.Arg)) (cc (X8 (X0 (fun _ => X0e) a0.Sources)) (cc .sc (cc (X8 (X0 X7 a0.Where)) (cc .sc (cc .sc (cc .sc (cc .sc (cc .sc cn))))))))))) cn))|exact (pn (Xem _ _ h14) (cc (X3z (fun _ => rfl) (fun x => X1w (X8 (X0 Xx _))) a1) cn))|exact ((X05 h12 h15))|exact (X0u (X05 h12 h15))|exact (Xei (X05 h12 h15))|exact Xv) ?_
  exact wkT [] (Xa.glue J)
 clear h; intro h12 h
 obtain rfl := oj h
 refine rn tmD [.pure [(Xh false a0)] (aB v10), .go false, .go false, .go false, .go false, .go false, .go false, .go false] rfl (by repeat' first|apply Ya|exact (pn (Xb3 _ _ h11) (cc (X0v (cc .sc (cc (X8 (X0 X7 a0.Arg)) (cc (X8 (X0 (fun _ => X0e) a0.Sources)) (cc .sc (cc (X8 (X0 X7 a0.Where)) (cc .sc (cc .sc (cc .sc (cc .sc (cc .sc cn))))))))))) cn))|exact ((X0q h12 rfl))|exact (X0u (X0q h12 rfl))|exact (Xei (X0q h12 rfl))|exact Xv) ?_
 exact wkT [] (Xa.glue J)
end Go.Av.Tryz