/- Printed by decomp.py: that the program computes the functions. -/
import Derived.Test.YtfdfgobnpnoomaaGreatDCert1Z
set_option linter.all false

namespace Go.Av.Tryz
open Go.Proofs Go.D
set_option maxRecDepth 10000
set_option maxHeartbeats 40000000
theorem Xmc (a0 : (List X00)) (r : (List Xo) × Bool) (h : Xe2 a0 = some r) : X19 Tryz.prog 175 [(Lf (a0.map X1))] (AV.tup [(AV.list true (r.1.map Xc)), (aB r.2)]) := by
 refine X19.sym Xg X049 (nt := 105) rfl rfl ?_ (Xf .list X08)
 unfold Xe2 at h
 refine X9 h ?_
 clear h; intro u1 h2 h
 have qh2 := X11 h2
 refine X9 h ?_
 clear h; intro o475 h476 h
 refine Xe tmD [.el (aI .i64 (a0.length : Int))] ?_
 refine wkT [] (Xa.cut (Xhw a0 qh2 a0 0 (by simp) _ _ (nbT (by first | rfl | simp [*])) (nbT (by first | rfl | simp [*])) _ h476 ?_ ?_))
 ·intro Xq X0m X0i X0z eo475; subst eo475
  refine Xa.glue ?_
  try dsimp only at h
  rcases X0i with ⟨_ | _, X35⟩
  ·
   rcases X0z with ⟨_ | _, X34⟩
   ·
    obtain rfl := oj h
    refine Xe tmD [.el (aI .i64 (X0m.length : Int))] ?_
    exact X6 rfl (Xl (cc (X0o (es := Xq.map Xc) rfl (by first | rfl | (simp; done) | (simp; rfl) | (simp []; done) | (simp []; rfl) | (simp [Ym, Yd]; done) | (simp [Ym, Yd]; rfl)) (by first | rfl | (simp; done) | (simp; omega) | (simp []; done) | (simp []; omega)) (X0 X7o Xq)) (cc (Xew (by first | rfl | (simp [*]; done))) cn)))
   obtain rfl := X34 rfl
   obtain rfl := oj h
   refine Xe tmD [.el (aI .i64 (List.length ([] : List Xo) : Int))] ?_
   exact X6 rfl (Xl (cc (X0o (es := Xq.map Xc) rfl (by first | rfl | (simp; done) | (simp; rfl) | (simp []; done) | (simp []; rfl) | (simp [Ym, Yd]; done) | (simp [Ym, Yd]; rfl)) (by first | rfl | (simp; done) | (simp; omega) | (simp []; done) | (simp []; omega)) (X0 X7o Xq)) (cc (Xew (by first | rfl | (simp [*]; done))) cn)))
  obtain rfl := X35 rfl
  rcases X0z with ⟨_ | _, X34⟩
  ·
   obtain rfl := oj h
   refine Xe tmD [.el (aI .i64 (X0m.length : Int))] ?_
   exact X6 rfl (Xl (cc (X2l (by simp)) (cc (Xew (by first | rfl | (simp [*]; done))) cn)))
  obtain rfl := X34 rfl
  obtain rfl := oj h
  refine Xe tmD [.el (aI .i64 (List.length ([] : List Xo) : Int))] ?_
  exact X6 rfl (Xl (cc (X2l (by simp)) (cc (Xew (by first | rfl | (simp [*]; done))) cn)))
 intro X06 X0h eo475; subst eo475
 refine Xa.glue ?_
 try dsimp only at h
 rcases X0h with ⟨_ | _, X33⟩
 ·
  obtain rfl := oj h
  refine Xe tmD [] ?_
  exact X6 rfl (Xl (cc (X0o (es := X06.map Xc) rfl (by first | rfl | (simp; done) | (simp; rfl) | (simp []; done) | (simp []; rfl) | (simp [Ym, Yd]; done) | (simp [Ym, Yd]; rfl)) (by first | rfl | (simp; done) | (simp; omega) | (simp []; done) | (simp []; omega)) (X0 X7o X06)) (cc .sc cn)))
 obtain rfl := X33 rfl
 obtain rfl := oj h
 refine Xe tmD [] ?_
 exact X6 rfl (Xl (cc (X2l (by simp)) (cc .sc cn)))
theorem Xks (a0 : (List X00)) (r : (List Xo) × Int) (h : Xa6 a0 = some r) : X19 Tryz.prog 135 [(Lf (a0.map X1))] (AV.tup [(AV.list true (r.1.map Xc)), (aI .i64 r.2)]) := by
 refine X19.sym Xg X04l (nt := 25) rfl rfl ?_ (Xf .list X08)
 unfold Xa6 at h
 refine brE h ?_ ?_
 ·clear h; intro h1 h
  obtain rfl := oj h
  refine Xe tmD [.el (aI .i64 (a0.length : Int)), Bt] ?_
  exact X6 rfl (Xl (cc (Zn Xc) (cc .sc cn)))
 clear h; intro h1 h
 refine X9 h ?_
 clear h; intro v2 h3 h
 refine rn tmD [.el (aI .i64 (a0.length : Int)), Bf, .pure [(Lf (a0.map X1))] (AV.tup [(AV.list true (v2.1.map Xc)), (aB v2.2)])] rfl (by repeat' first|apply Ya|exact (pn (Xmc _ _ h3) (cc (X8 (X0 X7 a0)) cn))|exact Xv) ?_
 refine brE h ?_ ?_
 ·clear h; intro h4 h
  obtain rfl := oj h
  refine Xe tmD [Bt] ?_
  exact X6 rfl (Xl (cc (Zn Xc) (cc .sc cn)))
 clear h; intro h4 h
 refine X9 h ?_
 clear h; intro e5 h6 h
 try have qh6 := Xz h6
 refine brE h ?_ ?_
 ·clear h; intro h7 h
  obtain rfl := oj h
  refine Xe tmD [Bf, .el (aI .i64 (v2.1.length : Int)), .wrap, .el (Xc e5), Bt] ?_
  exact X6 rfl (Xl (cc (Zn Xc) (cc .sc cn)))
 clear h; intro h7 h
 obtain rfl := oj h
 refine Xe tmD [Bf, .el (aI .i64 (v2.1.length : Int)), .wrap, .el (Xc e5), Bf] ?_
 exact X6 rfl (Xl (cc (.listS rfl) (cc .sc cn)))
theorem X4m (a0 : (List X00)) (r : Int) (h : X5w a0 = some r) : X19 Tryz.prog 106 [(Lf (a0.map X1))] (aI .i64 r) := by
 refine X19.sym Xg X052 (nt := 11) rfl rfl ?_ (Xf .list X08)
 unfold X5w at h
 refine X9 h ?_
 clear h; intro v1 h2 h
 obtain rfl := oj h
 refine rn tmD [.pure [(Lf (a0.map X1))] (AV.tup [(AV.list true (v1.1.map Xc)), (aI .i64 v1.2)])] rfl (by repeat' first|apply Ya|exact (pn (Xks _ _ h2) (cc (X8 (X0 X7 a0)) cn))|exact Xv) ?_
 exact X6 rfl .sc
theorem X96 (a0 : Int) (r : Bool) (h : X6a a0 = some r) : X19 Tryz.prog 136 [(aI .i64 a0)] (aB r) := by
 refine X19.sym Xg X04k (nt := 9) rfl rfl ?_ (Xf .sc X08)
 unfold X6a at h
 obtain rfl := oj h
 refine Xe tmD [] ?_
 exact X6 rfl .sc
theorem X8v {Q : X0d -> St -> Mu -> Prop} {μ : Mu} (X14 : (List Int)) (hl : X14.length <= 140737488355328) : ∀ (xs : List Int) (k : Nat) (hx : X14.drop k = xs) (o : X2b) (h : X15 X14 xs k  = some o)
  (C0 : o = X2b.x0 -> Xa Tryz.prog 19 0 Q (.exit (.exit 0)) [] ⟨fr [], hp ([]), 0⟩ μ)
  (C1 : ∀ (Xaj : Int), o = X2b.x1 Xaj -> Xa Tryz.prog 19 0 Q (.exit .ret) [] ⟨fr [(4, (aI .i64 Xaj))], hp ([]), 0⟩ μ),
  Xa Tryz.prog 19 0 Q (.loop (X5o 0 (Xt Tryz.f176))) [] ⟨fr [(0, (Lf (List.map (aI .i64) X14))), (1, (AV.fn 136 [])), (7, (aI .i64 (X14.length : Int))), (8, (aI .i64 (k : Int)))], hp ([]), 0⟩ μ := by
 intro xs
 induction xs with
 | nil =>
  intro k hx  o h C0 C1
  have hk := X1u hx
  have hc : decide ((k : Int) < (X14.length : Int)) = false := Yf (by omega)
  rw [X15] at h
  refine Xa.round ?_
  obtain rfl := oj h
  refine Xe tmD [Bf] ?_
  exact wkT [] (C0  rfl)
 | cons x xs ih =>
  intro k hx  o h C0 C1
  obtain ⟨hk, hg, hx1⟩ := X16 hx
  have hc : decide ((k : Int) < (X14.length : Int)) = true := Yt (by omega)
  rw [X15] at h
  refine Xa.round ?_
  refine X9 h ?_
  clear h; intro v10 h11 h
  refine brE h ?_ ?_
  ·clear h; intro h12 h
   obtain rfl := oj h
   refine rn tmD [Bt, .el (aI .i64 x), .pure [(aI .i64 x)] (aB v10), Bt] rfl (by repeat' first|apply Ya|exact (pn (X96 _ _ h11) (cc .sc cn))|exact Xv) ?_
   exact wkT [] (C1 _  rfl)
  clear h; intro h12 h
  refine rn tmD [Bt, .el (aI .i64 x), .pure [(aI .i64 x)] (aB v10), Bf] rfl (by repeat' first|apply Ya|exact (pn (X96 _ _ h11) (cc .sc cn))|exact Xv) ?_
  exact wkT [] (ih (k + 1) hx1  o h C0 C1)
theorem X4s (a0 : (List Int)) (r : Int) (h : X10 a0 = some r) : X19 Tryz.prog 176 [(Lf (List.map (aI .i64) a0)), (AV.fn 136 [])] (aI .i64 r) := by
 refine X19.sym Xg X048 (nt := 19) rfl rfl ?_ (Xf .list (Xf Xuy X08))
 unfold X10 at h
 refine X9 h ?_
 clear h; intro u1 h2 h
 have qh2 := X11 h2
 refine X9 h ?_
 clear h; intro o13 h14 h
 refine Xe tmD [.el (aI .i64 (a0.length : Int))] ?_
 refine wkT [] (Xa.cut (X8v a0 qh2 a0 0 (by simp) _ h14 ?_ ?_))
 ·intro eo13; subst eo13
  refine Xa.glue ?_
  try dsimp only at h
  obtain rfl := oj h
  refine Xe tmD [] ?_
  exact X6 rfl .sc
 intro Xaj eo13; subst eo13
 refine Xa.glue ?_
 try dsimp only at h
 obtain rfl := oj h
 refine Xe tmD [] ?_
 exact X6 rfl .sc
theorem X26 (a0 : (List Int)) (r : Bool) (h : X0b a0 = some r) : X19 Tryz.prog 137 [(Lf (List.map (aI .i64) a0)), (AV.fn 136 [])] (aB r) := by
 refine X19.sym Xg X04j (nt := 9) rfl rfl ?_ (Xf .list (Xf Xuy X08))
 unfold X0b at h
 refine X9 h ?_
 clear h; intro v1 h2 h
 obtain rfl := oj h
 refine rn tmD [.pure [(Lf (List.map (aI .i64) a0)), (AV.fn 136 [])] (aI .i64 v1)] rfl (by repeat' first|apply Ya|exact (pn (X4s _ _ h2) (cc (X8 (X0 (fun _ => X0e) a0)) (cc .fn0 cn)))|exact Xv) ?_
 exact X6 rfl .sc
theorem Xvd (z : Int) : ∀ (ks : List Int), Xs7 (.int .i64 z) (.bool true) (ks.map Xkw) = (Xjx ks z).map Xkw := by
 intro ks
 unfold Xjx
 induction ks with
 | nil => simp [Xs7, Xkw]
 | cons a r ih =>
  simp only [List.map_cons, Xkw, Xs7]
  by_cases h : a = z
  ·subst h; simp [Xkw]
  have h1 : ¬ (Value.int .i64 a = Value.int .i64 z) := by simpa using h
  rw [if_neg h1]
  have ih' : Xs7 (.int .i64 z) (.bool true) (r.map Xkw) = (if z ∈ r then r else r ++ [z]).map Xkw := ih
  rw [ih']
  have h2 : ¬ z = a := fun e => h e.symm
  by_cases hz : z ∈ r <;> simp [hz, h2, Xkw]
theorem Xcq {Q : X0d -> St -> Mu -> Prop} {μ : Mu} (b : Nat) (l : List Int) (hl : l.length <= 140737488355328) : ∀ (xs : List Int) (k : Nat) (hx : l.drop k = xs) (ks : List Int)
  (C : Xa Tryz.prog 18 0 Q (.exit (.exit 0)) [] ⟨fr [(3, .sc (.map (some b)))], hp [], 0⟩ ((b, (X8w ks xs).map Xkw) :: μ)),
  Xa Tryz.prog 18 0 Q (.loop (X5o 0 (Xt Tryz.f138))) [] ⟨fr [(3, .sc (.map (some b))), (7, AV.list false (List.map (aI .i64) l)), (8, aI .i64 (l.length : Int)), (9, aI .i64 (k : Int))], hp [], 0⟩ ((b, ks.map Xkw) :: μ) := by
 intro xs
 induction xs with
 | nil =>
  intro k hx ks C
  have hk := X1u hx
  have hc : decide ((k : Int) < (l.length : Int)) = false := Yf (by omega)
  refine Xa.round ?_
  refine rn tmD [Bf] rfl (by repeat' first|apply Ya|exact hc|exact Xv) ?_
  exact Xa.weakTo [] C rfl (by repeat' first|apply Ya|exact wkA) trivial
 | cons x xs ih =>
  intro k hx ks C
  obtain ⟨hk, hg, hx1⟩ := X16 hx
  have hc : decide ((k : Int) < (l.length : Int)) = true := Yt (by omega)
  refine Xa.round ?_
  refine rn tmD [Bt, .el (aI .i64 x)] rfl (by repeat' first|apply Ya|exact hc|exact ixm hg|exact Xv) ?_
  refine Xa.mapUpd (d := .int .i64) Xg rfl rfl rfl rfl rfl Tryz.underlying3 rfl rfl rfl trivial trivial trivial rfl (by
   intro p hp; obtain ⟨z, _, rfl⟩ := List.mem_map.1 hp; rfl) ?_
  rw [Xvd]
  refine Xe tmD [] ?_
  exact Xa.weakTo [] (ih (k + 1) hx1 (Xjx ks x) C) rfl (by repeat' first|apply Ya|exact wkA) trivial
theorem X7s (a0 : (List Int)) (r : Int) (h : X3l a0 = some r) : X19 Tryz.prog 138 [(Lf (List.map (aI .i64) a0))] (aI .i64 r) := by
 refine X19.sym Xg X04i (nt := 18) rfl rfl ?_ (Xf .list X08)
 unfold X3l at h
 refine X9 h ?_
 clear h; intro u h1 h
 have q1 := X11 h1
 obtain rfl := oj h
 refine Xe tmD [] ?_
 refine Xa.mapNew rfl rfl rfl fun b => ?_
 refine Xe tmD [] ?_
 refine Xa.weakTo [] (Xa.cut (Xcq b a0 q1 a0 0 (by simp) [] ?_)) rfl (by repeat' first|apply Ya|exact wkA) trivial
 refine Xa.glue ?_
 refine Xe tmD [] ?_
 refine Xa.mapLen Xg rfl rfl rfl rfl rfl rfl trivial ?_
 rw [List.length_map]
 refine Xe tmD [] ?_
 exact X6 rfl .sc
theorem X29 (a0 : (List Int)) (a1 : Bool) (r : Int) (h : X2r a0 a1 = some r) : X19 Tryz.prog 107 [(Lf (List.map (aI .i64) a0)), (aB a1)] (aI .i64 r) := by
 refine X19.sym Xg X051 (nt := 30) rfl rfl ?_ (Xf .list (Xf .sc X08))
 unfold X2r at h
 refine brE h ?_ ?_
 ·clear h; intro h1 h
  obtain rfl := oj h
  refine Xe tmD [.el (aI .i64 (a0.length : Int)), Bt] ?_
  exact X6 rfl .sc
 clear h; intro h1 h
 refine X9 h ?_
 clear h; intro X00h h17 h
 refine Xe tmD [.el (aI .i64 (a0.length : Int)), Bf, .stop 4] ?_
 refine Xa.join (s' := ⟨fr [(0, (Lf (List.map (aI .i64) a0))), (24, (aB X00h))], hp ([]), 0⟩) ?_ (fun J => Xa.cut ?_)
 ·
  refine brE h ?_ ?_
  ·clear h; intro h18 h
   obtain rfl := oj h
   refine Xe tmD [Bt] ?_
   exact X6 rfl .sc
  clear h; intro h18 h
  refine X9 h ?_
  clear h; intro v19 h20 h
  refine brE h ?_ ?_
  ·clear h; intro h21 h
   obtain rfl := oj h
   refine rn tmD [Bf, .pure [(Lf (List.map (aI .i64) a0))] (aI .i64 v19), .el (aI .i64 (a0.length : Int)), Bt] rfl (by repeat' first|apply Ya|exact (pn (X7s _ _ h20) (cc (X8 (X0 (fun _ => X0e) a0)) cn))|exact Xv) ?_
   exact X6 rfl .sc
  clear h; intro h21 h
  obtain rfl := oj h
  refine rn tmD [Bf, .pure [(Lf (List.map (aI .i64) a0))] (aI .i64 v19), .el (aI .i64 (a0.length : Int)), Bf] rfl (by repeat' first|apply Ya|exact (pn (X7s _ _ h20) (cc (X8 (X0 (fun _ => X0e) a0)) cn))|exact Xv) ?_
  exact X6 rfl .sc
 clear h
 have h := h17
 refine brE h ?_ ?_
 ·clear h; intro h10 h
  obtain rfl := oj h
  refine rn tmD [.el (aI .i64 (a0.length : Int)), .go false, .go false, .go false, .go false, .go false, .go false, .go false, .go false, .go false] rfl (by repeat' first|apply Ya|exact ((X05 h10 rfl))|exact (X0u (X05 h10 rfl))|exact (Xka (X05 h10 rfl))|exact Xv) ?_
  exact wkT [] (Xa.glue J)
 clear h; intro h10 h
 refine brE h ?_ ?_
 ·clear h; intro h11 h
  refine brE h ?_ ?_
  ·clear h; intro h12 h
   obtain rfl := oj h
   refine rn tmD [.el (aI .i64 (a0.length : Int)), .go true, .go true, .go true, .go true, .el (aI .i64 (a0.length : Int)), .go true, .go true, .go false, .go false, .go false] rfl (by repeat' first|apply Ya|exact ((X0q h10 (X05 h11 h12)))|exact (X0u (X0q h10 (X05 h11 h12)))|exact (Xka (X0q h10 (X05 h11 h12)))|exact Xv) ?_
   exact wkT [] (Xa.glue J)
  clear h; intro h12 h
  refine X9 h ?_
  clear h; intro v13 h14 h
  obtain rfl := oj h
  refine rn tmD [.el (aI .i64 (a0.length : Int)), .go true, .go true, .go true, .go true, .el (aI .i64 (a0.length : Int)), .go true, .go true, .go true, .go true, .go true, .pure [(Lf (List.map (aI .i64) a0)), (AV.fn 136 [])] (aB v13)] rfl (by repeat' first|apply Ya|exact ((X0q h10 (X05 h11 h12)))|exact (X0u (X0q h10 (X05 h11 h12)))|exact (pn (X26 _ _ h14) (cc (X8 (X0 (fun _ => X0e) a0)) (cc .fn0 cn)))|exact (Xei (X0q h10 (X05 h11 h12)))|exact Xv) ?_
  exact wkT [] (Xa.glue J)
 clear h; intro h11 h
 refine X9 h ?_
 clear h; intro v15 h16 h
 obtain rfl := oj h
 refine rn tmD [.el (aI .i64 (a0.length : Int)), .go true, .go true, .go false, .go false, .go false, .go true, .go true, .go true, .go true, .pure [(Lf (List.map (aI .i64) a0)), (AV.fn 136 [])] (aB v15)] rfl (by repeat' first|apply Ya|exact ((X0q h10 (X0q h11 rfl)))|exact (X0u (X0q h10 (X0q h11 rfl)))|exact (pn (X26 _ _ h16) (cc (X8 (X0 (fun _ => X0e) a0)) (cc .fn0 cn)))|exact (Xei (X0q h10 (X0q h11 rfl)))|exact Xv) ?_
 exact wkT [] (Xa.glue J)
theorem X0c (a0 : X0x) (r : Int) (h : X1o a0 = some r) : X19 Tryz.prog 78 [(X0g a0)] (aI .i64 r) := by
 refine X19.sym Xg fn78 (nt := 40) rfl rfl ?_ (Xf (X4x _ _).1 X08)
 unfold X1o at h
 refine brE h ?_ ?_
 ·clear h; intro h1 h
  obtain rfl := oj h
  refine Xe tmD [Bt] ?_
  exact X6 rfl .sc
 clear h; intro h1 h
 refine brE h ?_ ?_
 ·clear h; intro h2 h
  refine brE h ?_ ?_
  ·clear h; intro h3 h
   obtain rfl := oj h
   refine Xe tmD [Bf, Bt, .wrap, Bt] ?_
   exact X6 rfl .sc
  clear h; intro h3 h
  obtain rfl := oj h
  refine Xe tmD [Bf, Bt, .wrap, Bf] ?_
  exact X6 rfl .sc
 clear h; intro h2 h
 refine brE h ?_ ?_
 ·clear h; intro h4 h
  refine brE h ?_ ?_
  ·clear h; intro h5 h
   obtain rfl := oj h
   refine Xe tmD [Bf, Bf, Bt, Bt] ?_
   exact X6 rfl .sc
  clear h; intro h5 h
  obtain rfl := oj h
  refine Xe tmD [Bf, Bf, Bt, Bf] ?_
  exact X6 rfl .sc
 clear h; intro h4 h
 refine brE h ?_ ?_
 ·clear h; intro h6 h
  refine brE h ?_ ?_
  ·clear h; intro h7 h
   obtain rfl := oj h
   refine Xe tmD [Bf, Bf, Bf, Bt, Bt] ?_
   exact X6 rfl .sc
  clear h; intro h7 h
  obtain rfl := oj h
  refine Xe tmD [Bf, Bf, Bf, Bt, Bf] ?_
  exact X6 rfl .sc
 clear h; intro h6 h
 obtain rfl := oj h
 refine Xe tmD [Bf, Bf, Bf, Bf] ?_
 exact X6 rfl .sc
theorem Xcz (a0 : Xp) (r : Int) (h : X7t a0 = some r) : X19 Tryz.prog 73 [(Xh false a0)] (aI .i64 r) := by
 refine X19.sym Xg fn73 (nt := 66) rfl rfl ?_ (Xf (X1a false _ _).1 X08)
 unfold X7t at h
 refine brE h ?_ ?_
 ·clear h; intro h1 h
  obtain rfl := oj h
  refine Xe tmD [Bt] ?_
  exact X6 rfl .sc
 clear h; intro h1 h
 refine brE h ?_ ?_
 ·clear h; intro h2 h
  refine X9 h ?_
  clear h; intro v3 h4 h
  refine brE h ?_ ?_
  ·clear h; intro h5 h
   obtain rfl := oj h
   refine rn tmD [Bf, Bt, .pure [(Lf (a0.Arg.map X1))] (aI .i64 v3), Bt] rfl (by repeat' first|apply Ya|exact (pn (X4m _ _ h4) (cc (X8 (X0 X7 a0.Arg)) cn))|exact Xv) ?_
   exact X6 rfl .sc
  clear h; intro h5 h
  refine brE h ?_ ?_
  ·clear h; intro h6 h
   refine X9 h ?_
   clear h; intro v7 h8 h
   refine rn tmD [Bf, Bt, .pure [(Lf (a0.Arg.map X1))] (aI .i64 v3), Bf, .el (aI .i64 (a0.Where.length : Int)), Bt, .pure [(Lf (a0.Where.map X1))] (aI .i64 v7)] rfl (by repeat' first|apply Ya|exact (pn (X4m _ _ h4) (cc (X8 (X0 X7 a0.Arg)) cn))|exact (pn (X4m _ _ h8) (cc (X8 (X0 X7 a0.Where)) cn))|exact Xv) ?_
   refine brE h ?_ ?_
   ·clear h; intro h9 h
    obtain rfl := oj h
    refine Xe tmD [Bt] ?_
    exact X6 rfl .sc
   clear h; intro h9 h
   refine X9 h ?_
   clear h; intro v10 h11 h
   refine brE h ?_ ?_
   ·clear h; intro h12 h
    obtain rfl := oj h
    refine rn tmD [Bf, .pure [(Lf (List.map (aI .i64) a0.Sources)), (aB a0.Join)] (aI .i64 v10), Bt] rfl (by repeat' first|apply Ya|exact (pn (X29 _ _ _ h11) (cc (X8 (X0 (fun _ => X0e) a0.Sources)) (cc .sc cn)))|exact Xv) ?_
    exact X6 rfl .sc
   clear h; intro h12 h
   refine brE h ?_ ?_
   ·clear h; intro h13 h
    obtain rfl := oj h
    refine rn tmD [Bf, .pure [(Lf (List.map (aI .i64) a0.Sources)), (aB a0.Join)] (aI .i64 v10), Bf, Bt] rfl (by repeat' first|apply Ya|exact (pn (X29 _ _ _ h11) (cc (X8 (X0 (fun _ => X0e) a0.Sources)) (cc .sc cn)))|exact Xv) ?_
    exact X6 rfl .sc
   clear h; intro h13 h
   refine X9 h ?_
   clear h; intro v14 h15 h
   obtain rfl := oj h
   refine rn tmD [Bf, .pure [(Lf (List.map (aI .i64) a0.Sources)), (aB a0.Join)] (aI .i64 v10), Bf, Bf, .pure [(X0g a0.Window)] (aI .i64 v14)] rfl (by repeat' first|apply Ya|exact (pn (X29 _ _ _ h11) (cc (X8 (X0 (fun _ => X0e) a0.Sources)) (cc .sc cn)))|exact (pn (X0c _ _ h15) (cc (X17 (x := a0.Window)) cn))|exact Xv) ?_
   exact X6 rfl .sc
  clear h; intro h6 h
  refine X9 h ?_
  clear h; intro v16 h17 h
  refine rn tmD [Bf, Bt, .pure [(Lf (a0.Arg.map X1))] (aI .i64 v3), Bf, .el (aI .i64 (a0.Where.length : Int)), Bf, .pure [(Lf (List.map (aI .i64) a0.Sources)), (aB a0.Join)] (aI .i64 v16)] rfl (by repeat' first|apply Ya|exact (pn (X4m _ _ h4) (cc (X8 (X0 X7 a0.Arg)) cn))|exact (pn (X29 _ _ _ h17) (cc (X8 (X0 (fun _ => X0e) a0.Sources)) (cc .sc cn)))|exact Xv) ?_
  refine brE h ?_ ?_
  ·clear h; intro h18 h
   obtain rfl := oj h
   refine Xe tmD [Bt] ?_
   exact X6 rfl .sc
  clear h; intro h18 h
  refine brE h ?_ ?_
  ·clear h; intro h19 h
   obtain rfl := oj h
   refine Xe tmD [Bf, Bt] ?_
   exact X6 rfl .sc
  clear h; intro h19 h
  refine X9 h ?_
  clear h; intro v20 h21 h
  obtain rfl := oj h
  refine rn tmD [Bf, Bf, .pure [(X0g a0.Window)] (aI .i64 v20)] rfl (by repeat' first|apply Ya|exact (pn (X0c _ _ h21) (cc (X17 (x := a0.Window)) cn))|exact Xv) ?_
  exact X6 rfl .sc
 clear h; intro h2 h
 refine brE h ?_ ?_
 ·clear h; intro h22 h
  obtain rfl := oj h
  refine Xe tmD [Bf, Bf, .el (aI .i64 (a0.Arg.length : Int)), Bt] ?_
  exact X6 rfl .sc
 clear h; intro h22 h
 refine brE h ?_ ?_
 ·clear h; intro h23 h
  refine X9 h ?_
  clear h; intro v24 h25 h
  refine rn tmD [Bf, Bf, .el (aI .i64 (a0.Arg.length : Int)), Bf, .el (aI .i64 (a0.Where.length : Int)), Bt, .pure [(Lf (a0.Where.map X1))] (aI .i64 v24)] rfl (by repeat' first|apply Ya|exact (pn (X4m _ _ h25) (cc (X8 (X0 X7 a0.Where)) cn))|exact Xv) ?_
  refine brE h ?_ ?_
  ·clear h; intro h26 h
   obtain rfl := oj h
   refine Xe tmD [Bt] ?_
   exact X6 rfl .sc
  clear h; intro h26 h
  refine X9 h ?_
  clear h; intro v27 h28 h
  refine brE h ?_ ?_
  ·clear h; intro h29 h
   obtain rfl := oj h
   refine rn tmD [Bf, .pure [(Lf (List.map (aI .i64) a0.Sources)), (aB a0.Join)] (aI .i64 v27), Bt] rfl (by repeat' first|apply Ya|exact (pn (X29 _ _ _ h28) (cc (X8 (X0 (fun _ => X0e) a0.Sources)) (cc .sc cn)))|exact Xv) ?_
   exact X6 rfl .sc
  clear h; intro h29 h
  refine brE h ?_ ?_
  ·clear h; intro h30 h
   obtain rfl := oj h
   refine rn tmD [Bf, .pure [(Lf (List.map (aI .i64) a0.Sources)), (aB a0.Join)] (aI .i64 v27), Bf, Bt] rfl (by repeat' first|apply Ya|exact (pn (X29 _ _ _ h28) (cc (X8 (X0 (fun _ => X0e) a0.Sources)) (cc .sc cn)))|exact Xv) ?_
   exact X6 rfl .sc
  clear h; intro h30 h
  refine X9 h ?_
  clear h; intro v31 h32 h
  obtain rfl := oj h
  refine rn tmD [Bf, .pure [(Lf (List.map (aI .i64) a0.Sources)), (aB a0.Join)] (aI .i64 v27), Bf, Bf, .pure [(X0g a0.Window)] (aI .i64 v31)] rfl (by repeat' first|apply Ya|exact (pn (X29 _ _ _ h28) (cc (X8 (X0 (fun _ => X0e) a0.Sources)) (cc .sc cn)))|exact (pn (X0c _ _ h32) (cc (X17 (x := a0.Window)) cn))|exact Xv) ?_
  exact X6 rfl .sc
 clear h; intro h23 h
 refine X9 h ?_
 clear h; intro v33 h34 h
 refine rn tmD [Bf, Bf, .el (aI .i64 (a0.Arg.length : Int)), Bf, .el (aI .i64 (a0.Where.length : Int)), Bf, .pure [(Lf (List.map (aI .i64) a0.Sources)), (aB a0.Join)] (aI .i64 v33)] rfl (by repeat' first|apply Ya|exact (pn (X29 _ _ _ h34) (cc (X8 (X0 (fun _ => X0e) a0.Sources)) (cc .sc cn)))|exact Xv) ?_
 refine brE h ?_ ?_
 ·clear h; intro h35 h
  obtain rfl := oj h
  refine Xe tmD [Bt] ?_
  exact X6 rfl .sc
 clear h; intro h35 h
 refine brE h ?_ ?_
 ·clear h; intro h36 h
  obtain rfl := oj h
  refine Xe tmD [Bf, Bt] ?_
  exact X6 rfl .sc
 clear h; intro h36 h
 refine X9 h ?_
 clear h; intro v37 h38 h
 obtain rfl := oj h
 refine rn tmD [Bf, Bf, .pure [(X0g a0.Window)] (aI .i64 v37)] rfl (by repeat' first|apply Ya|exact (pn (X0c _ _ h38) (cc (X17 (x := a0.Window)) cn))|exact Xv) ?_
 exact X6 rfl .sc
theorem X59 {Q : X0d -> St -> Mu -> Prop} {μ : Mu} (Xk : (List Bool)) (X6d : (V2 Bool)) (X1k : (List Int)) (X02 : Nb Xk) (hl : X1k.length <= 140737488355328) : ∀ (xs : List Int) (k : Nat) (hx : X1k.drop k = xs) (o : X2j) (h : X0p Xk X6d X1k xs k  = some o)
  (C0 : o = X2j.x0 -> Xa Tryz.prog 21 4 Q (.exit (.exit 0)) [] ⟨fr [], hp ([(0, Ob [(slE X02.1 1 (Xk.map aB))] 1), (2, Ob [(X9b X6d)] 2), (3, Ob (List.map (aI .i64) X1k) 1)] ++ opE X02.1 1 1 (Xk.map aB)), 4⟩ μ)
  (C1 : o = X2j.x1 -> Xa Tryz.prog 21 4 Q (.exit .ret) [] ⟨fr [(5, (aB false))], hp ([(0, Ob [(slE X02.1 1 (Xk.map aB))] 1), (2, Ob [(X9b X6d)] 2), (3, Ob (List.map (aI .i64) X1k) 1)] ++ opE X02.1 1 1 (Xk.map aB)), 4⟩ μ),
  Xa Tryz.prog 21 4 Q (.loop (X5o 0 (Xt Tryz.f189))) [] ⟨fr [(0, (aB false)), (2, (AV.ptr 0 0 0)), (8, (AV.ref 3 0 (X1k.length))), (9, (aI .i64 (X1k.length : Int))), (10, (aI .i64 (k : Int)))], hp ([(0, Ob [(slE X02.1 1 (Xk.map aB))] 1), (2, Ob [(X9b X6d)] 2), (3, Ob (List.map (aI .i64) X1k) 1)] ++ opE X02.1 1 1 (Xk.map aB)), 4⟩ μ := by
 intro xs
 induction xs with
 | nil =>
  intro k hx  o h C0 C1
  have hk := X1u hx
  have hc : decide ((k : Int) < (X1k.length : Int)) = false := Yf (by omega)
  rw [X0p] at h
  rcases X02 with ⟨_ | _, X0n⟩
  ·
   refine Xa.round ?_
   obtain rfl := oj h
   refine Xe tmD [Bf] ?_
   exact wkT [] (C0  rfl)
  ·
   obtain rfl := X0n rfl
   refine Xa.round ?_
   obtain rfl := oj h
   refine Xe tmD [Bf] ?_
   exact wkT [] (C0  rfl)
 | cons x xs ih =>
  intro k hx  o h C0 C1
  obtain ⟨hk, hg, hx1⟩ := X16 hx
  have hc : decide ((k : Int) < (X1k.length : Int)) = true := Yt (by omega)
  rw [X0p] at h
  rcases X02 with ⟨_ | _, X0n⟩
  ·
   refine Xa.round ?_
   refine X9 h ?_
   clear h; intro e3011 h3012 h
   try have qh3012 := Xz h3012
   refine brE h ?_ ?_
   ·clear h; intro h3013 h
    obtain rfl := oj h
    refine Xe tmD [Bt, .el (aI .i64 x), .ld (aI .i64 x), .el (aB e3011), .ld (aB e3011), Bt] ?_
    exact wkT [] (C1  rfl)
   clear h; intro h3013 h
   refine Xe tmD [Bt, .el (aI .i64 x), .ld (aI .i64 x), .el (aB e3011), .ld (aB e3011), Bf] ?_
   exact wkT [] (ih (k + 1) hx1  o h C0 C1)
  obtain rfl := X0n rfl
  refine Xa.round ?_
  refine X9 h ?_
  clear h; intro e3014 h3015 h
  try have qh3015 := Xz h3015
  exact absurd (h3015) (by simp [X2o])
end Go.Av.Tryz