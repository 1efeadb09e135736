/- Printed by decomp.py: that the program computes the functions. -/
import Derived.Test.YtfdfgobnpnoomaaGreatDCert4Z
set_option linter.all false

namespace Go.Av.Tryz
open Go.Proofs Go.D
set_option maxRecDepth 10000
set_option maxHeartbeats 40000000
theorem Xmg (a0 : (List X00)) (r : (List Bool) × Int) (h : Xe6 a0 = some r) : X19 Tryz.prog 156 [(Lf (a0.map X1))] (AV.tup [(AV.list true (r.1.map aB)), (aI .i64 r.2)]) := by
 refine X19.sym Xg X04b (nt := 88) rfl rfl ?_ (Xf .list X08)
 unfold Xe6 at h
 refine X9 h ?_
 clear h; intro u1 h2 h
 have qh2 := X11 h2
 refine X9 h ?_
 clear h; intro o3784 h3785 h
 refine Xe tmD [.el (aI .i64 (a0.length : Int))] ?_
 refine wkT [] (Xa.cut (Xi2 a0 qh2 a0 0 (by simp) _ (nbT (by first | rfl | simp [*])) _ h3785 ?_ ?_))
 ·intro X0m X0z eo3784; subst eo3784
  refine Xa.glue ?_
  try dsimp only at h
  rcases X0z with ⟨_ | _, X34⟩
  ·
   obtain rfl := oj h
   refine Xe tmD [.el (aI .i64 (a0.length : Int))] ?_
   exact X6 rfl (Xl (cc (X0o (es := X0m.map aB) rfl (by first | rfl | (simp; done) | (simp; rfl) | (simp []; done) | (simp []; rfl) | (simp [Ym, Yd]; done) | (simp [Ym, Yd]; rfl)) (by first | rfl | (simp; done) | (simp; omega) | (simp []; done) | (simp []; omega)) (X0 (fun _ => X0e) X0m)) (cc (Xew (by first | rfl | (simp [*]; done))) cn)))
  obtain rfl := X34 rfl
  obtain rfl := oj h
  refine Xe tmD [.el (aI .i64 (a0.length : Int))] ?_
  exact X6 rfl (Xl (cc (X2l (by simp)) (cc (Xew (by first | rfl | (simp [*]; done))) cn)))
 intro X06 Xbh X0h eo3784; subst eo3784
 refine Xa.glue ?_
 try dsimp only at h
 rcases X0h with ⟨_ | _, X33⟩
 ·
  obtain rfl := oj h
  refine Xe tmD [] ?_
  exact X6 rfl (Xl (cc (X0o (es := X06.map aB) rfl (by first | rfl | (simp; done) | (simp; rfl) | (simp []; done) | (simp []; rfl) | (simp [Ym, Yd]; done) | (simp [Ym, Yd]; rfl)) (by first | rfl | (simp; done) | (simp; omega) | (simp []; done) | (simp []; omega)) (X0 (fun _ => X0e) X06)) (cc .sc cn)))
 obtain rfl := X33 rfl
 obtain rfl := oj h
 refine Xe tmD [] ?_
 exact X6 rfl (Xl (cc (X2l (by simp)) (cc .sc cn)))
theorem Xcj (a0 : (List X00)) (r : Bool × Int × Int) (h : Xe7 a0 = some r) : X19 Tryz.prog 130 [(Lf (a0.map X1))] (AV.tup [(aB r.1), (aI .i64 r.2.1), (aI .i64 r.2.2)]) := by
 refine X19.sym Xg X04o (nt := 30) rfl rfl ?_ (Xf .list X08)
 unfold Xe7 at h
 refine X9 h ?_
 clear h; intro v1 h2 h
 refine brE h ?_ ?_
 ·clear h; intro h3 h
  obtain rfl := oj h
  refine rn tmD [.pure [(Lf (a0.map X1))] (aI .i64 v1), Bt] rfl (by repeat' first|apply Ya|exact (pn (X4m _ _ h2) (cc (X8 (X0 X7 a0)) cn))|exact Xv) ?_
  exact X6 rfl (Xl (cc .sc (cc .sc (cc .sc cn))))
 clear h; intro h3 h
 refine X9 h ?_
 clear h; intro v4 h5 h
 refine rn tmD [.pure [(Lf (a0.map X1))] (aI .i64 v1), Bf, .pure [(Lf (a0.map X1))] (AV.tup [(AV.list true (v4.1.map aB)), (aI .i64 v4.2)]), .el (aI .i64 (a0.length : Int))] rfl (by repeat' first|apply Ya|exact (pn (X4m _ _ h2) (cc (X8 (X0 X7 a0)) cn))|exact (pn (Xmg _ _ h5) (cc (X8 (X0 X7 a0)) cn))|exact Xv) ?_
 refine brE h ?_ ?_
 ·clear h; intro h6 h
  obtain rfl := oj h
  refine Xe tmD [Bt] ?_
  exact X6 rfl (Xl (cc .sc (cc .sc (cc .sc cn))))
 clear h; intro h6 h
 refine X9 h ?_
 clear h; intro e7 h8 h
 try have qh8 := Xz h8
 obtain rfl := oj h
 refine Xe tmD [Bf, .wrap, .el (aB e7), .wrap] ?_
 exact X6 rfl (Xl (cc .sc (cc .sc (cc .sc cn))))
theorem Xfu (a0 : (List X00)) (a1 : Bool) (r : Int × Int) (h : X9i a0 a1 = some r) : X19 Tryz.prog 108 [(Lf (a0.map X1)), (aB a1)] (AV.tup [(aI .i64 r.1), (aI .i64 r.2)]) := by
 refine X19.sym Xg X050 (nt := 24) rfl rfl ?_ (Xf .list (Xf .sc X08))
 unfold X9i at h
 refine X9 h ?_
 clear h; intro v1 h2 h
 refine X9 h ?_
 clear h; intro j4_8 h6 h
 refine rn tmD [.pure [(Lf (a0.map X1))] (AV.tup [(aB v1.1), (aI .i64 v1.2.1), (aI .i64 v1.2.2)])] rfl (by repeat' first|apply Ya|exact (pn (Xcj _ _ h2) (cc (X8 (X0 X7 a0)) cn))|exact Xv) ?_
 refine Xa.join (s' := ⟨fr [(7, (aI .i64 v1.2.1)), (8, (aI .i64 j4_8))], hp ([]), 0⟩) ?_ (fun J => Xa.cut ?_)
 ·
  obtain rfl := oj h
  refine Xe tmD [] ?_
  exact X6 rfl (Xl (cc .sc (cc .sc cn)))
 clear h
 have h := h6
 refine brE h ?_ ?_
 ·clear h; intro h5 h
  obtain rfl := oj h
  refine rn tmD [Bt] rfl (by repeat' first|apply Ya|exact (pn (Xcj _ _ h2) (cc (X8 (X0 X7 a0)) cn))|exact Xv) ?_
  exact wkT [] (Xa.glue J)
 clear h; intro h5 h
 obtain rfl := oj h
 refine rn tmD [Bf] rfl (by repeat' first|apply Ya|exact (pn (Xcj _ _ h2) (cc (X8 (X0 X7 a0)) cn))|exact Xv) ?_
 exact wkT [] (Xa.glue J)
theorem Xet (a0 : (List X00)) (r : Int × Int) (h : Xac a0 = some r) : X19 Tryz.prog 76 [(Lf (a0.map X1))] (AV.tup [(aI .i64 r.1), (aI .i64 r.2)]) := by
 refine X19.sym Xg fn76 (nt := 8) rfl rfl ?_ (Xf .list X08)
 unfold Xac at h
 refine X9 h ?_
 clear h; intro v1 h2 h
 obtain rfl := oj h
 refine rn tmD [.pure [(Lf (a0.map X1)), (aB true)] (AV.tup [(aI .i64 v1.1), (aI .i64 v1.2)])] rfl (by repeat' first|apply Ya|exact (pn (Xfu _ _ _ h2) (cc (X8 (X0 X7 a0)) (cc .sc cn)))|exact Xv) ?_
 exact X6 rfl (Xl (cc .sc (cc .sc cn)))
theorem Xje (a0 : (List X00)) (r : Int × Int) (h : Xau a0 = some r) : X19 Tryz.prog 75 [(Lf (a0.map X1))] (AV.tup [(aI .i64 r.1), (aI .i64 r.2)]) := by
 refine X19.sym Xg fn75 (nt := 8) rfl rfl ?_ (Xf .list X08)
 unfold Xau at h
 refine X9 h ?_
 clear h; intro v1 h2 h
 obtain rfl := oj h
 refine rn tmD [.pure [(Lf (a0.map X1)), (aB false)] (AV.tup [(aI .i64 v1.1), (aI .i64 v1.2)])] rfl (by repeat' first|apply Ya|exact (pn (Xfu _ _ _ h2) (cc (X8 (X0 X7 a0)) (cc .sc cn)))|exact Xv) ?_
 exact X6 rfl (Xl (cc .sc (cc .sc cn)))
theorem Xdu (a0 : Xp) (r : Int × Int) (h : X8x a0 = some r) : X19 Tryz.prog 48 [(Xh false a0)] (AV.tup [(aI .i64 r.1), (aI .i64 r.2)]) := by
 refine X19.sym Xg fn48 (nt := 20) rfl rfl ?_ (Xf (X1a false _ _).1 X08)
 unfold X8x at h
 refine X9 h ?_
 clear h; intro v1 h2 h
 refine brE h ?_ ?_
 ·clear h; intro h3 h
  obtain rfl := oj h
  refine rn tmD [.pure [(Xh false a0)] (aI .i64 v1), Bt] rfl (by repeat' first|apply Ya|exact (pn (Xcz _ _ h2) (cc (X0v (cc .sc (cc (X8 (X0 X7 a0.Arg)) (cc (X8 (X0 (fun _ => X0e) a0.Sources)) (cc .sc (cc (X8 (X0 X7 a0.Where)) (cc .sc (cc .sc (cc .sc (cc .sc (cc .sc cn))))))))))) cn))|exact Xv) ?_
  exact X6 rfl (Xl (cc .sc (cc .sc cn)))
 clear h; intro h3 h
 refine X9 h ?_
 clear h; intro w22 h41 h
 obtain ⟨Xxv, Xxu⟩ := w22
 try dsimp only at h
 refine rn tmD [.pure [(Xh false a0)] (aI .i64 v1), Bf] rfl (by repeat' first|apply Ya|exact (pn (Xcz _ _ h2) (cc (X0v (cc .sc (cc (X8 (X0 X7 a0.Arg)) (cc (X8 (X0 (fun _ => X0e) a0.Sources)) (cc .sc (cc (X8 (X0 X7 a0.Where)) (cc .sc (cc .sc (cc .sc (cc .sc (cc .sc cn))))))))))) cn))|exact Xv) ?_
 refine Xa.joinOp (s' := ⟨fr [(17, (AV.tup [(aI .i64 Xxv), (aI .i64 Xxu)]))], hp ([]), 0⟩) ?_ (fun J => ?_)
 ·
  obtain rfl := oj h
  refine Xe tmD [] ?_
  exact X6 rfl (Xl (cc .sc (cc .sc cn)))
 clear h
 have h := h41
 refine Xa.inline Xg fn74 rfl rfl rfl rfl rfl trivial trivial rfl rfl ?_
 refine Xe tmD [] ?_
 refine Xa.round ?_
 refine brE h ?_ ?_
 ·clear h; intro h23 h
  refine Xe tmD [Bt, .el (AV.agg [(Lf (a0.Arg.map X1)), (AV.fn 75 [])]), .el (aI .i64 (a0.Arg.length : Int)), Bt] ?_
  refine Xa.round ?_
  refine brE h ?_ ?_
  ·clear h; intro h24 h
   refine Xe tmD [Bt, .el (AV.agg [(Lf (a0.Where.map X1)), (AV.fn 76 [])]), .el (aI .i64 (a0.Where.length : Int)), Bt] ?_
   refine Xa.round ?_
   simp only [Option.some.injEq, Prod.mk.injEq] at h
   obtain ⟨rfl, rfl⟩ := h
   refine Xe tmD [Bf] ?_
   refine Xa.back (by intro id h; cases h) rfl ?_
   exact wkT [] (J)
  clear h; intro h24 h
  refine X9 h ?_
  clear h; intro v25 h26 h
  refine rn tmD [Bt, .el (AV.agg [(Lf (a0.Where.map X1)), (AV.fn 76 [])]), .el (aI .i64 (a0.Where.length : Int)), Bf, .pure [(Lf (a0.Where.map X1))] (AV.tup [(aI .i64 v25.1), (aI .i64 v25.2)])] rfl (by repeat' first|apply Ya|exact (pn (Xet _ _ h26) (cc (X8 (X0 X7 a0.Where)) cn))|exact Xv) ?_
  refine brE h ?_ ?_
  ·clear h; intro h27 h
   refine X9 h ?_
   clear h; intro e28 h29 h
   try have qh29 := Xz h29
   simp only [Option.some.injEq, Prod.mk.injEq] at h
   obtain ⟨rfl, rfl⟩ := h
   refine Xe tmD [Bt, .el (X1 e28)] ?_
   refine Xa.back (by intro id h; cases h) rfl ?_
   exact wkT [] (J)
  clear h; intro h27 h
  refine Xe tmD [Bf] ?_
  refine Xa.round ?_
  simp only [Option.some.injEq, Prod.mk.injEq] at h
  obtain ⟨rfl, rfl⟩ := h
  refine Xe tmD [Bf] ?_
  refine Xa.back (by intro id h; cases h) rfl ?_
  exact wkT [] (J)
 clear h; intro h23 h
 refine X9 h ?_
 clear h; intro v30 h31 h
 refine rn tmD [Bt, .el (AV.agg [(Lf (a0.Arg.map X1)), (AV.fn 75 [])]), .el (aI .i64 (a0.Arg.length : Int)), Bf, .pure [(Lf (a0.Arg.map X1))] (AV.tup [(aI .i64 v30.1), (aI .i64 v30.2)])] rfl (by repeat' first|apply Ya|exact (pn (Xje _ _ h31) (cc (X8 (X0 X7 a0.Arg)) cn))|exact Xv) ?_
 refine brE h ?_ ?_
 ·clear h; intro h32 h
  refine X9 h ?_
  clear h; intro e33 h34 h
  try have qh34 := Xz h34
  simp only [Option.some.injEq, Prod.mk.injEq] at h
  obtain ⟨rfl, rfl⟩ := h
  refine Xe tmD [Bt, .el (X1 e33)] ?_
  refine Xa.back (by intro id h; cases h) rfl ?_
  exact wkT [] (J)
 clear h; intro h32 h
 refine Xe tmD [Bf] ?_
 refine Xa.round ?_
 refine brE h ?_ ?_
 ·clear h; intro h35 h
  refine Xe tmD [Bt, .el (AV.agg [(Lf (a0.Where.map X1)), (AV.fn 76 [])]), .el (aI .i64 (a0.Where.length : Int)), Bt] ?_
  refine Xa.round ?_
  simp only [Option.some.injEq, Prod.mk.injEq] at h
  obtain ⟨rfl, rfl⟩ := h
  refine Xe tmD [Bf] ?_
  refine Xa.back (by intro id h; cases h) rfl ?_
  exact wkT [] (J)
 clear h; intro h35 h
 refine X9 h ?_
 clear h; intro v36 h37 h
 refine rn tmD [Bt, .el (AV.agg [(Lf (a0.Where.map X1)), (AV.fn 76 [])]), .el (aI .i64 (a0.Where.length : Int)), Bf, .pure [(Lf (a0.Where.map X1))] (AV.tup [(aI .i64 v36.1), (aI .i64 v36.2)])] rfl (by repeat' first|apply Ya|exact (pn (Xet _ _ h37) (cc (X8 (X0 X7 a0.Where)) cn))|exact Xv) ?_
 refine brE h ?_ ?_
 ·clear h; intro h38 h
  refine X9 h ?_
  clear h; intro e39 h40 h
  try have qh40 := Xz h40
  simp only [Option.some.injEq, Prod.mk.injEq] at h
  obtain ⟨rfl, rfl⟩ := h
  refine Xe tmD [Bt, .el (X1 e39)] ?_
  refine Xa.back (by intro id h; cases h) rfl ?_
  exact wkT [] (J)
 clear h; intro h38 h
 refine Xe tmD [Bf] ?_
 refine Xa.round ?_
 simp only [Option.some.injEq, Prod.mk.injEq] at h
 obtain ⟨rfl, rfl⟩ := h
 refine Xe tmD [Bf] ?_
 refine Xa.back (by intro id h; cases h) rfl ?_
 exact wkT [] (J)
theorem Xdk (a0 : Int) (r : Bool) (h : Xbt a0 = some r) : X19 Tryz.prog 104 [(aI .i64 a0)] (aB r) := by
 refine X19.sym Xg X053 (nt := 9) rfl rfl ?_ (Xf .sc X08)
 unfold Xbt at h
 obtain rfl := oj h
 refine Xe tmD [] ?_
 exact X6 rfl .sc
theorem Xi0 {Q : X0d -> St -> Mu -> Prop} {μ : Mu} (X4q : (List Xi)) (hl : X4q.length <= 140737488355328) : ∀ (xs : List Xi) (k : Nat) (hx : X4q.drop k = xs) (o : X7l) (h : X55 X4q xs k  = some o)
  (C0 : o = X7l.x0 -> Xa Tryz.prog 55 0 Q (.exit (.exit 0)) [] ⟨fr [], hp ([]), 0⟩ μ)
  (C1 : o = X7l.x1 -> Xa Tryz.prog 55 0 Q (.exit .ret) [] ⟨fr [(2, (aI .i64 8))], hp ([]), 0⟩ μ),
  Xa Tryz.prog 55 0 Q (.loop (X5o 0 (Xt Tryz.f70))) [] ⟨fr [(10, (Lf (X4q.map X4))), (11, (aI .i64 (X4q.length : Int))), (12, (aI .i64 (k : Int)))], hp ([]), 0⟩ μ := by
 intro xs
 induction xs with
 | nil =>
  intro k hx  o h C0 C1
  have hk := X1u hx
  have hc : decide ((k : Int) < (X4q.length : Int)) = false := Yf (by omega)
  rw [X55] at h
  refine Xa.round ?_
  obtain rfl := oj h
  refine Xe tmD [Bf] ?_
  exact wkT [] (C0  rfl)
 | cons x xs ih =>
  intro k hx  o h C0 C1
  obtain ⟨hk, hg, hx1⟩ := X16 hx
  have hc : decide ((k : Int) < (X4q.length : Int)) = true := Yt (by omega)
  rw [X55] at h
  refine Xa.round ?_
  refine X9 h ?_
  clear h; intro Xxp h52 h
  refine Xe tmD [Bt, .el (X4 x), .stop 6] ?_
  refine Xa.join (s' := ⟨fr [(4, (AV.ptr 0 0 0)), (5, (aB Xxp)), (10, (Lf (X4q.map X4))), (11, (aI .i64 (X4q.length : Int))), (12, (aI .i64 (k : Int)))], hp ([(0, Ob [(X4 x)] 5)]), 1⟩) ?_ (fun J => Xa.cut ?_)
  ·
   refine X9 h ?_
   clear h; intro X00k h60 h
   refine Xe tmD [.stop 7] ?_
   refine Xa.join (s' := ⟨fr [(4, (AV.ptr 0 0 0)), (5, (aB Xxp)), (6, (aB X00k)), (10, (Lf (X4q.map X4))), (11, (aI .i64 (X4q.length : Int))), (12, (aI .i64 (k : Int)))], hp ([(0, Ob [(X4 x)] 5)]), 1⟩) ?_ (fun J => Xa.cut ?_)
   ·
    refine brE h ?_ ?_
    ·clear h; intro h61 h
     obtain rfl := oj h
     refine Xe tmD [Bt] ?_
     exact wkT [] (C1  rfl)
    clear h; intro h61 h
    refine Xe tmD [Bf] ?_
    exact wkT [] (ih (k + 1) hx1  o h C0 C1)
   clear h
   have h := h60
   refine brE h ?_ ?_
   ·clear h; intro h57 h
    refine X9 h ?_
    clear h; intro v58 h59 h
    obtain rfl := oj h
    refine rn tmD [.go true, .go true, .go true, .go true, .pure [(aI .i64 x.Record.Time)] (aB v58)] rfl (by repeat' first|apply Ya|exact (pn (Xdk _ _ h59) (cc .sc cn))|exact Xv) ?_
    exact wkT [] (Xa.glue J)
   clear h; intro h57 h
   obtain rfl := oj h
   refine Xe tmD [.go false, .go false, .go false, .go false] ?_
   exact wkT [] (Xa.glue J)
  clear h
  have h := h52
  refine brE h ?_ ?_
  ·clear h; intro h48 h
   refine X9 h ?_
   clear h; intro v49 h50 h
   refine brE h ?_ ?_
   ·clear h; intro h51 h
    obtain rfl := oj h
    refine rn tmD [.go true, .go true, .go true, .pure [(aI .i64 x.Time)] (aB v49), .go true, .go false, .go false, .go false, .go true] rfl (by repeat' first|apply Ya|exact (pn (Xdk _ _ h50) (cc .sc cn))|exact Xv) ?_
    exact wkT [] (Xa.glue J)
   clear h; intro h51 h
   obtain rfl := oj h
   refine rn tmD [.go true, .go true, .go true, .pure [(aI .i64 x.Time)] (aB v49), .go true, .go true, .go true, .go true, .go true] rfl (by repeat' first|apply Ya|exact (pn (Xdk _ _ h50) (cc .sc cn))|exact Xv) ?_
   exact wkT [] (Xa.glue J)
  clear h; intro h48 h
  obtain rfl := oj h
  refine Xe tmD [.go false, .go false, .go false, .go false, .go false, .go false, .go false, .go false] ?_
  exact wkT [] (Xa.glue J)
theorem X67 (a0 : (List Xi)) (r : Int) (h : X8e a0 = some r) : X19 Tryz.prog 70 [(Lf (a0.map X4))] (aI .i64 r) := by
 refine X19.sym Xg fn70 (nt := 55) rfl rfl ?_ (Xf .list X08)
 unfold X8e at h
 refine brE h ?_ ?_
 ·clear h; intro h1 h
  obtain rfl := oj h
  refine Xe tmD [.el (aI .i64 (a0.length : Int)), Bt] ?_
  exact X6 rfl .sc
 clear h; intro h1 h
 refine X9 h ?_
 clear h; intro u2 h3 h
 have qh3 := X11 h3
 refine X9 h ?_
 clear h; intro o62 h63 h
 refine Xe tmD [.el (aI .i64 (a0.length : Int)), Bf, .el (aI .i64 (a0.length : Int))] ?_
 refine wkT [] (Xa.cut (Xi0 a0 qh3 a0 0 (by simp) _ h63 ?_ ?_))
 ·intro eo62; subst eo62
  refine Xa.glue ?_
  try dsimp only at h
  obtain rfl := oj h
  refine Xe tmD [] ?_
  exact X6 rfl .sc
 intro eo62; subst eo62
 refine Xa.glue ?_
 try dsimp only at h
 obtain rfl := oj h
 refine Xe tmD [] ?_
 exact X6 rfl .sc
theorem Xeg {Q : X0d -> St -> Mu -> Prop} {μ : Mu} (Xlu : (List (List Xi))) (hl : Xlu.length <= 140737488355328) : ∀ (xs : List (List Xi)) (k : Nat) (hx : Xlu.drop k = xs) (o : X51) (h : X30 Xlu xs k  = some o)
  (C0 : o = X51.x0 -> Xa Tryz.prog 18 0 Q (.exit (.exit 0)) [] ⟨fr [], hp ([]), 0⟩ μ)
  (C1 : ∀ (X4r : Int), o = X51.x1 X4r -> Xa Tryz.prog 18 0 Q (.exit .ret) [] ⟨fr [(2, (aI .i64 X4r))], hp ([]), 0⟩ μ),
  Xa Tryz.prog 18 0 Q (.loop (X5o 0 (Xt Tryz.f44))) [] ⟨fr [(6, (Lf (List.map (X3e false X4) Xlu))), (7, (aI .i64 (Xlu.length : Int))), (8, (aI .i64 (k : Int)))], hp ([]), 0⟩ μ := by
 intro xs
 induction xs with
 | nil =>
  intro k hx  o h C0 C1
  have hk := X1u hx
  have hc : decide ((k : Int) < (Xlu.length : Int)) = false := Yf (by omega)
  rw [X30] at h
  refine Xa.round ?_
  obtain rfl := oj h
  refine Xe tmD [Bf] ?_
  exact wkT [] (C0  rfl)
 | cons x xs ih =>
  intro k hx  o h C0 C1
  obtain ⟨hk, hg, hx1⟩ := X16 hx
  have hc : decide ((k : Int) < (Xlu.length : Int)) = true := Yt (by omega)
  rw [X30] at h
  refine Xa.round ?_
  refine X9 h ?_
  clear h; intro v10 h11 h
  refine brE h ?_ ?_
  ·clear h; intro h12 h
   obtain rfl := oj h
   refine rn tmD [Bt, .el (X3e false X4 x), .pure [(Lf (x.map X4))] (aI .i64 v10), Bt] rfl (by repeat' first|apply Ya|exact (pn (X67 _ _ h11) (cc (X8 (X0 Xx x)) cn))|exact Xv) ?_
   exact wkT [] (C1 _  rfl)
  clear h; intro h12 h
  refine rn tmD [Bt, .el (X3e false X4 x), .pure [(Lf (x.map X4))] (aI .i64 v10), Bf] rfl (by repeat' first|apply Ya|exact (pn (X67 _ _ h11) (cc (X8 (X0 Xx x)) cn))|exact Xv) ?_
  exact wkT [] (ih (k + 1) hx1  o h C0 C1)
theorem X65 (a0 : (List (List Xi))) (r : Int) (h : X5d a0 = some r) : X19 Tryz.prog 44 [(Lf (List.map (X3e false X4) a0))] (aI .i64 r) := by
 refine X19.sym Xg fn44 (nt := 18) rfl rfl ?_ (Xf .list X08)
 unfold X5d at h
 refine X9 h ?_
 clear h; intro u1 h2 h
 have qh2 := X11 h2
 refine X9 h ?_
 clear h; intro o13 h14 h
 refine Xe tmD [.el (aI .i64 (a0.length : Int))] ?_
 refine wkT [] (Xa.cut (Xeg a0 qh2 a0 0 (by simp) _ h14 ?_ ?_))
 ·intro eo13; subst eo13
  refine Xa.glue ?_
  try dsimp only at h
  obtain rfl := oj h
  refine Xe tmD [] ?_
  exact X6 rfl .sc
 intro X4r eo13; subst eo13
 refine Xa.glue ?_
 try dsimp only at h
 obtain rfl := oj h
 refine Xe tmD [] ?_
 exact X6 rfl .sc
end Go.Av.Tryz