/- Printed by decomp.py: that the program computes the functions. -/
import Derived.Test.YtoadgjfleafafaaGreatDCert4A
set_option linter.all false

namespace Go.Av.Tryz
open Go.Proofs Go.D
set_option maxRecDepth 10000
set_option maxHeartbeats 40000000
theorem Xfu (a0 : (List X2r)) (r : (List Bool) × Int) (h : Xbw a0 = some r) : X16 Tryz.prog 101 [(Lf (a0.map Xf))] (AV.tup [(AV.list true (r.1.map aB)), (aI .i64 r.2)]) := by
 refine X16.sym Xe Xqn (nt := 88) rfl rfl ?_ (X6 .list X08)
 unfold Xbw at h
 refine X3 h ?_
 clear h; intro u1 h2 h
 have qh2 := X1w h2
 refine X3 h ?_
 clear h; intro o3784 h3785 h
 refine Xm tmD [.el (aI .i64 (a0.length : Int))] ?_
 refine wkT [] (Xa.cut (Xd1 a0 qh2 a0 0 (by simp) _ (nbT (by first | rfl | simp [*])) _ h3785 ?_ ?_))
 ·intro X12 X26 eo3784; subst eo3784
  refine Xa.glue ?_
  try dsimp only at h
  rcases X26 with ⟨_ | _, X4a⟩
  ·
   obtain rfl := oj h
   refine Xm tmD [.el (aI .i64 (a0.length : Int))] ?_
   exact X8 rfl (X04 (cc (X1b (es := X12.map aB) rfl (by first | rfl | (simp; done) | (simp; rfl) | (simp []; done) | (simp []; rfl) | (simp [Ym, Yd]; done) | (simp [Ym, Yd]; rfl)) (by first | rfl | (simp; done) | (simp; omega) | (simp []; done) | (simp []; omega)) (X0 (fun _ => X06) X12)) (cc (Xe8 (by first | rfl | (simp [*]; done))) cn)))
  obtain rfl := X4a rfl
  obtain rfl := oj h
  refine Xm tmD [.el (aI .i64 (a0.length : Int))] ?_
  exact X8 rfl (X04 (cc (Xu (by simp)) (cc (Xe8 (by first | rfl | (simp [*]; done))) cn)))
 intro X1i Xez X25 eo3784; subst eo3784
 refine Xa.glue ?_
 try dsimp only at h
 rcases X25 with ⟨_ | _, X66⟩
 ·
  obtain rfl := oj h
  refine Xm tmD [] ?_
  exact X8 rfl (X04 (cc (X1b (es := X1i.map aB) rfl (by first | rfl | (simp; done) | (simp; rfl) | (simp []; done) | (simp []; rfl) | (simp [Ym, Yd]; done) | (simp [Ym, Yd]; rfl)) (by first | rfl | (simp; done) | (simp; omega) | (simp []; done) | (simp []; omega)) (X0 (fun _ => X06) X1i)) (cc .sc cn)))
 obtain rfl := X66 rfl
 obtain rfl := oj h
 refine Xm tmD [] ?_
 exact X8 rfl (X04 (cc (Xu (by simp)) (cc .sc cn)))
theorem Xas (a0 : (List X2r)) (r : Bool × Int × Int) (h : Xfv a0 = some r) : X16 Tryz.prog 93 [(Lf (a0.map Xf))] (AV.tup [(aB r.1), (aI .i64 r.2.1), (aI .i64 r.2.2)]) := by
 refine X16.sym Xe Xrk (nt := 30) rfl rfl ?_ (X6 .list X08)
 unfold Xfv at h
 refine X3 h ?_
 clear h; intro v1 h2 h
 refine brE h ?_ ?_
 ·clear h; intro h3 h
  obtain rfl := oj h
  refine rn tmD [.pure [(Lf (a0.map Xf))] (aI .i64 v1), Bt] rfl (by repeat' first|apply Ya|exact (pn (X3d _ _ h2) (cc (X4 (X0 Xh a0)) cn))|exact X00) ?_
  exact X8 rfl (X04 (cc .sc (cc .sc (cc .sc cn))))
 clear h; intro h3 h
 refine X3 h ?_
 clear h; intro v4 h5 h
 refine rn tmD [.pure [(Lf (a0.map Xf))] (aI .i64 v1), Bf, .pure [(Lf (a0.map Xf))] (AV.tup [(AV.list true (v4.1.map aB)), (aI .i64 v4.2)]), .el (aI .i64 (a0.length : Int))] rfl (by repeat' first|apply Ya|exact (pn (X3d _ _ h2) (cc (X4 (X0 Xh a0)) cn))|exact (pn (Xfu _ _ h5) (cc (X4 (X0 Xh a0)) cn))|exact X00) ?_
 refine brE h ?_ ?_
 ·clear h; intro h6 h
  obtain rfl := oj h
  refine Xm tmD [Bt] ?_
  exact X8 rfl (X04 (cc .sc (cc .sc (cc .sc cn))))
 clear h; intro h6 h
 refine X3 h ?_
 clear h; intro e7 h8 h
 try have qh8 := X18 h8
 obtain rfl := oj h
 refine Xm tmD [Bf, .wrap, .el (aB e7), .wrap] ?_
 exact X8 rfl (X04 (cc .sc (cc .sc (cc .sc cn))))
theorem Xb5 (a0 : (List X2r)) (a1 : Bool) (r : Int × Int) (h : Xa5 a0 a1 = some r) : X16 Tryz.prog 79 [(Lf (a0.map Xf)), (aB a1)] (AV.tup [(aI .i64 r.1), (aI .i64 r.2)]) := by
 refine X16.sym Xe Xrs (nt := 24) rfl rfl ?_ (X6 .list (X6 .sc X08))
 unfold Xa5 at h
 refine X3 h ?_
 clear h; intro v1 h2 h
 refine X3 h ?_
 clear h; intro Xqe h6 h
 refine rn tmD [.pure [(Lf (a0.map Xf))] (AV.tup [(aB v1.1), (aI .i64 v1.2.1), (aI .i64 v1.2.2)])] rfl (by repeat' first|apply Ya|exact (pn (Xas _ _ h2) (cc (X4 (X0 Xh a0)) cn))|exact X00) ?_
 refine Xa.join (s' := ⟨fr [(7, (aI .i64 v1.2.1)), (8, (aI .i64 Xqe))], hp ([]), 0⟩) ?_ (fun J => Xa.cut ?_)
 ·
  obtain rfl := oj h
  refine Xm tmD [] ?_
  exact X8 rfl (X04 (cc .sc (cc .sc cn)))
 clear h
 have h := h6
 refine brE h ?_ ?_
 ·clear h; intro h5 h
  obtain rfl := oj h
  refine rn tmD [Bt] rfl (by repeat' first|apply Ya|exact (pn (Xas _ _ h2) (cc (X4 (X0 Xh a0)) cn))|exact X00) ?_
  exact wkT [] (Xa.glue J)
 clear h; intro h5 h
 obtain rfl := oj h
 refine rn tmD [Bf] rfl (by repeat' first|apply Ya|exact (pn (Xas _ _ h2) (cc (X4 (X0 Xh a0)) cn))|exact X00) ?_
 exact wkT [] (Xa.glue J)
theorem Xah (a0 : (List X2r)) (r : Int × Int) (h : X8w a0 = some r) : X16 Tryz.prog 57 [(Lf (a0.map Xf))] (AV.tup [(aI .i64 r.1), (aI .i64 r.2)]) := by
 refine X16.sym Xe Xs4 (nt := 8) rfl rfl ?_ (X6 .list X08)
 unfold X8w at h
 refine X3 h ?_
 clear h; intro v1 h2 h
 obtain rfl := oj h
 refine rn tmD [.pure [(Lf (a0.map Xf)), (aB true)] (AV.tup [(aI .i64 v1.1), (aI .i64 v1.2)])] rfl (by repeat' first|apply Ya|exact (pn (Xb5 _ _ _ h2) (cc (X4 (X0 Xh a0)) (cc .sc cn)))|exact X00) ?_
 exact X8 rfl (X04 (cc .sc (cc .sc cn)))
theorem Xdx (a0 : (List X2r)) (r : Int × Int) (h : X9n a0 = some r) : X16 Tryz.prog 56 [(Lf (a0.map Xf))] (AV.tup [(aI .i64 r.1), (aI .i64 r.2)]) := by
 refine X16.sym Xe Xs5 (nt := 8) rfl rfl ?_ (X6 .list X08)
 unfold X9n at h
 refine X3 h ?_
 clear h; intro v1 h2 h
 obtain rfl := oj h
 refine rn tmD [.pure [(Lf (a0.map Xf)), (aB false)] (AV.tup [(aI .i64 v1.1), (aI .i64 v1.2)])] rfl (by repeat' first|apply Ya|exact (pn (Xb5 _ _ _ h2) (cc (X4 (X0 Xh a0)) (cc .sc cn)))|exact X00) ?_
 exact X8 rfl (X04 (cc .sc (cc .sc cn)))
theorem Xe9 (a0 : X2n) (r : Int × Int) (h : X9v a0 = some r) : X16 Tryz.prog 29 [(X02 false a0)] (AV.tup [(aI .i64 r.1), (aI .i64 r.2)]) := by
 refine X16.sym Xe Xsq (nt := 20) rfl rfl ?_ (X6 (X23 false _ _).1 X08)
 unfold X9v at h
 refine X3 h ?_
 clear h; intro v1 h2 h
 refine brE h ?_ ?_
 ·clear h; intro h3 h
  obtain rfl := oj h
  refine rn tmD [.pure [(X02 false a0)] (aI .i64 v1), Bt] rfl (by repeat' first|apply Ya|exact (pn (X97 _ _ h2) (cc (X0i (cc .sc (cc (X4 (X0 Xh a0.Arg)) (cc (X4 (X0 (fun _ => X06) a0.Sources)) (cc .sc (cc (X4 (X0 Xh a0.Where)) (cc .sc (cc .sc (cc .sc (cc .sc (cc .sc cn))))))))))) cn))|exact X00) ?_
  exact X8 rfl (X04 (cc .sc (cc .sc cn)))
 clear h; intro h3 h
 refine X3 h ?_
 clear h; intro w22 h41 h
 obtain ⟨Xma, Xm9⟩ := w22
 try dsimp only at h
 refine rn tmD [.pure [(X02 false a0)] (aI .i64 v1), Bf] rfl (by repeat' first|apply Ya|exact (pn (X97 _ _ h2) (cc (X0i (cc .sc (cc (X4 (X0 Xh a0.Arg)) (cc (X4 (X0 (fun _ => X06) a0.Sources)) (cc .sc (cc (X4 (X0 Xh a0.Where)) (cc .sc (cc .sc (cc .sc (cc .sc (cc .sc cn))))))))))) cn))|exact X00) ?_
 refine Xa.joinOp (s' := ⟨fr [(17, (AV.tup [(aI .i64 Xma), (aI .i64 Xm9)]))], hp ([]), 0⟩) ?_ (fun J => ?_)
 ·
  obtain rfl := oj h
  refine Xm tmD [] ?_
  exact X8 rfl (X04 (cc .sc (cc .sc cn)))
 clear h
 have h := h41
 refine Xa.inline Xe Xs6 rfl rfl rfl rfl rfl trivial trivial rfl rfl ?_
 refine Xm tmD [] ?_
 refine Xa.round ?_
 refine brE h ?_ ?_
 ·clear h; intro h23 h
  refine Xm tmD [Bt, .el (AV.agg [(Lf (a0.Arg.map Xf)), (AV.fn 56 [])]), .el (aI .i64 (a0.Arg.length : Int)), Bt] ?_
  refine Xa.round ?_
  refine brE h ?_ ?_
  ·clear h; intro h24 h
   refine Xm tmD [Bt, .el (AV.agg [(Lf (a0.Where.map Xf)), (AV.fn 57 [])]), .el (aI .i64 (a0.Where.length : Int)), Bt] ?_
   refine Xa.round ?_
   simp only [Option.some.injEq, Prod.mk.injEq] at h
   obtain ⟨rfl, rfl⟩ := h
   refine Xm tmD [Bf] ?_
   refine Xa.back (by intro id h; cases h) rfl ?_
   exact wkT [] (J)
  clear h; intro h24 h
  refine X3 h ?_
  clear h; intro v25 h26 h
  refine rn tmD [Bt, .el (AV.agg [(Lf (a0.Where.map Xf)), (AV.fn 57 [])]), .el (aI .i64 (a0.Where.length : Int)), Bf, .pure [(Lf (a0.Where.map Xf))] (AV.tup [(aI .i64 v25.1), (aI .i64 v25.2)])] rfl (by repeat' first|apply Ya|exact (pn (Xah _ _ h26) (cc (X4 (X0 Xh a0.Where)) cn))|exact X00) ?_
  refine brE h ?_ ?_
  ·clear h; intro h27 h
   refine X3 h ?_
   clear h; intro e28 h29 h
   try have qh29 := X18 h29
   simp only [Option.some.injEq, Prod.mk.injEq] at h
   obtain ⟨rfl, rfl⟩ := h
   refine Xm tmD [Bt, .el (Xf e28)] ?_
   refine Xa.back (by intro id h; cases h) rfl ?_
   exact wkT [] (J)
  clear h; intro h27 h
  refine Xm tmD [Bf] ?_
  refine Xa.round ?_
  simp only [Option.some.injEq, Prod.mk.injEq] at h
  obtain ⟨rfl, rfl⟩ := h
  refine Xm tmD [Bf] ?_
  refine Xa.back (by intro id h; cases h) rfl ?_
  exact wkT [] (J)
 clear h; intro h23 h
 refine X3 h ?_
 clear h; intro v30 h31 h
 refine rn tmD [Bt, .el (AV.agg [(Lf (a0.Arg.map Xf)), (AV.fn 56 [])]), .el (aI .i64 (a0.Arg.length : Int)), Bf, .pure [(Lf (a0.Arg.map Xf))] (AV.tup [(aI .i64 v30.1), (aI .i64 v30.2)])] rfl (by repeat' first|apply Ya|exact (pn (Xdx _ _ h31) (cc (X4 (X0 Xh a0.Arg)) cn))|exact X00) ?_
 refine brE h ?_ ?_
 ·clear h; intro h32 h
  refine X3 h ?_
  clear h; intro e33 h34 h
  try have qh34 := X18 h34
  simp only [Option.some.injEq, Prod.mk.injEq] at h
  obtain ⟨rfl, rfl⟩ := h
  refine Xm tmD [Bt, .el (Xf e33)] ?_
  refine Xa.back (by intro id h; cases h) rfl ?_
  exact wkT [] (J)
 clear h; intro h32 h
 refine Xm tmD [Bf] ?_
 refine Xa.round ?_
 refine brE h ?_ ?_
 ·clear h; intro h35 h
  refine Xm tmD [Bt, .el (AV.agg [(Lf (a0.Where.map Xf)), (AV.fn 57 [])]), .el (aI .i64 (a0.Where.length : Int)), Bt] ?_
  refine Xa.round ?_
  simp only [Option.some.injEq, Prod.mk.injEq] at h
  obtain ⟨rfl, rfl⟩ := h
  refine Xm tmD [Bf] ?_
  refine Xa.back (by intro id h; cases h) rfl ?_
  exact wkT [] (J)
 clear h; intro h35 h
 refine X3 h ?_
 clear h; intro v36 h37 h
 refine rn tmD [Bt, .el (AV.agg [(Lf (a0.Where.map Xf)), (AV.fn 57 [])]), .el (aI .i64 (a0.Where.length : Int)), Bf, .pure [(Lf (a0.Where.map Xf))] (AV.tup [(aI .i64 v36.1), (aI .i64 v36.2)])] rfl (by repeat' first|apply Ya|exact (pn (Xah _ _ h37) (cc (X4 (X0 Xh a0.Where)) cn))|exact X00) ?_
 refine brE h ?_ ?_
 ·clear h; intro h38 h
  refine X3 h ?_
  clear h; intro e39 h40 h
  try have qh40 := X18 h40
  simp only [Option.some.injEq, Prod.mk.injEq] at h
  obtain ⟨rfl, rfl⟩ := h
  refine Xm tmD [Bt, .el (Xf e39)] ?_
  refine Xa.back (by intro id h; cases h) rfl ?_
  exact wkT [] (J)
 clear h; intro h38 h
 refine Xm tmD [Bf] ?_
 refine Xa.round ?_
 simp only [Option.some.injEq, Prod.mk.injEq] at h
 obtain ⟨rfl, rfl⟩ := h
 refine Xm tmD [Bf] ?_
 refine Xa.back (by intro id h; cases h) rfl ?_
 exact wkT [] (J)
theorem X24 (a0 : X2n) (r : Bool) (h : X7x a0 = some r) : X16 Tryz.prog 16 [(X02 false a0)] (aB r) := by
 refine X16.sym Xe Xt1 (nt := 17) rfl rfl ?_ (X6 (X23 false _ _).1 X08)
 unfold X7x at h
 refine X3 h ?_
 clear h; intro v1 h2 h
 obtain rfl := oj h
 refine rn tmD [.pure [(X02 false a0)] (AV.tup [(aI .i64 v1.1), (aI .i64 v1.2)])] rfl (by repeat' first|apply Ya|exact (pn (Xe9 _ _ h2) (cc (X0i (cc .sc (cc (X4 (X0 Xh a0.Arg)) (cc (X4 (X0 (fun _ => X06) a0.Sources)) (cc .sc (cc (X4 (X0 Xh a0.Where)) (cc .sc (cc .sc (cc .sc (cc .sc (cc .sc cn))))))))))) cn))|exact X00) ?_
 exact X8 rfl .sc
theorem X2t (a0 : Int) (r : Int × Int × Bool × Bool × Bool × Bool) (h : Xal a0 = some r) : X16 Tryz.prog 30 [(aI .u8 a0)] (AV.tup [(aI .i64 r.1), (aI .i64 r.2.1), (aB r.2.2.1), (aB r.2.2.2.1), (aB r.2.2.2.2.1), (aB r.2.2.2.2.2)]) := by
 refine X16.sym Xe Xsp (nt := 23) rfl rfl ?_ (X6 .sc X08)
 unfold Xal at h
 refine X3 h ?_
 clear h; intro w8 h16 h
 obtain ⟨Xpo, Xrh, Xrg, Xrf, Xre, Xrd⟩ := w8
 try dsimp only at h
 refine Xm tmD [] ?_
 refine Xa.join (s' := ⟨fr [(2, (aI .i64 Xpo)), (3, (aI .i64 Xrh)), (4, (aB Xrg)), (5, (aB Xrf)), (6, (aB Xre)), (7, (aB Xrd))], hp ([]), 0⟩) ?_ (fun J => Xa.cut ?_)
 ·
  obtain rfl := oj h
  refine Xm tmD [] ?_
  exact X8 rfl (X04 (cc .sc (cc .sc (cc .sc (cc .sc (cc .sc (cc .sc cn)))))))
 clear h
 have h := h16
 refine brE h ?_ ?_
 ·clear h; intro h9 h
  obtain rfl : a0 = 1 := eq_of_beq h9
  simp only [Option.some.injEq, Prod.mk.injEq] at h
  obtain ⟨rfl, rfl, rfl, rfl, rfl, rfl⟩ := h
  refine Xm tmD [Bt] ?_
  exact wkT [] (Xa.glue J)
 clear h; intro h9 h
 refine brE h ?_ ?_
 ·clear h; intro h10 h
  obtain rfl : a0 = 2 := eq_of_beq h10
  simp only [Option.some.injEq, Prod.mk.injEq] at h
  obtain ⟨rfl, rfl, rfl, rfl, rfl, rfl⟩ := h
  refine Xm tmD [Bf, Bt] ?_
  exact wkT [] (Xa.glue J)
 clear h; intro h10 h
 refine brE h ?_ ?_
 ·clear h; intro h11 h
  simp only [Option.some.injEq, Prod.mk.injEq] at h
  obtain ⟨rfl, rfl, rfl, rfl, rfl, rfl⟩ := h
  refine Xm tmD [Bf, Bf, Bt] ?_
  exact wkT [] (Xa.glue J)
 clear h; intro h11 h
 refine brE h ?_ ?_
 ·clear h; intro h12 h
  obtain rfl : a0 = 4 := eq_of_beq h12
  simp only [Option.some.injEq, Prod.mk.injEq] at h
  obtain ⟨rfl, rfl, rfl, rfl, rfl, rfl⟩ := h
  refine Xm tmD [Bf, Bf, Bf, Bt] ?_
  exact wkT [] (Xa.glue J)
 clear h; intro h12 h
 refine brE h ?_ ?_
 ·clear h; intro h13 h
  simp only [Option.some.injEq, Prod.mk.injEq] at h
  obtain ⟨rfl, rfl, rfl, rfl, rfl, rfl⟩ := h
  refine Xm tmD [Bf, Bf, Bf, Bf, Bt] ?_
  exact wkT [] (Xa.glue J)
 clear h; intro h13 h
 refine brE h ?_ ?_
 ·clear h; intro h14 h
  simp only [Option.some.injEq, Prod.mk.injEq] at h
  obtain ⟨rfl, rfl, rfl, rfl, rfl, rfl⟩ := h
  refine Xm tmD [Bf, Bf, Bf, Bf, Bf, Bt] ?_
  exact wkT [] (Xa.glue J)
 clear h; intro h14 h
 refine brE h ?_ ?_
 ·clear h; intro h15 h
  simp only [Option.some.injEq, Prod.mk.injEq] at h
  obtain ⟨rfl, rfl, rfl, rfl, rfl, rfl⟩ := h
  refine Xm tmD [Bf, Bf, Bf, Bf, Bf, Bf, Bt] ?_
  exact wkT [] (Xa.glue J)
 clear h; intro h15 h
 simp only [Option.some.injEq, Prod.mk.injEq] at h
 obtain ⟨rfl, rfl, rfl, rfl, rfl, rfl⟩ := h
 refine Xm tmD [Bf, Bf, Bf, Bf, Bf, Bf, Bf] ?_
 exact wkT [] (Xa.glue J)
theorem X2s (a0 : Bool) (a1 : Int) (r : Int) (h : X87 a0 a1 = some r) : X16 Tryz.prog 31 [(aB a0), (aI .i64 a1)] (aI .i64 r) := by
 refine X16.sym Xe Xso (nt := 7) rfl rfl ?_ (X6 .sc (X6 .sc X08))
 unfold X87 at h
 refine brE h ?_ ?_
 ·clear h; intro h1 h
  obtain rfl := oj h
  refine Xm tmD [Bt] ?_
  exact X8 rfl .sc
 clear h; intro h1 h
 obtain rfl := oj h
 refine Xm tmD [Bf] ?_
 exact X8 rfl .sc
theorem X64 (a0 : Int) (r : Bool) (h : X4l a0 = some r) : X16 Tryz.prog 35 [(aI .i64 a0)] (aB r) := by
 refine X16.sym Xe Xsk (nt := 9) rfl rfl ?_ (X6 .sc X08)
 unfold X4l at h
 obtain rfl := oj h
 refine Xm tmD [] ?_
 exact X8 rfl .sc
theorem X65 (a0 : Int) (r : Bool) (h : X6f a0 = some r) : X16 Tryz.prog 36 [(aI .i64 a0)] (aB r) := by
 refine X16.sym Xe Xsj (nt := 9) rfl rfl ?_ (X6 .sc X08)
 unfold X6f at h
 refine X3 h ?_
 clear h; intro v1 h2 h
 obtain rfl := oj h
 refine rn tmD [.pure [(aI .i64 a0)] (aB v1)] rfl (by repeat' first|apply Ya|exact (pn (X64 _ _ h2) (cc .sc cn))|exact X00) ?_
 exact X8 rfl .sc
theorem X1v (a0 : Xt) (r : Int) (h : X36 a0 = some r) : X16 Tryz.prog 18 [(Xc a0)] (aI .i64 r) := by
 refine X16.sym Xe Xsz (nt := 59) rfl rfl ?_ (X6 (X4b _ _).1 X08)
 unfold X36 at h
 refine X3 h ?_
 clear h; intro Xob h4 h
 refine Xm tmD [] ?_
 refine Xa.join (s' := ⟨fr [(1, (AV.ptr 0 0 0)), (3, (aB false)), (4, (AV.ptr 1 0 0)), (10, (aI .u8 a0.Kind)), (11, (aB Xob))], hp ([(0, Ob [(Xc a0)] 10), (1, Ob [(Xc (Xt.mk a0.Kind (Xb.mk 0 0 0) 0 (X0j.mk 0 (X14.mk 0 0) (V2.mk 0 0))))] 10)]), 2⟩) ?_ (fun J => Xa.cut ?_)
 ·
  refine X3 h ?_
  clear h; intro w12 h20 h
  obtain ⟨Xqh, Xpp⟩ := w12
  try dsimp only at h
  refine Xm tmD [] ?_
  refine Xa.join (s' := ⟨fr [(1, (AV.ptr 0 0 0)), (3, (aB Xqh)), (4, (AV.ptr 1 0 0))], hp ([(0, Ob [(Xc a0)] 10), (1, Ob [(Xc Xpp)] 10)]), 2⟩) ?_ (fun J => Xa.cut ?_)
  ·
   refine brE h ?_ ?_
   ·clear h; intro h21 h
    obtain rfl := oj h
    refine Xm tmD [Bt] ?_
    exact X8 rfl .sc
   clear h; intro h21 h
   obtain rfl := oj h
   refine Xm tmD [Bf] ?_
   exact X8 rfl .sc
  clear h
  have h := h20
  refine brE h ?_ ?_
  ·clear h; intro h13 h
   refine X3 h ?_
   clear h; intro v14 h15 h
   simp only [Option.some.injEq, Prod.mk.injEq] at h
   obtain ⟨rfl, rfl⟩ := h
   refine rn tmD [Bt, .pure [(aI .i64 a0.Record.Time)] (aB v14)] rfl (by repeat' first|apply Ya|exact (pn (X64 _ _ h15) (cc .sc cn))|exact X00) ?_
   exact wkT [] (Xa.glue J)
  clear h; intro h13 h
  refine brE h ?_ ?_
  ·clear h; intro h16 h
   refine X3 h ?_
   clear h; intro v17 h18 h
   simp only [Option.some.injEq, Prod.mk.injEq] at h
   obtain ⟨rfl, rfl⟩ := h
   refine rn tmD [Bf, Bt, .pure [(aI .i64 a0.Time)] (aB v17)] rfl (by repeat' first|apply Ya|exact (pn (X65 _ _ h18) (cc .sc cn))|exact X00) ?_
   exact wkT [] (Xa.glue J)
  clear h; intro h16 h
  refine brE h ?_ ?_
  ·clear h; intro h19 h
   simp only [Option.some.injEq, Prod.mk.injEq] at h
   obtain ⟨rfl, rfl⟩ := h
   refine Xm tmD [Bf, Bf, Bt] ?_
   exact wkT [] (Xa.glue J)
  clear h; intro h19 h
  simp only [Option.some.injEq, Prod.mk.injEq] at h
  obtain ⟨rfl, rfl⟩ := h
  refine Xm tmD [Bf, Bf, Bf] ?_
  exact wkT [] (Xa.glue J)
 clear h
 have h := h4
 refine brE h ?_ ?_
 ·clear h; intro h3 h
  obtain rfl := oj h
  refine Xm tmD [Bt] ?_
  exact wkT [] (Xa.glue J)
 clear h; intro h3 h
 obtain rfl := oj h
 refine Xm tmD [Bf] ?_
 exact wkT [] (Xa.glue J)
theorem Xco {Q : X0d -> St -> Mu -> Prop} {μ : Mu} (Xk8 : (List Xz)) (hl : Xk8.length <= 140737488355328) : ∀ (xs : List Xz) (k : Nat) (hx : Xk8.drop k = xs) (o : X59) (h : X5a Xk8 xs k  = some o)
  (C0 : o = X59.x0 -> Xa Tryz.prog 26 0 Q (.exit (.exit 0)) [] ⟨fr [], hp ([]), 0⟩ μ)
  (C1 : o = X59.x1 -> Xa Tryz.prog 26 0 Q (.exit .ret) [] ⟨fr [(2, (aB false))], hp ([]), 0⟩ μ),
  Xa Tryz.prog 26 0 Q (.loop (X7i 0 (X01 Tryz.f32))) [] ⟨fr [(5, (Lf (Xk8.map Xp))), (6, (aI .i64 (Xk8.length : Int))), (7, (aI .i64 (k : Int)))], hp ([]), 0⟩ μ := by
 intro xs
 induction xs with
 | nil =>
  intro k hx  o h C0 C1
  have hk := X2m hx
  have hc : decide ((k : Int) < (Xk8.length : Int)) = false := Yf (by omega)
  rw [X5a] at h
  refine Xa.round ?_
  obtain rfl := oj h
  refine Xm tmD [Bf] ?_
  exact wkT [] (C0  rfl)
 | cons x xs ih =>
  intro k hx  o h C0 C1
  obtain ⟨hk, hg, hx1⟩ := X20 hx
  have hc : decide ((k : Int) < (Xk8.length : Int)) = true := Yt (by omega)
  rw [X5a] at h
  refine Xa.round ?_
  refine X3 h ?_
  clear h; intro Xl0 h35 h
  refine Xm tmD [Bt, .el (Xp x), .stop 4] ?_
  refine Xa.join (s' := ⟨fr [(5, (Lf (Xk8.map Xp))), (6, (aI .i64 (Xk8.length : Int))), (7, (aI .i64 (k : Int))), (24, (aB Xl0))], hp ([]), 0⟩) ?_ (fun J => Xa.cut ?_)
  ·
   refine brE h ?_ ?_
   ·clear h; intro h36 h
    obtain rfl := oj h
    refine Xm tmD [Bt] ?_
    exact wkT [] (C1  rfl)
   clear h; intro h36 h
   refine Xm tmD [Bf] ?_
   exact wkT [] (ih (k + 1) hx1  o h C0 C1)
  clear h
  have h := h35
  refine brE h ?_ ?_
  ·clear h; intro h31 h
   obtain rfl := oj h
   refine rn tmD [.go false, .go false, .go false, .go false, .go false, .go false, .go false] rfl (by repeat' first|apply Ya|exact ((Xy h31 rfl))|exact (X0o (Xy h31 rfl))|exact (Xaa (Xy h31 rfl))|exact X00) ?_
   exact wkT [] (Xa.glue J)
  clear h; intro h31 h
  refine brE h ?_ ?_
  ·clear h; intro h32 h
   obtain rfl := oj h
   refine rn tmD [.go true, .go true, .go true, .go false, .go false, .go false, .go false] rfl (by repeat' first|apply Ya|exact ((X1s h31 h32))|exact (X0o (X1s h31 h32))|exact (Xaa (X1s h31 h32))|exact X00) ?_
   exact wkT [] (Xa.glue J)
  clear h; intro h32 h
  refine X3 h ?_
  clear h; intro v33 h34 h
  obtain rfl := oj h
  refine rn tmD [.go true, .go true, .go true, .go true, .go true, .go true, .pure [(Xc x.Message)] (aI .i64 v33), .go true] rfl (by repeat' first|apply Ya|exact ((X1s h31 h32))|exact (X0o (X1s h31 h32))|exact (pn (X1v _ _ h34) (cc (X0h (x := x.Message)) cn))|exact (Xiy (X1s h31 h32))|exact X00) ?_
  exact wkT [] (Xa.glue J)
theorem X6w (a0 : (List Xz)) (r : Bool) (h : X9x a0 = some r) : X16 Tryz.prog 32 [(Lf (a0.map Xp))] (aB r) := by
 refine X16.sym Xe Xsn (nt := 26) rfl rfl ?_ (X6 .list X08)
 unfold X9x at h
 refine X3 h ?_
 clear h; intro u1 h2 h
 have qh2 := X1w h2
 refine X3 h ?_
 clear h; intro o37 h38 h
 refine Xm tmD [.el (aI .i64 (a0.length : Int))] ?_
 refine wkT [] (Xa.cut (Xco a0 qh2 a0 0 (by simp) _ h38 ?_ ?_))
 ·intro eo37; subst eo37
  refine Xa.glue ?_
  try dsimp only at h
  obtain rfl := oj h
  refine Xm tmD [] ?_
  exact X8 rfl .sc
 intro eo37; subst eo37
 refine Xa.glue ?_
 try dsimp only at h
 obtain rfl := oj h
 refine Xm tmD [] ?_
 exact X8 rfl .sc
theorem X0x (a0 : X1f) (r : Int) (h : X46 a0 = some r) : X16 Tryz.prog 52 [(X0g a0)] (aI .i64 r) := by
 refine X16.sym Xe Xs8 (nt := 43) rfl rfl ?_ (X6 (X40 _ _).1 X08)
 unfold X46 at h
 refine X3 h ?_
 clear h; intro Xqf h8 h
 refine Xm tmD [] ?_
 refine Xa.join (s' := ⟨fr [(3, (aB Xqf))], hp ([]), 0⟩) ?_ (fun J => Xa.cut ?_)
 ·
  refine brE h ?_ ?_
  ·clear h; intro h9 h
   obtain rfl := oj h
   refine Xm tmD [Bt] ?_
   exact X8 rfl .sc
  clear h; intro h9 h
  obtain rfl := oj h
  refine Xm tmD [Bf] ?_
  exact X8 rfl .sc
 clear h
 have h := h8
 refine brE h ?_ ?_
 ·clear h; intro h5 h
  obtain rfl := oj h
  refine Xm tmD [Bt] ?_
  exact wkT [] (Xa.glue J)
 clear h; intro h5 h
 refine brE h ?_ ?_
 ·clear h; intro h6 h
  obtain rfl := oj h
  refine Xm tmD [Bf, Bt] ?_
  exact wkT [] (Xa.glue J)
 clear h; intro h6 h
 refine brE h ?_ ?_
 ·clear h; intro h7 h
  obtain rfl := oj h
  refine Xm tmD [Bf, Bf, Bt] ?_
  exact wkT [] (Xa.glue J)
 clear h; intro h7 h
 obtain rfl := oj h
 refine Xm tmD [Bf, Bf, Bf] ?_
 exact wkT [] (Xa.glue J)
end Go.Av.Tryz