/- Printed by decomp.py: that the program computes the functions. -/
import Derived.Test.YtoadgjfleafafaaGreatDCert1A
set_option linter.all false

namespace Go.Av.Tryz
open Go.Proofs Go.D
set_option maxRecDepth 10000
set_option maxHeartbeats 40000000
theorem Xfs (a0 : (List X2r)) (r : (List Xw) × Bool) (h : Xbp a0 = some r) : X16 Tryz.prog 99 [(Lf (a0.map Xf))] (AV.tup [(AV.list true (r.1.map X7)), (aB r.2)]) := by
 refine X16.sym Xe Xri (nt := 105) rfl rfl ?_ (X6 .list X08)
 unfold Xbp at h
 refine X3 h ?_
 clear h; intro u1 h2 h
 have qh2 := X1w h2
 refine X3 h ?_
 clear h; intro o475 h476 h
 refine Xm tmD [.el (aI .i64 (a0.length : Int))] ?_
 refine wkT [] (Xa.cut (Xcy a0 qh2 a0 0 (by simp) _ _ (nbT (by first | rfl | simp [*])) (nbT (by first | rfl | simp [*])) _ h476 ?_ ?_))
 ·intro X0u X12 X27 X26 eo475; subst eo475
  refine Xa.glue ?_
  try dsimp only at h
  rcases X27 with ⟨_ | _, X67⟩
  ·
   rcases X26 with ⟨_ | _, X4a⟩
   ·
    obtain rfl := oj h
    refine Xm tmD [.el (aI .i64 (X12.length : Int))] ?_
    exact X8 rfl (X04 (cc (X1b (es := X0u.map X7) rfl (by first | rfl | (simp; done) | (simp; rfl) | (simp []; done) | (simp []; rfl) | (simp [Ym, Yd]; done) | (simp [Ym, Yd]; rfl)) (by first | rfl | (simp; done) | (simp; omega) | (simp []; done) | (simp []; omega)) (X0 X5q X0u)) (cc (Xe8 (by first | rfl | (simp [*]; done))) cn)))
   obtain rfl := X4a rfl
   obtain rfl := oj h
   refine Xm tmD [.el (aI .i64 (List.length ([] : List Xw) : Int))] ?_
   exact X8 rfl (X04 (cc (X1b (es := X0u.map X7) rfl (by first | rfl | (simp; done) | (simp; rfl) | (simp []; done) | (simp []; rfl) | (simp [Ym, Yd]; done) | (simp [Ym, Yd]; rfl)) (by first | rfl | (simp; done) | (simp; omega) | (simp []; done) | (simp []; omega)) (X0 X5q X0u)) (cc (Xe8 (by first | rfl | (simp [*]; done))) cn)))
  obtain rfl := X67 rfl
  rcases X26 with ⟨_ | _, X4a⟩
  ·
   obtain rfl := oj h
   refine Xm tmD [.el (aI .i64 (X12.length : Int))] ?_
   exact X8 rfl (X04 (cc (Xu (by simp)) (cc (Xe8 (by first | rfl | (simp [*]; done))) cn)))
  obtain rfl := X4a rfl
  obtain rfl := oj h
  refine Xm tmD [.el (aI .i64 (List.length ([] : List Xw) : Int))] ?_
  exact X8 rfl (X04 (cc (Xu (by simp)) (cc (Xe8 (by first | rfl | (simp [*]; done))) cn)))
 intro X1i X25 eo475; subst eo475
 refine Xa.glue ?_
 try dsimp only at h
 rcases X25 with ⟨_ | _, X66⟩
 ·
  obtain rfl := oj h
  refine Xm tmD [] ?_
  exact X8 rfl (X04 (cc (X1b (es := X1i.map X7) rfl (by first | rfl | (simp; done) | (simp; rfl) | (simp []; done) | (simp []; rfl) | (simp [Ym, Yd]; done) | (simp [Ym, Yd]; rfl)) (by first | rfl | (simp; done) | (simp; omega) | (simp []; done) | (simp []; omega)) (X0 X5q X1i)) (cc .sc cn)))
 obtain rfl := X66 rfl
 obtain rfl := oj h
 refine Xm tmD [] ?_
 exact X8 rfl (X04 (cc (Xu (by simp)) (cc .sc cn)))
theorem Xep (a0 : (List X2r)) (r : (List Xw) × Int) (h : Xao a0 = some r) : X16 Tryz.prog 89 [(Lf (a0.map Xf))] (AV.tup [(AV.list true (r.1.map X7)), (aI .i64 r.2)]) := by
 refine X16.sym Xe Xro (nt := 25) rfl rfl ?_ (X6 .list X08)
 unfold Xao at h
 refine brE h ?_ ?_
 ·clear h; intro h1 h
  obtain rfl := oj h
  refine Xm tmD [.el (aI .i64 (a0.length : Int)), Bt] ?_
  exact X8 rfl (X04 (cc (Zn X7) (cc .sc cn)))
 clear h; intro h1 h
 refine X3 h ?_
 clear h; intro v2 h3 h
 refine rn tmD [.el (aI .i64 (a0.length : Int)), Bf, .pure [(Lf (a0.map Xf))] (AV.tup [(AV.list true (v2.1.map X7)), (aB v2.2)])] rfl (by repeat' first|apply Ya|exact (pn (Xfs _ _ h3) (cc (X4 (X0 Xh a0)) cn))|exact X00) ?_
 refine brE h ?_ ?_
 ·clear h; intro h4 h
  obtain rfl := oj h
  refine Xm tmD [Bt] ?_
  exact X8 rfl (X04 (cc (Zn X7) (cc .sc cn)))
 clear h; intro h4 h
 refine X3 h ?_
 clear h; intro e5 h6 h
 try have qh6 := X18 h6
 refine brE h ?_ ?_
 ·clear h; intro h7 h
  obtain rfl := oj h
  refine Xm tmD [Bf, .el (aI .i64 (v2.1.length : Int)), .wrap, .el (X7 e5), Bt] ?_
  exact X8 rfl (X04 (cc (Zn X7) (cc .sc cn)))
 clear h; intro h7 h
 obtain rfl := oj h
 refine Xm tmD [Bf, .el (aI .i64 (v2.1.length : Int)), .wrap, .el (X7 e5), Bf] ?_
 exact X8 rfl (X04 (cc (.listS rfl) (cc .sc cn)))
theorem X3d (a0 : (List X2r)) (r : Int) (h : X63 a0 = some r) : X16 Tryz.prog 77 [(Lf (a0.map Xf))] (aI .i64 r) := by
 refine X16.sym Xe Xru (nt := 11) rfl rfl ?_ (X6 .list X08)
 unfold X63 at h
 refine X3 h ?_
 clear h; intro v1 h2 h
 obtain rfl := oj h
 refine rn tmD [.pure [(Lf (a0.map Xf))] (AV.tup [(AV.list true (v1.1.map X7)), (aI .i64 v1.2)])] rfl (by repeat' first|apply Ya|exact (pn (Xep _ _ h2) (cc (X4 (X0 Xh a0)) cn))|exact X00) ?_
 exact X8 rfl .sc
theorem X6t (a0 : Int) (r : Bool) (h : X6a a0 = some r) : X16 Tryz.prog 90 [(aI .i64 a0)] (aB r) := by
 refine X16.sym Xe Xrn (nt := 9) rfl rfl ?_ (X6 .sc X08)
 unfold X6a at h
 obtain rfl := oj h
 refine Xm tmD [] ?_
 exact X8 rfl .sc
theorem X6k {Q : X0d -> St -> Mu -> Prop} {μ : Mu} (X2i : (List Int)) (hl : X2i.length <= 140737488355328) : ∀ (xs : List Int) (k : Nat) (hx : X2i.drop k = xs) (o : X1u) (h : X1j X2i xs k  = some o)
  (C0 : o = X1u.x0 -> Xa Tryz.prog 19 0 Q (.exit (.exit 0)) [] ⟨fr [], hp ([]), 0⟩ μ)
  (C1 : ∀ (Xey : Int), o = X1u.x1 Xey -> Xa Tryz.prog 19 0 Q (.exit .ret) [] ⟨fr [(4, (aI .i64 Xey))], hp ([]), 0⟩ μ),
  Xa Tryz.prog 19 0 Q (.loop (X7i 0 (X01 Tryz.f100))) [] ⟨fr [(0, (Lf (List.map (aI .i64) X2i))), (1, (AV.fn 90 [])), (7, (aI .i64 (X2i.length : Int))), (8, (aI .i64 (k : Int)))], hp ([]), 0⟩ μ := by
 intro xs
 induction xs with
 | nil =>
  intro k hx  o h C0 C1
  have hk := X2m hx
  have hc : decide ((k : Int) < (X2i.length : Int)) = false := Yf (by omega)
  rw [X1j] at h
  refine Xa.round ?_
  obtain rfl := oj h
  refine Xm tmD [Bf] ?_
  exact wkT [] (C0  rfl)
 | cons x xs ih =>
  intro k hx  o h C0 C1
  obtain ⟨hk, hg, hx1⟩ := X20 hx
  have hc : decide ((k : Int) < (X2i.length : Int)) = true := Yt (by omega)
  rw [X1j] at h
  refine Xa.round ?_
  refine X3 h ?_
  clear h; intro v10 h11 h
  refine brE h ?_ ?_
  ·clear h; intro h12 h
   obtain rfl := oj h
   refine rn tmD [Bt, .el (aI .i64 x), .pure [(aI .i64 x)] (aB v10), Bt] rfl (by repeat' first|apply Ya|exact (pn (X6t _ _ h11) (cc .sc cn))|exact X00) ?_
   exact wkT [] (C1 _  rfl)
  clear h; intro h12 h
  refine rn tmD [Bt, .el (aI .i64 x), .pure [(aI .i64 x)] (aB v10), Bf] rfl (by repeat' first|apply Ya|exact (pn (X6t _ _ h11) (cc .sc cn))|exact X00) ?_
  exact wkT [] (ih (k + 1) hx1  o h C0 C1)
theorem X3h (a0 : (List Int)) (r : Int) (h : X1c a0 = some r) : X16 Tryz.prog 100 [(Lf (List.map (aI .i64) a0)), (AV.fn 90 [])] (aI .i64 r) := by
 refine X16.sym Xe Xqo (nt := 19) rfl rfl ?_ (X6 .list (X6 Xkp X08))
 unfold X1c at h
 refine X3 h ?_
 clear h; intro u1 h2 h
 have qh2 := X1w h2
 refine X3 h ?_
 clear h; intro o13 h14 h
 refine Xm tmD [.el (aI .i64 (a0.length : Int))] ?_
 refine wkT [] (Xa.cut (X6k a0 qh2 a0 0 (by simp) _ h14 ?_ ?_))
 ·intro eo13; subst eo13
  refine Xa.glue ?_
  try dsimp only at h
  obtain rfl := oj h
  refine Xm tmD [] ?_
  exact X8 rfl .sc
 intro Xey eo13; subst eo13
 refine Xa.glue ?_
 try dsimp only at h
 obtain rfl := oj h
 refine Xm tmD [] ?_
 exact X8 rfl .sc
theorem X1p (a0 : (List Int)) (r : Bool) (h : X0m a0 = some r) : X16 Tryz.prog 91 [(Lf (List.map (aI .i64) a0)), (AV.fn 90 [])] (aB r) := by
 refine X16.sym Xe Xrm (nt := 9) rfl rfl ?_ (X6 .list (X6 Xkp X08))
 unfold X0m at h
 refine X3 h ?_
 clear h; intro v1 h2 h
 obtain rfl := oj h
 refine rn tmD [.pure [(Lf (List.map (aI .i64) a0)), (AV.fn 90 [])] (aI .i64 v1)] rfl (by repeat' first|apply Ya|exact (pn (X3h _ _ h2) (cc (X4 (X0 (fun _ => X06) a0)) (cc .fn0 cn)))|exact X00) ?_
 exact X8 rfl .sc
theorem Xkw (z : Int) : ∀ (ks : List Int), Xj4 (.int .i64 z) (.bool true) (ks.map Xet) = (Xga ks z).map Xet := by
 intro ks
 unfold Xga
 induction ks with
 | nil => simp [Xj4, Xet]
 | cons a r ih =>
  simp only [List.map_cons, Xet, Xj4]
  by_cases h : a = z
  ·subst h; simp [Xet]
  have h1 : ¬ (Value.int .i64 a = Value.int .i64 z) := by simpa using h
  rw [if_neg h1]
  have ih' : Xj4 (.int .i64 z) (.bool true) (r.map Xet) = (if z ∈ r then r else r ++ [z]).map Xet := ih
  rw [ih']
  have h2 : ¬ z = a := fun e => h e.symm
  by_cases hz : z ∈ r <;> simp [hz, h2, Xet]
theorem X8z {Q : X0d -> St -> Mu -> Prop} {μ : Mu} (b : Nat) (l : List Int) (hl : l.length <= 140737488355328) : ∀ (xs : List Int) (k : Nat) (hx : l.drop k = xs) (ks : List Int)
  (C : Xa Tryz.prog 18 0 Q (.exit (.exit 0)) [] ⟨fr [(3, .sc (.map (some b)))], hp [], 0⟩ ((b, (Xe6 ks xs).map Xet) :: μ)),
  Xa Tryz.prog 18 0 Q (.loop (X7i 0 (X01 Tryz.f92))) [] ⟨fr [(3, .sc (.map (some b))), (7, AV.list false (List.map (aI .i64) l)), (8, aI .i64 (l.length : Int)), (9, aI .i64 (k : Int))], hp [], 0⟩ ((b, ks.map Xet) :: μ) := by
 intro xs
 induction xs with
 | nil =>
  intro k hx ks C
  have hk := X2m hx
  have hc : decide ((k : Int) < (l.length : Int)) = false := Yf (by omega)
  refine Xa.round ?_
  refine rn tmD [Bf] rfl (by repeat' first|apply Ya|exact hc|exact X00) ?_
  exact Xa.weakTo [] C rfl (by repeat' first|apply Ya|exact wkA) trivial
 | cons x xs ih =>
  intro k hx ks C
  obtain ⟨hk, hg, hx1⟩ := X20 hx
  have hc : decide ((k : Int) < (l.length : Int)) = true := Yt (by omega)
  refine Xa.round ?_
  refine rn tmD [Bt, .el (aI .i64 x)] rfl (by repeat' first|apply Ya|exact hc|exact ixm hg|exact X00) ?_
  refine Xa.mapUpd (d := .int .i64) Xe rfl rfl rfl rfl rfl Tryz.underlying3 rfl rfl rfl trivial trivial trivial rfl (by
   intro p hp; obtain ⟨z, _, rfl⟩ := List.mem_map.1 hp; rfl) ?_
  rw [Xkw]
  refine Xm tmD [] ?_
  exact Xa.weakTo [] (ih (k + 1) hx1 (Xga ks x) C) rfl (by repeat' first|apply Ya|exact wkA) trivial
theorem X5u (a0 : (List Int)) (r : Int) (h : X4f a0 = some r) : X16 Tryz.prog 92 [(Lf (List.map (aI .i64) a0))] (aI .i64 r) := by
 refine X16.sym Xe Xrl (nt := 18) rfl rfl ?_ (X6 .list X08)
 unfold X4f at h
 refine X3 h ?_
 clear h; intro u h1 h
 have q1 := X1w h1
 obtain rfl := oj h
 refine Xm tmD [] ?_
 refine Xa.mapNew rfl rfl rfl fun b => ?_
 refine Xm tmD [] ?_
 refine Xa.weakTo [] (Xa.cut (X8z b a0 q1 a0 0 (by simp) [] ?_)) rfl (by repeat' first|apply Ya|exact wkA) trivial
 refine Xa.glue ?_
 refine Xm tmD [] ?_
 refine Xa.mapLen Xe rfl rfl rfl rfl rfl rfl trivial ?_
 rw [List.length_map]
 refine Xm tmD [] ?_
 exact X8 rfl .sc
theorem X1r (a0 : (List Int)) (a1 : Bool) (r : Int) (h : X3k a0 a1 = some r) : X16 Tryz.prog 78 [(Lf (List.map (aI .i64) a0)), (aB a1)] (aI .i64 r) := by
 refine X16.sym Xe Xrt (nt := 30) rfl rfl ?_ (X6 .list (X6 .sc X08))
 unfold X3k at h
 refine brE h ?_ ?_
 ·clear h; intro h1 h
  obtain rfl := oj h
  refine Xm tmD [.el (aI .i64 (a0.length : Int)), Bt] ?_
  exact X8 rfl .sc
 clear h; intro h1 h
 refine X3 h ?_
 clear h; intro Xnu h17 h
 refine Xm tmD [.el (aI .i64 (a0.length : Int)), Bf, .stop 4] ?_
 refine Xa.join (s' := ⟨fr [(0, (Lf (List.map (aI .i64) a0))), (24, (aB Xnu))], hp ([]), 0⟩) ?_ (fun J => Xa.cut ?_)
 ·
  refine brE h ?_ ?_
  ·clear h; intro h18 h
   obtain rfl := oj h
   refine Xm tmD [Bt] ?_
   exact X8 rfl .sc
  clear h; intro h18 h
  refine X3 h ?_
  clear h; intro v19 h20 h
  refine brE h ?_ ?_
  ·clear h; intro h21 h
   obtain rfl := oj h
   refine rn tmD [Bf, .pure [(Lf (List.map (aI .i64) a0))] (aI .i64 v19), .el (aI .i64 (a0.length : Int)), Bt] rfl (by repeat' first|apply Ya|exact (pn (X5u _ _ h20) (cc (X4 (X0 (fun _ => X06) a0)) cn))|exact X00) ?_
   exact X8 rfl .sc
  clear h; intro h21 h
  obtain rfl := oj h
  refine rn tmD [Bf, .pure [(Lf (List.map (aI .i64) a0))] (aI .i64 v19), .el (aI .i64 (a0.length : Int)), Bf] rfl (by repeat' first|apply Ya|exact (pn (X5u _ _ h20) (cc (X4 (X0 (fun _ => X06) a0)) cn))|exact X00) ?_
  exact X8 rfl .sc
 clear h
 have h := h17
 refine brE h ?_ ?_
 ·clear h; intro h10 h
  obtain rfl := oj h
  refine rn tmD [.el (aI .i64 (a0.length : Int)), .go false, .go false, .go false, .go false, .go false, .go false, .go false, .go false, .go false] rfl (by repeat' first|apply Ya|exact ((Xy h10 rfl))|exact (X0o (Xy h10 rfl))|exact (Xaa (Xy h10 rfl))|exact X00) ?_
  exact wkT [] (Xa.glue J)
 clear h; intro h10 h
 refine brE h ?_ ?_
 ·clear h; intro h11 h
  refine brE h ?_ ?_
  ·clear h; intro h12 h
   obtain rfl := oj h
   refine rn tmD [.el (aI .i64 (a0.length : Int)), .go true, .go true, .go true, .go true, .el (aI .i64 (a0.length : Int)), .go true, .go true, .go false, .go false, .go false] rfl (by repeat' first|apply Ya|exact ((X1s h10 (Xy h11 h12)))|exact (X0o (X1s h10 (Xy h11 h12)))|exact (Xaa (X1s h10 (Xy h11 h12)))|exact X00) ?_
   exact wkT [] (Xa.glue J)
  clear h; intro h12 h
  refine X3 h ?_
  clear h; intro v13 h14 h
  obtain rfl := oj h
  refine rn tmD [.el (aI .i64 (a0.length : Int)), .go true, .go true, .go true, .go true, .el (aI .i64 (a0.length : Int)), .go true, .go true, .go true, .go true, .go true, .pure [(Lf (List.map (aI .i64) a0)), (AV.fn 90 [])] (aB v13)] rfl (by repeat' first|apply Ya|exact ((X1s h10 (Xy h11 h12)))|exact (X0o (X1s h10 (Xy h11 h12)))|exact (pn (X1p _ _ h14) (cc (X4 (X0 (fun _ => X06) a0)) (cc .fn0 cn)))|exact (Xiy (X1s h10 (Xy h11 h12)))|exact X00) ?_
  exact wkT [] (Xa.glue J)
 clear h; intro h11 h
 refine X3 h ?_
 clear h; intro v15 h16 h
 obtain rfl := oj h
 refine rn tmD [.el (aI .i64 (a0.length : Int)), .go true, .go true, .go false, .go false, .go false, .go true, .go true, .go true, .go true, .pure [(Lf (List.map (aI .i64) a0)), (AV.fn 90 [])] (aB v15)] rfl (by repeat' first|apply Ya|exact ((X1s h10 (X1s h11 rfl)))|exact (X0o (X1s h10 (X1s h11 rfl)))|exact (pn (X1p _ _ h16) (cc (X4 (X0 (fun _ => X06) a0)) (cc .fn0 cn)))|exact (Xiy (X1s h10 (X1s h11 rfl)))|exact X00) ?_
 exact wkT [] (Xa.glue J)
theorem X0n (a0 : X48) (r : Int) (h : X2v a0 = some r) : X16 Tryz.prog 37 [(X0k a0)] (aI .i64 r) := by
 refine X16.sym Xe Xsi (nt := 40) rfl rfl ?_ (X6 (X3z _ _).1 X08)
 unfold X2v at h
 refine brE h ?_ ?_
 ·clear h; intro h1 h
  obtain rfl := oj h
  refine Xm tmD [Bt] ?_
  exact X8 rfl .sc
 clear h; intro h1 h
 refine brE h ?_ ?_
 ·clear h; intro h2 h
  refine brE h ?_ ?_
  ·clear h; intro h3 h
   obtain rfl := oj h
   refine Xm tmD [Bf, Bt, .wrap, Bt] ?_
   exact X8 rfl .sc
  clear h; intro h3 h
  obtain rfl := oj h
  refine Xm tmD [Bf, Bt, .wrap, Bf] ?_
  exact X8 rfl .sc
 clear h; intro h2 h
 refine brE h ?_ ?_
 ·clear h; intro h4 h
  refine brE h ?_ ?_
  ·clear h; intro h5 h
   obtain rfl := oj h
   refine Xm tmD [Bf, Bf, Bt, Bt] ?_
   exact X8 rfl .sc
  clear h; intro h5 h
  obtain rfl := oj h
  refine Xm tmD [Bf, Bf, Bt, Bf] ?_
  exact X8 rfl .sc
 clear h; intro h4 h
 refine brE h ?_ ?_
 ·clear h; intro h6 h
  refine brE h ?_ ?_
  ·clear h; intro h7 h
   obtain rfl := oj h
   refine Xm tmD [Bf, Bf, Bf, Bt, Bt] ?_
   exact X8 rfl .sc
  clear h; intro h7 h
  obtain rfl := oj h
  refine Xm tmD [Bf, Bf, Bf, Bt, Bf] ?_
  exact X8 rfl .sc
 clear h; intro h6 h
 obtain rfl := oj h
 refine Xm tmD [Bf, Bf, Bf, Bf] ?_
 exact X8 rfl .sc
theorem X97 (a0 : X2n) (r : Int) (h : X90 a0 = some r) : X16 Tryz.prog 54 [(X02 false a0)] (aI .i64 r) := by
 refine X16.sym Xe Xs7 (nt := 66) rfl rfl ?_ (X6 (X23 false _ _).1 X08)
 unfold X90 at h
 refine brE h ?_ ?_
 ·clear h; intro h1 h
  obtain rfl := oj h
  refine Xm tmD [Bt] ?_
  exact X8 rfl .sc
 clear h; intro h1 h
 refine brE h ?_ ?_
 ·clear h; intro h2 h
  refine X3 h ?_
  clear h; intro v3 h4 h
  refine brE h ?_ ?_
  ·clear h; intro h5 h
   obtain rfl := oj h
   refine rn tmD [Bf, Bt, .pure [(Lf (a0.Arg.map Xf))] (aI .i64 v3), Bt] rfl (by repeat' first|apply Ya|exact (pn (X3d _ _ h4) (cc (X4 (X0 Xh a0.Arg)) cn))|exact X00) ?_
   exact X8 rfl .sc
  clear h; intro h5 h
  refine brE h ?_ ?_
  ·clear h; intro h6 h
   refine X3 h ?_
   clear h; intro v7 h8 h
   refine rn tmD [Bf, Bt, .pure [(Lf (a0.Arg.map Xf))] (aI .i64 v3), Bf, .el (aI .i64 (a0.Where.length : Int)), Bt, .pure [(Lf (a0.Where.map Xf))] (aI .i64 v7)] rfl (by repeat' first|apply Ya|exact (pn (X3d _ _ h4) (cc (X4 (X0 Xh a0.Arg)) cn))|exact (pn (X3d _ _ h8) (cc (X4 (X0 Xh a0.Where)) cn))|exact X00) ?_
   refine brE h ?_ ?_
   ·clear h; intro h9 h
    obtain rfl := oj h
    refine Xm tmD [Bt] ?_
    exact X8 rfl .sc
   clear h; intro h9 h
   refine X3 h ?_
   clear h; intro v10 h11 h
   refine brE h ?_ ?_
   ·clear h; intro h12 h
    obtain rfl := oj h
    refine rn tmD [Bf, .pure [(Lf (List.map (aI .i64) a0.Sources)), (aB a0.Join)] (aI .i64 v10), Bt] rfl (by repeat' first|apply Ya|exact (pn (X1r _ _ _ h11) (cc (X4 (X0 (fun _ => X06) a0.Sources)) (cc .sc cn)))|exact X00) ?_
    exact X8 rfl .sc
   clear h; intro h12 h
   refine brE h ?_ ?_
   ·clear h; intro h13 h
    obtain rfl := oj h
    refine rn tmD [Bf, .pure [(Lf (List.map (aI .i64) a0.Sources)), (aB a0.Join)] (aI .i64 v10), Bf, Bt] rfl (by repeat' first|apply Ya|exact (pn (X1r _ _ _ h11) (cc (X4 (X0 (fun _ => X06) a0.Sources)) (cc .sc cn)))|exact X00) ?_
    exact X8 rfl .sc
   clear h; intro h13 h
   refine X3 h ?_
   clear h; intro v14 h15 h
   obtain rfl := oj h
   refine rn tmD [Bf, .pure [(Lf (List.map (aI .i64) a0.Sources)), (aB a0.Join)] (aI .i64 v10), Bf, Bf, .pure [(X0k a0.Window)] (aI .i64 v14)] rfl (by repeat' first|apply Ya|exact (pn (X1r _ _ _ h11) (cc (X4 (X0 (fun _ => X06) a0.Sources)) (cc .sc cn)))|exact (pn (X0n _ _ h15) (cc (X19 (x := a0.Window)) cn))|exact X00) ?_
   exact X8 rfl .sc
  clear h; intro h6 h
  refine X3 h ?_
  clear h; intro v16 h17 h
  refine rn tmD [Bf, Bt, .pure [(Lf (a0.Arg.map Xf))] (aI .i64 v3), Bf, .el (aI .i64 (a0.Where.length : Int)), Bf, .pure [(Lf (List.map (aI .i64) a0.Sources)), (aB a0.Join)] (aI .i64 v16)] rfl (by repeat' first|apply Ya|exact (pn (X3d _ _ h4) (cc (X4 (X0 Xh a0.Arg)) cn))|exact (pn (X1r _ _ _ h17) (cc (X4 (X0 (fun _ => X06) a0.Sources)) (cc .sc cn)))|exact X00) ?_
  refine brE h ?_ ?_
  ·clear h; intro h18 h
   obtain rfl := oj h
   refine Xm tmD [Bt] ?_
   exact X8 rfl .sc
  clear h; intro h18 h
  refine brE h ?_ ?_
  ·clear h; intro h19 h
   obtain rfl := oj h
   refine Xm tmD [Bf, Bt] ?_
   exact X8 rfl .sc
  clear h; intro h19 h
  refine X3 h ?_
  clear h; intro v20 h21 h
  obtain rfl := oj h
  refine rn tmD [Bf, Bf, .pure [(X0k a0.Window)] (aI .i64 v20)] rfl (by repeat' first|apply Ya|exact (pn (X0n _ _ h21) (cc (X19 (x := a0.Window)) cn))|exact X00) ?_
  exact X8 rfl .sc
 clear h; intro h2 h
 refine brE h ?_ ?_
 ·clear h; intro h22 h
  obtain rfl := oj h
  refine Xm tmD [Bf, Bf, .el (aI .i64 (a0.Arg.length : Int)), Bt] ?_
  exact X8 rfl .sc
 clear h; intro h22 h
 refine brE h ?_ ?_
 ·clear h; intro h23 h
  refine X3 h ?_
  clear h; intro v24 h25 h
  refine rn tmD [Bf, Bf, .el (aI .i64 (a0.Arg.length : Int)), Bf, .el (aI .i64 (a0.Where.length : Int)), Bt, .pure [(Lf (a0.Where.map Xf))] (aI .i64 v24)] rfl (by repeat' first|apply Ya|exact (pn (X3d _ _ h25) (cc (X4 (X0 Xh a0.Where)) cn))|exact X00) ?_
  refine brE h ?_ ?_
  ·clear h; intro h26 h
   obtain rfl := oj h
   refine Xm tmD [Bt] ?_
   exact X8 rfl .sc
  clear h; intro h26 h
  refine X3 h ?_
  clear h; intro v27 h28 h
  refine brE h ?_ ?_
  ·clear h; intro h29 h
   obtain rfl := oj h
   refine rn tmD [Bf, .pure [(Lf (List.map (aI .i64) a0.Sources)), (aB a0.Join)] (aI .i64 v27), Bt] rfl (by repeat' first|apply Ya|exact (pn (X1r _ _ _ h28) (cc (X4 (X0 (fun _ => X06) a0.Sources)) (cc .sc cn)))|exact X00) ?_
   exact X8 rfl .sc
  clear h; intro h29 h
  refine brE h ?_ ?_
  ·clear h; intro h30 h
   obtain rfl := oj h
   refine rn tmD [Bf, .pure [(Lf (List.map (aI .i64) a0.Sources)), (aB a0.Join)] (aI .i64 v27), Bf, Bt] rfl (by repeat' first|apply Ya|exact (pn (X1r _ _ _ h28) (cc (X4 (X0 (fun _ => X06) a0.Sources)) (cc .sc cn)))|exact X00) ?_
   exact X8 rfl .sc
  clear h; intro h30 h
  refine X3 h ?_
  clear h; intro v31 h32 h
  obtain rfl := oj h
  refine rn tmD [Bf, .pure [(Lf (List.map (aI .i64) a0.Sources)), (aB a0.Join)] (aI .i64 v27), Bf, Bf, .pure [(X0k a0.Window)] (aI .i64 v31)] rfl (by repeat' first|apply Ya|exact (pn (X1r _ _ _ h28) (cc (X4 (X0 (fun _ => X06) a0.Sources)) (cc .sc cn)))|exact (pn (X0n _ _ h32) (cc (X19 (x := a0.Window)) cn))|exact X00) ?_
  exact X8 rfl .sc
 clear h; intro h23 h
 refine X3 h ?_
 clear h; intro v33 h34 h
 refine rn tmD [Bf, Bf, .el (aI .i64 (a0.Arg.length : Int)), Bf, .el (aI .i64 (a0.Where.length : Int)), Bf, .pure [(Lf (List.map (aI .i64) a0.Sources)), (aB a0.Join)] (aI .i64 v33)] rfl (by repeat' first|apply Ya|exact (pn (X1r _ _ _ h34) (cc (X4 (X0 (fun _ => X06) a0.Sources)) (cc .sc cn)))|exact X00) ?_
 refine brE h ?_ ?_
 ·clear h; intro h35 h
  obtain rfl := oj h
  refine Xm tmD [Bt] ?_
  exact X8 rfl .sc
 clear h; intro h35 h
 refine brE h ?_ ?_
 ·clear h; intro h36 h
  obtain rfl := oj h
  refine Xm tmD [Bf, Bt] ?_
  exact X8 rfl .sc
 clear h; intro h36 h
 refine X3 h ?_
 clear h; intro v37 h38 h
 obtain rfl := oj h
 refine rn tmD [Bf, Bf, .pure [(X0k a0.Window)] (aI .i64 v37)] rfl (by repeat' first|apply Ya|exact (pn (X0n _ _ h38) (cc (X19 (x := a0.Window)) cn))|exact X00) ?_
 exact X8 rfl .sc
theorem X3p {Q : X0d -> St -> Mu -> Prop} {μ : Mu} (X05 : (List Bool)) (X4h : (V2 Bool)) (X57 : (List Int)) (X0e : Nb X05) (hl : X57.length <= 140737488355328) : ∀ (xs : List Int) (k : Nat) (hx : X57.drop k = xs) (o : X21) (h : X1o X05 X4h X57 xs k  = some o)
  (C0 : o = X21.x0 -> Xa Tryz.prog 21 4 Q (.exit (.exit 0)) [] ⟨fr [], hp ([(0, Ob [(slE X0e.1 1 (X05.map aB))] 1), (2, Ob [(X70 X4h)] 2), (3, Ob (List.map (aI .i64) X57) 1)] ++ opE X0e.1 1 1 (X05.map aB)), 4⟩ μ)
  (C1 : o = X21.x1 -> Xa Tryz.prog 21 4 Q (.exit .ret) [] ⟨fr [(5, (aB false))], hp ([(0, Ob [(slE X0e.1 1 (X05.map aB))] 1), (2, Ob [(X70 X4h)] 2), (3, Ob (List.map (aI .i64) X57) 1)] ++ opE X0e.1 1 1 (X05.map aB)), 4⟩ μ),
  Xa Tryz.prog 21 4 Q (.loop (X7i 0 (X01 Tryz.f115))) [] ⟨fr [(0, (aB false)), (2, (AV.ptr 0 0 0)), (8, (AV.ref 3 0 (X57.length))), (9, (aI .i64 (X57.length : Int))), (10, (aI .i64 (k : Int)))], hp ([(0, Ob [(slE X0e.1 1 (X05.map aB))] 1), (2, Ob [(X70 X4h)] 2), (3, Ob (List.map (aI .i64) X57) 1)] ++ opE X0e.1 1 1 (X05.map aB)), 4⟩ μ := by
 intro xs
 induction xs with
 | nil =>
  intro k hx  o h C0 C1
  have hk := X2m hx
  have hc : decide ((k : Int) < (X57.length : Int)) = false := Yf (by omega)
  rw [X1o] at h
  rcases X0e with ⟨_ | _, X17⟩
  ·
   refine Xa.round ?_
   obtain rfl := oj h
   refine Xm tmD [Bf] ?_
   exact wkT [] (C0  rfl)
  ·
   obtain rfl := X17 rfl
   refine Xa.round ?_
   obtain rfl := oj h
   refine Xm tmD [Bf] ?_
   exact wkT [] (C0  rfl)
 | cons x xs ih =>
  intro k hx  o h C0 C1
  obtain ⟨hk, hg, hx1⟩ := X20 hx
  have hc : decide ((k : Int) < (X57.length : Int)) = true := Yt (by omega)
  rw [X1o] at h
  rcases X0e with ⟨_ | _, X17⟩
  ·
   refine Xa.round ?_
   refine X3 h ?_
   clear h; intro e3011 h3012 h
   try have qh3012 := X18 h3012
   refine brE h ?_ ?_
   ·clear h; intro h3013 h
    obtain rfl := oj h
    refine Xm tmD [Bt, .el (aI .i64 x), .ld (aI .i64 x), .el (aB e3011), .ld (aB e3011), Bt] ?_
    exact wkT [] (C1  rfl)
   clear h; intro h3013 h
   refine Xm tmD [Bt, .el (aI .i64 x), .ld (aI .i64 x), .el (aB e3011), .ld (aB e3011), Bf] ?_
   exact wkT [] (ih (k + 1) hx1  o h C0 C1)
  obtain rfl := X17 rfl
  refine Xa.round ?_
  refine X3 h ?_
  clear h; intro e3014 h3015 h
  try have qh3015 := X18 h3015
  exact absurd (h3015) (by simp [X98])
end Go.Av.Tryz