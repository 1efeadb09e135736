/- Printed by decomp.py: that the program computes the functions. -/
import Derived.Test.YtfdfgobnpnoomaaGreatDCert16Z
set_option linter.all false

namespace Go.Av.Tryz
open Go.Proofs Go.D
set_option maxRecDepth 10000
set_option maxHeartbeats 40000000
theorem Xhj (a0 : (List Xi)) (r : Int × Int) (h : Xdl a0 = some r) : X19 Tryz.prog 45 [(Lf (a0.map X4))] (AV.tup [(aI .i64 r.1), (aI .i64 r.2)]) := by
 refine X19.sym Xg fn45 (nt := 27) rfl rfl ?_ (Xf .list X08)
 unfold Xdl at h
 refine X9 h ?_
 clear h; intro v1 h2 h
 refine brE h ?_ ?_
 ·clear h; intro h3 h
  obtain rfl := oj h
  refine rn tmD [.pure [(Lf (a0.map X4))] (aI .i64 v1), Bt] rfl (by repeat' first|apply Ya|exact (pn (X67 _ _ h2) (cc (X8 (X0 Xx a0)) cn))|exact Xv) ?_
  exact X6 rfl (Xl (cc .sc (cc .sc cn)))
 clear h; intro h3 h
 refine rn tmD [.pure [(Lf (a0.map X4))] (aI .i64 v1), Bf] rfl (by repeat' first|apply Ya|exact (pn (X67 _ _ h2) (cc (X8 (X0 Xx a0)) cn))|exact Xv) ?_
 refine Xa.inline Xg fn71 rfl rfl rfl rfl rfl trivial trivial rfl rfl ?_
 refine Xe tmD [] ?_
 refine Xa.back (by intro id h; cases h) rfl ?_
 refine X9 h ?_
 clear h; intro u4 h5 h
 have qh5 := X11 h5
 refine X9 h ?_
 clear h; intro o31 h32 h
 refine Xe tmD [.el (aI .i64 (a0.length : Int))] ?_
 refine wkT [] (Xa.cut (Xjb a0 qh5 a0 0 (by simp) _ _ h32 ?_))
 intro Xq eo31; subst eo31
 refine Xa.glue ?_
 try dsimp only at h
 refine Xe tmD [] ?_
 refine Xa.inline Xg Xtq rfl rfl rfl rfl rfl trivial trivial rfl rfl ?_
 refine Xe tmD [Bf] ?_
 refine Xa.back (by intro id h; cases h) rfl ?_
 obtain rfl := oj h
 refine Xe tmD [] ?_
 exact X6 rfl (Xl (cc .sc (cc .sc cn)))
theorem Xf3 {Q : X0d -> St -> Mu -> Prop} {μ : Mu} (Xlw : (List (List Xi))) (hl : Xlw.length <= 140737488355328) : ∀ (xs : List (List Xi)) (k : Nat) (hx : Xlw.drop k = xs) (Xnj : Int) (o : X5l) (h : X3j Xlw xs k Xnj = some o)
  (C0 : ∀ (Xak : Int), o = X5l.x0 Xak -> Xa Tryz.prog 42 0 Q (.exit (.exit 0)) [] ⟨fr [(5, (aI .i64 Xak))], hp ([]), 0⟩ μ)
  (C1 : ∀ (Xbh : Int), o = X5l.x1 Xbh -> Xa Tryz.prog 42 0 Q (.exit .ret) [] ⟨fr [(2, (aI .i64 0)), (3, (aI .i64 Xbh))], hp ([]), 0⟩ μ),
  Xa Tryz.prog 42 0 Q (.loop (X5o 0 (Xt Tryz.f17))) [] ⟨fr [(5, (aI .i64 Xnj)), (23, (Lf (List.map (X3e false X4) Xlw))), (24, (aI .i64 (Xlw.length : Int))), (25, (aI .i64 (k : Int)))], hp ([]), 0⟩ μ := by
 intro xs
 induction xs with
 | nil =>
  intro k hx Xnj o h C0 C1
  have hk := X1u hx
  have hc : decide ((k : Int) < (Xlw.length : Int)) = false := Yf (by omega)
  rw [X3j] at h
  refine Xa.round ?_
  obtain rfl := oj h
  refine Xe tmD [Bf] ?_
  exact wkT [] (C0 _  rfl)
 | cons x xs ih =>
  intro k hx Xnj o h C0 C1
  obtain ⟨hk, hg, hx1⟩ := X16 hx
  have hc : decide ((k : Int) < (Xlw.length : Int)) = true := Yt (by omega)
  rw [X3j] at h
  refine Xa.round ?_
  refine X9 h ?_
  clear h; intro v18 h19 h
  refine brE h ?_ ?_
  ·clear h; intro h20 h
   obtain rfl := oj h
   refine rn tmD [Bt, .el (X3e false X4 x), .pure [(Lf (x.map X4))] (AV.tup [(aI .i64 v18.1), (aI .i64 v18.2)]), Bt] rfl (by repeat' first|apply Ya|exact (pn (Xhj _ _ h19) (cc (X8 (X0 Xx x)) cn))|exact Xv) ?_
   exact wkT [] (C1 _  rfl)
  clear h; intro h20 h
  refine rn tmD [Bt, .el (X3e false X4 x), .pure [(Lf (x.map X4))] (AV.tup [(aI .i64 v18.1), (aI .i64 v18.2)]), Bf] rfl (by repeat' first|apply Ya|exact (pn (Xhj _ _ h19) (cc (X8 (X0 Xx x)) cn))|exact Xv) ?_
  exact wkT [] (ih (k + 1) hx1 _ o h C0 C1)
theorem Xcw (a0 : (List (List Xi))) (r : Int × Int) (h : X7k a0 = some r) : X19 Tryz.prog 17 [(Lf (List.map (X3e false X4) a0))] (AV.tup [(aI .i64 r.1), (aI .i64 r.2)]) := by
 refine X19.sym Xg fn17 (nt := 42) rfl rfl ?_ (Xf .list X08)
 unfold X7k at h
 refine X9 h ?_
 clear h; intro X00w h4 h
 refine Xe tmD [.stop 1] ?_
 refine Xa.join (s' := ⟨fr [(0, (Lf (List.map (X3e false X4) a0))), (17, (aB X00w))], hp ([]), 0⟩) ?_ (fun J => Xa.cut ?_)
 ·
  refine brE h ?_ ?_
  ·clear h; intro h5 h
   obtain rfl := oj h
   refine Xe tmD [Bt] ?_
   exact X6 rfl (Xl (cc .sc (cc .sc cn)))
  clear h; intro h5 h
  refine X9 h ?_
  clear h; intro v6 h7 h
  refine brE h ?_ ?_
  ·clear h; intro h8 h
   obtain rfl := oj h
   refine rn tmD [Bf, .pure [(Lf (List.map (X3e false X4) a0))] (aI .i64 v6), Bt] rfl (by repeat' first|apply Ya|exact (pn (X65 _ _ h7) (cc (X3z (fun _ => rfl) (fun x => X1w (X8 (X0 Xx _))) a0) cn))|exact Xv) ?_
   exact X6 rfl (Xl (cc .sc (cc .sc cn)))
  clear h; intro h8 h
  refine X9 h ?_
  clear h; intro u9 h10 h
  have qh10 := X11 h10
  refine X9 h ?_
  clear h; intro o21 h22 h
  refine rn tmD [Bf, .pure [(Lf (List.map (X3e false X4) a0))] (aI .i64 v6), Bf, .el (aI .i64 (a0.length : Int))] rfl (by repeat' first|apply Ya|exact (pn (X65 _ _ h7) (cc (X3z (fun _ => rfl) (fun x => X1w (X8 (X0 Xx _))) a0) cn))|exact Xv) ?_
  refine wkT [] (Xa.cut (Xf3 a0 qh10 a0 0 (by simp) _ _ h22 ?_ ?_))
  ·intro Xak eo21; subst eo21
   refine Xa.glue ?_
   try dsimp only at h
   obtain rfl := oj h
   refine Xe tmD [] ?_
   exact X6 rfl (Xl (cc .sc (cc .sc cn)))
  intro Xbh eo21; subst eo21
  refine Xa.glue ?_
  try dsimp only at h
  obtain rfl := oj h
  refine Xe tmD [] ?_
  exact X6 rfl (Xl (cc .sc (cc .sc cn)))
 clear h
 have h := h4
 refine brE h ?_ ?_
 ·clear h; intro h3 h
  obtain rfl := oj h
  refine Xe tmD [.el (aI .i64 (a0.length : Int)), .go false, .go false, .go false] ?_
  exact wkT [] (Xa.glue J)
 clear h; intro h3 h
 obtain rfl := oj h
 refine Xe tmD [.el (aI .i64 (a0.length : Int)), .go true, .go true, .el (aI .i64 (a0.length : Int)), .go true] ?_
 exact wkT [] (Xa.glue J)
theorem Xdf {Q : X0d -> St -> Mu -> Prop} {μ : Mu} (Xr0 : (List Xj)) (X4q : Int) (Xg8 : (List X5g)) (hl : Xg8.length <= 140737488355328) : ∀ (xs : List X5g) (k : Nat) (hx : Xg8.drop k = xs) (Xm : (List X5g)) (X1l : Nb Xm) (o : X6f) (h : X27 Xr0 X4q Xg8 xs k Xm = some o)
  (C0 : ∀ (Xq : (List X5g)) (X0i : Nb Xq), o = X6f.x0 Xq -> Xa Tryz.prog 50 0 Q (.exit (.exit 0)) [] ⟨fr [(8, (AV.list true (Xr0.map X3))), (11, (slE X0i.1 0 (Xq.map Xn)))], hp ([] ++ opE X0i.1 0 5 (Xq.map Xn)), 1⟩ μ),
  Xa Tryz.prog 50 0 Q (.loop (X5o 0 (Xt Tryz.f21))) [] ⟨fr [(8, (AV.list true (Xr0.map X3))), (10, (aI .i64 X4q)), (11, (slE X1l.1 0 (Xm.map Xn))), (32, (AV.list true (Xg8.map Xn))), (33, (aI .i64 (Xg8.length : Int))), (34, (aI .i64 (k : Int)))], hp ([] ++ opE X1l.1 0 5 (Xm.map Xn)), 1⟩ μ := by
 intro xs
 induction xs with
 | nil =>
  intro k hx Xm X1l o h C0
  have hk := X1u hx
  have hc : decide ((k : Int) < (Xg8.length : Int)) = false := Yf (by omega)
  rw [X27] at h
  rcases X1l with ⟨_ | _, X49⟩
  ·
   refine Xa.round ?_
   obtain rfl := oj h
   refine Xe tmD [Bf] ?_
   exact wkT [] (C0 _  nbF rfl)
  ·
   obtain rfl := X49 rfl
   refine Xa.round ?_
   obtain rfl := oj h
   refine Xe tmD [Bf] ?_
   exact wkT [] (C0 _  (nbT (by first | rfl | simp [*])) rfl)
 | cons x xs ih =>
  intro k hx Xm X1l o h C0
  obtain ⟨hk, hg, hx1⟩ := X16 hx
  have hc : decide ((k : Int) < (Xg8.length : Int)) = true := Yt (by omega)
  rw [X27] at h
  rcases X1l with ⟨_ | _, X49⟩
  ·
   refine Xa.round ?_
   refine X9 h ?_
   clear h; intro Xog h49 h
   refine Xe tmD [Bt, .el (Xn x)] ?_
   refine Xa.joinF (fun (q : Nb Xog) => ⟨fr [(8, (AV.list true (Xr0.map X3))), (10, (aI .i64 X4q)), (11, (slE q.1 0 (Xog.map Xn))), (32, (AV.list true (Xg8.map Xn))), (33, (aI .i64 (Xg8.length : Int))), (34, (aI .i64 (k : Int)))], hp ([] ++ opE q.1 0 5 (Xog.map Xn)), 1⟩) ?_ (fun J => Xa.cut ?_)
   ·
    rintro Xv5
    rcases Xv5 with ⟨_ | _, Xvx⟩
    ·
     refine Xe tmD [] ?_
     exact wkT [] (ih (k + 1) hx1 _ nbF o h C0)
    obtain rfl := Xvx rfl
    refine Xe tmD [] ?_
    exact wkT [] (ih (k + 1) hx1 _ (nbT (by first | rfl | simp [*])) o h C0)
   clear h
   have h := h49
   refine brE h ?_ ?_
   ·clear h; intro h46 h
    refine X9 h ?_
    clear h; intro u47 h48 h
    obtain rfl := oj h
    refine rn tmD [Bt, .no] rfl (by repeat' first | refine Ya ?_ ?_ | (refine X0w h48 rfl ?_; first | (simp; done) | (simp; omega) | (simp [hc, h46]; done) | (simp [hc, h46]; omega)) | (refine X0a h48 (by decide) ?_; first | (simp; done) | (simp; omega) | (simp [hc, h46]; done) | (simp [hc, h46]; omega))|exact Xv) ?_
    exact wkT [(0, 3)] (Xa.glue (J nbF))
   clear h; intro h46 h
   obtain rfl := oj h
   refine Xe tmD [Bf] ?_
   exact wkT [] (Xa.glue (J nbF))
  obtain rfl := X49 rfl
  refine Xa.round ?_
  refine X9 h ?_
  clear h; intro Xvg h57 h
  refine Xe tmD [Bt, .el (Xn x)] ?_
  refine Xa.joinF (fun (q : Nb Xvg) => ⟨fr [(8, (AV.list true (Xr0.map X3))), (10, (aI .i64 X4q)), (11, (slE q.1 0 (Xvg.map Xn))), (32, (AV.list true (Xg8.map Xn))), (33, (aI .i64 (Xg8.length : Int))), (34, (aI .i64 (k : Int)))], hp ([] ++ opE q.1 0 5 (Xvg.map Xn)), 1⟩) ?_ (fun J => Xa.cut ?_)
  ·
   rintro Xv3
   rcases Xv3 with ⟨_ | _, Xvv⟩
   ·
    refine Xe tmD [] ?_
    exact wkT [] (ih (k + 1) hx1 _ nbF o h C0)
   obtain rfl := Xvv rfl
   refine Xe tmD [] ?_
   exact wkT [] (ih (k + 1) hx1 _ (nbT (by first | rfl | simp [*])) o h C0)
  clear h
  have h := h57
  refine brE h ?_ ?_
  ·clear h; intro h54 h
   refine X9 h ?_
   clear h; intro u55 h56 h
   obtain rfl := oj h
   refine rn tmD [Bt, .no] rfl (by repeat' first | refine Ya ?_ ?_ | (refine X0w h56 rfl ?_; first | (simp; done) | (simp; omega) | (simp [hc, h54]; done) | (simp [hc, h54]; omega)) | (refine X0a h56 (by decide) ?_; first | (simp; done) | (simp; omega) | (simp [hc, h54]; done) | (simp [hc, h54]; omega))|exact Xv) ?_
   exact wkT [(0, 3)] (Xa.glue (J nbF))
  clear h; intro h54 h
  obtain rfl := oj h
  refine Xe tmD [Bf] ?_
  exact wkT [] (Xa.glue (J (nbT (by first | rfl | simp [*]))))
theorem X03 (a0 : Xp) (a1 : (List (List Xi))) (r : (List X5g) × (List Xj) × Int) (h : X3x a0 a1 = some r) : X19 Tryz.prog 21 [(Xh false a0), (Lf (List.map (X3e false X4) a1))] (AV.tup [(AV.list true (r.1.map Xn)), (AV.list true (r.2.1.map X3)), (aI .i64 r.2.2)]) := by
 refine X19.sym Xg fn21 (nt := 50) rfl rfl ?_ (Xf (X1a false _ _).1 (Xf .list X08))
 unfold X3x at h
 refine X9 h ?_
 clear h; intro v1 h2 h
 refine rn tmD [.pure [(Xh false a0), (Lf (List.map (X3e false X4) a1))] (AV.tup [(AV.list true (v1.1.map Xn)), (AV.list true (v1.2.1.map X3)), (aI .i64 v1.2.2)])] rfl (by repeat' first|apply Ya|exact (pn (X8p _ _ _ h2) (cc (X0v (cc .sc (cc (X8 (X0 X7 a0.Arg)) (cc (X8 (X0 (fun _ => X0e) a0.Sources)) (cc .sc (cc (X8 (X0 X7 a0.Where)) (cc .sc (cc .sc (cc .sc (cc .sc (cc .sc cn))))))))))) (cc (X3z (fun _ => rfl) (fun x => X1w (X8 (X0 Xx _))) a1) cn)))|exact Xv) ?_
 refine brE h ?_ ?_
 ·clear h; intro h3 h
  obtain rfl := oj h
  refine Xe tmD [Bt] ?_
  exact X6 rfl (Xl (cc (Zn Xn) (cc (Zn X3) (cc .sc cn))))
 clear h; intro h3 h
 refine X9 h ?_
 clear h; intro v4 h5 h
 refine brE h ?_ ?_
 ·clear h; intro h6 h
  obtain rfl := oj h
  refine rn tmD [Bf, .pure [(Lf (List.map (X3e false X4) a1))] (AV.tup [(aI .i64 v4.1), (aI .i64 v4.2)]), Bt] rfl (by repeat' first|apply Ya|exact (pn (Xcw _ _ h5) (cc (X3z (fun _ => rfl) (fun x => X1w (X8 (X0 Xx _))) a1) cn))|exact Xv) ?_
  exact X6 rfl (Xl (cc (Zn Xn) (cc (Zn X3) (cc .sc cn))))
 clear h; intro h6 h
 refine X9 h ?_
 clear h; intro u7 h8 h
 have qh8 := X11 h8
 refine X9 h ?_
 clear h; intro o58 h59 h
 refine rn tmD [Bf, .pure [(Lf (List.map (X3e false X4) a1))] (AV.tup [(aI .i64 v4.1), (aI .i64 v4.2)]), Bf, .el (aI .i64 (v1.1.length : Int))] rfl (by repeat' first|apply Ya|exact (pn (Xcw _ _ h5) (cc (X3z (fun _ => rfl) (fun x => X1w (X8 (X0 Xx _))) a1) cn))|exact Xv) ?_
 refine wkT [] (Xa.cut (Xdf v1.2.1 v4.1 v1.1 qh8 v1.1 0 (by simp) _ (nbT (by first | rfl | simp [*])) _ h59 ?_))
 intro Xq X0i eo58; subst eo58
 refine Xa.glue ?_
 try dsimp only at h
 rcases X0i with ⟨_ | _, X35⟩
 ·
  obtain rfl := oj h
  refine Xe tmD [] ?_
  exact X6 rfl (Xl (cc (X0o (es := Xq.map Xn) rfl (by first | rfl | (simp; done) | (simp; rfl) | (simp [h3, h6]; done) | (simp [h3, h6]; rfl) | (simp [h3, h6, Ym, Yd]; done) | (simp [h3, h6, Ym, Yd]; rfl)) (by first | rfl | (simp; done) | (simp; omega) | (simp [h3, h6]; done) | (simp [h3, h6]; omega)) (X0 X0y Xq)) (cc (.listS rfl) (cc .sc cn))))
 obtain rfl := X35 rfl
 obtain rfl := oj h
 refine Xe tmD [] ?_
 exact X6 rfl (Xl (cc (Zn Xn) (cc (.listS rfl) (cc .sc cn))))
theorem Xhh (a0 : Int) (a1 : Int) (a2 : Int) (r : X5g) (h : Xfr a0 a1 a2 = some r) : X19 Tryz.prog 30 [(aI .i64 a0), (aI .i64 a1), (aI .i64 a2)] (Xn r) := by
 refine X19.sym Xg fn30 (nt := 13) rfl rfl ?_ (Xf .sc (Xf .sc (Xf .sc X08)))
 unfold Xfr at h
 obtain rfl := oj h
 refine Xe tmD [] ?_
 exact X6 rfl (Xg4 (x := (X5g.mk 0 (X13.mk a0 a1) (V2.mk a2 0))))
theorem Xhu {Q : X0d -> St -> Mu -> Prop} {μ : Mu} (X14 : (List X5g)) (Xf9 : (List X5g)) (hl : X14.length <= 140737488355328) : ∀ (xs : List X5g) (k : Nat) (hx : X14.drop k = xs) (o : X7h) (h : X4z X14 Xf9 xs k  = some o)
  (C0 : o = X7h.x0 -> Xa Tryz.prog 26 0 Q (.exit (.exit 0)) [] ⟨fr [], hp ([]), 0⟩ μ)
  (C1 : o = X7h.x1 -> Xa Tryz.prog 26 0 Q (.exit .ret) [] ⟨fr [(4, (aB false))], hp ([]), 0⟩ μ),
  Xa Tryz.prog 26 0 Q (.loop (X5o 0 (Xt Tryz.f23))) [] ⟨fr [(0, (Lf (X14.map Xn))), (1, (Lf (Xf9.map Xn))), (5, (aI .i64 (k : Int)))], hp ([]), 0⟩ μ := by
 intro xs
 induction xs with
 | nil =>
  intro k hx  o h C0 C1
  have hk := X1u hx
  have hc : decide ((k : Int) < (X14.length : Int)) = false := Yf (by omega)
  rw [X4z] at h
  refine Xa.round ?_
  obtain rfl := oj h
  refine Xe tmD [.el (aI .i64 (X14.length : Int)), Bf] ?_
  exact wkT [] (C0  rfl)
 | cons x xs ih =>
  intro k hx  o h C0 C1
  obtain ⟨hk, hg, hx1⟩ := X16 hx
  have hc : decide ((k : Int) < (X14.length : Int)) = true := Yt (by omega)
  rw [X4z] at h
  refine Xa.round ?_
  refine X9 h ?_
  clear h; intro e11 h12 h
  try have qh12 := Xz h12
  refine brE h ?_ ?_
  ·clear h; intro h13 h
   obtain rfl := oj h
   refine Xe tmD [.el (aI .i64 (X14.length : Int)), Bt, .el (Xn x), .el (Xn e11), Bt] ?_
   exact wkT [] (C1  rfl)
  clear h; intro h13 h
  refine Xe tmD [.el (aI .i64 (X14.length : Int)), Bt, .el (Xn x), .el (Xn e11), Bf] ?_
  exact wkT [] (ih (k + 1) hx1  o h C0 C1)
theorem X97 (a0 : (List X5g)) (a1 : (List X5g)) (r : Bool) (h : X71 a0 a1 = some r) : X19 Tryz.prog 23 [(Lf (a0.map Xn)), (Lf (a1.map Xn))] (aB r) := by
 refine X19.sym Xg fn23 (nt := 26) rfl rfl ?_ (Xf .list (Xf .list X08))
 unfold X71 at h
 refine brE h ?_ ?_
 ·clear h; intro h1 h
  obtain rfl := oj h
  refine Xe tmD [.el (aI .i64 (a0.length : Int)), .el (aI .i64 (a1.length : Int)), Bt] ?_
  exact X6 rfl .sc
 clear h; intro h1 h
 refine X9 h ?_
 clear h; intro u2 h3 h
 have qh3 := X11 h3
 refine X9 h ?_
 clear h; intro o14 h15 h
 refine Xe tmD [.el (aI .i64 (a0.length : Int)), .el (aI .i64 (a1.length : Int)), Bf] ?_
 refine wkT [] (Xa.cut (Xhu a0 a1 qh3 a0 0 (by simp) _ h15 ?_ ?_))
 ·intro eo14; subst eo14
  refine Xa.glue ?_
  try dsimp only at h
  obtain rfl := oj h
  refine Xe tmD [] ?_
  exact X6 rfl .sc
 intro eo14; subst eo14
 refine Xa.glue ?_
 try dsimp only at h
 obtain rfl := oj h
 refine Xe tmD [] ?_
 exact X6 rfl .sc
end Go.Av.Tryz