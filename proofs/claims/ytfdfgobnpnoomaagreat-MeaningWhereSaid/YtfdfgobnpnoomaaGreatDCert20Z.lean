/- Printed by decomp.py: that the program computes the functions. -/
import Derived.Test.YtfdfgobnpnoomaaGreatDCert19Z
set_option linter.all false

namespace Go.Av.Tryz
open Go.Proofs Go.D
set_option maxRecDepth 10000
set_option maxHeartbeats 40000000
theorem Xf2 {Q : X0d -> St -> Mu -> Prop} {μ : Mu} (X14 : (List Int)) (hl : X14.length <= 140737488355328) : ∀ (xs : List Int) (k : Nat) (hx : X14.drop k = xs) (o : X5k) (h : X3i X14 xs k  = some o)
  (C0 : o = X5k.x0 -> Xa Tryz.prog 60 0 Q (.exit (.exit 0)) [] ⟨fr [(0, (Lf (List.map (aI .i64) X14)))], hp ([]), 0⟩ μ)
  (C1 : o = X5k.x1 -> Xa Tryz.prog 60 0 Q (.exit .ret) [] ⟨fr [(4, (aI .i64 8))], hp ([]), 0⟩ μ),
  Xa Tryz.prog 60 0 Q (.loop (X5o 0 (Xt Tryz.f93))) [] ⟨fr [(0, (Lf (List.map (aI .i64) X14))), (5, (aI .i64 (k : Int)))], hp ([]), 0⟩ μ := by
 intro xs
 induction xs with
 | nil =>
  intro k hx  o h C0 C1
  have hk := X1u hx
  have hc : decide ((k : Int) < (X14.length : Int)) = false := Yf (by omega)
  rw [X3i] at h
  refine Xa.round ?_
  obtain rfl := oj h
  refine Xe tmD [.el (aI .i64 (X14.length : Int)), Bf] ?_
  exact wkT [] (C0  rfl)
 | cons x xs ih =>
  intro k hx  o h C0 C1
  obtain ⟨hk, hg, hx1⟩ := X16 hx
  have hc : decide ((k : Int) < (X14.length : Int)) = true := Yt (by omega)
  rw [X3i] at h
  refine Xa.round ?_
  refine X9 h ?_
  clear h; intro Xvo h25 h
  refine Xe tmD [.el (aI .i64 (X14.length : Int)), Bt, .stop 8] ?_
  refine Xa.join (s' := ⟨fr [(0, (Lf (List.map (aI .i64) X14))), (5, (aI .i64 (k : Int))), (39, (aB Xvo))], hp ([]), 0⟩) ?_ (fun J => Xa.cut ?_)
  ·
   refine brE h ?_ ?_
   ·clear h; intro h26 h
    obtain rfl := oj h
    refine Xe tmD [Bt] ?_
    exact wkT [] (C1  rfl)
   clear h; intro h26 h
   refine Xe tmD [Bf] ?_
   exact wkT [] (ih (k + 1) hx1  o h C0 C1)
  clear h
  have h := h25
  refine brE h ?_ ?_
  ·clear h; intro h24 h
   obtain rfl := oj h
   refine Xe tmD [.el (aI .i64 x), .go false, .go false, .go false, .go false, .go false] ?_
   exact wkT [] (Xa.glue J)
  clear h; intro h24 h
  obtain rfl := oj h
  refine Xe tmD [.el (aI .i64 x), .go true, .go true, .go true, .el (aI .i64 x), .go true, .go true] ?_
  exact wkT [] (Xa.glue J)
theorem Xf0 {Q : X0d -> St -> Mu -> Prop} {μ : Mu} (Xzd : (List Int)) (Xzc : Int) : ∀ (n : Nat) (Xwz : Int) (o : X5i) (h : X3h Xzd Xzc n Xwz = some o)
  (C0 : o = X5i.x0 -> Xa Tryz.prog 60 0 Q (.exit .ret) [] ⟨fr [(4, (aI .i64 43))], hp ([]), 0⟩ μ)
  (C1 : o = X5i.x1 -> Xa Tryz.prog 60 0 Q (.exit (.exit 4)) [] ⟨fr [(0, (Lf (List.map (aI .i64) Xzd))), (6, (aI .i64 Xzc))], hp ([]), 0⟩ μ),
  Xa Tryz.prog 60 0 Q (.loop (X5o 2 (Xt Tryz.f93))) [] ⟨fr [(0, (Lf (List.map (aI .i64) Xzd))), (6, (aI .i64 Xzc)), (7, (aI .i64 Xwz))], hp ([]), 0⟩ μ := by
 intro n
 induction n with
 | zero => intro Xwz o h C0 C1; cases h
 | succ n ih =>
  intro Xwz o h C0 C1
  rw [X3h] at h
  refine Xa.round ?_
  refine brE h ?_ ?_
  ·clear h; intro h85 h
   refine X9 h ?_
   clear h; intro e86 h87 h
   try have qh87 := Xz h87
   refine X9 h ?_
   clear h; intro e88 h89 h
   try have qh89 := Xz h89
   refine brE h ?_ ?_
   ·clear h; intro h90 h
    obtain rfl := oj h
    refine Xe tmD [Bt, .el (aI .i64 e86), .el (aI .i64 e88), Bt] ?_
    exact wkT [] (C0  rfl)
   clear h; intro h90 h
   refine Xe tmD [Bt, .el (aI .i64 e86), .el (aI .i64 e88), Bf, .wrap] ?_
   exact wkT [] (ih  _ o h C0 C1)
  clear h; intro h85 h
  obtain rfl := oj h
  refine Xe tmD [Bf] ?_
  exact wkT [] (C1  rfl)
theorem Xf1 {Q : X0d -> St -> Mu -> Prop} {μ : Mu} (Xu2 : (List Int)) (hl : Xu2.length <= 140737488355328) : ∀ (xs : List Int) (k : Nat) (hx : Xu2.drop k = xs) (o : X5j) (h : X2v Xu2 xs k  = some o)
  (C0 : o = X5j.x0 -> Xa Tryz.prog 60 0 Q (.exit (.exit 2)) [] ⟨fr [], hp ([]), 0⟩ μ)
  (C1 : o = X5j.x1 -> Xa Tryz.prog 60 0 Q (.exit .ret) [] ⟨fr [(4, (aI .i64 43))], hp ([]), 0⟩ μ),
  Xa Tryz.prog 60 0 Q (.loop (X5o 1 (Xt Tryz.f93))) [] ⟨fr [(0, (Lf (List.map (aI .i64) Xu2))), (6, (aI .i64 (k : Int)))], hp ([]), 0⟩ μ := by
 intro xs
 induction xs with
 | nil =>
  intro k hx  o h C0 C1
  have hk := X1u hx
  have hc : decide ((k : Int) < (Xu2.length : Int)) = false := Yf (by omega)
  rw [X2v] at h
  refine Xa.round ?_
  obtain rfl := oj h
  refine Xe tmD [.el (aI .i64 (Xu2.length : Int)), Bf] ?_
  exact wkT [] (C0  rfl)
 | cons x xs ih =>
  intro k hx  o h C0 C1
  obtain ⟨hk, hg, hx1⟩ := X16 hx
  have hc : decide ((k : Int) < (Xu2.length : Int)) = true := Yt (by omega)
  rw [X2v] at h
  refine Xa.round ?_
  refine X9 h ?_
  clear h; intro o91 h92 h
  refine Xe tmD [.el (aI .i64 (Xu2.length : Int)), Bt] ?_
  refine wkT [] (Xa.cut (Xf0 Xu2 (k : Int) _ _ _ h92 ?_ ?_))
  ·intro eo91; subst eo91
   refine Xa.glue ?_
   try dsimp only at h
   obtain rfl := oj h
   refine Xe tmD [] ?_
   exact wkT [] (C1  rfl)
  intro eo91; subst eo91
  refine Xa.glue ?_
  try dsimp only at h
  refine Xe tmD [] ?_
  exact wkT [] (ih (k + 1) hx1  o h C0 C1)
theorem X91 (a0 : (List Int)) (a1 : Bool) (r : Int) (h : X7i a0 a1 = some r) : X19 Tryz.prog 93 [(Lf (List.map (aI .i64) a0)), (aB a1)] (aI .i64 r) := by
 refine X19.sym Xg fn93 (nt := 60) rfl rfl ?_ (Xf .list (Xf .sc X08))
 unfold X7i at h
 refine brE h ?_ ?_
 ·clear h; intro h1 h
  obtain rfl := oj h
  refine Xe tmD [.el (aI .i64 (a0.length : Int)), Bt] ?_
  exact X6 rfl .sc
 clear h; intro h1 h
 refine X9 h ?_
 clear h; intro X00l h7 h
 refine Xe tmD [.el (aI .i64 (a0.length : Int)), Bf, .stop 3] ?_
 refine Xa.join (s' := ⟨fr [(0, (Lf (List.map (aI .i64) a0))), (21, (aB X00l))], hp ([]), 0⟩) ?_ (fun J => Xa.cut ?_)
 ·
  refine brE h ?_ ?_
  ·clear h; intro h8 h
   obtain rfl := oj h
   refine Xe tmD [Bt] ?_
   exact X6 rfl .sc
  clear h; intro h8 h
  refine X9 h ?_
  clear h; intro u9 h10 h
  have qh10 := X11 h10
  refine X9 h ?_
  clear h; intro o27 h28 h
  refine Xe tmD [Bf] ?_
  refine wkT [] (Xa.cut (Xf2 a0 qh10 a0 0 (by simp) _ h28 ?_ ?_))
  ·intro eo27; subst eo27
   refine Xa.glue ?_
   try dsimp only at h
   refine X9 h ?_
   clear h; intro o93 h94 h
   refine Xe tmD [] ?_
   refine wkT [] (Xa.cut (Xf1 a0 qh10 a0 0 (by simp) _ h94 ?_ ?_))
   ·intro eo93; subst eo93
    refine Xa.glue ?_
    try dsimp only at h
    obtain rfl := oj h
    refine Xe tmD [] ?_
    exact X6 rfl .sc
   intro eo93; subst eo93
   refine Xa.glue ?_
   try dsimp only at h
   obtain rfl := oj h
   refine Xe tmD [] ?_
   exact X6 rfl .sc
  intro eo27; subst eo27
  refine Xa.glue ?_
  try dsimp only at h
  obtain rfl := oj h
  refine Xe tmD [] ?_
  exact X6 rfl .sc
 clear h
 have h := h7
 refine brE h ?_ ?_
 ·clear h; intro h5 h
  obtain rfl := oj h
  refine Xe tmD [.el (aI .i64 (a0.length : Int)), .go false, .go false, .go false, .go false, .go false, .go false] ?_
  exact wkT [] (Xa.glue J)
 clear h; intro h5 h
 refine brE h ?_ ?_
 ·clear h; intro h6 h
  obtain rfl := oj h
  refine Xe tmD [.el (aI .i64 (a0.length : Int)), .go true, .go true, .go true, .go true, .el (aI .i64 (a0.length : Int)), .go true, .go true] ?_
  exact wkT [] (Xa.glue J)
 clear h; intro h6 h
 obtain rfl := oj h
 refine Xe tmD [.el (aI .i64 (a0.length : Int)), .go true, .go true, .go false, .go false, .go false, .go true] ?_
 exact wkT [] (Xa.glue J)
theorem Xfg (a0 : X0x) (r : Bool) (h : X8b a0 = some r) : X19 Tryz.prog 94 [(X0g a0)] (aB r) := by
 refine X19.sym Xg fn94 (nt := 45) rfl rfl ?_ (Xf (X4x _ _).1 X08)
 unfold X8b at h
 refine brE h ?_ ?_
 ·clear h; intro h1 h
  obtain rfl := oj h
  refine Xe tmD [Bt] ?_
  exact X6 rfl .sc
 clear h; intro h1 h
 refine brE h ?_ ?_
 ·clear h; intro h2 h
  obtain rfl := oj h
  refine Xe tmD [Bf, Bt, .wrap] ?_
  exact X6 rfl .sc
 clear h; intro h2 h
 obtain rfl := oj h
 refine Xe tmD [Bf, Bf] ?_
 exact X6 rfl .sc
theorem Xer (a0 : Xp) (r : Int) (h : Xa2 a0 = some r) : X19 Tryz.prog 56 [(Xh false a0)] (aI .i64 r) := by
 refine X19.sym Xg fn56 (nt := 80) rfl rfl ?_ (Xf (X1a false _ _).1 X08)
 unfold Xa2 at h
 refine brE h ?_ ?_
 ·clear h; intro h1 h
  obtain rfl := oj h
  refine Xe tmD [Bt] ?_
  exact X6 rfl .sc
 clear h; intro h1 h
 refine X9 h ?_
 clear h; intro X00s h5 h
 refine Xe tmD [Bf, .stop 3] ?_
 refine Xa.join (s' := ⟨fr [(1, (AV.ptr 0 0 0)), (29, (aB X00s))], hp ([(0, Ob [(Xh false a0)] 10)]), 1⟩) ?_ (fun J => Xa.cut ?_)
 ·
  refine brE h ?_ ?_
  ·clear h; intro h6 h
   obtain rfl := oj h
   refine Xe tmD [Bt] ?_
   exact X6 rfl .sc
  clear h; intro h6 h
  refine X9 h ?_
  clear h; intro Xvs h14 h
  refine Xe tmD [Bf, .stop 5] ?_
  refine Xa.join (s' := ⟨fr [(1, (AV.ptr 0 0 0)), (38, (aB Xvs))], hp ([(0, Ob [(Xh false a0)] 10)]), 1⟩) ?_ (fun J => Xa.cut ?_)
  ·
   refine brE h ?_ ?_
   ·clear h; intro h15 h
    refine X9 h ?_
    clear h; intro v16 h17 h
    obtain rfl := oj h
    refine rn tmD [Bt, .pure [(Lf (a0.Arg.map X1))] (aI .i64 v16)] rfl (by repeat' first|apply Ya|exact (pn (X5a _ _ h17) (cc (X8 (X0 X7 a0.Arg)) cn))|exact Xv) ?_
    exact X6 rfl .sc
   clear h; intro h15 h
   refine X9 h ?_
   clear h; intro Xoh h25 h
   refine Xe tmD [Bf, .stop 7] ?_
   refine Xa.join (s' := ⟨fr [(1, (AV.ptr 0 0 0)), (51, (aB Xoh))], hp ([(0, Ob [(Xh false a0)] 10)]), 1⟩) ?_ (fun J => Xa.cut ?_)
   ·
    refine brE h ?_ ?_
    ·clear h; intro h26 h
     refine X9 h ?_
     clear h; intro v27 h28 h
     obtain rfl := oj h
     refine rn tmD [Bt, .pure [(Lf (a0.Where.map X1))] (aI .i64 v27)] rfl (by repeat' first|apply Ya|exact (pn (X5a _ _ h28) (cc (X8 (X0 X7 a0.Where)) cn))|exact Xv) ?_
     exact X6 rfl .sc
    clear h; intro h26 h
    refine X9 h ?_
    clear h; intro v29 h30 h
    refine brE h ?_ ?_
    ·clear h; intro h31 h
     obtain rfl := oj h
     refine rn tmD [Bf, .pure [(Lf (List.map (aI .i64) a0.Sources)), (aB a0.Join)] (aI .i64 v29), Bt, .pure [(Lf (List.map (aI .i64) a0.Sources)), (aB a0.Join)] (aI .i64 v29)] rfl (by repeat' first|apply Ya|exact (pn (X91 _ _ _ h30) (cc (X8 (X0 (fun _ => X0e) a0.Sources)) (cc .sc cn)))|exact Xv) ?_
     exact X6 rfl .sc
    clear h; intro h31 h
    refine X9 h ?_
    clear h; intro v32 h33 h
    refine brE h ?_ ?_
    ·clear h; intro h34 h
     obtain rfl := oj h
     refine rn tmD [Bf, .pure [(Lf (List.map (aI .i64) a0.Sources)), (aB a0.Join)] (aI .i64 v29), Bf, .pure [(X0g a0.Window)] (aB v32), Bt] rfl (by repeat' first|apply Ya|exact (pn (X91 _ _ _ h30) (cc (X8 (X0 (fun _ => X0e) a0.Sources)) (cc .sc cn)))|exact (pn (Xfg _ _ h33) (cc (X17 (x := a0.Window)) cn))|exact Xv) ?_
     exact X6 rfl .sc
    clear h; intro h34 h
    obtain rfl := oj h
    refine rn tmD [Bf, .pure [(Lf (List.map (aI .i64) a0.Sources)), (aB a0.Join)] (aI .i64 v29), Bf, .pure [(X0g a0.Window)] (aB v32), Bf] rfl (by repeat' first|apply Ya|exact (pn (X91 _ _ _ h30) (cc (X8 (X0 (fun _ => X0e) a0.Sources)) (cc .sc cn)))|exact (pn (Xfg _ _ h33) (cc (X17 (x := a0.Window)) cn))|exact Xv) ?_
    exact X6 rfl .sc
   clear h
   have h := h25
   refine brE h ?_ ?_
   ·clear h; intro h22 h
    refine X9 h ?_
    clear h; intro v23 h24 h
    obtain rfl := oj h
    refine rn tmD [.el (aI .i64 (a0.Where.length : Int)), .go true, .go true, .go true, .pure [(Lf (a0.Where.map X1))] (aI .i64 v23), .go true] rfl (by repeat' first|apply Ya|exact (pn (X5a _ _ h24) (cc (X8 (X0 X7 a0.Where)) cn))|exact Xv) ?_
    exact wkT [] (Xa.glue J)
   clear h; intro h22 h
   obtain rfl := oj h
   refine Xe tmD [.el (aI .i64 (a0.Where.length : Int)), .go false, .go false, .go false, .go false] ?_
   exact wkT [] (Xa.glue J)
  clear h
  have h := h14
  refine brE h ?_ ?_
  ·clear h; intro h11 h
   refine X9 h ?_
   clear h; intro v12 h13 h
   obtain rfl := oj h
   refine rn tmD [.go true, .go true, .go true, .pure [(Lf (a0.Arg.map X1))] (aI .i64 v12), .go true] rfl (by repeat' first|apply Ya|exact (pn (X5a _ _ h13) (cc (X8 (X0 X7 a0.Arg)) cn))|exact Xv) ?_
   exact wkT [] (Xa.glue J)
  clear h; intro h11 h
  obtain rfl := oj h
  refine Xe tmD [.go false, .go false, .go false, .go false] ?_
  exact wkT [] (Xa.glue J)
 clear h
 have h := h5
 refine brE h ?_ ?_
 ·clear h; intro h4 h
  obtain rfl := oj h
  refine Xe tmD [.go true, .go true, .go true, .el (aI .i64 (a0.Arg.length : Int)), .go true] ?_
  exact wkT [] (Xa.glue J)
 clear h; intro h4 h
 obtain rfl := oj h
 refine Xe tmD [.go false, .go false, .go false, .go false] ?_
 exact wkT [] (Xa.glue J)
theorem X37 (a0 : Int) (r : Bool) (h : X6v a0 = some r) : X19 Tryz.prog 155 [(aI .u8 a0)] (aB r) := by
 refine X19.sym Xg X04c (nt := 9) rfl rfl ?_ (Xf .sc X08)
 unfold X6v at h
 obtain rfl := oj h
 refine Xe tmD [] ?_
 exact X6 rfl .sc
theorem Xfh (a0 : (List X00)) (a1 : Int) (r : Bool) (h : Xbn a0 a1 = some r) : X19 Tryz.prog 188 [(Lf (a0.map X1)), (aI .i64 a1)] (aB r) := by
 refine X19.sym Xg X046 (nt := 67) rfl rfl ?_ (Xf .list (Xf .sc X08))
 unfold Xbn at h
 refine X9 h ?_
 clear h; intro e1 h2 h
 try have qh2 := Xz h2
 refine X9 h ?_
 clear h; intro e3 h4 h
 try have qh4 := Xz h4
 refine X9 h ?_
 clear h; intro v5 h6 h
 refine X9 h ?_
 clear h; intro e7 h8 h
 try have qh8 := Xz h8
 refine X9 h ?_
 clear h; intro v9 h10 h
 refine brE h ?_ ?_
 ·clear h; intro h11 h
  obtain rfl := oj h
  refine rn tmD [.el (X1 e1), .el (X1 e3), .pure [(aI .u8 e3.Kind)] (aB v5), .el (X1 e7), .pure [(aI .u8 e7.Kind)] (aB v9), Bt] rfl (by repeat' first|apply Ya|exact (pn (X37 _ _ h6) (cc .sc cn))|exact (pn (X37 _ _ h10) (cc .sc cn))|exact Xv) ?_
  exact X6 rfl .sc
 clear h; intro h11 h
 refine brE h ?_ ?_
 ·clear h; intro h12 h
  obtain rfl := oj h
  refine rn tmD [.el (X1 e1), .el (X1 e3), .pure [(aI .u8 e3.Kind)] (aB v5), .el (X1 e7), .pure [(aI .u8 e7.Kind)] (aB v9), Bf, Bt] rfl (by repeat' first|apply Ya|exact (pn (X37 _ _ h6) (cc .sc cn))|exact (pn (X37 _ _ h10) (cc .sc cn))|exact Xv) ?_
  exact X6 rfl .sc
 clear h; intro h12 h
 refine brE h ?_ ?_
 ·clear h; intro h13 h
  obtain rfl := oj h
  refine rn tmD [.el (X1 e1), .el (X1 e3), .pure [(aI .u8 e3.Kind)] (aB v5), .el (X1 e7), .pure [(aI .u8 e7.Kind)] (aB v9), Bf, Bf, Bt] rfl (by repeat' first|apply Ya|exact (pn (X37 _ _ h6) (cc .sc cn))|exact (pn (X37 _ _ h10) (cc .sc cn))|exact Xv) ?_
  exact X6 rfl .sc
 clear h; intro h13 h
 refine rn tmD [.el (X1 e1), .el (X1 e3), .pure [(aI .u8 e3.Kind)] (aB v5), .el (X1 e7), .pure [(aI .u8 e7.Kind)] (aB v9), Bf, Bf, Bf] rfl (by repeat' first|apply Ya|exact (pn (X37 _ _ h6) (cc .sc cn))|exact (pn (X37 _ _ h10) (cc .sc cn))|exact Xv) ?_
 refine brE h ?_ ?_
 ·clear h; intro h14 h
  obtain rfl := oj h
  refine Xe tmD [Bt] ?_
  exact X6 rfl .sc
 clear h; intro h14 h
 refine brE h ?_ ?_
 ·clear h; intro h15 h
  obtain rfl := oj h
  refine Xe tmD [Bf, Bt] ?_
  exact X6 rfl .sc
 clear h; intro h15 h
 obtain rfl := oj h
 refine Xe tmD [Bf, Bf] ?_
 exact X6 rfl .sc
theorem Xgg {Q : X0d -> St -> Mu -> Prop} {μ : Mu} (X14 : (List X00)) (hl : X14.length <= 140737488355328) : ∀ (xs : List X00) (k : Nat) (hx : X14.drop k = xs) (o : X6p) (h : X4k X14 xs k  = some o)
  (C0 : o = X6p.x0 -> Xa Tryz.prog 17 0 Q (.exit (.exit 0)) [] ⟨fr [(0, (Lf (X14.map X1)))], hp ([]), 0⟩ μ)
  (C1 : ∀ (X4r : Int), o = X6p.x1 X4r -> Xa Tryz.prog 17 0 Q (.exit .ret) [] ⟨fr [(2, (aI .i64 X4r))], hp ([]), 0⟩ μ),
  Xa Tryz.prog 17 0 Q (.loop (X5o 0 (Xt Tryz.f154))) [] ⟨fr [(0, (Lf (X14.map X1))), (3, (aI .i64 (k : Int)))], hp ([]), 0⟩ μ := by
 intro xs
 induction xs with
 | nil =>
  intro k hx  o h C0 C1
  have hk := X1u hx
  have hc : decide ((k : Int) < (X14.length : Int)) = false := Yf (by omega)
  rw [X4k] at h
  refine Xa.round ?_
  obtain rfl := oj h
  refine Xe tmD [.el (aI .i64 (X14.length : Int)), Bf] ?_
  exact wkT [] (C0  rfl)
 | cons x xs ih =>
  intro k hx  o h C0 C1
  obtain ⟨hk, hg, hx1⟩ := X16 hx
  have hc : decide ((k : Int) < (X14.length : Int)) = true := Yt (by omega)
  rw [X4k] at h
  refine Xa.round ?_
  refine X9 h ?_
  clear h; intro v10 h11 h
  refine brE h ?_ ?_
  ·clear h; intro h12 h
   obtain rfl := oj h
   refine rn tmD [.el (aI .i64 (X14.length : Int)), Bt, .pure [(Lf (X14.map X1)), (aI .i64 (k : Int))] (aB v10), Bt] rfl (by repeat' first|apply Ya|exact (pn (Xfh _ _ _ h11) (cc (X8 (X0 X7 X14)) (cc .sc cn)))|exact Xv) ?_
   exact wkT [] (C1 _  rfl)
  clear h; intro h12 h
  refine rn tmD [.el (aI .i64 (X14.length : Int)), Bt, .pure [(Lf (X14.map X1)), (aI .i64 (k : Int))] (aB v10), Bf] rfl (by repeat' first|apply Ya|exact (pn (Xfh _ _ _ h11) (cc (X8 (X0 X7 X14)) (cc .sc cn)))|exact Xv) ?_
  exact wkT [] (ih (k + 1) hx1  o h C0 C1)
theorem Xkp (a0 : (List X00)) (r : Int) (h : Xc6 a0 = some r) : X19 Tryz.prog 154 [(Lf (a0.map X1))] (aI .i64 r) := by
 refine X19.sym Xg X04d (nt := 17) rfl rfl ?_ (Xf .list X08)
 unfold Xc6 at h
 refine X9 h ?_
 clear h; intro u1 h2 h
 have qh2 := X11 h2
 refine X9 h ?_
 clear h; intro o13 h14 h
 refine Xe tmD [] ?_
 refine wkT [] (Xa.cut (Xgg a0 qh2 a0 0 (by simp) _ h14 ?_ ?_))
 ·intro eo13; subst eo13
  refine Xa.glue ?_
  try dsimp only at h
  obtain rfl := oj h
  refine Xe tmD [.el (aI .i64 (a0.length : Int))] ?_
  exact X6 rfl (Xew (by first | rfl | (simp [*]; done)))
 intro X4r eo13; subst eo13
 refine Xa.glue ?_
 try dsimp only at h
 obtain rfl := oj h
 refine Xe tmD [] ?_
 exact X6 rfl .sc
theorem Xj0 (a0 : (List X00)) (r : Bool × Int × Int) (h : Xfj a0 = some r) : X19 Tryz.prog 129 [(Lf (a0.map X1))] (AV.tup [(aB r.1), (aI .i64 r.2.1), (aI .i64 r.2.2)]) := by
 refine X19.sym Xg X04p (nt := 29) rfl rfl ?_ (Xf .list X08)
 unfold Xfj at h
 refine X9 h ?_
 clear h; intro v1 h2 h
 refine brE h ?_ ?_
 ·clear h; intro h3 h
  obtain rfl := oj h
  refine rn tmD [.pure [(Lf (a0.map X1))] (aI .i64 v1), Bt, .pure [(Lf (a0.map X1))] (aI .i64 v1)] rfl (by repeat' first|apply Ya|exact (pn (X5a _ _ h2) (cc (X8 (X0 X7 a0)) cn))|exact Xv) ?_
  exact X6 rfl (Xl (cc .sc (cc .sc (cc .sc cn))))
 clear h; intro h3 h
 refine X9 h ?_
 clear h; intro v4 h5 h
 refine rn tmD [.pure [(Lf (a0.map X1))] (aI .i64 v1), Bf, .pure [(Lf (a0.map X1))] (aI .i64 v4), .el (aI .i64 (a0.length : Int))] rfl (by repeat' first|apply Ya|exact (pn (X5a _ _ h2) (cc (X8 (X0 X7 a0)) cn))|exact (pn (Xkp _ _ h5) (cc (X8 (X0 X7 a0)) cn))|exact Xv) ?_
 refine brE h ?_ ?_
 ·clear h; intro h6 h
  obtain rfl := oj h
  refine Xe tmD [Bt] ?_
  exact X6 rfl (Xl (cc .sc (cc .sc (cc .sc cn))))
 clear h; intro h6 h
 refine X9 h ?_
 clear h; intro e7 h8 h
 try have qh8 := Xz h8
 refine X9 h ?_
 clear h; intro v9 h10 h
 obtain rfl := oj h
 refine rn tmD [Bf, .el (aI .i64 (a0.length : Int)), .wrap, .el (X1 e7), .pure [(aI .u8 e7.Kind)] (aB v9), .el (aI .i64 (a0.length : Int)), .wrap] rfl (by repeat' first|apply Ya|exact (pn (X37 _ _ h10) (cc .sc cn))|exact Xv) ?_
 exact X6 rfl (Xl (cc .sc (cc (Xew (by first | rfl | (simp [*]; done))) (cc .sc cn))))
theorem Xc7 (a0 : (List X00)) (a1 : Bool) (r : Int × Int) (h : X8c a0 a1 = some r) : X19 Tryz.prog 95 [(Lf (a0.map X1)), (aB a1)] (AV.tup [(aI .i64 r.1), (aI .i64 r.2)]) := by
 refine X19.sym Xg fn95 (nt := 25) rfl rfl ?_ (Xf .list (Xf .sc X08))
 unfold X8c at h
 refine X9 h ?_
 clear h; intro v1 h2 h
 refine brE h ?_ ?_
 ·clear h; intro h3 h
  obtain rfl := oj h
  refine rn tmD [.pure [(Lf (a0.map X1))] (AV.tup [(aB v1.1), (aI .i64 v1.2.1), (aI .i64 v1.2.2)]), Bt] rfl (by repeat' first|apply Ya|exact (pn (Xj0 _ _ h2) (cc (X8 (X0 X7 a0)) cn))|exact Xv) ?_
  exact X6 rfl (Xl (cc .sc (cc .sc cn)))
 clear h; intro h3 h
 obtain rfl := oj h
 refine rn tmD [.pure [(Lf (a0.map X1))] (AV.tup [(aB v1.1), (aI .i64 v1.2.1), (aI .i64 v1.2.2)]), Bf] rfl (by repeat' first|apply Ya|exact (pn (Xj0 _ _ h2) (cc (X8 (X0 X7 a0)) cn))|exact Xv) ?_
 exact X6 rfl (Xl (cc .sc (cc .sc cn)))
theorem Xkk (a0 : Xp) (r : Int × Int) (h : X9z a0 = some r) : X19 Tryz.prog 57 [(Xh false a0)] (AV.tup [(aI .i64 r.1), (aI .i64 r.2)]) := by
 refine X19.sym Xg fn57 (nt := 46) rfl rfl ?_ (Xf (X1a false _ _).1 X08)
 unfold X9z at h
 refine brE h ?_ ?_
 ·clear h; intro h1 h
  refine X9 h ?_
  clear h; intro v2 h3 h
  refine rn tmD [.el (aI .i64 (a0.Arg.length : Int)), Bt, .pure [(Lf (a0.Arg.map X1)), (aB false)] (AV.tup [(aI .i64 v2.1), (aI .i64 v2.2)])] rfl (by repeat' first|apply Ya|exact (pn (Xc7 _ _ _ h3) (cc (X8 (X0 X7 a0.Arg)) (cc .sc cn)))|exact Xv) ?_
  refine brE h ?_ ?_
  ·clear h; intro h4 h
   refine X9 h ?_
   clear h; intro e5 h6 h
   try have qh6 := Xz h6
   obtain rfl := oj h
   refine Xe tmD [Bt, .el (X1 e5)] ?_
   exact X6 rfl (Xl (cc .sc (cc .sc cn)))
  clear h; intro h4 h
  refine brE h ?_ ?_
  ·clear h; intro h7 h
   refine X9 h ?_
   clear h; intro v8 h9 h
   refine rn tmD [Bf, .el (aI .i64 (a0.Where.length : Int)), Bt, .pure [(Lf (a0.Where.map X1)), (aB true)] (AV.tup [(aI .i64 v8.1), (aI .i64 v8.2)])] rfl (by repeat' first|apply Ya|exact (pn (Xc7 _ _ _ h9) (cc (X8 (X0 X7 a0.Where)) (cc .sc cn)))|exact Xv) ?_
   refine brE h ?_ ?_
   ·clear h; intro h10 h
    refine X9 h ?_
    clear h; intro e11 h12 h
    try have qh12 := Xz h12
    obtain rfl := oj h
    refine Xe tmD [Bt, .el (X1 e11)] ?_
    exact X6 rfl (Xl (cc .sc (cc .sc cn)))
   clear h; intro h10 h
   obtain rfl := oj h
   refine Xe tmD [Bf] ?_
   exact X6 rfl (Xl (cc .sc (cc .sc cn)))
  clear h; intro h7 h
  obtain rfl := oj h
  refine Xe tmD [Bf, .el (aI .i64 (a0.Where.length : Int)), Bf] ?_
  exact X6 rfl (Xl (cc .sc (cc .sc cn)))
 clear h; intro h1 h
 refine brE h ?_ ?_
 ·clear h; intro h13 h
  refine X9 h ?_
  clear h; intro v14 h15 h
  refine rn tmD [.el (aI .i64 (a0.Arg.length : Int)), Bf, .el (aI .i64 (a0.Where.length : Int)), Bt, .pure [(Lf (a0.Where.map X1)), (aB true)] (AV.tup [(aI .i64 v14.1), (aI .i64 v14.2)])] rfl (by repeat' first|apply Ya|exact (pn (Xc7 _ _ _ h15) (cc (X8 (X0 X7 a0.Where)) (cc .sc cn)))|exact Xv) ?_
  refine brE h ?_ ?_
  ·clear h; intro h16 h
   refine X9 h ?_
   clear h; intro e17 h18 h
   try have qh18 := Xz h18
   obtain rfl := oj h
   refine Xe tmD [Bt, .el (X1 e17)] ?_
   exact X6 rfl (Xl (cc .sc (cc .sc cn)))
  clear h; intro h16 h
  obtain rfl := oj h
  refine Xe tmD [Bf] ?_
  exact X6 rfl (Xl (cc .sc (cc .sc cn)))
 clear h; intro h13 h
 obtain rfl := oj h
 refine Xe tmD [.el (aI .i64 (a0.Arg.length : Int)), Bf, .el (aI .i64 (a0.Where.length : Int)), Bf] ?_
 exact X6 rfl (Xl (cc .sc (cc .sc cn)))
end Go.Av.Tryz