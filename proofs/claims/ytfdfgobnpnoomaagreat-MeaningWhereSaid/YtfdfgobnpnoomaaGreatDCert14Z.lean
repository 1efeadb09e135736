/- Printed by decomp.py: that the program computes the functions. -/
import Derived.Test.YtfdfgobnpnoomaaGreatDCert13Z
set_option linter.all false

namespace Go.Av.Tryz
open Go.Proofs Go.D
set_option maxRecDepth 10000
set_option maxHeartbeats 40000000
theorem Xgm {Q : X0d -> St -> Mu -> Prop} {μ : Mu} (Xm : Xp) (Xah : (List (List Xi))) (hl : Xah.length <= 140737488355328) : ∀ (xs : List (List Xi)) (k : Nat) (hx : Xah.drop k = xs) (X4q : (List Xb)) (Xk : (List Xj)) (X02 : Nb Xk) (o : X6r) (h : X3a Xm Xah xs k X4q Xk = some o)
  (C0 : ∀ (X7b : (List Xb)) (X0m : (List Xj)) (X0z : Nb X0m), o = X6r.x0 X7b X0m -> Xa Tryz.prog 119 0 Q (.exit (.exit 0)) [] ⟨fr [(2, (AV.ptr 0 0 0)), (10, (AV.list true (X7b.map X2))), (11, (slE X0z.1 1 (X0m.map X3)))], hp ([(0, Ob [(Xh false Xm)] 10)] ++ opE X0z.1 1 3 (X0m.map X3)), 2⟩ μ)
  (C1 : ∀ (X06 : (List X5g)) (X3f : (List Xj)) (Xl3 : Int) (X0h : Nb X06) (X4u : Nb X3f), o = X6r.x1 X06 X3f Xl3 -> Xa Tryz.prog 119 0 Q (.exit .ret) [] ⟨fr [(4, (slE X0h.1 0 (X06.map Xn))), (5, (slE X4u.1 1 (X3f.map X3))), (6, (aI .i64 Xl3))], hp ([] ++ opE X0h.1 0 5 (X06.map Xn) ++ opE X4u.1 1 3 (X3f.map X3)), 2⟩ μ),
  Xa Tryz.prog 119 0 Q (.loop (X5o 0 (Xt Tryz.f19))) [] ⟨fr [(2, (AV.ptr 0 0 0)), (10, (AV.list true (X4q.map X2))), (11, (slE X02.1 1 (Xk.map X3))), (46, (Lf (List.map (X3e false X4) Xah))), (47, (aI .i64 (Xah.length : Int))), (48, (aI .i64 (k : Int)))], hp ([(0, Ob [(Xh false Xm)] 10)] ++ opE X02.1 1 3 (Xk.map X3)), 2⟩ μ := by
 intro xs
 induction xs with
 | nil =>
  intro k hx X4q Xk X02 o h C0 C1
  have hk := X1u hx
  have hc : decide ((k : Int) < (Xah.length : Int)) = false := Yf (by omega)
  rw [X3a] at h
  rcases X02 with ⟨_ | _, X0n⟩
  ·
   refine Xa.round ?_
   obtain rfl := oj h
   refine Xe tmD [Bf] ?_
   exact wkT [] (C0 _ _  nbF rfl)
  ·
   obtain rfl := X0n rfl
   refine Xa.round ?_
   obtain rfl := oj h
   refine Xe tmD [Bf] ?_
   exact wkT [] (C0 _ _  (nbT (by first | rfl | simp [*])) rfl)
 | cons x xs ih =>
  intro k hx X4q Xk X02 o h C0 C1
  obtain ⟨hk, hg, hx1⟩ := X16 hx
  have hc : decide ((k : Int) < (Xah.length : Int)) = true := Yt (by omega)
  rw [X3a] at h
  rcases X02 with ⟨_ | _, X0n⟩
  ·
   refine Xa.round ?_
   refine X9 h ?_
   clear h; intro v435 h436 h
   refine rn tmD [Bt, .el (X3e false X4 x), .pure [(Lf (x.map X4))] (AV.tup [(AV.list true (v435.1.map X3)), (AV.list true (v435.2.1.map X3)), (aI .i64 v435.2.2)])] rfl (by repeat' first|apply Ya|exact (pn (Xft _ _ h436) (cc (X8 (X0 Xx x)) cn))|exact Xv) ?_
   refine brE h ?_ ?_
   ·clear h; intro h437 h
    obtain rfl := oj h
    refine Xe tmD [Bt] ?_
    exact wkT [] (C1 _ _ _  (nbT (by first | rfl | simp [*])) (nbT (by first | rfl | simp [*])) rfl)
   clear h; intro h437 h
   refine brE h ?_ ?_
   ·clear h; intro q h
    have h438 : v435.2.1 = [] := List.isEmpty_iff.1 q
    refine X9 h ?_
    clear h; intro u439 h440 h
    have qh440 := X11 h440
    refine X9 h ?_
    clear h; intro o502 h503 h
    refine Xe tmD [Bf, .ne false, .el (aI .i64 (v435.1.length : Int))] ?_
    refine wkT [] (Xa.cut (X66 Xm (Xk ++ v435.2.1) (k : Int) Xah (Xah.length : Int) (k : Int) v435.1 nbF qh440 v435.1 0 (by simp) _ _ h503 ?_ ?_))
    ·intro X9l X81 X5c eo502; subst eo502
     refine Xa.glue ?_
     try dsimp only at h
     rcases X5c with ⟨_ | _, X8i⟩
     ·
      refine Xe tmD [] ?_
      exact wkT [] (ih (k + 1) hx1 _ _ nbF o h C0 C1)
     obtain rfl := X8i rfl
     refine Xe tmD [] ?_
     exact wkT [] (ih (k + 1) hx1 _ _ (nbT (by first | rfl | simp [*])) o h C0 C1)
    intro X80 X7z Xd4 X5b X3d eo502; subst eo502
    refine Xa.glue ?_
    try dsimp only at h
    rcases X5b with ⟨_ | _, X8g⟩
    ·
     rcases X3d with ⟨_ | _, X32⟩
     ·
      obtain rfl := oj h
      refine Xe tmD [] ?_
      exact wkT [] (C1 _ _ _  nbF nbF rfl)
     obtain rfl := X32 rfl
     obtain rfl := oj h
     refine Xe tmD [] ?_
     exact wkT [] (C1 _ _ _  nbF (nbT (by first | rfl | simp [*])) rfl)
    obtain rfl := X8g rfl
    rcases X3d with ⟨_ | _, X32⟩
    ·
     obtain rfl := oj h
     refine Xe tmD [] ?_
     exact wkT [] (C1 _ _ _  (nbT (by first | rfl | simp [*])) nbF rfl)
    obtain rfl := X32 rfl
    obtain rfl := oj h
    refine Xe tmD [] ?_
    exact wkT [] (C1 _ _ _  (nbT (by first | rfl | simp [*])) (nbT (by first | rfl | simp [*])) rfl)
   clear h; intro q h
   have h438 : ¬ (v435.2.1 = []) := (fun e => by rw [e] at q; cases q)
   refine X9 h ?_
   clear h; intro u504 h505 h
   refine X9 h ?_
   clear h; intro u506 h507 h
   have qh507 := X11 h507
   refine X9 h ?_
   clear h; intro o549 h550 h
   refine rn tmD [Bf, .via (AV.list true (v435.2.1.map X3)), .el (aI .i64 (v435.1.length : Int))] rfl (by repeat' first | refine Ya ?_ ?_ | (refine X0w h505 rfl ?_; first | (simp; done) | (simp; omega) | (simp [hc, h437, h438]; done) | (simp [hc, h437, h438]; omega)) | (refine X0a h505 (by decide) ?_; first | (simp; done) | (simp; omega) | (simp [hc, h437, h438]; done) | (simp [hc, h437, h438]; omega))|exact Xv) ?_
   refine wkT [(1, 2)] (Xa.cut (X66 Xm (Xk ++ v435.2.1) (k : Int) Xah (Xah.length : Int) (k : Int) v435.1 nbF qh507 v435.1 0 (by simp) _ _ h550 ?_ ?_))
   ·intro X9l X81 X5c eo549; subst eo549
    refine Xa.glue ?_
    try dsimp only at h
    rcases X5c with ⟨_ | _, X8i⟩
    ·
     refine rn tmD [] rfl (by repeat' first | refine Ya ?_ ?_ | (refine X0w h505 rfl ?_; first | (simp; done) | (simp; omega) | (simp [hc, h437, h438]; done) | (simp [hc, h437, h438]; omega)) | (refine X0a h505 (by decide) ?_; first | (simp; done) | (simp; omega) | (simp [hc, h437, h438]; done) | (simp [hc, h437, h438]; omega))|exact Xv) ?_
     exact wkT [] (ih (k + 1) hx1 _ _ nbF o h C0 C1)
    obtain rfl := X8i rfl
    refine rn tmD [] rfl (by repeat' first | refine Ya ?_ ?_ | (refine X0w h505 rfl ?_; first | (simp; done) | (simp; omega) | (simp [hc, h437, h438]; done) | (simp [hc, h437, h438]; omega)) | (refine X0a h505 (by decide) ?_; first | (simp; done) | (simp; omega) | (simp [hc, h437, h438]; done) | (simp [hc, h437, h438]; omega))|exact Xv) ?_
    exact wkT [] (ih (k + 1) hx1 _ _ (nbT (by first | rfl | simp [*])) o h C0 C1)
   intro X80 X7z Xd4 X5b X3d eo549; subst eo549
   refine Xa.glue ?_
   try dsimp only at h
   rcases X5b with ⟨_ | _, X8g⟩
   ·
    rcases X3d with ⟨_ | _, X32⟩
    ·
     obtain rfl := oj h
     refine rn tmD [] rfl (by repeat' first | refine Ya ?_ ?_ | (refine X0w h505 rfl ?_; first | (simp; done) | (simp; omega) | (simp [hc, h437, h438]; done) | (simp [hc, h437, h438]; omega)) | (refine X0a h505 (by decide) ?_; first | (simp; done) | (simp; omega) | (simp [hc, h437, h438]; done) | (simp [hc, h437, h438]; omega))|exact Xv) ?_
     exact wkT [] (C1 _ _ _  nbF nbF rfl)
    obtain rfl := X32 rfl
    obtain rfl := oj h
    refine rn tmD [] rfl (by repeat' first | refine Ya ?_ ?_ | (refine X0w h505 rfl ?_; first | (simp; done) | (simp; omega) | (simp [hc, h437, h438]; done) | (simp [hc, h437, h438]; omega)) | (refine X0a h505 (by decide) ?_; first | (simp; done) | (simp; omega) | (simp [hc, h437, h438]; done) | (simp [hc, h437, h438]; omega))|exact Xv) ?_
    exact wkT [] (C1 _ _ _  nbF (nbT (by first | rfl | simp [*])) rfl)
   obtain rfl := X8g rfl
   rcases X3d with ⟨_ | _, X32⟩
   ·
    obtain rfl := oj h
    refine rn tmD [] rfl (by repeat' first | refine Ya ?_ ?_ | (refine X0w h505 rfl ?_; first | (simp; done) | (simp; omega) | (simp [hc, h437, h438]; done) | (simp [hc, h437, h438]; omega)) | (refine X0a h505 (by decide) ?_; first | (simp; done) | (simp; omega) | (simp [hc, h437, h438]; done) | (simp [hc, h437, h438]; omega))|exact Xv) ?_
    exact wkT [] (C1 _ _ _  (nbT (by first | rfl | simp [*])) nbF rfl)
   obtain rfl := X32 rfl
   obtain rfl := oj h
   refine rn tmD [] rfl (by repeat' first | refine Ya ?_ ?_ | (refine X0w h505 rfl ?_; first | (simp; done) | (simp; omega) | (simp [hc, h437, h438]; done) | (simp [hc, h437, h438]; omega)) | (refine X0a h505 (by decide) ?_; first | (simp; done) | (simp; omega) | (simp [hc, h437, h438]; done) | (simp [hc, h437, h438]; omega))|exact Xv) ?_
   exact wkT [] (C1 _ _ _  (nbT (by first | rfl | simp [*])) (nbT (by first | rfl | simp [*])) rfl)
  obtain rfl := X0n rfl
  refine Xa.round ?_
  refine X9 h ?_
  clear h; intro v551 h552 h
  refine rn tmD [Bt, .el (X3e false X4 x), .pure [(Lf (x.map X4))] (AV.tup [(AV.list true (v551.1.map X3)), (AV.list true (v551.2.1.map X3)), (aI .i64 v551.2.2)])] rfl (by repeat' first|apply Ya|exact (pn (Xft _ _ h552) (cc (X8 (X0 Xx x)) cn))|exact Xv) ?_
  refine brE h ?_ ?_
  ·clear h; intro h553 h
   obtain rfl := oj h
   refine Xe tmD [Bt] ?_
   exact wkT [] (C1 _ _ _  (nbT (by first | rfl | simp [*])) (nbT (by first | rfl | simp [*])) rfl)
  clear h; intro h553 h
  refine brE h ?_ ?_
  ·clear h; intro q h
   have h554 : v551.2.1 = [] := List.isEmpty_iff.1 q
   refine X9 h ?_
   clear h; intro u555 h556 h
   have qh556 := X11 h556
   refine X9 h ?_
   clear h; intro o598 h599 h
   refine Xe tmD [Bf, .ne false, .el (aI .i64 (v551.1.length : Int))] ?_
   refine wkT [] (Xa.cut (X66 Xm (([] : List Xj) ++ v551.2.1) (k : Int) Xah (Xah.length : Int) (k : Int) v551.1 (nbT (by first | rfl | simp [*])) qh556 v551.1 0 (by simp) _ _ h599 ?_ ?_))
   ·intro X9l X81 X5c eo598; subst eo598
    refine Xa.glue ?_
    try dsimp only at h
    rcases X5c with ⟨_ | _, X8i⟩
    ·
     refine Xe tmD [] ?_
     exact wkT [] (ih (k + 1) hx1 _ _ nbF o h C0 C1)
    obtain rfl := X8i rfl
    refine Xe tmD [] ?_
    exact wkT [] (ih (k + 1) hx1 _ _ (nbT (by first | rfl | simp [*])) o h C0 C1)
   intro X80 X7z Xd4 X5b X3d eo598; subst eo598
   refine Xa.glue ?_
   try dsimp only at h
   rcases X5b with ⟨_ | _, X8g⟩
   ·
    rcases X3d with ⟨_ | _, X32⟩
    ·
     obtain rfl := oj h
     refine Xe tmD [] ?_
     exact wkT [] (C1 _ _ _  nbF nbF rfl)
    obtain rfl := X32 rfl
    obtain rfl := oj h
    refine Xe tmD [] ?_
    exact wkT [] (C1 _ _ _  nbF (nbT (by first | rfl | simp [*])) rfl)
   obtain rfl := X8g rfl
   rcases X3d with ⟨_ | _, X32⟩
   ·
    obtain rfl := oj h
    refine Xe tmD [] ?_
    exact wkT [] (C1 _ _ _  (nbT (by first | rfl | simp [*])) nbF rfl)
   obtain rfl := X32 rfl
   obtain rfl := oj h
   refine Xe tmD [] ?_
   exact wkT [] (C1 _ _ _  (nbT (by first | rfl | simp [*])) (nbT (by first | rfl | simp [*])) rfl)
  clear h; intro q h
  have h554 : ¬ (v551.2.1 = []) := (fun e => by rw [e] at q; cases q)
  refine X9 h ?_
  clear h; intro u600 h601 h
  refine X9 h ?_
  clear h; intro u602 h603 h
  have qh603 := X11 h603
  refine X9 h ?_
  clear h; intro o645 h646 h
  refine rn tmD [Bf, .via (AV.list true (v551.2.1.map X3)), .el (aI .i64 (v551.1.length : Int))] rfl (by repeat' first | refine Ya ?_ ?_ | (refine X0w h601 rfl ?_; first | (simp; done) | (simp; omega) | (simp [hc, h553, h554]; done) | (simp [hc, h553, h554]; omega)) | (refine X0a h601 (by decide) ?_; first | (simp; done) | (simp; omega) | (simp [hc, h553, h554]; done) | (simp [hc, h553, h554]; omega))|exact Xv) ?_
  refine wkT [(1, 2)] (Xa.cut (X66 Xm (([] : List Xj) ++ v551.2.1) (k : Int) Xah (Xah.length : Int) (k : Int) v551.1 nbF qh603 v551.1 0 (by simp) _ _ h646 ?_ ?_))
  ·intro X9l X81 X5c eo645; subst eo645
   refine Xa.glue ?_
   try dsimp only at h
   rcases X5c with ⟨_ | _, X8i⟩
   ·
    refine rn tmD [] rfl (by repeat' first | refine Ya ?_ ?_ | (refine X0w h601 rfl ?_; first | (simp; done) | (simp; omega) | (simp [hc, h553, h554]; done) | (simp [hc, h553, h554]; omega)) | (refine X0a h601 (by decide) ?_; first | (simp; done) | (simp; omega) | (simp [hc, h553, h554]; done) | (simp [hc, h553, h554]; omega))|exact Xv) ?_
    exact wkT [] (ih (k + 1) hx1 _ _ nbF o h C0 C1)
   obtain rfl := X8i rfl
   refine rn tmD [] rfl (by repeat' first | refine Ya ?_ ?_ | (refine X0w h601 rfl ?_; first | (simp; done) | (simp; omega) | (simp [hc, h553, h554]; done) | (simp [hc, h553, h554]; omega)) | (refine X0a h601 (by decide) ?_; first | (simp; done) | (simp; omega) | (simp [hc, h553, h554]; done) | (simp [hc, h553, h554]; omega))|exact Xv) ?_
   exact wkT [] (ih (k + 1) hx1 _ _ (nbT (by first | rfl | simp [*])) o h C0 C1)
  intro X80 X7z Xd4 X5b X3d eo645; subst eo645
  refine Xa.glue ?_
  try dsimp only at h
  rcases X5b with ⟨_ | _, X8g⟩
  ·
   rcases X3d with ⟨_ | _, X32⟩
   ·
    obtain rfl := oj h
    refine rn tmD [] rfl (by repeat' first | refine Ya ?_ ?_ | (refine X0w h601 rfl ?_; first | (simp; done) | (simp; omega) | (simp [hc, h553, h554]; done) | (simp [hc, h553, h554]; omega)) | (refine X0a h601 (by decide) ?_; first | (simp; done) | (simp; omega) | (simp [hc, h553, h554]; done) | (simp [hc, h553, h554]; omega))|exact Xv) ?_
    exact wkT [] (C1 _ _ _  nbF nbF rfl)
   obtain rfl := X32 rfl
   obtain rfl := oj h
   refine rn tmD [] rfl (by repeat' first | refine Ya ?_ ?_ | (refine X0w h601 rfl ?_; first | (simp; done) | (simp; omega) | (simp [hc, h553, h554]; done) | (simp [hc, h553, h554]; omega)) | (refine X0a h601 (by decide) ?_; first | (simp; done) | (simp; omega) | (simp [hc, h553, h554]; done) | (simp [hc, h553, h554]; omega))|exact Xv) ?_
   exact wkT [] (C1 _ _ _  nbF (nbT (by first | rfl | simp [*])) rfl)
  obtain rfl := X8g rfl
  rcases X3d with ⟨_ | _, X32⟩
  ·
   obtain rfl := oj h
   refine rn tmD [] rfl (by repeat' first | refine Ya ?_ ?_ | (refine X0w h601 rfl ?_; first | (simp; done) | (simp; omega) | (simp [hc, h553, h554]; done) | (simp [hc, h553, h554]; omega)) | (refine X0a h601 (by decide) ?_; first | (simp; done) | (simp; omega) | (simp [hc, h553, h554]; done) | (simp [hc, h553, h554]; omega))|exact Xv) ?_
   exact wkT [] (C1 _ _ _  (nbT (by first | rfl | simp [*])) nbF rfl)
  obtain rfl := X32 rfl
  obtain rfl := oj h
  refine rn tmD [] rfl (by repeat' first | refine Ya ?_ ?_ | (refine X0w h601 rfl ?_; first | (simp; done) | (simp; omega) | (simp [hc, h553, h554]; done) | (simp [hc, h553, h554]; omega)) | (refine X0a h601 (by decide) ?_; first | (simp; done) | (simp; omega) | (simp [hc, h553, h554]; done) | (simp [hc, h553, h554]; omega))|exact Xv) ?_
  exact wkT [] (C1 _ _ _  (nbT (by first | rfl | simp [*])) (nbT (by first | rfl | simp [*])) rfl)
end Go.Av.Tryz