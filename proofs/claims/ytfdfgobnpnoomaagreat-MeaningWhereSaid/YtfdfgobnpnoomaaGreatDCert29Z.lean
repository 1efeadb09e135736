/- Printed by decomp.py: that the program computes the functions. -/
import Derived.Test.YtfdfgobnpnoomaaGreatDCert28Z
set_option linter.all false

namespace Go.Av.Tryz
open Go.Proofs Go.D
set_option maxRecDepth 10000
set_option maxHeartbeats 40000000
theorem Xbs {Q : X0d -> St -> Mu -> Prop} {μ : Mu} (Xf9 : (List (List Xi))) (Xm : Xp) (Xnj : Bool) (Xk : Xp) (hl : Xf9.length <= 140737488355328) : ∀ (xs : List (List Xi)) (k : Nat) (hx : Xf9.drop k = xs) (X6d : (List (List Xi))) (Xe5 : Nb X6d) (o : X54) (h : X1r Xf9 Xm Xnj Xk xs k X6d = some o)
  (C0 : ∀ (X7a : (List (List Xi))) (Xe3 : Nb X7a), o = X54.x0 X7a -> Xa Tryz.prog 126 0 Q (.exit (.exit 0)) [] ⟨fr [(1, (Lf (List.map (X3e false X4) Xf9))), (2, (AV.ptr 0 0 0)), (5, (aB Xnj)), (6, (AV.ptr 1 0 0)), (7, (slE Xe3.1 2 (List.map (X3e true X4) X7a)))], hp ([(0, Ob [(Xh false Xm)] 10), (1, Ob [(Xh true Xk)] 10)] ++ opE Xe3.1 2 1 (List.map (X3e true X4) X7a)), 3⟩ μ),
  Xa Tryz.prog 126 0 Q (.loop (X5o 0 (Xt Tryz.f9))) [] ⟨fr [(1, (Lf (List.map (X3e false X4) Xf9))), (2, (AV.ptr 0 0 0)), (5, (aB Xnj)), (6, (AV.ptr 1 0 0)), (7, (slE Xe5.1 2 (List.map (X3e true X4) X6d))), (8, (aI .i64 (k : Int)))], hp ([(0, Ob [(Xh false Xm)] 10), (1, Ob [(Xh true Xk)] 10)] ++ opE Xe5.1 2 1 (List.map (X3e true X4) X6d)), 3⟩ μ := by
 intro xs
 induction xs with
 | nil =>
  intro k hx X6d Xe5 o h C0
  have hk := X1u hx
  have hc : decide ((k : Int) < (Xf9.length : Int)) = false := Yf (by omega)
  rw [X1r] at h
  rcases Xe5 with ⟨_ | _, Xn3⟩
  ·
   refine Xa.round ?_
   obtain rfl := oj h
   refine Xe tmD [.el (aI .i64 (Xf9.length : Int)), Bf] ?_
   exact wkT [] (C0 _  nbF rfl)
  ·
   obtain rfl := Xn3 rfl
   refine Xa.round ?_
   obtain rfl := oj h
   refine Xe tmD [.el (aI .i64 (Xf9.length : Int)), Bf] ?_
   exact wkT [] (C0 _  (nbT (by first | rfl | simp [*])) rfl)
 | cons x xs ih =>
  intro k hx X6d Xe5 o h C0
  obtain ⟨hk, hg, hx1⟩ := X16 hx
  have hc : decide ((k : Int) < (Xf9.length : Int)) = true := Yt (by omega)
  rw [X1r] at h
  rcases Xe5 with ⟨_ | _, Xn3⟩
  ·
   refine Xa.round ?_
   refine X9 h ?_
   clear h; intro o584 h585 h
   refine Xe tmD [.el (aI .i64 (Xf9.length : Int)), Bt] ?_
   refine wkT [] (Xa.cut (X76 Xf9 Xm Xnj Xk X6d (k : Int) nbF _ _ _ (nbT (by first | rfl | simp [*])) _ h585 ?_))
   intro X8y X41 X9h X74 eo584; subst eo584
   refine Xa.glue ?_
   try dsimp only at h
   rcases X9h with ⟨_ | _, Xgs⟩
   ·
    rcases X74 with ⟨_ | _, X8h⟩
    ·
     refine Xe tmD [.stop 999998] ?_
     refine Xa.freeze 3 (X41.map X4) [1, 2, 5, 6, 8, 94, 96] [(0, Ob [AV.agg [(aI .u8 Xm.Agg), (Lf (Xm.Arg.map X1)), (Lf (List.map (aI .i64) Xm.Sources)), (aB Xm.Join), (Lf (Xm.Where.map X1)), (aI .u8 Xm.Window.Kind), (aI .i64 Xm.Window.Size), (aI .i64 Xm.Window.Every), (aB Xm.ByKey), (aI .u8 Xm.Late)]] 10), (1, Ob [AV.agg [(aI .u8 Xk.Agg), (AV.list true (Xk.Arg.map X1)), (AV.list true (List.map (aI .i64) Xk.Sources)), (aB Xk.Join), (AV.list true (Xk.Where.map X1)), (aI .u8 Xk.Window.Kind), (aI .i64 Xk.Window.Size), (aI .i64 Xk.Window.Every), (aB Xk.ByKey), (aI .u8 Xk.Late)]] 10), (2, Ob (List.map (X3e true X4) X8y) 1), (4, Ob [(AV.list true (X41.map X4))] 1)] rfl (by first | rfl | (simp [hc]; done) | (simp [hc]; rfl)) (X0 Xx X41) ?_ (by repeat' first|exact Xop | refine Ya ?_ ?_) (by repeat' first|exact Xop | refine Ya ?_ ?_)
     refine X9 h ?_
     clear h; intro u586 h587 h
     refine rn tmD [.no] rfl (by repeat' first | refine Ya ?_ ?_ | (refine X0w h587 rfl ?_; first | (simp; done) | (simp; omega) | (simp [hc]; done) | (simp [hc]; omega)) | (refine X0a h587 (by decide) ?_; first | (simp; done) | (simp; omega) | (simp [hc]; done) | (simp [hc]; omega))|exact Xv) ?_
     exact wkT [(2, 5)] (ih (k + 1) hx1 _ nbF o h C0)
    obtain rfl := X8h rfl
    refine Xe tmD [.stop 999998] ?_
    refine Xa.denil 4 [(AV.list true (List.map X4 ([] : List Xi)))] rfl rfl ?_
    refine X9 h ?_
    clear h; intro u588 h589 h
    refine rn tmD [.no] rfl (by repeat' first | refine Ya ?_ ?_ | (refine X0w h589 rfl ?_; first | (simp; done) | (simp; omega) | (simp [hc]; done) | (simp [hc]; omega)) | (refine X0a h589 (by decide) ?_; first | (simp; done) | (simp; omega) | (simp [hc]; done) | (simp [hc]; omega))|exact Xv) ?_
    exact wkT [(2, 5)] (ih (k + 1) hx1 _ nbF o h C0)
   obtain rfl := Xgs rfl
   rcases X74 with ⟨_ | _, X8h⟩
   ·
    refine Xe tmD [.stop 999998] ?_
    refine Xa.freeze 3 (X41.map X4) [1, 2, 5, 6, 8, 94, 96] [(0, Ob [AV.agg [(aI .u8 Xm.Agg), (Lf (Xm.Arg.map X1)), (Lf (List.map (aI .i64) Xm.Sources)), (aB Xm.Join), (Lf (Xm.Where.map X1)), (aI .u8 Xm.Window.Kind), (aI .i64 Xm.Window.Size), (aI .i64 Xm.Window.Every), (aB Xm.ByKey), (aI .u8 Xm.Late)]] 10), (1, Ob [AV.agg [(aI .u8 Xk.Agg), (AV.list true (Xk.Arg.map X1)), (AV.list true (List.map (aI .i64) Xk.Sources)), (aB Xk.Join), (AV.list true (Xk.Where.map X1)), (aI .u8 Xk.Window.Kind), (aI .i64 Xk.Window.Size), (aI .i64 Xk.Window.Every), (aB Xk.ByKey), (aI .u8 Xk.Late)]] 10), (4, Ob [(AV.list true (X41.map X4))] 1)] rfl (by first | rfl | (simp [hc]; done) | (simp [hc]; rfl)) (X0 Xx X41) ?_ (by repeat' first|exact Xop | refine Ya ?_ ?_) (by repeat' first|exact Xop | refine Ya ?_ ?_)
    refine X9 h ?_
    clear h; intro u590 h591 h
    refine rn tmD [.no] rfl (by repeat' first | refine Ya ?_ ?_ | (refine X0w h591 rfl ?_; first | (simp; done) | (simp; omega) | (simp [hc]; done) | (simp [hc]; omega)) | (refine X0a h591 (by decide) ?_; first | (simp; done) | (simp; omega) | (simp [hc]; done) | (simp [hc]; omega))|exact Xv) ?_
    exact wkT [(2, 5)] (ih (k + 1) hx1 _ nbF o h C0)
   obtain rfl := X8h rfl
   refine Xe tmD [.stop 999998] ?_
   refine Xa.denil 4 [(AV.list true (List.map X4 ([] : List Xi)))] rfl rfl ?_
   refine X9 h ?_
   clear h; intro u592 h593 h
   refine rn tmD [.no] rfl (by repeat' first | refine Ya ?_ ?_ | (refine X0w h593 rfl ?_; first | (simp; done) | (simp; omega) | (simp [hc]; done) | (simp [hc]; omega)) | (refine X0a h593 (by decide) ?_; first | (simp; done) | (simp; omega) | (simp [hc]; done) | (simp [hc]; omega))|exact Xv) ?_
   exact wkT [(2, 5)] (ih (k + 1) hx1 _ nbF o h C0)
  obtain rfl := Xn3 rfl
  refine Xa.round ?_
  refine X9 h ?_
  clear h; intro o675 h676 h
  refine Xe tmD [.el (aI .i64 (Xf9.length : Int)), Bt] ?_
  refine wkT [] (Xa.cut (X76 Xf9 Xm Xnj Xk ([] : List (List Xi)) (k : Int) (nbT (by first | rfl | simp [*])) _ _ _ (nbT (by first | rfl | simp [*])) _ h676 ?_))
  intro X8y X41 X9h X74 eo675; subst eo675
  refine Xa.glue ?_
  try dsimp only at h
  rcases X9h with ⟨_ | _, Xgs⟩
  ·
   rcases X74 with ⟨_ | _, X8h⟩
   ·
    refine Xe tmD [.stop 999998] ?_
    refine Xa.freeze 3 (X41.map X4) [1, 2, 5, 6, 8, 94, 96] [(0, Ob [AV.agg [(aI .u8 Xm.Agg), (Lf (Xm.Arg.map X1)), (Lf (List.map (aI .i64) Xm.Sources)), (aB Xm.Join), (Lf (Xm.Where.map X1)), (aI .u8 Xm.Window.Kind), (aI .i64 Xm.Window.Size), (aI .i64 Xm.Window.Every), (aB Xm.ByKey), (aI .u8 Xm.Late)]] 10), (1, Ob [AV.agg [(aI .u8 Xk.Agg), (AV.list true (Xk.Arg.map X1)), (AV.list true (List.map (aI .i64) Xk.Sources)), (aB Xk.Join), (AV.list true (Xk.Where.map X1)), (aI .u8 Xk.Window.Kind), (aI .i64 Xk.Window.Size), (aI .i64 Xk.Window.Every), (aB Xk.ByKey), (aI .u8 Xk.Late)]] 10), (2, Ob (List.map (X3e true X4) X8y) 1), (4, Ob [(AV.list true (X41.map X4))] 1)] rfl (by first | rfl | (simp [hc]; done) | (simp [hc]; rfl)) (X0 Xx X41) ?_ (by repeat' first|exact Xop | refine Ya ?_ ?_) (by repeat' first|exact Xop | refine Ya ?_ ?_)
    refine X9 h ?_
    clear h; intro u677 h678 h
    refine rn tmD [.no] rfl (by repeat' first | refine Ya ?_ ?_ | (refine X0w h678 rfl ?_; first | (simp; done) | (simp; omega) | (simp [hc]; done) | (simp [hc]; omega)) | (refine X0a h678 (by decide) ?_; first | (simp; done) | (simp; omega) | (simp [hc]; done) | (simp [hc]; omega))|exact Xv) ?_
    exact wkT [(2, 5)] (ih (k + 1) hx1 _ nbF o h C0)
   obtain rfl := X8h rfl
   refine Xe tmD [.stop 999998] ?_
   refine Xa.denil 4 [(AV.list true (List.map X4 ([] : List Xi)))] rfl rfl ?_
   refine X9 h ?_
   clear h; intro u679 h680 h
   refine rn tmD [.no] rfl (by repeat' first | refine Ya ?_ ?_ | (refine X0w h680 rfl ?_; first | (simp; done) | (simp; omega) | (simp [hc]; done) | (simp [hc]; omega)) | (refine X0a h680 (by decide) ?_; first | (simp; done) | (simp; omega) | (simp [hc]; done) | (simp [hc]; omega))|exact Xv) ?_
   exact wkT [(2, 5)] (ih (k + 1) hx1 _ nbF o h C0)
  obtain rfl := Xgs rfl
  rcases X74 with ⟨_ | _, X8h⟩
  ·
   refine Xe tmD [.stop 999998] ?_
   refine Xa.freeze 3 (X41.map X4) [1, 2, 5, 6, 8, 94, 96] [(0, Ob [AV.agg [(aI .u8 Xm.Agg), (Lf (Xm.Arg.map X1)), (Lf (List.map (aI .i64) Xm.Sources)), (aB Xm.Join), (Lf (Xm.Where.map X1)), (aI .u8 Xm.Window.Kind), (aI .i64 Xm.Window.Size), (aI .i64 Xm.Window.Every), (aB Xm.ByKey), (aI .u8 Xm.Late)]] 10), (1, Ob [AV.agg [(aI .u8 Xk.Agg), (AV.list true (Xk.Arg.map X1)), (AV.list true (List.map (aI .i64) Xk.Sources)), (aB Xk.Join), (AV.list true (Xk.Where.map X1)), (aI .u8 Xk.Window.Kind), (aI .i64 Xk.Window.Size), (aI .i64 Xk.Window.Every), (aB Xk.ByKey), (aI .u8 Xk.Late)]] 10), (4, Ob [(AV.list true (X41.map X4))] 1)] rfl (by first | rfl | (simp [hc]; done) | (simp [hc]; rfl)) (X0 Xx X41) ?_ (by repeat' first|exact Xop | refine Ya ?_ ?_) (by repeat' first|exact Xop | refine Ya ?_ ?_)
   refine X9 h ?_
   clear h; intro u681 h682 h
   refine rn tmD [.no] rfl (by repeat' first | refine Ya ?_ ?_ | (refine X0w h682 rfl ?_; first | (simp; done) | (simp; omega) | (simp [hc]; done) | (simp [hc]; omega)) | (refine X0a h682 (by decide) ?_; first | (simp; done) | (simp; omega) | (simp [hc]; done) | (simp [hc]; omega))|exact Xv) ?_
   exact wkT [(2, 5)] (ih (k + 1) hx1 _ nbF o h C0)
  obtain rfl := X8h rfl
  refine Xe tmD [.stop 999998] ?_
  refine Xa.denil 4 [(AV.list true (List.map X4 ([] : List Xi)))] rfl rfl ?_
  refine X9 h ?_
  clear h; intro u683 h684 h
  refine rn tmD [.no] rfl (by repeat' first | refine Ya ?_ ?_ | (refine X0w h684 rfl ?_; first | (simp; done) | (simp; omega) | (simp [hc]; done) | (simp [hc]; omega)) | (refine X0a h684 (by decide) ?_; first | (simp; done) | (simp; omega) | (simp [hc]; done) | (simp [hc]; omega))|exact Xv) ?_
  exact wkT [(2, 5)] (ih (k + 1) hx1 _ nbF o h C0)
end Go.Av.Tryz