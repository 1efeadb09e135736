/- Printed by decomp.py: that the program computes the functions. -/
import Derived.Test.YtoadgjfleafafaaGreatDCert6A
set_option linter.all false

namespace Go.Av.Tryz
open Go.Proofs Go.D
set_option maxRecDepth 10000
set_option maxHeartbeats 40000000
theorem Xcp {Q : X0d -> St -> Mu -> Prop} {μ : Mu} (Xgg : Xn) (X99 : (List X9)) (hl : X99.length <= 140737488355328) : ∀ (xs : List X9) (k : Nat) (hx : X99.drop k = xs) (Xde : Bool) (o : X78) (h : X5b Xgg X99 xs k Xde = some o)
  (C0 : ∀ (Xbf : Bool), o = X78.x0 Xbf -> Xa Tryz.prog 202 0 Q (.exit (.exit 8)) [] ⟨fr [(11, (aB Xbf))], hp ([]), 0⟩ μ),
  Xa Tryz.prog 202 0 Q (.loop (X7i 4 (X01 Tryz.f17))) [] ⟨fr [(1, (AV.ptr 0 0 0)), (11, (aB Xde)), (179, (Lf (X99.map X2))), (180, (aI .i64 (X99.length : Int))), (181, (aI .i64 (k : Int)))], hp ([(0, Ob [(Xg false Xgg)] 9)]), 1⟩ μ := by
 intro xs
 induction xs with
 | nil =>
  intro k hx Xde o h C0
  have hk := X2m hx
  have hc : decide ((k : Int) < (X99.length : Int)) = false := Yf (by omega)
  rw [X5b] at h
  refine Xa.round ?_
  obtain rfl := oj h
  refine Xm tmD [Bf] ?_
  exact wkT [] (C0 _  rfl)
 | cons x xs ih =>
  intro k hx Xde o h C0
  obtain ⟨hk, hg, hx1⟩ := X20 hx
  have hc : decide ((k : Int) < (X99.length : Int)) = true := Yt (by omega)
  rw [X5b] at h
  refine Xa.round ?_
  refine X3 h ?_
  clear h; intro Xhx h186 h
  refine Xm tmD [Bt, .el (X2 x), .stop 30] ?_
  refine Xa.join (s' := ⟨fr [(1, (AV.ptr 0 0 0)), (11, (aB Xhx)), (179, (Lf (X99.map X2))), (180, (aI .i64 (X99.length : Int))), (181, (aI .i64 (k : Int)))], hp ([(0, Ob [(Xg false Xgg)] 9)]), 1⟩) ?_ (fun J => Xa.cut ?_)
  ·
   refine Xm tmD [] ?_
   exact wkT [] (ih (k + 1) hx1 _ o h C0)
  clear h
  have h := h186
  refine brE h ?_ ?_
  ·clear h; intro h184 h
   refine brE h ?_ ?_
   ·clear h; intro h185 h
    obtain rfl := oj h
    refine Xm tmD [.go true, .go true, .go true, .go true, .go true, .go false, .go false, .go false, .go false, .go false, .go true] ?_
    exact wkT [] (Xa.glue J)
   clear h; intro h185 h
   obtain rfl := oj h
   refine Xm tmD [.go true, .go true, .go true, .go true, .go true, .go true, .go true, .ix 1, .go true, .go true, .go true, .go true] ?_
   exact wkT [] (Xa.glue J)
  clear h; intro h184 h
  obtain rfl := oj h
  refine Xm tmD [.go false, .go false, .go false, .go false, .go false, .go false, .go false, .go false, .go false, .go false, .go false] ?_
  exact wkT [] (Xa.glue J)
theorem X35 (a0 : Xn) (r : Int) (h : X9y a0 = some r) : X16 Tryz.prog 17 [(Xg false a0)] (aI .i64 r) := by
 refine X16.sym Xe Xt0 (nt := 202) rfl rfl ?_ (X6 (X32 false _ _).1 X08)
 unfold X9y at h
 refine X3 h ?_
 clear h; intro v1 h2 h
 refine X3 h ?_
 clear h; intro Xfb h32 h
 refine rn tmD [.pure [(aI .u8 a0.Op.Kind)] (AV.tup [(aI .i64 v1.1), (aI .i64 v1.2.1), (aB v1.2.2.1), (aB v1.2.2.2.1), (aB v1.2.2.2.2.1), (aB v1.2.2.2.2.2)]), .stop 3] rfl (by repeat' first|apply Ya|exact (pn (X2t _ _ h2) (cc .sc cn))|exact X00) ?_
 refine Xa.join (s' := ⟨fr [(1, (AV.ptr 0 0 0)), (9, (aB (bif (bif (bif (decide (a0.Turn >= (0 : Int))) then (decide (a0.Turn < (20 : Int))) else false) then (decide (a0.Op.N >= (0 : Int))) else false) then (decide (a0.Op.N < (4 : Int))) else false))), (10, (aB Xfb))], hp ([(0, Ob [(Xg false a0)] 9)]), 1⟩) ?_ (fun J => Xa.cut ?_)
 ·
  refine X3 h ?_
  clear h; intro Xhq h48 h
  refine Xm tmD [.stop 4] ?_
  refine Xa.join (s' := ⟨fr [(1, (AV.ptr 0 0 0)), (120, (aB Xhq))], hp ([(0, Ob [(Xg false a0)] 9)]), 1⟩) ?_ (fun J => Xa.cut ?_)
  ·
   refine brE h ?_ ?_
   ·clear h; intro h49 h
    obtain rfl := oj h
    refine Xm tmD [Bt] ?_
    exact X8 rfl .sc
   clear h; intro h49 h
   refine X3 h ?_
   clear h; intro u50 h51 h
   have qh51 := X1w h51
   refine X3 h ?_
   clear h; intro o77 h78 h
   refine Xm tmD [Bf, .el (aI .i64 (a0.Marks.length : Int))] ?_
   refine wkT [] (Xa.cut (Xct a0 a0.Marks qh51 a0.Marks 0 (by simp) _ _ h78 ?_))
   intro Xbj eo77; subst eo77
   refine Xa.glue ?_
   try dsimp only at h
   refine X3 h ?_
   clear h; intro u79 h80 h
   have qh80 := X1w h80
   refine X3 h ?_
   clear h; intro o106 h107 h
   refine Xm tmD [.el (aI .i64 (a0.Events.length : Int))] ?_
   refine wkT [] (Xa.cut (Xcs a0 a0.Events qh80 a0.Events 0 (by simp) _ _ h107 ?_))
   intro Xbi eo106; subst eo106
   refine Xa.glue ?_
   try dsimp only at h
   refine X3 h ?_
   clear h; intro u108 h109 h
   have qh109 := X1w h109
   refine X3 h ?_
   clear h; intro o135 h136 h
   refine Xm tmD [.el (aI .i64 (a0.Rows.length : Int))] ?_
   refine wkT [] (Xa.cut (Xcr a0 a0.Rows qh109 a0.Rows 0 (by simp) _ _ h136 ?_))
   intro Xbh eo135; subst eo135
   refine Xa.glue ?_
   try dsimp only at h
   refine X3 h ?_
   clear h; intro u137 h138 h
   have qh138 := X1w h138
   refine X3 h ?_
   clear h; intro o164 h165 h
   refine Xm tmD [.el (aI .i64 (a0.Late.length : Int))] ?_
   refine wkT [] (Xa.cut (Xcq a0 a0.Late qh138 a0.Late 0 (by simp) _ _ h165 ?_))
   intro Xbg eo164; subst eo164
   refine Xa.glue ?_
   try dsimp only at h
   refine X3 h ?_
   clear h; intro u166 h167 h
   have qh167 := X1w h167
   refine X3 h ?_
   clear h; intro o187 h188 h
   refine Xm tmD [.el (aI .i64 (a0.Store.length : Int))] ?_
   refine wkT [] (Xa.cut (Xcp a0 a0.Store qh167 a0.Store 0 (by simp) _ _ h188 ?_))
   intro Xbf eo187; subst eo187
   refine Xa.glue ?_
   try dsimp only at h
   refine brE h ?_ ?_
   ·clear h; intro h189 h
    obtain rfl := oj h
    refine Xm tmD [Bt] ?_
    exact X8 rfl .sc
   clear h; intro h189 h
   obtain rfl := oj h
   refine Xm tmD [Bf] ?_
   exact X8 rfl .sc
  clear h
  have h := h48
  refine brE h ?_ ?_
  ·clear h; intro h41 h
   obtain rfl := oj h
   refine rn tmD [.go false, .go false, .go false, .go false, .go false, .go false, .go false, .go false, .go false, .go false] rfl (by repeat' first|apply Ya|exact ((Xy h41 rfl))|exact (X0o (Xy h41 rfl))|exact (Xaa (Xy h41 rfl))|exact ((Xy (Xy h41 rfl) rfl))|exact (X0o (Xy (Xy h41 rfl) rfl))|exact (Xaa (Xy (Xy h41 rfl) rfl))|exact X00) ?_
   exact wkT [] (Xa.glue J)
  clear h; intro h41 h
  refine brE h ?_ ?_
  ·clear h; intro h42 h
   obtain rfl := oj h
   refine rn tmD [.go true, .go true, .go false, .go false, .go false, .go false, .go false, .go false, .go false, .go false] rfl (by repeat' first|apply Ya|exact ((X1s h41 h42))|exact (X0o (X1s h41 h42))|exact (Xaa (X1s h41 h42))|exact ((Xy (X1s h41 h42) rfl))|exact (X0o (Xy (X1s h41 h42) rfl))|exact (Xaa (Xy (X1s h41 h42) rfl))|exact X00) ?_
   exact wkT [] (Xa.glue J)
  clear h; intro h42 h
  refine X3 h ?_
  clear h; intro v43 h44 h
  refine brE h ?_ ?_
  ·clear h; intro h45 h
   obtain rfl := oj h
   refine rn tmD [.go true, .go true, .go true, .go true, .go true, .pure [(Lf (a0.Pending.map Xp))] (aB v43), .go true, .go false, .go false, .go false, .go false] rfl (by repeat' first|apply Ya|exact ((X1s h41 h42))|exact (X0o (X1s h41 h42))|exact (pn (X6w _ _ h44) (cc (X4 (X0 X0b a0.Pending)) cn))|exact (Xiy (X1s h41 h42))|exact ((X1s (X1s h41 h42) h45))|exact (X0o (X1s (X1s h41 h42) h45))|exact (Xaa (X1s (X1s h41 h42) h45))|exact X00) ?_
   exact wkT [] (Xa.glue J)
  clear h; intro h45 h
  refine X3 h ?_
  clear h; intro v46 h47 h
  obtain rfl := oj h
  refine rn tmD [.go true, .go true, .go true, .go true, .go true, .pure [(Lf (a0.Pending.map Xp))] (aB v43), .go true, .go true, .go true, .go true, .pure [(Lf (a0.Store.map X2))] (aI .i64 v46), .go true] rfl (by repeat' first|apply Ya|exact ((X1s h41 h42))|exact (X0o (X1s h41 h42))|exact (pn (X6w _ _ h44) (cc (X4 (X0 X0b a0.Pending)) cn))|exact (Xiy (X1s h41 h42))|exact ((X1s (X1s h41 h42) h45))|exact (X0o (X1s (X1s h41 h42) h45))|exact (pn (X1k _ _ h47) (cc (X4 (X0 Xl a0.Store)) cn))|exact (Xiy (X1s (X1s h41 h42) h45))|exact X00) ?_
  exact wkT [] (Xa.glue J)
 clear h
 have h := h32
 refine brE h ?_ ?_
 ·clear h; intro h18 h
  refine brE h ?_ ?_
  ·clear h; intro h19 h
   refine brE h ?_ ?_
   ·clear h; intro h20 h
    refine X3 h ?_
    clear h; intro v21 h22 h
    refine brE h ?_ ?_
    ·clear h; intro h23 h
     refine X3 h ?_
     clear h; intro v24 h25 h
     refine brE h ?_ ?_
     ·clear h; intro h26 h
      refine X3 h ?_
      clear h; intro v27 h28 h
      refine brE h ?_ ?_
      ·clear h; intro h29 h
       refine X3 h ?_
       clear h; intro v30 h31 h
       obtain rfl := oj h
       refine rn tmD [.el (aI .i64 (a0.Pending.length : Int)), .go true, .go true, .go true, .el (aI .i64 (a0.Marks.length : Int)), .go true, .go true, .go true, .go true, .go true, .el (aI .i64 (a0.Marks.length : Int)), .go true, .go true, .go true, .go true, .go true, .el (aI .i64 (a0.Store.length : Int)), .go true, .go true, .pure [(aB v1.2.2.1), (aI .i64 4000)] (aI .i64 v21), .go true, .go true, .go true, .go true, .el (aI .i64 (a0.Events.length : Int)), .go true, .go true, .pure [(aB v1.2.2.2.1), (aI .i64 60)] (aI .i64 v24), .go true, .go true, .go true, .go true, .el (aI .i64 (a0.Rows.length : Int)), .go true, .go true, .pure [(aB v1.2.2.2.2.1), (aI .i64 4000)] (aI .i64 v27), .go true, .go true, .go true, .go true, .el (aI .i64 (a0.Late.length : Int)), .go true, .go true, .pure [(aB v1.2.2.2.2.2), (aI .i64 4000)] (aI .i64 v30), .go true] rfl (by repeat' first|apply Ya|exact (pn (X2t _ _ h2) (cc .sc cn))|exact ((Xy h18 h19))|exact (X0o (Xy h18 h19))|exact (Xaa (Xy h18 h19))|exact ((Xy (Xy h18 h19) h20))|exact (X0o (Xy (Xy h18 h19) h20))|exact (pn (X2s _ _ _ h22) (cc .sc (cc .sc cn)))|exact (Xaa (Xy (Xy h18 h19) h20))|exact ((Xy (Xy (Xy h18 h19) h20) h23))|exact (X0o (Xy (Xy (Xy h18 h19) h20) h23))|exact (pn (X2s _ _ _ h25) (cc .sc (cc .sc cn)))|exact (Xaa (Xy (Xy (Xy h18 h19) h20) h23))|exact ((Xy (Xy (Xy (Xy h18 h19) h20) h23) h26))|exact (X0o (Xy (Xy (Xy (Xy h18 h19) h20) h23) h26))|exact (pn (X2s _ _ _ h28) (cc .sc (cc .sc cn)))|exact (Xaa (Xy (Xy (Xy (Xy h18 h19) h20) h23) h26))|exact ((Xy (Xy (Xy (Xy (Xy h18 h19) h20) h23) h26) h29))|exact (X0o (Xy (Xy (Xy (Xy (Xy h18 h19) h20) h23) h26) h29))|exact (pn (X2s _ _ _ h31) (cc .sc (cc .sc cn)))|exact (Xaa (Xy (Xy (Xy (Xy (Xy h18 h19) h20) h23) h26) h29))|exact X00) ?_
       exact wkT [] (Xa.glue J)
      clear h; intro h29 h
      obtain rfl := oj h
      refine rn tmD [.el (aI .i64 (a0.Pending.length : Int)), .go true, .go true, .go true, .el (aI .i64 (a0.Marks.length : Int)), .go true, .go true, .go true, .go true, .go true, .el (aI .i64 (a0.Marks.length : Int)), .go true, .go true, .go true, .go true, .go true, .el (aI .i64 (a0.Store.length : Int)), .go true, .go true, .pure [(aB v1.2.2.1), (aI .i64 4000)] (aI .i64 v21), .go true, .go true, .go true, .go true, .el (aI .i64 (a0.Events.length : Int)), .go true, .go true, .pure [(aB v1.2.2.2.1), (aI .i64 60)] (aI .i64 v24), .go true, .go true, .go true, .go true, .el (aI .i64 (a0.Rows.length : Int)), .go true, .go true, .pure [(aB v1.2.2.2.2.1), (aI .i64 4000)] (aI .i64 v27), .go true, .go false, .go false, .go false, .go false, .go false, .go false, .go false] rfl (by repeat' first|apply Ya|exact (pn (X2t _ _ h2) (cc .sc cn))|exact ((Xy h18 h19))|exact (X0o (Xy h18 h19))|exact (Xaa (Xy h18 h19))|exact ((Xy (Xy h18 h19) h20))|exact (X0o (Xy (Xy h18 h19) h20))|exact (pn (X2s _ _ _ h22) (cc .sc (cc .sc cn)))|exact (Xaa (Xy (Xy h18 h19) h20))|exact ((Xy (Xy (Xy h18 h19) h20) h23))|exact (X0o (Xy (Xy (Xy h18 h19) h20) h23))|exact (pn (X2s _ _ _ h25) (cc .sc (cc .sc cn)))|exact (Xaa (Xy (Xy (Xy h18 h19) h20) h23))|exact ((Xy (Xy (Xy (Xy h18 h19) h20) h23) h26))|exact (X0o (Xy (Xy (Xy (Xy h18 h19) h20) h23) h26))|exact (pn (X2s _ _ _ h28) (cc .sc (cc .sc cn)))|exact (Xaa (Xy (Xy (Xy (Xy h18 h19) h20) h23) h26))|exact ((Xy (Xy (Xy (Xy (Xy h18 h19) h20) h23) h26) h29))|exact (X0o (Xy (Xy (Xy (Xy (Xy h18 h19) h20) h23) h26) h29))|exact X00) ?_
      exact wkT [] (Xa.glue J)
     clear h; intro h26 h
     obtain rfl := oj h
     refine rn tmD [.el (aI .i64 (a0.Pending.length : Int)), .go true, .go true, .go true, .el (aI .i64 (a0.Marks.length : Int)), .go true, .go true, .go true, .go true, .go true, .el (aI .i64 (a0.Marks.length : Int)), .go true, .go true, .go true, .go true, .go true, .el (aI .i64 (a0.Store.length : Int)), .go true, .go true, .pure [(aB v1.2.2.1), (aI .i64 4000)] (aI .i64 v21), .go true, .go true, .go true, .go true, .el (aI .i64 (a0.Events.length : Int)), .go true, .go true, .pure [(aB v1.2.2.2.1), (aI .i64 60)] (aI .i64 v24), .go true, .go false, .go false, .go false, .go false, .go false, .go false, .go false, .go false, .go false, .go false, .go false, .go false, .go false, .go false] rfl (by repeat' first|apply Ya|exact (pn (X2t _ _ h2) (cc .sc cn))|exact ((Xy h18 h19))|exact (X0o (Xy h18 h19))|exact (Xaa (Xy h18 h19))|exact ((Xy (Xy h18 h19) h20))|exact (X0o (Xy (Xy h18 h19) h20))|exact (pn (X2s _ _ _ h22) (cc .sc (cc .sc cn)))|exact (Xaa (Xy (Xy h18 h19) h20))|exact ((Xy (Xy (Xy h18 h19) h20) h23))|exact (X0o (Xy (Xy (Xy h18 h19) h20) h23))|exact (pn (X2s _ _ _ h25) (cc .sc (cc .sc cn)))|exact (Xaa (Xy (Xy (Xy h18 h19) h20) h23))|exact ((Xy (Xy (Xy (Xy h18 h19) h20) h23) h26))|exact (X0o (Xy (Xy (Xy (Xy h18 h19) h20) h23) h26))|exact X00) ?_
     exact wkT [] (Xa.glue J)
    clear h; intro h23 h
    obtain rfl := oj h
    refine rn tmD [.el (aI .i64 (a0.Pending.length : Int)), .go true, .go true, .go true, .el (aI .i64 (a0.Marks.length : Int)), .go true, .go true, .go true, .go true, .go true, .el (aI .i64 (a0.Marks.length : Int)), .go true, .go true, .go true, .go true, .go true, .el (aI .i64 (a0.Store.length : Int)), .go true, .go true, .pure [(aB v1.2.2.1), (aI .i64 4000)] (aI .i64 v21), .go true, .go false, .go false, .go false, .go false, .go false, .go false, .go false, .go false, .go false, .go false, .go false, .go false, .go false, .go false, .go false, .go false, .go false, .go false, .go false, .go false, .go false] rfl (by repeat' first|apply Ya|exact (pn (X2t _ _ h2) (cc .sc cn))|exact ((Xy h18 h19))|exact (X0o (Xy h18 h19))|exact (Xaa (Xy h18 h19))|exact ((Xy (Xy h18 h19) h20))|exact (X0o (Xy (Xy h18 h19) h20))|exact (pn (X2s _ _ _ h22) (cc .sc (cc .sc cn)))|exact (Xaa (Xy (Xy h18 h19) h20))|exact ((Xy (Xy (Xy h18 h19) h20) h23))|exact (X0o (Xy (Xy (Xy h18 h19) h20) h23))|exact X00) ?_
    exact wkT [] (Xa.glue J)
   clear h; intro h20 h
   obtain rfl := oj h
   refine rn tmD [.el (aI .i64 (a0.Pending.length : Int)), .go true, .go true, .go true, .el (aI .i64 (a0.Marks.length : Int)), .go true, .go true, .go true, .go true, .go true, .el (aI .i64 (a0.Marks.length : Int)), .go true, .go true, .go false, .go false, .go false, .go false, .go false, .go false, .go false, .go false, .go false, .go false, .go false, .go false, .go false, .go false, .go false, .go false, .go false, .go false, .go false, .go false, .go false, .go false, .go false, .go false, .go false, .go false, .go false, .go false] rfl (by repeat' first|apply Ya|exact (pn (X2t _ _ h2) (cc .sc cn))|exact ((Xy h18 h19))|exact (X0o (Xy h18 h19))|exact (Xaa (Xy h18 h19))|exact ((Xy (Xy h18 h19) h20))|exact (X0o (Xy (Xy h18 h19) h20))|exact X00) ?_
   exact wkT [] (Xa.glue J)
  clear h; intro h19 h
  obtain rfl := oj h
  refine rn tmD [.el (aI .i64 (a0.Pending.length : Int)), .go true, .go true, .go true, .el (aI .i64 (a0.Marks.length : Int)), .go true, .go true, .go false, .go false, .go false, .go false, .go false, .go false, .go false, .go false, .go false, .go false, .go false, .go false, .go false, .go false, .go false, .go false, .go false, .go false, .go false, .go false, .go false, .go false, .go false, .go false, .go false, .go false, .go false, .go false, .go false, .go false, .go false, .go false, .go false, .go false] rfl (by repeat' first|apply Ya|exact (pn (X2t _ _ h2) (cc .sc cn))|exact ((Xy h18 h19))|exact (X0o (Xy h18 h19))|exact X00) ?_
  exact wkT [] (Xa.glue J)
 clear h; intro h18 h
 obtain rfl := oj h
 refine rn tmD [.el (aI .i64 (a0.Pending.length : Int)), .go false, .go false, .go false, .go false, .go false, .go false, .go false, .go false, .go false, .go false, .go false, .go false, .go false, .go false, .go false, .go false, .go false, .go false, .go false, .go false, .go false, .go false, .go false, .go false, .go false, .go false, .go false, .go false, .go false, .go false, .go false, .go false, .go false, .go false, .go false, .go false, .go false, .go false, .go false, .go false] rfl (by repeat' first|apply Ya|exact (pn (X2t _ _ h2) (cc .sc cn))|exact X00) ?_
 exact wkT [] (Xa.glue J)
theorem Xcl (a0 : Int) (r : X1f) (h : Xeb a0 = some r) : X16 Tryz.prog 38 [(aI .i64 a0)] (X0g r) := by
 refine X16.sym Xe Xsh (nt := 7) rfl rfl ?_ (X6 .sc X08)
 unfold Xeb at h
 obtain rfl := oj h
 refine Xm tmD [] ?_
 exact X8 rfl (X0q (x := (X1f.mk 1 a0 a0 a0)))
theorem X58 (a0 : Int) (a1 : Int) (r : Int) (h : X9f a0 a1 = some r) : X16 Tryz.prog 96 [(aI .i64 a0), (aI .i64 a1)] (aI .i64 r) := by
 refine X16.sym Xe Xrj (nt := 17) rfl rfl ?_ (X6 .sc (X6 .sc X08))
 unfold X9f at h
 refine brE h ?_ ?_
 ·clear h; intro h1 h
  obtain rfl := oj h
  refine Xm tmD [Bt] ?_
  exact X8 rfl .sc
 clear h; intro h1 h
 refine brE h ?_ ?_
 ·clear h; intro h2 h
  obtain rfl := oj h
  refine Xm tmD [Bf, Bt] ?_
  exact X8 rfl .sc
 clear h; intro h2 h
 obtain rfl := oj h
 refine Xm tmD [Bf, Bf] ?_
 exact X8 rfl .sc
theorem X95 (a0 : Int) (a1 : Int) (r : Int × Int) (h : X8l a0 a1 = some r) : X16 Tryz.prog 84 [(aI .i64 a0), (aI .i64 a1)] (AV.tup [(aI .i64 r.1), (aI .i64 r.2)]) := by
 refine X16.sym Xe Xrq (nt := 24) rfl rfl ?_ (X6 .sc (X6 .sc X08))
 unfold X8l at h
 refine X3 h ?_
 clear h; intro v1 h2 h
 refine brE h ?_ ?_
 ·clear h; intro h3 h
  obtain rfl := oj h
  refine rn tmD [.pure [(aI .i64 a0), (aI .i64 a1)] (aI .i64 v1), Bt] rfl (by repeat' first|apply Ya|exact (pn (X58 _ _ _ h2) (cc .sc (cc .sc cn)))|exact X00) ?_
  exact X8 rfl (X04 (cc .sc (cc .sc cn)))
 clear h; intro h3 h
 refine X3 h ?_
 clear h; intro u4 h5 h
 refine X3 h ?_
 clear h; intro Xqd h9 h
 refine rn tmD [.pure [(aI .i64 a0), (aI .i64 a1)] (aI .i64 v1), Bf, .wrap] rfl (by repeat' first|apply Ya|exact (pn (X58 _ _ _ h2) (cc .sc (cc .sc cn)))|exact X00) ?_
 refine Xa.join (s' := ⟨fr [(7, (aI .i64 Xqd))], hp ([]), 0⟩) ?_ (fun J => Xa.cut ?_)
 ·
  obtain rfl := oj h
  refine Xm tmD [] ?_
  exact X8 rfl (X04 (cc .sc (cc .sc cn)))
 clear h
 have h := h9
 refine brE h ?_ ?_
 ·clear h; intro h8 h
  obtain rfl := oj h
  refine rn tmD [Bt, .wrap] rfl (by repeat' first|apply Ya|exact (pn (X58 _ _ _ h2) (cc .sc (cc .sc cn)))|exact X00) ?_
  exact wkT [] (Xa.glue J)
 clear h; intro h8 h
 obtain rfl := oj h
 refine rn tmD [Bf] rfl (by repeat' first|apply Ya|exact (pn (X58 _ _ _ h2) (cc .sc (cc .sc cn)))|exact X00) ?_
 exact wkT [] (Xa.glue J)
theorem Xcc (a0 : Int) (a1 : Int) (r : X14 × Int) (h : Xdo a0 a1 = some r) : X16 Tryz.prog 65 [(aI .i64 a0), (aI .i64 a1)] (AV.tup [(X1z r.1), (aI .i64 r.2)]) := by
 refine X16.sym Xe Xs1 (nt := 26) rfl rfl ?_ (X6 .sc (X6 .sc X08))
 unfold Xdo at h
 refine X3 h ?_
 clear h; intro v1 h2 h
 refine brE h ?_ ?_
 ·clear h; intro h3 h
  obtain rfl := oj h
  refine rn tmD [.pure [(aI .i64 a0), (aI .i64 a1)] (AV.tup [(aI .i64 v1.1), (aI .i64 v1.2)]), Bt] rfl (by repeat' first|apply Ya|exact (pn (X95 _ _ _ h2) (cc .sc (cc .sc cn)))|exact X00) ?_
  exact X8 rfl (X04 (cc (Xh9 (x := (X14.mk 0 0))) (cc .sc cn)))
 clear h; intro h3 h
 obtain rfl := oj h
 refine rn tmD [.pure [(aI .i64 a0), (aI .i64 a1)] (AV.tup [(aI .i64 v1.1), (aI .i64 v1.2)]), Bf, .wrap, .wrap, .wrap] rfl (by repeat' first|apply Ya|exact (pn (X95 _ _ _ h2) (cc .sc (cc .sc cn)))|exact X00) ?_
 exact X8 rfl (X04 (cc (Xh9 (x := (X14.mk (IntKind.i64.wrap (v1.1 * a1)) (IntKind.i64.wrap ((IntKind.i64.wrap (v1.1 + 1)) * a1))))) (cc .sc cn)))
theorem X8m (a0 : X48) (a1 : Int) (r : (List X14) × Int) (h : Xfo a0 a1 = some r) : X16 Tryz.prog 42 [(X0k a0), (aI .i64 a1)] (AV.tup [(AV.list true (r.1.map X1z)), (aI .i64 r.2)]) := by
 refine X16.sym Xe Xsg (nt := 40) rfl rfl ?_ (X6 (X3z _ _).1 (X6 .sc X08))
 unfold Xfo at h
 refine X3 h ?_
 clear h; intro v1 h2 h
 refine brE h ?_ ?_
 ·clear h; intro h3 h
  obtain rfl := oj h
  refine rn tmD [.pure [(X0k a0)] (aI .i64 v1), Bt] rfl (by repeat' first|apply Ya|exact (pn (X0n _ _ h2) (cc (X19 (x := a0)) cn))|exact X00) ?_
  exact X8 rfl (X04 (cc (Zn X1z) (cc .sc cn)))
 clear h; intro h3 h
 refine brE h ?_ ?_
 ·clear h; intro h4 h
  refine X3 h ?_
  clear h; intro v5 h6 h
  refine brE h ?_ ?_
  ·clear h; intro h7 h
   obtain rfl := oj h
   refine rn tmD [.pure [(X0k a0)] (aI .i64 v1), Bf, Bt, .pure [(aI .i64 a1), (aI .i64 a0.Size)] (AV.tup [(X1z v5.1), (aI .i64 v5.2)]), Bt] rfl (by repeat' first|apply Ya|exact (pn (X0n _ _ h2) (cc (X19 (x := a0)) cn))|exact (pn (Xcc _ _ _ h6) (cc .sc (cc .sc cn)))|exact X00) ?_
   exact X8 rfl (X04 (cc (Zn X1z) (cc .sc cn)))
  clear h; intro h7 h
  obtain rfl := oj h
  refine rn tmD [.pure [(X0k a0)] (aI .i64 v1), Bf, Bt, .pure [(aI .i64 a1), (aI .i64 a0.Size)] (AV.tup [(X1z v5.1), (aI .i64 v5.2)]), Bf] rfl (by repeat' first|apply Ya|exact (pn (X0n _ _ h2) (cc (X19 (x := a0)) cn))|exact (pn (Xcc _ _ _ h6) (cc .sc (cc .sc cn)))|exact X00) ?_
  exact X8 rfl (X04 (cc (X1b (es := List.map X1z [v5.1]) rfl (by first | rfl | (simp; done) | (simp; rfl) | (simp [h3, h4, h7]; done) | (simp [h3, h4, h7]; rfl) | (simp [h3, h4, h7, Ym, Yd]; done) | (simp [h3, h4, h7, Ym, Yd]; rfl)) (by first | rfl | (simp; done) | (simp; omega) | (simp [h3, h4, h7]; done) | (simp [h3, h4, h7]; omega)) (X0 Xfd [v5.1])) (cc .sc cn)))
 clear h; intro h4 h
 refine brE h ?_ ?_
 ·clear h; intro h8 h
  cases h
 clear h; intro h8 h
 obtain rfl := oj h
 refine rn tmD [.pure [(X0k a0)] (aI .i64 v1), Bf, Bf, Bf] rfl (by repeat' first|apply Ya|exact (pn (X0n _ _ h2) (cc (X19 (x := a0)) cn))|exact X00) ?_
 exact X8 rfl (X04 (cc (Zn X1z) (cc .sc cn)))
theorem X3b {Q : X0d -> St -> Mu -> Prop} {μ : Mu} (X2i : (List X9)) (X09 : X9) (Xoz : Int) : ∀ (n : Nat) (Xk7 : Int) (Xek : Int) (o : X10) (h : X0f X2i X09 Xoz n Xk7 Xek = some o)
  (C0 : ∀ (Xab : Int), o = X10.x0 Xab -> Xa Tryz.prog 49 0 Q (.exit (.exit 0)) [] ⟨fr [(0, (Lf (X2i.map X2))), (2, (AV.fn 51 [])), (4, (AV.ptr 0 0 0)), (8, (aI .i64 Xoz)), (9, (aI .i64 Xab))], hp ([(0, Ob [(X2 X09)] 11)]), 1⟩ μ),
  Xa Tryz.prog 49 0 Q (.loop (X7i 0 (X01 Tryz.f67))) [] ⟨fr [(0, (Lf (X2i.map X2))), (2, (AV.fn 51 [])), (4, (AV.ptr 0 0 0)), (8, (aI .i64 Xoz)), (9, (aI .i64 Xk7)), (10, (aI .i64 Xek))], hp ([(0, Ob [(X2 X09)] 11)]), 1⟩ μ := by
 intro n
 induction n with
 | zero => intro Xk7 Xek o h C0; cases h
 | succ n ih =>
  intro Xk7 Xek o h C0
  rw [X0f] at h
  refine Xa.round ?_
  refine brE h ?_ ?_
  ·clear h; intro h14 h
   refine X3 h ?_
   clear h; intro e15 h16 h
   try have qh16 := X18 h16
   refine X3 h ?_
   clear h; intro v17 h18 h
   refine brE h ?_ ?_
   ·clear h; intro h19 h
    refine rn tmD [Bt, .wrap, .wrap, .wrap, .el (X2 e15), .pure [(X2 e15), (X2 X09)] (aI .i64 v17), Bt, .wrap] rfl (by repeat' first|apply Ya|exact (pn (X6c _ _ _ h18) (cc (X28 (x := e15)) (cc (X28 (x := X09)) cn)))|exact X00) ?_
    exact wkT [] (ih  _ _ o h C0)
   clear h; intro h19 h
   refine rn tmD [Bt, .wrap, .wrap, .wrap, .el (X2 e15), .pure [(X2 e15), (X2 X09)] (aI .i64 v17), Bf] rfl (by repeat' first|apply Ya|exact (pn (X6c _ _ _ h18) (cc (X28 (x := e15)) (cc (X28 (x := X09)) cn)))|exact X00) ?_
   exact wkT [] (ih  _ _ o h C0)
  clear h; intro h14 h
  obtain rfl := oj h
  refine Xm tmD [Bf] ?_
  exact wkT [] (C0 _  rfl)
theorem X1a (a0 : (List X9)) (a1 : X9) (r : Int × Bool) (h : X0p a0 a1 = some r) : X16 Tryz.prog 67 [(Lf (a0.map X2)), (X2 a1), (AV.fn 51 [])] (AV.tup [(aI .i64 r.1), (aB r.2)]) := by
 refine X16.sym Xe Xs0 (nt := 49) rfl rfl ?_ (X6 .list (X6 (X3m _ _).1 (X6 Xkp X08)))
 unfold X0p at h
 refine X3 h ?_
 clear h; intro o20 h21 h
 refine Xm tmD [.el (aI .i64 (a0.length : Int))] ?_
 refine wkT [] (Xa.cut (X3b a0 a1 (a0.length : Int) _ _ _ _ h21 ?_))
 intro Xab eo20; subst eo20
 refine Xa.glue ?_
 try dsimp only at h
 refine X3 h ?_
 clear h; intro Xoc h33 h
 refine Xm tmD [.stop 8] ?_
 refine Xa.join (s' := ⟨fr [(6, (aI .i64 Xab)), (7, (aB Xoc))], hp ([]), 0⟩) ?_ (fun J => Xa.cut ?_)
 ·
  obtain rfl := oj h
  refine Xm tmD [] ?_
  exact X8 rfl (X04 (cc .sc (cc .sc cn)))
 clear h
 have h := h33
 refine brE h ?_ ?_
 ·clear h; intro h28 h
  refine X3 h ?_
  clear h; intro e29 h30 h
  try have qh30 := X18 h30
  refine X3 h ?_
  clear h; intro v31 h32 h
  obtain rfl := oj h
  refine rn tmD [.go true, .go true, .go true, .go true, .el (X2 e29), .go true, .go true, .go true, .pure [(X2 e29), (X2 a1)] (aI .i64 v31), .go true] rfl (by repeat' first|apply Ya|exact (pn (X6c _ _ _ h32) (cc (X28 (x := e29)) (cc (X28 (x := a1)) cn)))|exact X00) ?_
  exact wkT [] (Xa.glue J)
 clear h; intro h28 h
 obtain rfl := oj h
 refine Xm tmD [.go false, .go false, .go false, .go false, .go false, .go false, .go false, .go false, .go false] ?_
 exact wkT [] (Xa.glue J)
end Go.Av.Tryz