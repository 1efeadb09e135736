/- Printed by decomp.py: that the program computes the functions. -/
import Derived.Test.YtoadgjfleafafaaGreatDCert13A
set_option linter.all false

namespace Go.Av.Tryz
open Go.Proofs Go.D
set_option maxRecDepth 10000
set_option maxHeartbeats 40000000
theorem Xes (r : Bool) (h : X0s = some r) : X16 Tryz.prog 13 [] (aB r) := by
 refine X16.sym Xe Xt4 (nt := 28) rfl rfl ?_ X08
 unfold X0s at h
 refine X3 h ?_
 clear h; intro v1 h2 h
 refine X3 h ?_
 clear h; intro v3 h4 h
 refine X3 h ?_
 clear h; intro v5 h6 h
 refine X3 h ?_
 clear h; intro v7 h8 h
 refine X3 h ?_
 clear h; intro v9 h10 h
 refine X3 h ?_
 clear h; intro Xod h24 h
 refine rn tmD [.pure [] (X02 true v1), .pure [(aI .i64 0), (aI .i64 3), (aI .i64 0)] (Xc v3), .pure [(aI .i64 0), (aI .i64 12), (aI .i64 0)] (Xc v5), .pure [(aI .i64 10)] (Xc v7), .pure [(X02 false v1), (aI .i64 1), (Lf (List.map (aI .i64) [0, 0, 0])), (Lf (List.map Xc [v3, v5, v7]))] (AV.tup [(Xg true v9.1), (AV.list true (v9.2.1.map Xk)), (aB v9.2.2)]), .stop 2] rfl (by repeat' first|apply Ya|exact (pn (X4p _ h2) cn)|exact (pn (X2u _ _ _ _ h4) (cc .sc (cc .sc (cc .sc cn))))|exact (pn (X2u _ _ _ _ h6) (cc .sc (cc .sc (cc .sc cn))))|exact (pn (X2d _ _ h8) (cc .sc cn))|exact (X22.lent (X3s _ _ _ _ _ h10) (cc (Xc4 (o := true) (x := v1)) (cc .sc (cc (X1b (es := List.map (aI .i64) [0, 0, 0]) rfl (by first | rfl | (simp; done) | (simp; rfl) | (simp []; done) | (simp []; rfl) | (simp [Ym, Yd]; done) | (simp [Ym, Yd]; rfl)) (by first | rfl | (simp; done) | (simp; omega) | (simp []; done) | (simp []; omega)) (X0 (fun _ => X06) [0, 0, 0])) (cc (X1b (es := List.map Xc [v3, v5, v7]) rfl (by first | rfl | (simp; done) | (simp; rfl) | (simp []; done) | (simp []; rfl) | (simp [Ym, Yd]; done) | (simp [Ym, Yd]; rfl)) (by first | rfl | (simp; done) | (simp; omega) | (simp []; done) | (simp []; omega)) (X0 X39 [v3, v5, v7])) cn)))) (Xae (X6 (.agg (X6 .sc (X6 .sc (X6 .sc (X6 (Xx (X0 X0b _)) (X6 (Xx (X0 (fun _ => X06) _)) (X6 (Xx (X0 Xl _)) (X6 (Xx (X0 X0a _)) (X6 (Xx (X0 X07 _)) (X6 (Xx (X0 X03 _)) X08)))))))))) (X6 (Xx (X0 X07 _)) (X6 .sc X08)))))|exact X00) ?_
 refine Xa.join (s' := ⟨fr [(0, (aB Xod))], hp ([]), 0⟩) ?_ (fun J => Xa.cut ?_)
 ·
  obtain rfl := oj h
  refine Xm tmD [] ?_
  exact X8 rfl .sc
 clear h
 have h := h24
 refine brE h ?_ ?_
 ·clear h; intro h18 h
  refine X3 h ?_
  clear h; intro v19 h20 h
  refine X3 h ?_
  clear h; intro v21 h22 h
  refine rn tmD [.go true, .go true, .pure [(aI .i64 0), (aI .i64 0), (aI .i64 1)] (Xk v19), .go true, .go true, .pure [(Lf (v9.2.1.map Xk)), (Lf (List.map Xk [v19]))] (aB v21), .stop 999999] rfl (by repeat' first|apply Ya|exact (pn (X4p _ h2) cn)|exact (pn (X2u _ _ _ _ h4) (cc .sc (cc .sc (cc .sc cn))))|exact (pn (X2u _ _ _ _ h6) (cc .sc (cc .sc (cc .sc cn))))|exact (pn (X2d _ _ h8) (cc .sc cn))|exact (X22.lent (X3s _ _ _ _ _ h10) (cc (Xc4 (o := true) (x := v1)) (cc .sc (cc (X1b (es := List.map (aI .i64) [0, 0, 0]) rfl (by first | rfl | (simp; done) | (simp; rfl) | (simp []; done) | (simp []; rfl) | (simp [Ym, Yd]; done) | (simp [Ym, Yd]; rfl)) (by first | rfl | (simp; done) | (simp; omega) | (simp []; done) | (simp []; omega)) (X0 (fun _ => X06) [0, 0, 0])) (cc (X1b (es := List.map Xc [v3, v5, v7]) rfl (by first | rfl | (simp; done) | (simp; rfl) | (simp []; done) | (simp []; rfl) | (simp [Ym, Yd]; done) | (simp [Ym, Yd]; rfl)) (by first | rfl | (simp; done) | (simp; omega) | (simp []; done) | (simp []; omega)) (X0 X39 [v3, v5, v7])) cn)))) (Xae (X6 (.agg (X6 .sc (X6 .sc (X6 .sc (X6 (Xx (X0 X0b _)) (X6 (Xx (X0 (fun _ => X06) _)) (X6 (Xx (X0 Xl _)) (X6 (Xx (X0 X0a _)) (X6 (Xx (X0 X07 _)) (X6 (Xx (X0 X03 _)) X08)))))))))) (X6 (Xx (X0 X07 _)) (X6 .sc X08)))))|exact (pn (X3y _ _ _ _ h20) (cc .sc (cc .sc (cc .sc cn))))|exact (X22.lent (X8v _ _ _ h22) (cc (X4 (X0 X07 v9.2.1)) (cc (X1b (es := List.map Xk [v19]) rfl (by first | rfl | (simp; done) | (simp; rfl) | (simp [h18]; done) | (simp [h18]; rfl) | (simp [h18, Ym, Yd]; done) | (simp [h18, Ym, Yd]; rfl)) (by first | rfl | (simp; done) | (simp; omega) | (simp [h18]; done) | (simp [h18]; omega)) (X0 X07 [v19])) cn)) .sc)|exact X00) ?_
  refine brE h ?_ ?_
  ·clear h; intro h23 h
   obtain rfl := oj h
   refine rn tmD [.go true, .go true, .go true, .el (aI .i64 (v9.1.Store.length : Int)), .go true] rfl (by repeat' first|apply Ya|exact ((Xy h18 h23))|exact (X0o (Xy h18 h23))|exact (Xaa (Xy h18 h23))|exact X00) ?_
   exact wkT [] (Xa.glue J)
  clear h; intro h23 h
  obtain rfl := oj h
  refine rn tmD [.go false, .go false, .go false, .go false] rfl (by repeat' first|apply Ya|exact ((Xy h18 h23))|exact (X0o (Xy h18 h23))|exact (Xiy (Xy h18 h23))|exact X00) ?_
  exact wkT [] (Xa.glue J)
 clear h; intro h18 h
 obtain rfl := oj h
 refine rn tmD [.go false, .go false, .go false, .go false, .go false, .go false, .go false, .go false] rfl (by repeat' first|apply Ya|exact (pn (X4p _ h2) cn)|exact (pn (X2u _ _ _ _ h4) (cc .sc (cc .sc (cc .sc cn))))|exact (pn (X2u _ _ _ _ h6) (cc .sc (cc .sc (cc .sc cn))))|exact (pn (X2d _ _ h8) (cc .sc cn))|exact (X22.lent (X3s _ _ _ _ _ h10) (cc (Xc4 (o := true) (x := v1)) (cc .sc (cc (X1b (es := List.map (aI .i64) [0, 0, 0]) rfl (by first | rfl | (simp; done) | (simp; rfl) | (simp []; done) | (simp []; rfl) | (simp [Ym, Yd]; done) | (simp [Ym, Yd]; rfl)) (by first | rfl | (simp; done) | (simp; omega) | (simp []; done) | (simp []; omega)) (X0 (fun _ => X06) [0, 0, 0])) (cc (X1b (es := List.map Xc [v3, v5, v7]) rfl (by first | rfl | (simp; done) | (simp; rfl) | (simp []; done) | (simp []; rfl) | (simp [Ym, Yd]; done) | (simp [Ym, Yd]; rfl)) (by first | rfl | (simp; done) | (simp; omega) | (simp []; done) | (simp []; omega)) (X0 X39 [v3, v5, v7])) cn)))) (Xae (X6 (.agg (X6 .sc (X6 .sc (X6 .sc (X6 (Xx (X0 X0b _)) (X6 (Xx (X0 (fun _ => X06) _)) (X6 (Xx (X0 Xl _)) (X6 (Xx (X0 X0a _)) (X6 (Xx (X0 X07 _)) (X6 (Xx (X0 X03 _)) X08)))))))))) (X6 (Xx (X0 X07 _)) (X6 .sc X08)))))|exact ((X1s h18 rfl))|exact (X0o (X1s h18 rfl))|exact (Xiy (X1s h18 rfl))|exact X00) ?_
 exact wkT [] (Xa.glue J)
end Go.Av.Tryz