/- Printed by decomp.py: that the program computes the functions. -/
import Derived.Test.YtoadgjfleafafaaGreatDCert14A
set_option linter.all false

namespace Go.Av.Tryz
open Go.Proofs Go.D
set_option maxRecDepth 10000
set_option maxHeartbeats 40000000
attribute [local irreducible] X91 Xc8 X4w X0s X7k Xd Xj X6l X74 Xi X9z
theorem Xbu (r : Bool) (h : X85 = some r) (hr : r = true) : X16 Tryz.prog 3 [] (aB r) := by
 refine X16.sym Xe fn3 (nt := 323) rfl rfl ?_ X08
 unfold X85 at h
 refine X3 h ?_
 clear h; intro v1 h2 h
 refine X3 h ?_
 clear h; intro v3 h4 h
 refine X3 h ?_
 clear h; intro v5 h6 h
 refine rn tmD [.pure [(aI .i64 3), (aI .i64 1)] (AV.tup [(Xg true v1.1), (aI .i64 v1.2)]), .pure [(aI .i64 0), (aI .i64 5)] (AV.tup [(Xg true v3.1), (aI .i64 v3.2)]), .pure [(aI .i64 0), (aI .i64 0)] (AV.tup [(Xg true v5.1), (aI .i64 v5.2)])] rfl (by repeat' first|apply Ya|exact (pn (X6b _ _ _ h2) (cc .sc (cc .sc cn)))|exact (pn (X6b _ _ _ h4) (cc .sc (cc .sc cn)))|exact (pn (X6b _ _ _ h6) (cc .sc (cc .sc cn)))|exact X00) ?_
 refine X3 h ?_
 clear h; intro v7 h8 h
 refine X3 h ?_
 clear h; intro v9 h10 h
 refine X3 h ?_
 clear h; intro v11 h12 h
 refine rn tmD [.pure [(aI .i64 (-1)), (aI .i64 1)] (AV.tup [(Xg true v7.1), (aI .i64 v7.2)]), .pure [(aI .i64 2), (aI .i64 4)] (AV.tup [(Xg true v9.1), (aI .i64 v9.2)]), .pure [] (X02 true v11)] rfl (by repeat' first|apply Ya|exact (pn (X6b _ _ _ h8) (cc .sc (cc .sc cn)))|exact (pn (X6b _ _ _ h10) (cc .sc (cc .sc cn)))|exact (pn (X4p _ h12) cn)|exact X00) ?_
 refine X3 h ?_
 clear h; intro v13 h14 h
 refine X3 h ?_
 clear h; intro v15 h16 h
 refine X3 h ?_
 clear h; intro v17 h18 h
 refine X3 h ?_
 clear h; intro v19 h20 h
 refine X3 h ?_
 clear h; intro v21 h22 h
 refine X3 h ?_
 clear h; intro v23 h24 h
 refine X3 h ?_
 clear h; intro v25 h26 h
 refine rn tmD [.pure [] (X02 true v11), .pure [(aI .i64 1)] (Xc v13), .pure [(X02 false (X2n.mk 0 ([] : List X2r) ([] : List Int) false ([] : List X2r) (X48.mk 0 0 0) false 0)), (Xg false v9.1), (aI .i64 0), (Xc v13)] (AV.tup [(Xg true v15.1), (aI .i64 v15.2)]), .pure [(aI .i64 1)] (Xc v13), .pure [(X02 false (X2n.mk v11.Agg v11.Arg [0, 1] true v11.Where v11.Window v11.ByKey v11.Late)), (Xg false v9.1), (aI .i64 0), (Xc v13)] (AV.tup [(Xg true v17.1), (aI .i64 v17.2)]), .pure [(aI .i64 1)] (Xc v13), .pure [(X02 false v11), (Xg false (Xn.mk (GOp.mk 0 0) 0 ([] : List Xz) ([] : List Int) ([] : List X9) ([] : List Xq) ([] : List X0j) ([] : List Xb))), (aI .i64 0), (Xc v13)] (AV.tup [(Xg true v19.1), (aI .i64 v19.2)]), .pure [(aI .i64 1)] (Xc v13), .pure [(X02 false v11), (Xg false v9.1), (aI .i64 4), (Xc v13)] (AV.tup [(Xg true v21.1), (aI .i64 v21.2)]), .pure [(aI .i64 1)] (Xc v13), .pure [(X02 false v11), (Xg false v9.1), (aI .i64 (-1)), (Xc v13)] (AV.tup [(Xg true v23.1), (aI .i64 v23.2)]), .pure [(aI .i64 1)] (Xc v13), .pure [(X02 false v11), (Xg false (Xn.mk (GOp.mk 3 0) 0 ([] : List Xz) ([] : List Int) ([] : List X9) ([] : List Xq) ([] : List X0j) ([] : List Xb))), (aI .i64 0), (Xc v13)] (AV.tup [(Xg true v25.1), (aI .i64 v25.2)])] rfl (by repeat' first|apply Ya|exact (pn (X4p _ h12) cn)|exact (pn (X2d _ _ h14) (cc .sc cn))|exact (pn (X3e _ _ _ _ _ h16) (cc (X0i (cc .sc (cc .nils (cc .nils (cc .sc (cc .nils (cc .sc (cc .sc (cc .sc (cc .sc (cc .sc cn))))))))))) (cc (X0i (cc .sc (cc .sc (cc .sc (cc (X4 (X0 X0b v9.1.Pending)) (cc (X4 (X0 (fun _ => X06) v9.1.Marks)) (cc (X4 (X0 Xl v9.1.Store)) (cc (X4 (X0 X0a v9.1.Events)) (cc (X4 (X0 X07 v9.1.Rows)) (cc (X4 (X0 X03 v9.1.Late)) cn)))))))))) (cc .sc (cc (X0h (x := v13)) cn)))))|exact (X22.lent (X3e _ _ _ _ _ h18) (cc (X0i (cc .sc (cc (X4 (X0 Xh ((X2n.mk v11.Agg v11.Arg [0, 1] true v11.Where v11.Window v11.ByKey v11.Late).Arg))) (cc (X1b (es := List.map (aI .i64) ((X2n.mk v11.Agg v11.Arg [0, 1] true v11.Where v11.Window v11.ByKey v11.Late).Sources)) rfl (by first | rfl | (simp; done) | (simp; rfl) | (simp []; done) | (simp []; rfl) | (simp [Ym, Yd]; done) | (simp [Ym, Yd]; rfl)) (by first | rfl | (simp; done) | (simp; omega) | (simp []; done) | (simp []; omega)) (X0 (fun _ => X06) ((X2n.mk v11.Agg v11.Arg [0, 1] true v11.Where v11.Window v11.ByKey v11.Late).Sources))) (cc .sc (cc (X4 (X0 Xh ((X2n.mk v11.Agg v11.Arg [0, 1] true v11.Where v11.Window v11.ByKey v11.Late).Where))) (cc .sc (cc .sc (cc .sc (cc .sc (cc .sc cn))))))))))) (cc (X0i (cc .sc (cc .sc (cc .sc (cc (X4 (X0 X0b v9.1.Pending)) (cc (X4 (X0 (fun _ => X06) v9.1.Marks)) (cc (X4 (X0 Xl v9.1.Store)) (cc (X4 (X0 X0a v9.1.Events)) (cc (X4 (X0 X07 v9.1.Rows)) (cc (X4 (X0 X03 v9.1.Late)) cn)))))))))) (cc .sc (cc (X0h (x := v13)) cn)))) (Xae (X6 (.agg (X6 .sc (X6 .sc (X6 .sc (X6 (Xx (X0 X0b _)) (X6 (Xx (X0 (fun _ => X06) _)) (X6 (Xx (X0 Xl _)) (X6 (Xx (X0 X0a _)) (X6 (Xx (X0 X07 _)) (X6 (Xx (X0 X03 _)) X08)))))))))) (X6 .sc X08))))|exact (pn (X3e _ _ _ _ _ h20) (cc (X0i (cc .sc (cc (X4 (X0 Xh v11.Arg)) (cc (X4 (X0 (fun _ => X06) v11.Sources)) (cc .sc (cc (X4 (X0 Xh v11.Where)) (cc .sc (cc .sc (cc .sc (cc .sc (cc .sc cn))))))))))) (cc (X0i (cc .sc (cc .sc (cc .sc (cc .nils (cc .nils (cc .nils (cc .nils (cc .nils (cc .nils cn)))))))))) (cc .sc (cc (X0h (x := v13)) cn)))))|exact (pn (X3e _ _ _ _ _ h22) (cc (X0i (cc .sc (cc (X4 (X0 Xh v11.Arg)) (cc (X4 (X0 (fun _ => X06) v11.Sources)) (cc .sc (cc (X4 (X0 Xh v11.Where)) (cc .sc (cc .sc (cc .sc (cc .sc (cc .sc cn))))))))))) (cc (X0i (cc .sc (cc .sc (cc .sc (cc (X4 (X0 X0b v9.1.Pending)) (cc (X4 (X0 (fun _ => X06) v9.1.Marks)) (cc (X4 (X0 Xl v9.1.Store)) (cc (X4 (X0 X0a v9.1.Events)) (cc (X4 (X0 X07 v9.1.Rows)) (cc (X4 (X0 X03 v9.1.Late)) cn)))))))))) (cc .sc (cc (X0h (x := v13)) cn)))))|exact (pn (X3e _ _ _ _ _ h24) (cc (X0i (cc .sc (cc (X4 (X0 Xh v11.Arg)) (cc (X4 (X0 (fun _ => X06) v11.Sources)) (cc .sc (cc (X4 (X0 Xh v11.Where)) (cc .sc (cc .sc (cc .sc (cc .sc (cc .sc cn))))))))))) (cc (X0i (cc .sc (cc .sc (cc .sc (cc (X4 (X0 X0b v9.1.Pending)) (cc (X4 (X0 (fun _ => X06) v9.1.Marks)) (cc (X4 (X0 Xl v9.1.Store)) (cc (X4 (X0 X0a v9.1.Events)) (cc (X4 (X0 X07 v9.1.Rows)) (cc (X4 (X0 X03 v9.1.Late)) cn)))))))))) (cc .sc (cc (X0h (x := v13)) cn)))))|exact (pn (X3e _ _ _ _ _ h26) (cc (X0i (cc .sc (cc (X4 (X0 Xh v11.Arg)) (cc (X4 (X0 (fun _ => X06) v11.Sources)) (cc .sc (cc (X4 (X0 Xh v11.Where)) (cc .sc (cc .sc (cc .sc (cc .sc (cc .sc cn))))))))))) (cc (X0i (cc .sc (cc .sc (cc .sc (cc .nils (cc .nils (cc .nils (cc .nils (cc .nils (cc .nils cn)))))))))) (cc .sc (cc (X0h (x := v13)) cn)))))|exact X00) ?_
 refine X3 h ?_
 clear h; intro v27 h28 h
 refine rn tmD [.pure [(X02 false v11), (Xg false v9.1), (aI .i64 0), (Xc (Xt.mk 4 (Xb.mk 0 0 0) 0 (X0j.mk 0 (X14.mk 0 0) (V2.mk 0 0))))] (AV.tup [(Xg true v27.1), (aI .i64 v27.2)])] rfl (by repeat' first|apply Ya|exact (pn (X3e _ _ _ _ _ h28) (cc (X0i (cc .sc (cc (X4 (X0 Xh v11.Arg)) (cc (X4 (X0 (fun _ => X06) v11.Sources)) (cc .sc (cc (X4 (X0 Xh v11.Where)) (cc .sc (cc .sc (cc .sc (cc .sc (cc .sc cn))))))))))) (cc (X0i (cc .sc (cc .sc (cc .sc (cc (X4 (X0 X0b v9.1.Pending)) (cc (X4 (X0 (fun _ => X06) v9.1.Marks)) (cc (X4 (X0 Xl v9.1.Store)) (cc (X4 (X0 X0a v9.1.Events)) (cc (X4 (X0 X07 v9.1.Rows)) (cc (X4 (X0 X03 v9.1.Late)) cn)))))))))) (cc .sc (cc (X0h (x := (Xt.mk 4 (Xb.mk 0 0 0) 0 (X0j.mk 0 (X14.mk 0 0) (V2.mk 0 0))))) cn)))))|exact X00) ?_
 refine X3 h ?_
 clear h; intro v29 h30 h
 refine X3 h ?_
 clear h; intro v31 h32 h
 refine rn tmD [.pure [(Xg false v9.1)] (Xg true v29), .pure [(aI .i64 1)] (Xc v13), .pure [(aI .i64 1)] (Xc v13), .pure [(X02 false v11), (Xg false (Xn.mk v29.Op v29.Turn [(Xz.mk 0 v13)] v29.Marks v29.Store v29.Events v29.Rows v29.Late)), (aI .i64 0), (Xc v13)] (AV.tup [(Xg true v31.1), (aI .i64 v31.2)])] rfl (by repeat' first|apply Ya|exact (pn (Xfq _ _ h30) (cc (X0i (cc .sc (cc .sc (cc .sc (cc (X4 (X0 X0b v9.1.Pending)) (cc (X4 (X0 (fun _ => X06) v9.1.Marks)) (cc (X4 (X0 Xl v9.1.Store)) (cc (X4 (X0 X0a v9.1.Events)) (cc (X4 (X0 X07 v9.1.Rows)) (cc (X4 (X0 X03 v9.1.Late)) cn)))))))))) cn))|exact (pn (X2d _ _ h14) (cc .sc cn))|exact (X22.lent (X3e _ _ _ _ _ h32) (cc (X0i (cc .sc (cc (X4 (X0 Xh v11.Arg)) (cc (X4 (X0 (fun _ => X06) v11.Sources)) (cc .sc (cc (X4 (X0 Xh v11.Where)) (cc .sc (cc .sc (cc .sc (cc .sc (cc .sc cn))))))))))) (cc (X0i (cc .sc (cc .sc (cc .sc (cc (X1b (es := List.map Xp ((Xn.mk v29.Op v29.Turn [(Xz.mk 0 v13)] v29.Marks v29.Store v29.Events v29.Rows v29.Late).Pending)) rfl (by first | rfl | (simp; done) | (simp; rfl) | (simp []; done) | (simp []; rfl) | (simp [Ym, Yd]; done) | (simp [Ym, Yd]; rfl)) (by first | rfl | (simp; done) | (simp; omega) | (simp []; done) | (simp []; omega)) (X0 X0b ((Xn.mk v29.Op v29.Turn [(Xz.mk 0 v13)] v29.Marks v29.Store v29.Events v29.Rows v29.Late).Pending))) (cc (X4 (X0 (fun _ => X06) ((Xn.mk v29.Op v29.Turn [(Xz.mk 0 v13)] v29.Marks v29.Store v29.Events v29.Rows v29.Late).Marks))) (cc (X4 (X0 Xl ((Xn.mk v29.Op v29.Turn [(Xz.mk 0 v13)] v29.Marks v29.Store v29.Events v29.Rows v29.Late).Store))) (cc (X4 (X0 X0a ((Xn.mk v29.Op v29.Turn [(Xz.mk 0 v13)] v29.Marks v29.Store v29.Events v29.Rows v29.Late).Events))) (cc (X4 (X0 X07 ((Xn.mk v29.Op v29.Turn [(Xz.mk 0 v13)] v29.Marks v29.Store v29.Events v29.Rows v29.Late).Rows))) (cc (X4 (X0 X03 ((Xn.mk v29.Op v29.Turn [(Xz.mk 0 v13)] v29.Marks v29.Store v29.Events v29.Rows v29.Late).Late))) cn)))))))))) (cc .sc (cc (X0h (x := v13)) cn)))) (Xae (X6 (.agg (X6 .sc (X6 .sc (X6 .sc (X6 (Xx (X0 X0b _)) (X6 (Xx (X0 (fun _ => X06) _)) (X6 (Xx (X0 Xl _)) (X6 (Xx (X0 X0a _)) (X6 (Xx (X0 X07 _)) (X6 (Xx (X0 X03 _)) X08)))))))))) (X6 .sc X08))))|exact X00) ?_
 refine X3 h ?_
 clear h; intro v33 h34 h
 refine X3 h ?_
 clear h; intro v35 h36 h
 refine rn tmD [.pure [(X02 false v11), (X2 (X9.mk 0 (X14.mk 0 0) (V2.mk (X1f.mk 0 0 0 0) (X1f.mk 0 0 0 0))))] (AV.tup [(Xk v33.1), (aI .i64 v33.2)]), .pure [(X02 false v11), (X2 (X9.mk 0 (X14.mk 0 1) (V2.mk (X1f.mk 1 0 0 0) (X1f.mk 1 0 0 0))))] (AV.tup [(Xk v35.1), (aI .i64 v35.2)])] rfl (by repeat' first|apply Ya|exact (pn (Xc7 _ _ _ h34) (cc (X0i (cc .sc (cc (X4 (X0 Xh v11.Arg)) (cc (X4 (X0 (fun _ => X06) v11.Sources)) (cc .sc (cc (X4 (X0 Xh v11.Where)) (cc .sc (cc .sc (cc .sc (cc .sc (cc .sc cn))))))))))) (cc (X28 (x := (X9.mk 0 (X14.mk 0 0) (V2.mk (X1f.mk 0 0 0 0) (X1f.mk 0 0 0 0))))) cn)))|exact (pn (Xc7 _ _ _ h36) (cc (X0i (cc .sc (cc (X4 (X0 Xh v11.Arg)) (cc (X4 (X0 (fun _ => X06) v11.Sources)) (cc .sc (cc (X4 (X0 Xh v11.Where)) (cc .sc (cc .sc (cc .sc (cc .sc (cc .sc cn))))))))))) (cc (X28 (x := (X9.mk 0 (X14.mk 0 1) (V2.mk (X1f.mk 1 0 0 0) (X1f.mk 1 0 0 0))))) cn)))|exact X00) ?_
 refine X3 h ?_
 clear h; intro v37 h38 h
 refine brE h ?_ ?_
 ·clear h; intro h39 h
  refine brE h ?_ ?_
  ·clear h; intro h40 h
   refine brE h ?_ ?_
   ·clear h; intro h41 h
    refine brE h ?_ ?_
    ·clear h; intro h42 h
     refine brE h ?_ ?_
     ·clear h; intro h43 h
      refine brE h ?_ ?_
      ·clear h; intro h44 h
       refine brE h ?_ ?_
       ·clear h; intro h45 h
        refine brE h ?_ ?_
        ·clear h; intro h46 h
         refine brE h ?_ ?_
         ·clear h; intro h47 h
          refine brE h ?_ ?_
          ·clear h; intro h48 h
           refine brE h ?_ ?_
           ·clear h; intro h49 h
            refine brE h ?_ ?_
            ·clear h; intro h50 h
             refine brE h ?_ ?_
             ·clear h; intro h51 h
              refine brE h ?_ ?_
              ·clear h; intro h52 h
               refine brE h ?_ ?_
               ·clear h; intro h53 h
                refine brE h ?_ ?_
                ·clear h; intro h54 h
                 refine brE h ?_ ?_
                 ·clear h; intro h55 h
                  refine brE h ?_ ?_
                  ·clear h; intro h56 h
                   refine X3 h ?_
                   clear h; intro v57 h58 h
                   refine X3 h ?_
                   clear h; intro v59 h60 h
                   refine X3 h ?_
                   clear h; intro v61 h62 h
                   refine X3 h ?_
                   clear h; intro v63 h64 h
                   refine X3 h ?_
                   clear h; intro v65 h66 h
                   refine X3 h ?_
                   clear h; intro v67 h68 h
                   refine X3 h ?_
                   clear h; intro v69 h70 h
                   refine X3 h ?_
                   clear h; intro v71 h72 h
                   refine X3 h ?_
                   clear h; intro v73 h74 h
                   refine X3 h ?_
                   clear h; intro v75 h76 h
                   refine X3 h ?_
                   clear h; intro v77 h78 h
                   refine X3 h ?_
                   clear h; intro v79 h80 h
                   refine X3 h ?_
                   clear h; intro v81 h82 h
                   refine rn tmD [.pure [(X02 false v11), (X2 (X9.mk 4 (X14.mk 0 10) (V2.mk (X1f.mk 3 6 1 3) (X1f.mk 0 0 0 0))))] (AV.tup [(Xk v37.1), (aI .i64 v37.2)]), .go true, .go true, .go true, .go true, .go true, .go true, .go true, .go true, .go true, .go true, .go true, .el (aI .i64 (v9.1.Marks.length : Int)), .go true, .go true, .go true, .go true, .go true, .go true, .go true, .go true, .go true, .go true, .go true, .go true, .go true, .go true, .go true, .go true, .go true, .go true, .go true, .go true, .go true, .go true, .go true, .go true, .go true, .go true, .go true, .go true, .go true, .pure [(aI .i64 4), (aI .i64 0), (aI .i64 3)] (Xk v57), .go true, .pure [(aI .i64 1), (aI .i64 5), (aI .i64 0)] (Xc v59), .pure [(aI .i64 0), (aI .i64 5), (aI .i64 0)] (Xc v61), .pure [(aI .i64 1), (aI .i64 25), (aI .i64 0)] (Xc v63), .pure [(aI .i64 30)] (Xc v65), .pure [(aI .i64 9)] (Xc v67), .pure [(aI .i64 10)] (Xc v69), .pure [(X02 false v11), (aI .i64 2), (Lf (List.map (aI .i64) [0, 1, 0, 0, 1, 1])), (Lf (List.map Xc [v59, v61, v63, v65, v67, v69]))] (AV.tup [(Xg true v71.1), (AV.list true (v71.2.1.map Xk)), (aB v71.2.2)]), .pure [(aI .i64 1), (aI .i64 5), (aI .i64 0)] (Xc v59), .pure [(aI .i64 0), (aI .i64 5), (aI .i64 0)] (Xc v61), .pure [(aI .i64 1), (aI .i64 25), (aI .i64 0)] (Xc v63), .pure [(aI .i64 30)] (Xc v65), .pure [(aI .i64 9)] (Xc v67), .pure [(aI .i64 10)] (Xc v69), .pure [(aI .i64 9223372036854775807)] (Xc v73), .pure [(X02 false v11), (aI .i64 2), (Lf (List.map (aI .i64) [0, 1, 0, 0, 1, 1, 1])), (Lf (List.map Xc [v59, v61, v63, v65, v67, v69, v73]))] (AV.tup [(Xg true v75.1), (AV.list true (v75.2.1.map Xk)), (aB v75.2.2)]), .pure [(aI .i64 0), (aI .i64 (-1)), (aI .i64 0)] (Xc v77), .pure [(aI .i64 (-1))] (Xc v79), .pure [(X02 false v11), (aI .i64 1), (Lf (List.map (aI .i64) [0, 0])), (Lf (List.map Xc [v77, v79]))] (AV.tup [(Xg true v81.1), (AV.list true (v81.2.1.map Xk)), (aB v81.2.2)])] rfl (by repeat' first | refine Ya ?_ ?_ | (simp only [h39, h40, h41, h42, h43, h44, h45, h46, h47, h48, h49, h50, h51, h52, h53, h54, h55, h56, cond_true, cond_false, Bool.not_true, Bool.not_false]; done) | (simp only [h39, h40, h41, h42, h43, h44, h45, h46, h47, h48, h49, h50, h51, h52, h53, h54, h55, h56, cond_true, cond_false, Bool.not_true, Bool.not_false]; simp_all [X4z, X43, X7m, X8d, X3a, X44, X9s, X55, X54, X8f, X8e, X6n, X7l, X4q, Xe5]; done)|exact (pn (Xc7 _ _ _ h38) (cc (X0i (cc .sc (cc (X4 (X0 Xh v11.Arg)) (cc (X4 (X0 (fun _ => X06) v11.Sources)) (cc .sc (cc (X4 (X0 Xh v11.Where)) (cc .sc (cc .sc (cc .sc (cc .sc (cc .sc cn))))))))))) (cc (X28 (x := (X9.mk 4 (X14.mk 0 10) (V2.mk (X1f.mk 3 6 1 3) (X1f.mk 0 0 0 0))))) cn)))|exact (pn (X3y _ _ _ _ h58) (cc .sc (cc .sc (cc .sc cn))))|exact (pn (X2u _ _ _ _ h60) (cc .sc (cc .sc (cc .sc cn))))|exact (pn (X2u _ _ _ _ h62) (cc .sc (cc .sc (cc .sc cn))))|exact (pn (X2u _ _ _ _ h64) (cc .sc (cc .sc (cc .sc cn))))|exact (pn (X2d _ _ h66) (cc .sc cn))|exact (pn (X2d _ _ h68) (cc .sc cn))|exact (pn (X2d _ _ h70) (cc .sc cn))|exact (X22.lent (X3s _ _ _ _ _ h72) (cc (X0i (cc .sc (cc (X4 (X0 Xh v11.Arg)) (cc (X4 (X0 (fun _ => X06) v11.Sources)) (cc .sc (cc (X4 (X0 Xh v11.Where)) (cc .sc (cc .sc (cc .sc (cc .sc (cc .sc cn))))))))))) (cc .sc (cc (X1b (es := List.map (aI .i64) [0, 1, 0, 0, 1, 1]) rfl (by first | rfl | (simp; done) | (simp; rfl) | (simp [h39, h40, h41, h42, h43, h44, h45, h46, h47, h48, h49, h50, h51, h52, h53, h54, h55, h56]; done) | (simp [h39, h40, h41, h42, h43, h44, h45, h46, h47, h48, h49, h50, h51, h52, h53, h54, h55, h56]; rfl) | (simp [h39, h40, h41, h42, h43, h44, h45, h46, h47, h48, h49, h50, h51, h52, h53, h54, h55, h56, Ym, Yd]; done) | (simp [h39, h40, h41, h42, h43, h44, h45, h46, h47, h48, h49, h50, h51, h52, h53, h54, h55, h56, Ym, Yd]; rfl)) (by first | rfl | (simp; done) | (simp; omega) | (simp [h39, h40, h41, h42, h43, h44, h45, h46, h47, h48, h49, h50, h51, h52, h53, h54, h55, h56]; done) | (simp [h39, h40, h41, h42, h43, h44, h45, h46, h47, h48, h49, h50, h51, h52, h53, h54, h55, h56]; omega)) (X0 (fun _ => X06) [0, 1, 0, 0, 1, 1])) (cc (X1b (es := List.map Xc [v59, v61, v63, v65, v67, v69]) rfl (by first | rfl | (simp; done) | (simp; rfl) | (simp [h39, h40, h41, h42, h43, h44, h45, h46, h47, h48, h49, h50, h51, h52, h53, h54, h55, h56]; done) | (simp [h39, h40, h41, h42, h43, h44, h45, h46, h47, h48, h49, h50, h51, h52, h53, h54, h55, h56]; rfl) | (simp [h39, h40, h41, h42, h43, h44, h45, h46, h47, h48, h49, h50, h51, h52, h53, h54, h55, h56, Ym, Yd]; done) | (simp [h39, h40, h41, h42, h43, h44, h45, h46, h47, h48, h49, h50, h51, h52, h53, h54, h55, h56, Ym, Yd]; rfl)) (by first | rfl | (simp; done) | (simp; omega) | (simp [h39, h40, h41, h42, h43, h44, h45, h46, h47, h48, h49, h50, h51, h52, h53, h54, h55, h56]; done) | (simp [h39, h40, h41, h42, h43, h44, h45, h46, h47, h48, h49, h50, h51, h52, h53, h54, h55, h56]; omega)) (X0 X39 [v59, v61, v63, v65, v67, v69])) cn)))) (Xae (X6 (.agg (X6 .sc (X6 .sc (X6 .sc (X6 (Xx (X0 X0b _)) (X6 (Xx (X0 (fun _ => X06) _)) (X6 (Xx (X0 Xl _)) (X6 (Xx (X0 X0a _)) (X6 (Xx (X0 X07 _)) (X6 (Xx (X0 X03 _)) X08)))))))))) (X6 (Xx (X0 X07 _)) (X6 .sc X08)))))|exact (pn (X2d _ _ h74) (cc .sc cn))|exact (X22.lent (X3s _ _ _ _ _ h76) (cc (X0i (cc .sc (cc (X4 (X0 Xh v11.Arg)) (cc (X4 (X0 (fun _ => X06) v11.Sources)) (cc .sc (cc (X4 (X0 Xh v11.Where)) (cc .sc (cc .sc (cc .sc (cc .sc (cc .sc cn))))))))))) (cc .sc (cc (X1b (es := List.map (aI .i64) [0, 1, 0, 0, 1, 1, 1]) rfl (by first | rfl | (simp; done) | (simp; rfl) | (simp [h39, h40, h41, h42, h43, h44, h45, h46, h47, h48, h49, h50, h51, h52, h53, h54, h55, h56]; done) | (simp [h39, h40, h41, h42, h43, h44, h45, h46, h47, h48, h49, h50, h51, h52, h53, h54, h55, h56]; rfl) | (simp [h39, h40, h41, h42, h43, h44, h45, h46, h47, h48, h49, h50, h51, h52, h53, h54, h55, h56, Ym, Yd]; done) | (simp [h39, h40, h41, h42, h43, h44, h45, h46, h47, h48, h49, h50, h51, h52, h53, h54, h55, h56, Ym, Yd]; rfl)) (by first | rfl | (simp; done) | (simp; omega) | (simp [h39, h40, h41, h42, h43, h44, h45, h46, h47, h48, h49, h50, h51, h52, h53, h54, h55, h56]; done) | (simp [h39, h40, h41, h42, h43, h44, h45, h46, h47, h48, h49, h50, h51, h52, h53, h54, h55, h56]; omega)) (X0 (fun _ => X06) [0, 1, 0, 0, 1, 1, 1])) (cc (X1b (es := List.map Xc [v59, v61, v63, v65, v67, v69, v73]) rfl (by first | rfl | (simp; done) | (simp; rfl) | (simp [h39, h40, h41, h42, h43, h44, h45, h46, h47, h48, h49, h50, h51, h52, h53, h54, h55, h56]; done) | (simp [h39, h40, h41, h42, h43, h44, h45, h46, h47, h48, h49, h50, h51, h52, h53, h54, h55, h56]; rfl) | (simp [h39, h40, h41, h42, h43, h44, h45, h46, h47, h48, h49, h50, h51, h52, h53, h54, h55, h56, Ym, Yd]; done) | (simp [h39, h40, h41, h42, h43, h44, h45, h46, h47, h48, h49, h50, h51, h52, h53, h54, h55, h56, Ym, Yd]; rfl)) (by first | rfl | (simp; done) | (simp; omega) | (simp [h39, h40, h41, h42, h43, h44, h45, h46, h47, h48, h49, h50, h51, h52, h53, h54, h55, h56]; done) | (simp [h39, h40, h41, h42, h43, h44, h45, h46, h47, h48, h49, h50, h51, h52, h53, h54, h55, h56]; omega)) (X0 X39 [v59, v61, v63, v65, v67, v69, v73])) cn)))) (Xae (X6 (.agg (X6 .sc (X6 .sc (X6 .sc (X6 (Xx (X0 X0b _)) (X6 (Xx (X0 (fun _ => X06) _)) (X6 (Xx (X0 Xl _)) (X6 (Xx (X0 X0a _)) (X6 (Xx (X0 X07 _)) (X6 (Xx (X0 X03 _)) X08)))))))))) (X6 (Xx (X0 X07 _)) (X6 .sc X08)))))|exact (pn (X2u _ _ _ _ h78) (cc .sc (cc .sc (cc .sc cn))))|exact (pn (X2d _ _ h80) (cc .sc cn))|exact (X22.lent (X3s _ _ _ _ _ h82) (cc (X0i (cc .sc (cc (X4 (X0 Xh v11.Arg)) (cc (X4 (X0 (fun _ => X06) v11.Sources)) (cc .sc (cc (X4 (X0 Xh v11.Where)) (cc .sc (cc .sc (cc .sc (cc .sc (cc .sc cn))))))))))) (cc .sc (cc (X1b (es := List.map (aI .i64) [0, 0]) rfl (by first | rfl | (simp; done) | (simp; rfl) | (simp [h39, h40, h41, h42, h43, h44, h45, h46, h47, h48, h49, h50, h51, h52, h53, h54, h55, h56]; done) | (simp [h39, h40, h41, h42, h43, h44, h45, h46, h47, h48, h49, h50, h51, h52, h53, h54, h55, h56]; rfl) | (simp [h39, h40, h41, h42, h43, h44, h45, h46, h47, h48, h49, h50, h51, h52, h53, h54, h55, h56, Ym, Yd]; done) | (simp [h39, h40, h41, h42, h43, h44, h45, h46, h47, h48, h49, h50, h51, h52, h53, h54, h55, h56, Ym, Yd]; rfl)) (by first | rfl | (simp; done) | (simp; omega) | (simp [h39, h40, h41, h42, h43, h44, h45, h46, h47, h48, h49, h50, h51, h52, h53, h54, h55, h56]; done) | (simp [h39, h40, h41, h42, h43, h44, h45, h46, h47, h48, h49, h50, h51, h52, h53, h54, h55, h56]; omega)) (X0 (fun _ => X06) [0, 0])) (cc (X1b (es := List.map Xc [v77, v79]) rfl (by first | rfl | (simp; done) | (simp; rfl) | (simp [h39, h40, h41, h42, h43, h44, h45, h46, h47, h48, h49, h50, h51, h52, h53, h54, h55, h56]; done) | (simp [h39, h40, h41, h42, h43, h44, h45, h46, h47, h48, h49, h50, h51, h52, h53, h54, h55, h56]; rfl) | (simp [h39, h40, h41, h42, h43, h44, h45, h46, h47, h48, h49, h50, h51, h52, h53, h54, h55, h56, Ym, Yd]; done) | (simp [h39, h40, h41, h42, h43, h44, h45, h46, h47, h48, h49, h50, h51, h52, h53, h54, h55, h56, Ym, Yd]; rfl)) (by first | rfl | (simp; done) | (simp; omega) | (simp [h39, h40, h41, h42, h43, h44, h45, h46, h47, h48, h49, h50, h51, h52, h53, h54, h55, h56]; done) | (simp [h39, h40, h41, h42, h43, h44, h45, h46, h47, h48, h49, h50, h51, h52, h53, h54, h55, h56]; omega)) (X0 X39 [v77, v79])) cn)))) (Xae (X6 (.agg (X6 .sc (X6 .sc (X6 .sc (X6 (Xx (X0 X0b _)) (X6 (Xx (X0 (fun _ => X06) _)) (X6 (Xx (X0 Xl _)) (X6 (Xx (X0 X0a _)) (X6 (Xx (X0 X07 _)) (X6 (Xx (X0 X03 _)) X08)))))))))) (X6 (Xx (X0 X07 _)) (X6 .sc X08)))))|exact X00) ?_
                   refine X3 h ?_
                   clear h; intro v83 h84 h
                   refine brE h ?_ ?_
                   ·clear h; intro h85 h
                    refine brE h ?_ ?_
                    ·clear h; intro h86 h
                     refine brE h ?_ ?_
                     ·clear h; intro h87 h
                      refine X3 h ?_
                      clear h; intro v88 h89 h
                      refine X3 h ?_
                      clear h; intro v90 h91 h
                      refine rn tmD [.pure [] (aB v83), .go true, .go true, .go true, .go true, .pure [(aI .i64 0), (aI .i64 0), (aI .i64 1)] (Xk v88), .go true, .pure [(aI .i64 1), (aI .i64 0), (aI .i64 1)] (Xk v90), .go true, .stop 999999] rfl (by repeat' first | refine Ya ?_ ?_ | (simp only [h39, h40, h41, h42, h43, h44, h45, h46, h47, h48, h49, h50, h51, h52, h53, h54, h55, h56, h85, h86, h87, cond_true, cond_false, Bool.not_true, Bool.not_false]; done) | (simp only [h39, h40, h41, h42, h43, h44, h45, h46, h47, h48, h49, h50, h51, h52, h53, h54, h55, h56, h85, h86, h87, cond_true, cond_false, Bool.not_true, Bool.not_false]; simp_all [X4z, X43, X7m, X8d, X3a, X44, X9s, X55, X54, X8f, X8e, X6n, X7l, X4q, Xe5]; done)|exact (pn (Xes _ h84) cn)|exact (pn (X3y _ _ _ _ h89) (cc .sc (cc .sc (cc .sc cn))))|exact (pn (X3y _ _ _ _ h91) (cc .sc (cc .sc (cc .sc cn))))|exact X00) ?_
                      refine X3 h ?_
                      clear h; intro v92 h93 h
                      refine brE h ?_ ?_
                      ·clear h; intro h94 h
                       refine brE h ?_ ?_
                       ·clear h; intro h95 h
                        refine brE h ?_ ?_
                        ·clear h; intro h96 h
                         refine rn tmD [.go true, .pure [(Lf (v71.2.1.map Xk)), (Lf (List.map Xk [v88, v90]))] (aB v92), .go true, .go true, .go true, .el (aI .i64 (v71.1.Store.length : Int)), .go true, .go true, .go true, .stop 999999] rfl (by repeat' first | refine Ya ?_ ?_ | (simp only [h39, h40, h41, h42, h43, h44, h45, h46, h47, h48, h49, h50, h51, h52, h53, h54, h55, h56, h85, h86, h87, h94, h95, h96, cond_true, cond_false, Bool.not_true, Bool.not_false]; done) | (simp only [h39, h40, h41, h42, h43, h44, h45, h46, h47, h48, h49, h50, h51, h52, h53, h54, h55, h56, h85, h86, h87, h94, h95, h96, cond_true, cond_false, Bool.not_true, Bool.not_false]; simp_all [X4z, X43, X7m, X8d, X3a, X44, X9s, X55, X54, X8f, X8e, X6n, X7l, X4q, Xe5]; done)|exact (X22.lent (X8v _ _ _ h93) (cc (X4 (X0 X07 v71.2.1)) (cc (X1b (es := List.map Xk [v88, v90]) rfl (by first | rfl | (simp; done) | (simp; rfl) | (simp [h39, h40, h41, h42, h43, h44, h45, h46, h47, h48, h49, h50, h51, h52, h53, h54, h55, h56, h85, h86, h87]; done) | (simp [h39, h40, h41, h42, h43, h44, h45, h46, h47, h48, h49, h50, h51, h52, h53, h54, h55, h56, h85, h86, h87]; rfl) | (simp [h39, h40, h41, h42, h43, h44, h45, h46, h47, h48, h49, h50, h51, h52, h53, h54, h55, h56, h85, h86, h87, Ym, Yd]; done) | (simp [h39, h40, h41, h42, h43, h44, h45, h46, h47, h48, h49, h50, h51, h52, h53, h54, h55, h56, h85, h86, h87, Ym, Yd]; rfl)) (by first | rfl | (simp; done) | (simp; omega) | (simp [h39, h40, h41, h42, h43, h44, h45, h46, h47, h48, h49, h50, h51, h52, h53, h54, h55, h56, h85, h86, h87]; done) | (simp [h39, h40, h41, h42, h43, h44, h45, h46, h47, h48, h49, h50, h51, h52, h53, h54, h55, h56, h85, h86, h87]; omega)) (X0 X07 [v88, v90])) cn)) .sc)|exact X00) ?_
                         refine X3 h ?_
                         clear h; intro v97 h98 h
                         refine rn tmD [.go true, .pure [(aI .i64 0), (aI .i64 0), (aI .i64 1)] (Xk v88), .go true, .pure [(aI .i64 1), (aI .i64 0), (aI .i64 1)] (Xk v90), .go true, .pure [(aI .i64 1), (aI .i64 20), (aI .i64 1)] (Xk v97), .go true, .stop 999999] rfl (by repeat' first | refine Ya ?_ ?_ | (simp only [h39, h40, h41, h42, h43, h44, h45, h46, h47, h48, h49, h50, h51, h52, h53, h54, h55, h56, h85, h86, h87, h94, h95, h96, cond_true, cond_false, Bool.not_true, Bool.not_false]; done) | (simp only [h39, h40, h41, h42, h43, h44, h45, h46, h47, h48, h49, h50, h51, h52, h53, h54, h55, h56, h85, h86, h87, h94, h95, h96, cond_true, cond_false, Bool.not_true, Bool.not_false]; simp_all [X4z, X43, X7m, X8d, X3a, X44, X9s, X55, X54, X8f, X8e, X6n, X7l, X4q, Xe5]; done)|exact (pn (X3y _ _ _ _ h89) (cc .sc (cc .sc (cc .sc cn))))|exact (pn (X3y _ _ _ _ h91) (cc .sc (cc .sc (cc .sc cn))))|exact (pn (X3y _ _ _ _ h98) (cc .sc (cc .sc (cc .sc cn))))|exact X00) ?_
                         refine X3 h ?_
                         clear h; intro v99 h100 h
                         refine brE h ?_ ?_
                         ·clear h; intro h101 h
                          refine brE h ?_ ?_
                          ·clear h; intro h102 h
                           refine brE h ?_ ?_
                           ·clear h; intro h103 h
                            obtain rfl := oj h
                            refine rn tmD [.go true, .pure [(Lf (v75.2.1.map Xk)), (Lf (List.map Xk [v88, v90, v97]))] (aB v99), .go true, .go true, .go true, .el (aI .i64 (v75.1.Store.length : Int)), .go true, .go true, .go true, .go true, .el (aI .i64 (v81.2.1.length : Int)), .go true] rfl (by repeat' first | refine Ya ?_ ?_ | (simp only [h39, h40, h41, h42, h43, h44, h45, h46, h47, h48, h49, h50, h51, h52, h53, h54, h55, h56, h85, h86, h87, h94, h95, h96, h101, h102, h103, cond_true, cond_false, Bool.not_true, Bool.not_false]; done) | (simp only [h39, h40, h41, h42, h43, h44, h45, h46, h47, h48, h49, h50, h51, h52, h53, h54, h55, h56, h85, h86, h87, h94, h95, h96, h101, h102, h103, cond_true, cond_false, Bool.not_true, Bool.not_false]; simp_all [X4z, X43, X7m, X8d, X3a, X44, X9s, X55, X54, X8f, X8e, X6n, X7l, X4q, Xe5]; done)|exact (X22.lent (X8v _ _ _ h100) (cc (X4 (X0 X07 v75.2.1)) (cc (X1b (es := List.map Xk [v88, v90, v97]) rfl (by first | rfl | (simp; done) | (simp; rfl) | (simp [h39, h40, h41, h42, h43, h44, h45, h46, h47, h48, h49, h50, h51, h52, h53, h54, h55, h56, h85, h86, h87, h94, h95, h96]; done) | (simp [h39, h40, h41, h42, h43, h44, h45, h46, h47, h48, h49, h50, h51, h52, h53, h54, h55, h56, h85, h86, h87, h94, h95, h96]; rfl) | (simp [h39, h40, h41, h42, h43, h44, h45, h46, h47, h48, h49, h50, h51, h52, h53, h54, h55, h56, h85, h86, h87, h94, h95, h96, Ym, Yd]; done) | (simp [h39, h40, h41, h42, h43, h44, h45, h46, h47, h48, h49, h50, h51, h52, h53, h54, h55, h56, h85, h86, h87, h94, h95, h96, Ym, Yd]; rfl)) (by first | rfl | (simp; done) | (simp; omega) | (simp [h39, h40, h41, h42, h43, h44, h45, h46, h47, h48, h49, h50, h51, h52, h53, h54, h55, h56, h85, h86, h87, h94, h95, h96]; done) | (simp [h39, h40, h41, h42, h43, h44, h45, h46, h47, h48, h49, h50, h51, h52, h53, h54, h55, h56, h85, h86, h87, h94, h95, h96]; omega)) (X0 X07 [v88, v90, v97])) cn)) .sc)|exact X00) ?_
                            exact X8 rfl (Xe8 (by first | rfl | (simp [*]; done)))
                           clear h; intro h103 h
                           obtain rfl := oj h
                           simp [h39, h40, h41, h42, h43, h44, h45, h46, h47, h48, h49, h50, h51, h52, h53, h54, h55, h56, h85, h86, h87, h94, h95, h96, h101, h102, h103] at hr
                          clear h; intro h102 h
                          obtain rfl := oj h
                          simp [h39, h40, h41, h42, h43, h44, h45, h46, h47, h48, h49, h50, h51, h52, h53, h54, h55, h56, h85, h86, h87, h94, h95, h96, h101, h102] at hr
                         clear h; intro h101 h
                         obtain rfl := oj h
                         simp [h39, h40, h41, h42, h43, h44, h45, h46, h47, h48, h49, h50, h51, h52, h53, h54, h55, h56, h85, h86, h87, h94, h95, h96, h101] at hr
                        clear h; intro h96 h
                        obtain rfl := oj h
                        simp [h39, h40, h41, h42, h43, h44, h45, h46, h47, h48, h49, h50, h51, h52, h53, h54, h55, h56, h85, h86, h87, h94, h95, h96] at hr
                       clear h; intro h95 h
                       obtain rfl := oj h
                       simp [h39, h40, h41, h42, h43, h44, h45, h46, h47, h48, h49, h50, h51, h52, h53, h54, h55, h56, h85, h86, h87, h94, h95] at hr
                      clear h; intro h94 h
                      obtain rfl := oj h
                      simp [h39, h40, h41, h42, h43, h44, h45, h46, h47, h48, h49, h50, h51, h52, h53, h54, h55, h56, h85, h86, h87, h94] at hr
                     clear h; intro h87 h
                     obtain rfl := oj h
                     simp [h39, h40, h41, h42, h43, h44, h45, h46, h47, h48, h49, h50, h51, h52, h53, h54, h55, h56, h85, h86, h87] at hr
                    clear h; intro h86 h
                    obtain rfl := oj h
                    simp [h39, h40, h41, h42, h43, h44, h45, h46, h47, h48, h49, h50, h51, h52, h53, h54, h55, h56, h85, h86] at hr
                   clear h; intro h85 h
                   obtain rfl := oj h
                   simp [h39, h40, h41, h42, h43, h44, h45, h46, h47, h48, h49, h50, h51, h52, h53, h54, h55, h56, h85] at hr
                  clear h; intro h56 h
                  refine X3 h ?_
                  clear h; intro v104 h105 h
                  refine X3 h ?_
                  clear h; intro v106 h107 h
                  refine X3 h ?_
                  clear h; intro v108 h109 h
                  refine X3 h ?_
                  clear h; intro v110 h111 h
                  refine X3 h ?_
                  clear h; intro v112 h113 h
                  refine X3 h ?_
                  clear h; intro v114 h115 h
                  refine X3 h ?_
                  clear h; intro v116 h117 h
                  refine X3 h ?_
                  clear h; intro v118 h119 h
                  refine X3 h ?_
                  clear h; intro v120 h121 h
                  refine X3 h ?_
                  clear h; intro v122 h123 h
                  refine X3 h ?_
                  clear h; intro v124 h125 h
                  refine X3 h ?_
                  clear h; intro v126 h127 h
                  refine X3 h ?_
                  clear h; intro v128 h129 h
                  refine brE h ?_ ?_
                  ·clear h; intro h130 h
                   obtain rfl := oj h
                   simp [h39, h40, h41, h42, h43, h44, h45, h46, h47, h48, h49, h50, h51, h52, h53, h54, h55, h56, h130] at hr
                  clear h; intro h130 h
                  obtain rfl := oj h
                  simp [h39, h40, h41, h42, h43, h44, h45, h46, h47, h48, h49, h50, h51, h52, h53, h54, h55, h56, h130] at hr
                 clear h; intro h55 h
                 refine X3 h ?_
                 clear h; intro v131 h132 h
                 refine X3 h ?_
                 clear h; intro v133 h134 h
                 refine X3 h ?_
                 clear h; intro v135 h136 h
                 refine X3 h ?_
                 clear h; intro v137 h138 h
                 refine X3 h ?_
                 clear h; intro v139 h140 h
                 refine X3 h ?_
                 clear h; intro v141 h142 h
                 refine X3 h ?_
                 clear h; intro v143 h144 h
                 refine X3 h ?_
                 clear h; intro v145 h146 h
                 refine X3 h ?_
                 clear h; intro v147 h148 h
                 refine X3 h ?_
                 clear h; intro v149 h150 h
                 refine X3 h ?_
                 clear h; intro v151 h152 h
                 refine X3 h ?_
                 clear h; intro v153 h154 h
                 refine X3 h ?_
                 clear h; intro v155 h156 h
                 refine brE h ?_ ?_
                 ·clear h; intro h157 h
                  obtain rfl := oj h
                  simp [h39, h40, h41, h42, h43, h44, h45, h46, h47, h48, h49, h50, h51, h52, h53, h54, h55, h157] at hr
                 clear h; intro h157 h
                 obtain rfl := oj h
                 simp [h39, h40, h41, h42, h43, h44, h45, h46, h47, h48, h49, h50, h51, h52, h53, h54, h55, h157] at hr
                clear h; intro h54 h
                refine X3 h ?_
                clear h; intro v158 h159 h
                refine X3 h ?_
                clear h; intro v160 h161 h
                refine X3 h ?_
                clear h; intro v162 h163 h
                refine X3 h ?_
                clear h; intro v164 h165 h
                refine X3 h ?_
                clear h; intro v166 h167 h
                refine X3 h ?_
                clear h; intro v168 h169 h
                refine X3 h ?_
                clear h; intro v170 h171 h
                refine X3 h ?_
                clear h; intro v172 h173 h
                refine X3 h ?_
                clear h; intro v174 h175 h
                refine X3 h ?_
                clear h; intro v176 h177 h
                refine X3 h ?_
                clear h; intro v178 h179 h
                refine X3 h ?_
                clear h; intro v180 h181 h
                refine X3 h ?_
                clear h; intro v182 h183 h
                refine brE h ?_ ?_
                ·clear h; intro h184 h
                 obtain rfl := oj h
                 simp [h39, h40, h41, h42, h43, h44, h45, h46, h47, h48, h49, h50, h51, h52, h53, h54, h184] at hr
                clear h; intro h184 h
                obtain rfl := oj h
                simp [h39, h40, h41, h42, h43, h44, h45, h46, h47, h48, h49, h50, h51, h52, h53, h54, h184] at hr
               clear h; intro h53 h
               refine X3 h ?_
               clear h; intro v185 h186 h
               refine X3 h ?_
               clear h; intro v187 h188 h
               refine X3 h ?_
               clear h; intro v189 h190 h
               refine X3 h ?_
               clear h; intro v191 h192 h
               refine X3 h ?_
               clear h; intro v193 h194 h
               refine X3 h ?_
               clear h; intro v195 h196 h
               refine X3 h ?_
               clear h; intro v197 h198 h
               refine X3 h ?_
               clear h; intro v199 h200 h
               refine X3 h ?_
               clear h; intro v201 h202 h
               refine X3 h ?_
               clear h; intro v203 h204 h
               refine X3 h ?_
               clear h; intro v205 h206 h
               refine X3 h ?_
               clear h; intro v207 h208 h
               refine X3 h ?_
               clear h; intro v209 h210 h
               refine brE h ?_ ?_
               ·clear h; intro h211 h
                obtain rfl := oj h
                simp [h39, h40, h41, h42, h43, h44, h45, h46, h47, h48, h49, h50, h51, h52, h53, h211] at hr
               clear h; intro h211 h
               obtain rfl := oj h
               simp [h39, h40, h41, h42, h43, h44, h45, h46, h47, h48, h49, h50, h51, h52, h53, h211] at hr
              clear h; intro h52 h
              refine X3 h ?_
              clear h; intro v212 h213 h
              refine X3 h ?_
              clear h; intro v214 h215 h
              refine X3 h ?_
              clear h; intro v216 h217 h
              refine X3 h ?_
              clear h; intro v218 h219 h
              refine X3 h ?_
              clear h; intro v220 h221 h
              refine X3 h ?_
              clear h; intro v222 h223 h
              refine X3 h ?_
              clear h; intro v224 h225 h
              refine X3 h ?_
              clear h; intro v226 h227 h
              refine X3 h ?_
              clear h; intro v228 h229 h
              refine X3 h ?_
              clear h; intro v230 h231 h
              refine X3 h ?_
              clear h; intro v232 h233 h
              refine X3 h ?_
              clear h; intro v234 h235 h
              refine X3 h ?_
              clear h; intro v236 h237 h
              refine brE h ?_ ?_
              ·clear h; intro h238 h
               obtain rfl := oj h
               simp [h39, h40, h41, h42, h43, h44, h45, h46, h47, h48, h49, h50, h51, h52, h238] at hr
              clear h; intro h238 h
              obtain rfl := oj h
              simp [h39, h40, h41, h42, h43, h44, h45, h46, h47, h48, h49, h50, h51, h52, h238] at hr
             clear h; intro h51 h
             refine X3 h ?_
             clear h; intro v239 h240 h
             refine X3 h ?_
             clear h; intro v241 h242 h
             refine X3 h ?_
             clear h; intro v243 h244 h
             refine X3 h ?_
             clear h; intro v245 h246 h
             refine X3 h ?_
             clear h; intro v247 h248 h
             refine X3 h ?_
             clear h; intro v249 h250 h
             refine X3 h ?_
             clear h; intro v251 h252 h
             refine X3 h ?_
             clear h; intro v253 h254 h
             refine X3 h ?_
             clear h; intro v255 h256 h
             refine X3 h ?_
             clear h; intro v257 h258 h
             refine X3 h ?_
             clear h; intro v259 h260 h
             refine X3 h ?_
             clear h; intro v261 h262 h
             refine X3 h ?_
             clear h; intro v263 h264 h
             refine brE h ?_ ?_
             ·clear h; intro h265 h
              obtain rfl := oj h
              simp [h39, h40, h41, h42, h43, h44, h45, h46, h47, h48, h49, h50, h51, h265] at hr
             clear h; intro h265 h
             obtain rfl := oj h
             simp [h39, h40, h41, h42, h43, h44, h45, h46, h47, h48, h49, h50, h51, h265] at hr
            clear h; intro h50 h
            refine X3 h ?_
            clear h; intro v266 h267 h
            refine X3 h ?_
            clear h; intro v268 h269 h
            refine X3 h ?_
            clear h; intro v270 h271 h
            refine X3 h ?_
            clear h; intro v272 h273 h
            refine X3 h ?_
            clear h; intro v274 h275 h
            refine X3 h ?_
            clear h; intro v276 h277 h
            refine X3 h ?_
            clear h; intro v278 h279 h
            refine X3 h ?_
            clear h; intro v280 h281 h
            refine X3 h ?_
            clear h; intro v282 h283 h
            refine X3 h ?_
            clear h; intro v284 h285 h
            refine X3 h ?_
            clear h; intro v286 h287 h
            refine X3 h ?_
            clear h; intro v288 h289 h
            refine X3 h ?_
            clear h; intro v290 h291 h
            refine brE h ?_ ?_
            ·clear h; intro h292 h
             obtain rfl := oj h
             simp [h39, h40, h41, h42, h43, h44, h45, h46, h47, h48, h49, h50, h292] at hr
            clear h; intro h292 h
            obtain rfl := oj h
            simp [h39, h40, h41, h42, h43, h44, h45, h46, h47, h48, h49, h50, h292] at hr
           clear h; intro h49 h
           refine X3 h ?_
           clear h; intro v293 h294 h
           refine X3 h ?_
           clear h; intro v295 h296 h
           refine X3 h ?_
           clear h; intro v297 h298 h
           refine X3 h ?_
           clear h; intro v299 h300 h
           refine X3 h ?_
           clear h; intro v301 h302 h
           refine X3 h ?_
           clear h; intro v303 h304 h
           refine X3 h ?_
           clear h; intro v305 h306 h
           refine X3 h ?_
           clear h; intro v307 h308 h
           refine X3 h ?_
           clear h; intro v309 h310 h
           refine X3 h ?_
           clear h; intro v311 h312 h
           refine X3 h ?_
           clear h; intro v313 h314 h
           refine X3 h ?_
           clear h; intro v315 h316 h
           refine X3 h ?_
           clear h; intro v317 h318 h
           refine brE h ?_ ?_
           ·clear h; intro h319 h
            obtain rfl := oj h
            simp [h39, h40, h41, h42, h43, h44, h45, h46, h47, h48, h49, h319] at hr
           clear h; intro h319 h
           obtain rfl := oj h
           simp [h39, h40, h41, h42, h43, h44, h45, h46, h47, h48, h49, h319] at hr
          clear h; intro h48 h
          refine X3 h ?_
          clear h; intro v320 h321 h
          refine X3 h ?_
          clear h; intro v322 h323 h
          refine X3 h ?_
          clear h; intro v324 h325 h
          refine X3 h ?_
          clear h; intro v326 h327 h
          refine X3 h ?_
          clear h; intro v328 h329 h
          refine X3 h ?_
          clear h; intro v330 h331 h
          refine X3 h ?_
          clear h; intro v332 h333 h
          refine X3 h ?_
          clear h; intro v334 h335 h
          refine X3 h ?_
          clear h; intro v336 h337 h
          refine X3 h ?_
          clear h; intro v338 h339 h
          refine X3 h ?_
          clear h; intro v340 h341 h
          refine X3 h ?_
          clear h; intro v342 h343 h
          refine X3 h ?_
          clear h; intro v344 h345 h
          refine brE h ?_ ?_
          ·clear h; intro h346 h
           obtain rfl := oj h
           simp [h39, h40, h41, h42, h43, h44, h45, h46, h47, h48, h346] at hr
          clear h; intro h346 h
          obtain rfl := oj h
          simp [h39, h40, h41, h42, h43, h44, h45, h46, h47, h48, h346] at hr
         clear h; intro h47 h
         refine X3 h ?_
         clear h; intro v347 h348 h
         refine X3 h ?_
         clear h; intro v349 h350 h
         refine X3 h ?_
         clear h; intro v351 h352 h
         refine X3 h ?_
         clear h; intro v353 h354 h
         refine X3 h ?_
         clear h; intro v355 h356 h
         refine X3 h ?_
         clear h; intro v357 h358 h
         refine X3 h ?_
         clear h; intro v359 h360 h
         refine X3 h ?_
         clear h; intro v361 h362 h
         refine X3 h ?_
         clear h; intro v363 h364 h
         refine X3 h ?_
         clear h; intro v365 h366 h
         refine X3 h ?_
         clear h; intro v367 h368 h
         refine X3 h ?_
         clear h; intro v369 h370 h
         refine X3 h ?_
         clear h; intro v371 h372 h
         refine brE h ?_ ?_
         ·clear h; intro h373 h
          obtain rfl := oj h
          simp [h39, h40, h41, h42, h43, h44, h45, h46, h47, h373] at hr
         clear h; intro h373 h
         obtain rfl := oj h
         simp [h39, h40, h41, h42, h43, h44, h45, h46, h47, h373] at hr
        clear h; intro h46 h
        refine X3 h ?_
        clear h; intro v374 h375 h
        refine X3 h ?_
        clear h; intro v376 h377 h
        refine X3 h ?_
        clear h; intro v378 h379 h
        refine X3 h ?_
        clear h; intro v380 h381 h
        refine X3 h ?_
        clear h; intro v382 h383 h
        refine X3 h ?_
        clear h; intro v384 h385 h
        refine X3 h ?_
        clear h; intro v386 h387 h
        refine X3 h ?_
        clear h; intro v388 h389 h
        refine X3 h ?_
        clear h; intro v390 h391 h
        refine X3 h ?_
        clear h; intro v392 h393 h
        refine X3 h ?_
        clear h; intro v394 h395 h
        refine X3 h ?_
        clear h; intro v396 h397 h
        refine X3 h ?_
        clear h; intro v398 h399 h
        refine brE h ?_ ?_
        ·clear h; intro h400 h
         obtain rfl := oj h
         simp [h39, h40, h41, h42, h43, h44, h45, h46, h400] at hr
        clear h; intro h400 h
        obtain rfl := oj h
        simp [h39, h40, h41, h42, h43, h44, h45, h46, h400] at hr
       clear h; intro h45 h
       refine X3 h ?_
       clear h; intro v401 h402 h
       refine X3 h ?_
       clear h; intro v403 h404 h
       refine X3 h ?_
       clear h; intro v405 h406 h
       refine X3 h ?_
       clear h; intro v407 h408 h
       refine X3 h ?_
       clear h; intro v409 h410 h
       refine X3 h ?_
       clear h; intro v411 h412 h
       refine X3 h ?_
       clear h; intro v413 h414 h
       refine X3 h ?_
       clear h; intro v415 h416 h
       refine X3 h ?_
       clear h; intro v417 h418 h
       refine X3 h ?_
       clear h; intro v419 h420 h
       refine X3 h ?_
       clear h; intro v421 h422 h
       refine X3 h ?_
       clear h; intro v423 h424 h
       refine X3 h ?_
       clear h; intro v425 h426 h
       refine brE h ?_ ?_
       ·clear h; intro h427 h
        obtain rfl := oj h
        simp [h39, h40, h41, h42, h43, h44, h45, h427] at hr
       clear h; intro h427 h
       obtain rfl := oj h
       simp [h39, h40, h41, h42, h43, h44, h45, h427] at hr
      clear h; intro h44 h
      refine X3 h ?_
      clear h; intro v428 h429 h
      refine X3 h ?_
      clear h; intro v430 h431 h
      refine X3 h ?_
      clear h; intro v432 h433 h
      refine X3 h ?_
      clear h; intro v434 h435 h
      refine X3 h ?_
      clear h; intro v436 h437 h
      refine X3 h ?_
      clear h; intro v438 h439 h
      refine X3 h ?_
      clear h; intro v440 h441 h
      refine X3 h ?_
      clear h; intro v442 h443 h
      refine X3 h ?_
      clear h; intro v444 h445 h
      refine X3 h ?_
      clear h; intro v446 h447 h
      refine X3 h ?_
      clear h; intro v448 h449 h
      refine X3 h ?_
      clear h; intro v450 h451 h
      refine X3 h ?_
      clear h; intro v452 h453 h
      refine brE h ?_ ?_
      ·clear h; intro h454 h
       obtain rfl := oj h
       simp [h39, h40, h41, h42, h43, h44, h454] at hr
      clear h; intro h454 h
      obtain rfl := oj h
      simp [h39, h40, h41, h42, h43, h44, h454] at hr
     clear h; intro h43 h
     refine X3 h ?_
     clear h; intro v455 h456 h
     refine X3 h ?_
     clear h; intro v457 h458 h
     refine X3 h ?_
     clear h; intro v459 h460 h
     refine X3 h ?_
     clear h; intro v461 h462 h
     refine X3 h ?_
     clear h; intro v463 h464 h
     refine X3 h ?_
     clear h; intro v465 h466 h
     refine X3 h ?_
     clear h; intro v467 h468 h
     refine X3 h ?_
     clear h; intro v469 h470 h
     refine X3 h ?_
     clear h; intro v471 h472 h
     refine X3 h ?_
     clear h; intro v473 h474 h
     refine X3 h ?_
     clear h; intro v475 h476 h
     refine X3 h ?_
     clear h; intro v477 h478 h
     refine X3 h ?_
     clear h; intro v479 h480 h
     refine brE h ?_ ?_
     ·clear h; intro h481 h
      obtain rfl := oj h
      simp [h39, h40, h41, h42, h43, h481] at hr
     clear h; intro h481 h
     obtain rfl := oj h
     simp [h39, h40, h41, h42, h43, h481] at hr
    clear h; intro h42 h
    refine X3 h ?_
    clear h; intro v482 h483 h
    refine X3 h ?_
    clear h; intro v484 h485 h
    refine X3 h ?_
    clear h; intro v486 h487 h
    refine X3 h ?_
    clear h; intro v488 h489 h
    refine X3 h ?_
    clear h; intro v490 h491 h
    refine X3 h ?_
    clear h; intro v492 h493 h
    refine X3 h ?_
    clear h; intro v494 h495 h
    refine X3 h ?_
    clear h; intro v496 h497 h
    refine X3 h ?_
    clear h; intro v498 h499 h
    refine X3 h ?_
    clear h; intro v500 h501 h
    refine X3 h ?_
    clear h; intro v502 h503 h
    refine X3 h ?_
    clear h; intro v504 h505 h
    refine X3 h ?_
    clear h; intro v506 h507 h
    refine brE h ?_ ?_
    ·clear h; intro h508 h
     obtain rfl := oj h
     simp [h39, h40, h41, h42, h508] at hr
    clear h; intro h508 h
    obtain rfl := oj h
    simp [h39, h40, h41, h42, h508] at hr
   clear h; intro h41 h
   refine X3 h ?_
   clear h; intro v509 h510 h
   refine X3 h ?_
   clear h; intro v511 h512 h
   refine X3 h ?_
   clear h; intro v513 h514 h
   refine X3 h ?_
   clear h; intro v515 h516 h
   refine X3 h ?_
   clear h; intro v517 h518 h
   refine X3 h ?_
   clear h; intro v519 h520 h
   refine X3 h ?_
   clear h; intro v521 h522 h
   refine X3 h ?_
   clear h; intro v523 h524 h
   refine X3 h ?_
   clear h; intro v525 h526 h
   refine X3 h ?_
   clear h; intro v527 h528 h
   refine X3 h ?_
   clear h; intro v529 h530 h
   refine X3 h ?_
   clear h; intro v531 h532 h
   refine X3 h ?_
   clear h; intro v533 h534 h
   refine brE h ?_ ?_
   ·clear h; intro h535 h
    obtain rfl := oj h
    simp [h39, h40, h41, h535] at hr
   clear h; intro h535 h
   obtain rfl := oj h
   simp [h39, h40, h41, h535] at hr
  clear h; intro h40 h
  refine X3 h ?_
  clear h; intro v536 h537 h
  refine X3 h ?_
  clear h; intro v538 h539 h
  refine X3 h ?_
  clear h; intro v540 h541 h
  refine X3 h ?_
  clear h; intro v542 h543 h
  refine X3 h ?_
  clear h; intro v544 h545 h
  refine X3 h ?_
  clear h; intro v546 h547 h
  refine X3 h ?_
  clear h; intro v548 h549 h
  refine X3 h ?_
  clear h; intro v550 h551 h
  refine X3 h ?_
  clear h; intro v552 h553 h
  refine X3 h ?_
  clear h; intro v554 h555 h
  refine X3 h ?_
  clear h; intro v556 h557 h
  refine X3 h ?_
  clear h; intro v558 h559 h
  refine X3 h ?_
  clear h; intro v560 h561 h
  refine brE h ?_ ?_
  ·clear h; intro h562 h
   obtain rfl := oj h
   simp [h39, h40, h562] at hr
  clear h; intro h562 h
  obtain rfl := oj h
  simp [h39, h40, h562] at hr
 clear h; intro h39 h
 refine X3 h ?_
 clear h; intro v563 h564 h
 refine X3 h ?_
 clear h; intro v565 h566 h
 refine X3 h ?_
 clear h; intro v567 h568 h
 refine X3 h ?_
 clear h; intro v569 h570 h
 refine X3 h ?_
 clear h; intro v571 h572 h
 refine X3 h ?_
 clear h; intro v573 h574 h
 refine X3 h ?_
 clear h; intro v575 h576 h
 refine X3 h ?_
 clear h; intro v577 h578 h
 refine X3 h ?_
 clear h; intro v579 h580 h
 refine X3 h ?_
 clear h; intro v581 h582 h
 refine X3 h ?_
 clear h; intro v583 h584 h
 refine X3 h ?_
 clear h; intro v585 h586 h
 refine X3 h ?_
 clear h; intro v587 h588 h
 refine brE h ?_ ?_
 ·clear h; intro h589 h
  obtain rfl := oj h
  simp [h39, h589] at hr
 clear h; intro h589 h
 obtain rfl := oj h
 simp [h39, h589] at hr
end Go.Av.Tryz