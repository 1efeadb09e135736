/- Printed by decomp.py: that the program computes the functions. -/
import Derived.Test.YtneciiakpbfnjaaGreatDCert0J
import Derived.Test.YtneciiakpbfnjaaGreatDCert13J
import Derived.Test.YtneciiakpbfnjaaGreatDCert14J
set_option linter.all false
set_option linter.unusedVariables false
namespace Go.Av.Tryz
open Go.Proofs Go.D
set_option maxRecDepth 10000
set_option maxHeartbeats 4000000

set_option maxHeartbeats 40000000 in
theorem law33_JoinNames_ok (r : Bool) (h : law33_JoinNames = some r) (hr : r = true) : Pure Tryz.prog 6 [] (aB r) := by
 refine Pure.sym tyTab_ok fn6 (nt := 274) rfl rfl ?_ allNil
 unfold law33_JoinNames at h
 refine bindE h ?_
 clear h; intro v1 h2 h
 refine bindE h ?_
 clear h; intro v3 h4 h
 refine bindE h ?_
 clear h; intro v5 h6 h
 refine run_to tmD 4000 [.pure [(aI .i64 3)] (AV.tup [(enc_GTask true v1.1), (aI .i64 v1.2)]), .pure [(aI .i64 (-1))] (AV.tup [(enc_GTask true v3.1), (aI .i64 v3.2)]), .pure [(aI .i64 2)] (AV.tup [(enc_GTask true v5.1), (aI .i64 v5.2)])] rfl (by repeat' first | refine And.intro ?_ ?_ | exact (PureCall.none (join_New_ok _ _ h2) (Cvs.cons .sc Cvs.nil)) | exact (PureCall.none (join_New_ok _ _ h4) (Cvs.cons .sc Cvs.nil)) | exact (PureCall.none (join_New_ok _ _ h6) (Cvs.cons .sc Cvs.nil)) | exact oblA) ?_
 refine bindE h ?_
 clear h; intro v7 h8 h
 refine bindE h ?_
 clear h; intro v9 h10 h
 refine bindE h ?_
 clear h; intro v11 h12 h
 refine bindE h ?_
 clear h; intro v13 h14 h
 refine bindE h ?_
 clear h; intro v15 h16 h
 refine bindE h ?_
 clear h; intro v17 h18 h
 refine bindE h ?_
 clear h; intro v19 h20 h
 refine bindE h ?_
 clear h; intro v21 h22 h
 refine run_to tmD 4000 [.pure [] (enc_GQuery true v7), .pure [] (enc_GQuery true v7), .pure [(aI .i64 1)] (enc_GMessage v9), .pure [(enc_GQuery false (GQuery.mk 0 ([] : List GNode) ([] : List Int) false ([] : List GNode) (GWindow.mk 0 0 0) false 0)), (enc_GTask false v5.1), (aI .i64 0), (enc_GMessage v9)] (AV.tup [(enc_GTask true v11.1), (aI .i64 v11.2)]), .pure [(aI .i64 1)] (enc_GMessage v9), .pure [(enc_GQuery false (GQuery.mk v7.Agg v7.Arg [0] false v7.Where v7.Window v7.ByKey v7.Late)), (enc_GTask false v5.1), (aI .i64 0), (enc_GMessage v9)] (AV.tup [(enc_GTask true v13.1), (aI .i64 v13.2)]), .pure [(aI .i64 1)] (enc_GMessage v9), .pure [(enc_GQuery false v7), (enc_GTask false (GTask.mk (GOp.mk 0 0) 0 ([] : List GSend) ([] : List Int) ([] : List GEntry) ([] : List GEvent) ([] : List GRow) ([] : List GRecord))), (aI .i64 0), (enc_GMessage v9)] (AV.tup [(enc_GTask true v15.1), (aI .i64 v15.2)]), .pure [(aI .i64 1)] (enc_GMessage v9), .pure [(enc_GQuery false v7), (enc_GTask false v5.1), (aI .i64 2), (enc_GMessage v9)] (AV.tup [(enc_GTask true v17.1), (aI .i64 v17.2)]), .pure [(aI .i64 1)] (enc_GMessage v9), .pure [(enc_GQuery false v7), (enc_GTask false v5.1), (aI .i64 (-1)), (enc_GMessage v9)] (AV.tup [(enc_GTask true v19.1), (aI .i64 v19.2)]), .pure [(aI .i64 1)] (enc_GMessage v9), .pure [(enc_GQuery false v7), (enc_GTask false (GTask.mk (GOp.mk 4 0) 0 ([] : List GSend) [0, 0] ([] : List GEntry) ([] : List GEvent) ([] : List GRow) ([] : List GRecord))), (aI .i64 0), (enc_GMessage v9)] (AV.tup [(enc_GTask true v21.1), (aI .i64 v21.2)])] rfl (by repeat' first | refine And.intro ?_ ?_ | exact (PureCall.none (law33_sums_ok _ h8) Cvs.nil) | exact (PureCall.none (law33_mark_ok _ _ h10) (Cvs.cons .sc Cvs.nil)) | exact (PureCall.none (join_Take_ok _ _ _ _ _ h12) (Cvs.cons (cv_agg (Cvs.cons .sc (Cvs.cons .nils (Cvs.cons .nils (Cvs.cons .sc (Cvs.cons .nils (Cvs.cons .sc (Cvs.cons .sc (Cvs.cons .sc (Cvs.cons .sc (Cvs.cons .sc Cvs.nil))))))))))) (Cvs.cons (cv_agg (Cvs.cons .sc (Cvs.cons .sc (Cvs.cons .sc (Cvs.cons (cv_list (flat_map flat_GSend v5.1.Pending)) (Cvs.cons (cv_list (flat_map (fun _ => flatSc) v5.1.Marks)) (Cvs.cons (cv_list (flat_map flat_GEntry v5.1.Store)) (Cvs.cons (cv_list (flat_map flat_GEvent v5.1.Events)) (Cvs.cons (cv_list (flat_map flat_GRow v5.1.Rows)) (Cvs.cons (cv_list (flat_map flat_GRecord v5.1.Late)) Cvs.nil)))))))))) (Cvs.cons .sc (Cvs.cons (cvf_GMessage (x := v9)) Cvs.nil))))) | exact (PureCall.lent (join_Take_ok _ _ _ _ _ h14) (Cvs.cons (cv_agg (Cvs.cons .sc (Cvs.cons (cv_list (flat_map flat_GNode ((GQuery.mk v7.Agg v7.Arg [0] false v7.Where v7.Window v7.ByKey v7.Late).Arg))) (Cvs.cons (cv_ref (es := List.map (aI .i64) ((GQuery.mk v7.Agg v7.Arg [0] false v7.Where v7.Window v7.ByKey v7.Late).Sources)) rfl (by first | rfl | (simp; done) | (simp; rfl) | (simp []; done) | (simp []; rfl) | (simp [List.map_take, List.map_drop]; done) | (simp [List.map_take, List.map_drop]; rfl)) (by first | rfl | (simp; done) | (simp; omega) | (simp []; done) | (simp []; omega)) (flat_map (fun _ => flatSc) ((GQuery.mk v7.Agg v7.Arg [0] false v7.Where v7.Window v7.ByKey v7.Late).Sources))) (Cvs.cons .sc (Cvs.cons (cv_list (flat_map flat_GNode ((GQuery.mk v7.Agg v7.Arg [0] false v7.Where v7.Window v7.ByKey v7.Late).Where))) (Cvs.cons .sc (Cvs.cons .sc (Cvs.cons .sc (Cvs.cons .sc (Cvs.cons .sc Cvs.nil))))))))))) (Cvs.cons (cv_agg (Cvs.cons .sc (Cvs.cons .sc (Cvs.cons .sc (Cvs.cons (cv_list (flat_map flat_GSend v5.1.Pending)) (Cvs.cons (cv_list (flat_map (fun _ => flatSc) v5.1.Marks)) (Cvs.cons (cv_list (flat_map flat_GEntry v5.1.Store)) (Cvs.cons (cv_list (flat_map flat_GEvent v5.1.Events)) (Cvs.cons (cv_list (flat_map flat_GRow v5.1.Rows)) (Cvs.cons (cv_list (flat_map flat_GRecord v5.1.Late)) Cvs.nil)))))))))) (Cvs.cons .sc (Cvs.cons (cvf_GMessage (x := v9)) Cvs.nil)))) (ownTup (allCons (.agg (allCons .sc (allCons .sc (allCons .sc (allCons (ownO_list (flat_map flat_GSend _)) (allCons (ownO_list (flat_map (fun _ => flatSc) _)) (allCons (ownO_list (flat_map flat_GEntry _)) (allCons (ownO_list (flat_map flat_GEvent _)) (allCons (ownO_list (flat_map flat_GRow _)) (allCons (ownO_list (flat_map flat_GRecord _)) allNil)))))))))) (allCons .sc allNil)))) | exact (PureCall.none (join_Take_ok _ _ _ _ _ h16) (Cvs.cons (cv_agg (Cvs.cons .sc (Cvs.cons (cv_list (flat_map flat_GNode v7.Arg)) (Cvs.cons (cv_list (flat_map (fun _ => flatSc) v7.Sources)) (Cvs.cons .sc (Cvs.cons (cv_list (flat_map flat_GNode v7.Where)) (Cvs.cons .sc (Cvs.cons .sc (Cvs.cons .sc (Cvs.cons .sc (Cvs.cons .sc Cvs.nil))))))))))) (Cvs.cons (cv_agg (Cvs.cons .sc (Cvs.cons .sc (Cvs.cons .sc (Cvs.cons .nils (Cvs.cons .nils (Cvs.cons .nils (Cvs.cons .nils (Cvs.cons .nils (Cvs.cons .nils Cvs.nil)))))))))) (Cvs.cons .sc (Cvs.cons (cvf_GMessage (x := v9)) Cvs.nil))))) | exact (PureCall.none (join_Take_ok _ _ _ _ _ h18) (Cvs.cons (cv_agg (Cvs.cons .sc (Cvs.cons (cv_list (flat_map flat_GNode v7.Arg)) (Cvs.cons (cv_list (flat_map (fun _ => flatSc) v7.Sources)) (Cvs.cons .sc (Cvs.cons (cv_list (flat_map flat_GNode v7.Where)) (Cvs.cons .sc (Cvs.cons .sc (Cvs.cons .sc (Cvs.cons .sc (Cvs.cons .sc Cvs.nil))))))))))) (Cvs.cons (cv_agg (Cvs.cons .sc (Cvs.cons .sc (Cvs.cons .sc (Cvs.cons (cv_list (flat_map flat_GSend v5.1.Pending)) (Cvs.cons (cv_list (flat_map (fun _ => flatSc) v5.1.Marks)) (Cvs.cons (cv_list (flat_map flat_GEntry v5.1.Store)) (Cvs.cons (cv_list (flat_map flat_GEvent v5.1.Events)) (Cvs.cons (cv_list (flat_map flat_GRow v5.1.Rows)) (Cvs.cons (cv_list (flat_map flat_GRecord v5.1.Late)) Cvs.nil)))))))))) (Cvs.cons .sc (Cvs.cons (cvf_GMessage (x := v9)) Cvs.nil))))) | exact (PureCall.none (join_Take_ok _ _ _ _ _ h20) (Cvs.cons (cv_agg (Cvs.cons .sc (Cvs.cons (cv_list (flat_map flat_GNode v7.Arg)) (Cvs.cons (cv_list (flat_map (fun _ => flatSc) v7.Sources)) (Cvs.cons .sc (Cvs.cons (cv_list (flat_map flat_GNode v7.Where)) (Cvs.cons .sc (Cvs.cons .sc (Cvs.cons .sc (Cvs.cons .sc (Cvs.cons .sc Cvs.nil))))))))))) (Cvs.cons (cv_agg (Cvs.cons .sc (Cvs.cons .sc (Cvs.cons .sc (Cvs.cons (cv_list (flat_map flat_GSend v5.1.Pending)) (Cvs.cons (cv_list (flat_map (fun _ => flatSc) v5.1.Marks)) (Cvs.cons (cv_list (flat_map flat_GEntry v5.1.Store)) (Cvs.cons (cv_list (flat_map flat_GEvent v5.1.Events)) (Cvs.cons (cv_list (flat_map flat_GRow v5.1.Rows)) (Cvs.cons (cv_list (flat_map flat_GRecord v5.1.Late)) Cvs.nil)))))))))) (Cvs.cons .sc (Cvs.cons (cvf_GMessage (x := v9)) Cvs.nil))))) | exact (PureCall.lent (join_Take_ok _ _ _ _ _ h22) (Cvs.cons (cv_agg (Cvs.cons .sc (Cvs.cons (cv_list (flat_map flat_GNode v7.Arg)) (Cvs.cons (cv_list (flat_map (fun _ => flatSc) v7.Sources)) (Cvs.cons .sc (Cvs.cons (cv_list (flat_map flat_GNode v7.Where)) (Cvs.cons .sc (Cvs.cons .sc (Cvs.cons .sc (Cvs.cons .sc (Cvs.cons .sc Cvs.nil))))))))))) (Cvs.cons (cv_agg (Cvs.cons .sc (Cvs.cons .sc (Cvs.cons .sc (Cvs.cons .nils (Cvs.cons (cv_ref (es := List.map (aI .i64) ((GTask.mk (GOp.mk 4 0) 0 ([] : List GSend) [0, 0] ([] : List GEntry) ([] : List GEvent) ([] : List GRow) ([] : List GRecord)).Marks)) rfl (by first | rfl | (simp; done) | (simp; rfl) | (simp []; done) | (simp []; rfl) | (simp [List.map_take, List.map_drop]; done) | (simp [List.map_take, List.map_drop]; rfl)) (by first | rfl | (simp; done) | (simp; omega) | (simp []; done) | (simp []; omega)) (flat_map (fun _ => flatSc) ((GTask.mk (GOp.mk 4 0) 0 ([] : List GSend) [0, 0] ([] : List GEntry) ([] : List GEvent) ([] : List GRow) ([] : List GRecord)).Marks))) (Cvs.cons .nils (Cvs.cons .nils (Cvs.cons .nils (Cvs.cons .nils Cvs.nil)))))))))) (Cvs.cons .sc (Cvs.cons (cvf_GMessage (x := v9)) Cvs.nil)))) (ownTup (allCons (.agg (allCons .sc (allCons .sc (allCons .sc (allCons (ownO_list (flat_map flat_GSend _)) (allCons (ownO_list (flat_map (fun _ => flatSc) _)) (allCons (ownO_list (flat_map flat_GEntry _)) (allCons (ownO_list (flat_map flat_GEvent _)) (allCons (ownO_list (flat_map flat_GRow _)) (allCons (ownO_list (flat_map flat_GRecord _)) allNil)))))))))) (allCons .sc allNil)))) | exact oblA) ?_
 refine bindE h ?_
 clear h; intro v23 h24 h
 refine run_to tmD 4000 [.pure [(enc_GQuery false v7), (enc_GTask false v5.1), (aI .i64 0), (enc_GMessage (GMessage.mk 3 (GRecord.mk 0 0 0) 0 (GRow.mk 0 (GSpan.mk 0 0) (V2.mk 0 0))))] (AV.tup [(enc_GTask true v23.1), (aI .i64 v23.2)])] rfl (by repeat' first | refine And.intro ?_ ?_ | exact (PureCall.none (join_Take_ok _ _ _ _ _ h24) (Cvs.cons (cv_agg (Cvs.cons .sc (Cvs.cons (cv_list (flat_map flat_GNode v7.Arg)) (Cvs.cons (cv_list (flat_map (fun _ => flatSc) v7.Sources)) (Cvs.cons .sc (Cvs.cons (cv_list (flat_map flat_GNode v7.Where)) (Cvs.cons .sc (Cvs.cons .sc (Cvs.cons .sc (Cvs.cons .sc (Cvs.cons .sc Cvs.nil))))))))))) (Cvs.cons (cv_agg (Cvs.cons .sc (Cvs.cons .sc (Cvs.cons .sc (Cvs.cons (cv_list (flat_map flat_GSend v5.1.Pending)) (Cvs.cons (cv_list (flat_map (fun _ => flatSc) v5.1.Marks)) (Cvs.cons (cv_list (flat_map flat_GEntry v5.1.Store)) (Cvs.cons (cv_list (flat_map flat_GEvent v5.1.Events)) (Cvs.cons (cv_list (flat_map flat_GRow v5.1.Rows)) (Cvs.cons (cv_list (flat_map flat_GRecord v5.1.Late)) Cvs.nil)))))))))) (Cvs.cons .sc (Cvs.cons (cvf_GMessage (x := (GMessage.mk 3 (GRecord.mk 0 0 0) 0 (GRow.mk 0 (GSpan.mk 0 0) (V2.mk 0 0))))) Cvs.nil))))) | exact oblA) ?_
 refine bindE h ?_
 clear h; intro v25 h26 h
 refine bindE h ?_
 clear h; intro v27 h28 h
 refine run_to tmD 4000 [.pure [(enc_GTask false v5.1)] (enc_GTask true v25), .pure [(aI .i64 1)] (enc_GMessage v9), .pure [(aI .i64 1)] (enc_GMessage v9), .pure [(enc_GQuery false v7), (enc_GTask false (GTask.mk v25.Op v25.Turn [(GSend.mk 0 v9)] v25.Marks v25.Store v25.Events v25.Rows v25.Late)), (aI .i64 0), (enc_GMessage v9)] (AV.tup [(enc_GTask true v27.1), (aI .i64 v27.2)])] rfl (by repeat' first | refine And.intro ?_ ?_ | exact (PureCall.none (ref27_Twin_ok _ _ h26) (Cvs.cons (cv_agg (Cvs.cons .sc (Cvs.cons .sc (Cvs.cons .sc (Cvs.cons (cv_list (flat_map flat_GSend v5.1.Pending)) (Cvs.cons (cv_list (flat_map (fun _ => flatSc) v5.1.Marks)) (Cvs.cons (cv_list (flat_map flat_GEntry v5.1.Store)) (Cvs.cons (cv_list (flat_map flat_GEvent v5.1.Events)) (Cvs.cons (cv_list (flat_map flat_GRow v5.1.Rows)) (Cvs.cons (cv_list (flat_map flat_GRecord v5.1.Late)) Cvs.nil)))))))))) Cvs.nil)) | exact (PureCall.none (law33_mark_ok _ _ h10) (Cvs.cons .sc Cvs.nil)) | exact (PureCall.lent (join_Take_ok _ _ _ _ _ h28) (Cvs.cons (cv_agg (Cvs.cons .sc (Cvs.cons (cv_list (flat_map flat_GNode v7.Arg)) (Cvs.cons (cv_list (flat_map (fun _ => flatSc) v7.Sources)) (Cvs.cons .sc (Cvs.cons (cv_list (flat_map flat_GNode v7.Where)) (Cvs.cons .sc (Cvs.cons .sc (Cvs.cons .sc (Cvs.cons .sc (Cvs.cons .sc Cvs.nil))))))))))) (Cvs.cons (cv_agg (Cvs.cons .sc (Cvs.cons .sc (Cvs.cons .sc (Cvs.cons (cv_ref (es := List.map enc_GSend ((GTask.mk v25.Op v25.Turn [(GSend.mk 0 v9)] v25.Marks v25.Store v25.Events v25.Rows v25.Late).Pending)) rfl (by first | rfl | (simp; done) | (simp; rfl) | (simp []; done) | (simp []; rfl) | (simp [List.map_take, List.map_drop]; done) | (simp [List.map_take, List.map_drop]; rfl)) (by first | rfl | (simp; done) | (simp; omega) | (simp []; done) | (simp []; omega)) (flat_map flat_GSend ((GTask.mk v25.Op v25.Turn [(GSend.mk 0 v9)] v25.Marks v25.Store v25.Events v25.Rows v25.Late).Pending))) (Cvs.cons (cv_list (flat_map (fun _ => flatSc) ((GTask.mk v25.Op v25.Turn [(GSend.mk 0 v9)] v25.Marks v25.Store v25.Events v25.Rows v25.Late).Marks))) (Cvs.cons (cv_list (flat_map flat_GEntry ((GTask.mk v25.Op v25.Turn [(GSend.mk 0 v9)] v25.Marks v25.Store v25.Events v25.Rows v25.Late).Store))) (Cvs.cons (cv_list (flat_map flat_GEvent ((GTask.mk v25.Op v25.Turn [(GSend.mk 0 v9)] v25.Marks v25.Store v25.Events v25.Rows v25.Late).Events))) (Cvs.cons (cv_list (flat_map flat_GRow ((GTask.mk v25.Op v25.Turn [(GSend.mk 0 v9)] v25.Marks v25.Store v25.Events v25.Rows v25.Late).Rows))) (Cvs.cons (cv_list (flat_map flat_GRecord ((GTask.mk v25.Op v25.Turn [(GSend.mk 0 v9)] v25.Marks v25.Store v25.Events v25.Rows v25.Late).Late))) Cvs.nil)))))))))) (Cvs.cons .sc (Cvs.cons (cvf_GMessage (x := v9)) Cvs.nil)))) (ownTup (allCons (.agg (allCons .sc (allCons .sc (allCons .sc (allCons (ownO_list (flat_map flat_GSend _)) (allCons (ownO_list (flat_map (fun _ => flatSc) _)) (allCons (ownO_list (flat_map flat_GEntry _)) (allCons (ownO_list (flat_map flat_GEvent _)) (allCons (ownO_list (flat_map flat_GRow _)) (allCons (ownO_list (flat_map flat_GRecord _)) allNil)))))))))) (allCons .sc allNil)))) | exact oblA) ?_
 refine bindE h ?_
 clear h; intro v29 h30 h
 refine bindE h ?_
 clear h; intro v31 h32 h
 refine run_to tmD 4000 [.pure [(enc_GQuery false v7), (enc_GEntry (GEntry.mk 0 (GSpan.mk 0 0) (V2.mk (GAccum.mk 0 0 0 0) (GAccum.mk 0 0 0 0))))] (AV.tup [(enc_GRow v29.1), (aB v29.2.1), (aI .i64 v29.2.2)]), .pure [(enc_GQuery false v7), (enc_GEntry (GEntry.mk 0 (GSpan.mk 0 1) (V2.mk (GAccum.mk 0 0 0 0) (GAccum.mk 1 0 0 0))))] (AV.tup [(enc_GRow v31.1), (aB v31.2.1), (aI .i64 v31.2.2)])] rfl (by repeat' first | refine And.intro ?_ ?_ | exact (PureCall.none (join_Row_ok _ _ _ h30) (Cvs.cons (cv_agg (Cvs.cons .sc (Cvs.cons (cv_list (flat_map flat_GNode v7.Arg)) (Cvs.cons (cv_list (flat_map (fun _ => flatSc) v7.Sources)) (Cvs.cons .sc (Cvs.cons (cv_list (flat_map flat_GNode v7.Where)) (Cvs.cons .sc (Cvs.cons .sc (Cvs.cons .sc (Cvs.cons .sc (Cvs.cons .sc Cvs.nil))))))))))) (Cvs.cons (cvf_GEntry (x := (GEntry.mk 0 (GSpan.mk 0 0) (V2.mk (GAccum.mk 0 0 0 0) (GAccum.mk 0 0 0 0))))) Cvs.nil))) | exact (PureCall.none (join_Row_ok _ _ _ h32) (Cvs.cons (cv_agg (Cvs.cons .sc (Cvs.cons (cv_list (flat_map flat_GNode v7.Arg)) (Cvs.cons (cv_list (flat_map (fun _ => flatSc) v7.Sources)) (Cvs.cons .sc (Cvs.cons (cv_list (flat_map flat_GNode v7.Where)) (Cvs.cons .sc (Cvs.cons .sc (Cvs.cons .sc (Cvs.cons .sc (Cvs.cons .sc Cvs.nil))))))))))) (Cvs.cons (cvf_GEntry (x := (GEntry.mk 0 (GSpan.mk 0 1) (V2.mk (GAccum.mk 0 0 0 0) (GAccum.mk 1 0 0 0))))) Cvs.nil))) | exact oblA) ?_
 refine bindE h ?_
 clear h; intro v33 h34 h
 refine brE h ?_ ?_
 ·clear h; intro h35 h
  refine brE h ?_ ?_
  ·clear h; intro h36 h
   refine brE h ?_ ?_
   ·clear h; intro h37 h
    refine brE h ?_ ?_
    ·clear h; intro h38 h
     refine brE h ?_ ?_
     ·clear h; intro h39 h
      refine brE h ?_ ?_
      ·clear h; intro h40 h
       refine brE h ?_ ?_
       ·clear h; intro h41 h
        refine brE h ?_ ?_
        ·clear h; intro h42 h
         refine brE h ?_ ?_
         ·clear h; intro h43 h
          refine brE h ?_ ?_
          ·clear h; intro h44 h
           refine brE h ?_ ?_
           ·clear h; intro h45 h
            refine brE h ?_ ?_
            ·clear h; intro h46 h
             refine brE h ?_ ?_
             ·clear h; intro h47 h
              refine brE h ?_ ?_
              ·clear h; intro h48 h
               refine brE h ?_ ?_
               ·clear h; intro h49 h
                refine brE h ?_ ?_
                ·clear h; intro h50 h
                 refine brE h ?_ ?_
                 ·clear h; intro h51 h
                  refine brE h ?_ ?_
                  ·clear h; intro h52 h
                   refine brE h ?_ ?_
                   ·clear h; intro h53 h
                    refine bindE h ?_
                    clear h; intro v54 h55 h
                    refine bindE h ?_
                    clear h; intro v56 h57 h
                    refine bindE h ?_
                    clear h; intro v58 h59 h
                    refine bindE h ?_
                    clear h; intro v60 h61 h
                    refine bindE h ?_
                    clear h; intro v62 h63 h
                    refine bindE h ?_
                    clear h; intro v64 h65 h
                    refine bindE h ?_
                    clear h; intro v66 h67 h
                    refine bindE h ?_
                    clear h; intro v68 h69 h
                    refine run_to tmD 4000 [.pure [(enc_GQuery false v7), (enc_GEntry (GEntry.mk 3 (GSpan.mk 0 10) (V2.mk (GAccum.mk 1 5 5 5) (GAccum.mk 2 3 1 2))))] (AV.tup [(enc_GRow v33.1), (aB v33.2.1), (aI .i64 v33.2.2)]), .go true, .go true, .go true, .go true, .go true, .go true, .go true, .el (aI .i64 (List.length v5.1.Marks : Int)), .go true, .go true, .go true, .go true, .go true, .go true, .go true, .go true, .go true, .go true, .go true, .go true, .go true, .go true, .go true, .go true, .go true, .go true, .go true, .go true, .go true, .go true, .go true, .go true, .go true, .go true, .go true, .go true, .go true, .go true, .go true, .go true, .go true, .go true, .go true, .pure [(aI .i64 3), (aI .i64 0), (aI .i64 5), (aI .i64 3)] (enc_GRow v54), .go true, .pure [(aI .i64 1), (aI .i64 5), (aI .i64 1)] (enc_GMessage v56), .pure [(aI .i64 1), (aI .i64 6), (aI .i64 2)] (enc_GMessage v58), .pure [(aI .i64 2), (aI .i64 7), (aI .i64 3)] (enc_GMessage v60), .pure [(aI .i64 1), (aI .i64 15), (aI .i64 9)] (enc_GMessage v62), .pure [(aI .i64 20)] (enc_GMessage v64), .pure [(aI .i64 19)] (enc_GMessage v66), .pure [(enc_GQuery false v7), (AV.list false (List.map (aI .i64) [0, 1, 1, 0, 0, 1])), (AV.list false (List.map enc_GMessage [v56, v58, v60, v62, v64, v66]))] (AV.tup [(enc_GTask true v68.1), (AV.list true (List.map enc_GRow v68.2.1)), (aB v68.2.2)])] rfl (by repeat' first | refine And.intro ?_ ?_ | (simp only [h35, h36, h37, h38, h39, h40, h41, h42, h43, h44, h45, h46, h47, h48, h49, h50, h51, h52, h53, cond_true, cond_false, Bool.not_true, Bool.not_false]; done) | (simp only [h35, h36, h37, h38, h39, h40, h41, h42, h43, h44, h45, h46, h47, h48, h49, h50, h51, h52, h53, cond_true, cond_false, Bool.not_true, Bool.not_false]; simp_all [eqb_GOp, eqb_GRecord, eqb_GSpan, eqb_V2i64, eqb_GRow, eqb_GMessage, eqb_GSend, eqb_GAccum, eqb_V2GAccum, eqb_GEntry, eqb_GEvent, eqb_GNode, eqb_GWindow, eqb_Gnodes_top, eqb_V2b]; done) | exact (PureCall.none (join_Row_ok _ _ _ h34) (Cvs.cons (cv_agg (Cvs.cons .sc (Cvs.cons (cv_list (flat_map flat_GNode v7.Arg)) (Cvs.cons (cv_list (flat_map (fun _ => flatSc) v7.Sources)) (Cvs.cons .sc (Cvs.cons (cv_list (flat_map flat_GNode v7.Where)) (Cvs.cons .sc (Cvs.cons .sc (Cvs.cons .sc (Cvs.cons .sc (Cvs.cons .sc Cvs.nil))))))))))) (Cvs.cons (cvf_GEntry (x := (GEntry.mk 3 (GSpan.mk 0 10) (V2.mk (GAccum.mk 1 5 5 5) (GAccum.mk 2 3 1 2))))) Cvs.nil))) | exact (PureCall.none (law33_row_ok _ _ _ _ _ h55) (Cvs.cons .sc (Cvs.cons .sc (Cvs.cons .sc (Cvs.cons .sc Cvs.nil))))) | exact (PureCall.none (law33_rec_ok _ _ _ _ h57) (Cvs.cons .sc (Cvs.cons .sc (Cvs.cons .sc Cvs.nil)))) | exact (PureCall.none (law33_rec_ok _ _ _ _ h59) (Cvs.cons .sc (Cvs.cons .sc (Cvs.cons .sc Cvs.nil)))) | exact (PureCall.none (law33_rec_ok _ _ _ _ h61) (Cvs.cons .sc (Cvs.cons .sc (Cvs.cons .sc Cvs.nil)))) | exact (PureCall.none (law33_rec_ok _ _ _ _ h63) (Cvs.cons .sc (Cvs.cons .sc (Cvs.cons .sc Cvs.nil)))) | exact (PureCall.none (law33_mark_ok _ _ h65) (Cvs.cons .sc Cvs.nil)) | exact (PureCall.none (law33_mark_ok _ _ h67) (Cvs.cons .sc Cvs.nil)) | exact (PureCall.lent (law33_takes_ok _ _ _ _ h69) (Cvs.cons (cv_agg (Cvs.cons .sc (Cvs.cons (cv_list (flat_map flat_GNode v7.Arg)) (Cvs.cons (cv_list (flat_map (fun _ => flatSc) v7.Sources)) (Cvs.cons .sc (Cvs.cons (cv_list (flat_map flat_GNode v7.Where)) (Cvs.cons .sc (Cvs.cons .sc (Cvs.cons .sc (Cvs.cons .sc (Cvs.cons .sc Cvs.nil))))))))))) (Cvs.cons (cv_ref (es := List.map (aI .i64) [0, 1, 1, 0, 0, 1]) rfl (by first | rfl | (simp; done) | (simp; rfl) | (simp [h35, h36, h37, h38, h39, h40, h41, h42, h43, h44, h45, h46, h47, h48, h49, h50, h51, h52, h53]; done) | (simp [h35, h36, h37, h38, h39, h40, h41, h42, h43, h44, h45, h46, h47, h48, h49, h50, h51, h52, h53]; rfl) | (simp [h35, h36, h37, h38, h39, h40, h41, h42, h43, h44, h45, h46, h47, h48, h49, h50, h51, h52, h53, List.map_take, List.map_drop]; done) | (simp [h35, h36, h37, h38, h39, h40, h41, h42, h43, h44, h45, h46, h47, h48, h49, h50, h51, h52, h53, List.map_take, List.map_drop]; rfl)) (by first | rfl | (simp; done) | (simp; omega) | (simp [h35, h36, h37, h38, h39, h40, h41, h42, h43, h44, h45, h46, h47, h48, h49, h50, h51, h52, h53]; done) | (simp [h35, h36, h37, h38, h39, h40, h41, h42, h43, h44, h45, h46, h47, h48, h49, h50, h51, h52, h53]; omega)) (flat_map (fun _ => flatSc) [0, 1, 1, 0, 0, 1])) (Cvs.cons (cv_ref (es := List.map enc_GMessage [v56, v58, v60, v62, v64, v66]) rfl (by first | rfl | (simp; done) | (simp; rfl) | (simp [h35, h36, h37, h38, h39, h40, h41, h42, h43, h44, h45, h46, h47, h48, h49, h50, h51, h52, h53]; done) | (simp [h35, h36, h37, h38, h39, h40, h41, h42, h43, h44, h45, h46, h47, h48, h49, h50, h51, h52, h53]; rfl) | (simp [h35, h36, h37, h38, h39, h40, h41, h42, h43, h44, h45, h46, h47, h48, h49, h50, h51, h52, h53, List.map_take, List.map_drop]; done) | (simp [h35, h36, h37, h38, h39, h40, h41, h42, h43, h44, h45, h46, h47, h48, h49, h50, h51, h52, h53, List.map_take, List.map_drop]; rfl)) (by first | rfl | (simp; done) | (simp; omega) | (simp [h35, h36, h37, h38, h39, h40, h41, h42, h43, h44, h45, h46, h47, h48, h49, h50, h51, h52, h53]; done) | (simp [h35, h36, h37, h38, h39, h40, h41, h42, h43, h44, h45, h46, h47, h48, h49, h50, h51, h52, h53]; omega)) (flat_map flat_GMessage [v56, v58, v60, v62, v64, v66])) Cvs.nil))) (ownTup (allCons (.agg (allCons .sc (allCons .sc (allCons .sc (allCons (ownO_list (flat_map flat_GSend _)) (allCons (ownO_list (flat_map (fun _ => flatSc) _)) (allCons (ownO_list (flat_map flat_GEntry _)) (allCons (ownO_list (flat_map flat_GEvent _)) (allCons (ownO_list (flat_map flat_GRow _)) (allCons (ownO_list (flat_map flat_GRecord _)) allNil)))))))))) (allCons (ownO_list (flat_map flat_GRow _)) (allCons .sc allNil))))) | exact oblA) ?_
                    refine bindE h ?_
                    clear h; intro v70 h71 h
                    refine brE h ?_ ?_
                    ·clear h; intro h72 h
                     refine brE h ?_ ?_
                     ·clear h; intro h73 h
                      refine brE h ?_ ?_
                      ·clear h; intro h74 h
                       refine bindE h ?_
                       clear h; intro v75 h76 h
                       refine bindE h ?_
                       clear h; intro v77 h78 h
                       refine brE h ?_ ?_
                       ·clear h; intro h79 h
                        refine brE h ?_ ?_
                        ·clear h; intro h80 h
                         refine bindE h ?_
                         clear h; intro e81 h82 h
                         try have qh82 := getI_lt h82
                         obtain rfl := Option.some.inj h
                         refine run_to tmD 4000 [.pure [] (aB v70), .go true, .go true, .go true, .go true, .pure [(aI .i64 1), (aI .i64 0), (aI .i64 1), (aI .i64 2)] (enc_GRow v75), .go true, .go true, .pure [(AV.list false (List.map enc_GRow v68.2.1)), (AV.list false (List.map enc_GRow [v75]))] (aB v77), .go true, .go true, .go true, .el (aI .i64 (List.length v68.1.Store : Int)), .go true, .go true, .go true, .go true, .el (enc_GEntry e81), .go true, .go true, .go true, .go true] rfl (by repeat' first | refine And.intro ?_ ?_ | (simp only [h35, h36, h37, h38, h39, h40, h41, h42, h43, h44, h45, h46, h47, h48, h49, h50, h51, h52, h53, h72, h73, h74, h79, h80, cond_true, cond_false, Bool.not_true, Bool.not_false]; done) | (simp only [h35, h36, h37, h38, h39, h40, h41, h42, h43, h44, h45, h46, h47, h48, h49, h50, h51, h52, h53, h72, h73, h74, h79, h80, cond_true, cond_false, Bool.not_true, Bool.not_false]; simp_all [eqb_GOp, eqb_GRecord, eqb_GSpan, eqb_V2i64, eqb_GRow, eqb_GMessage, eqb_GSend, eqb_GAccum, eqb_V2GAccum, eqb_GEntry, eqb_GEvent, eqb_GNode, eqb_GWindow, eqb_Gnodes_top, eqb_V2b]; done) | exact (PureCall.none (law33_alive_ok _ h71) Cvs.nil) | exact (PureCall.none (law33_row_ok _ _ _ _ _ h76) (Cvs.cons .sc (Cvs.cons .sc (Cvs.cons .sc (Cvs.cons .sc Cvs.nil))))) | exact (PureCall.lent (law33_same_ok _ _ _ h78) (Cvs.cons (cv_list (flat_map flat_GRow v68.2.1)) (Cvs.cons (cv_ref (es := List.map enc_GRow [v75]) rfl (by first | rfl | (simp; done) | (simp; rfl) | (simp [h35, h36, h37, h38, h39, h40, h41, h42, h43, h44, h45, h46, h47, h48, h49, h50, h51, h52, h53, h72, h73, h74]; done) | (simp [h35, h36, h37, h38, h39, h40, h41, h42, h43, h44, h45, h46, h47, h48, h49, h50, h51, h52, h53, h72, h73, h74]; rfl) | (simp [h35, h36, h37, h38, h39, h40, h41, h42, h43, h44, h45, h46, h47, h48, h49, h50, h51, h52, h53, h72, h73, h74, List.map_take, List.map_drop]; done) | (simp [h35, h36, h37, h38, h39, h40, h41, h42, h43, h44, h45, h46, h47, h48, h49, h50, h51, h52, h53, h72, h73, h74, List.map_take, List.map_drop]; rfl)) (by first | rfl | (simp; done) | (simp; omega) | (simp [h35, h36, h37, h38, h39, h40, h41, h42, h43, h44, h45, h46, h47, h48, h49, h50, h51, h52, h53, h72, h73, h74]; done) | (simp [h35, h36, h37, h38, h39, h40, h41, h42, h43, h44, h45, h46, h47, h48, h49, h50, h51, h52, h53, h72, h73, h74]; omega)) (flat_map flat_GRow [v75])) Cvs.nil)) .sc) | exact oblA) ?_
                         refine fin_ret rfl ?_
                         exact (cv_scE (by first | rfl | (simp [*]; done)))
                        ·clear h; intro h80 h
                         obtain rfl := Option.some.inj h
                         simp [h35, h36, h37, h38, h39, h40, h41, h42, h43, h44, h45, h46, h47, h48, h49, h50, h51, h52, h53, h72, h73, h74, h79, h80] at hr
                       ·clear h; intro h79 h
                        obtain rfl := Option.some.inj h
                        simp [h35, h36, h37, h38, h39, h40, h41, h42, h43, h44, h45, h46, h47, h48, h49, h50, h51, h52, h53, h72, h73, h74, h79] at hr
                      ·clear h; intro h74 h
                       obtain rfl := Option.some.inj h
                       simp [h35, h36, h37, h38, h39, h40, h41, h42, h43, h44, h45, h46, h47, h48, h49, h50, h51, h52, h53, h72, h73, h74] at hr
                     ·clear h; intro h73 h
                      obtain rfl := Option.some.inj h
                      simp [h35, h36, h37, h38, h39, h40, h41, h42, h43, h44, h45, h46, h47, h48, h49, h50, h51, h52, h53, h72, h73] at hr
                    ·clear h; intro h72 h
                     obtain rfl := Option.some.inj h
                     simp [h35, h36, h37, h38, h39, h40, h41, h42, h43, h44, h45, h46, h47, h48, h49, h50, h51, h52, h53, h72] at hr
                   ·clear h; intro h53 h
                    refine bindE h ?_
                    clear h; intro v83 h84 h
                    refine bindE h ?_
                    clear h; intro v85 h86 h
                    refine bindE h ?_
                    clear h; intro v87 h88 h
                    refine bindE h ?_
                    clear h; intro v89 h90 h
                    refine bindE h ?_
                    clear h; intro v91 h92 h
                    refine bindE h ?_
                    clear h; intro v93 h94 h
                    refine bindE h ?_
                    clear h; intro v95 h96 h
                    refine bindE h ?_
                    clear h; intro v97 h98 h
                    refine brE h ?_ ?_
                    ·clear h; intro h99 h
                     obtain rfl := Option.some.inj h
                     simp [h35, h36, h37, h38, h39, h40, h41, h42, h43, h44, h45, h46, h47, h48, h49, h50, h51, h52, h53, h99] at hr
                    ·clear h; intro h99 h
                     obtain rfl := Option.some.inj h
                     simp [h35, h36, h37, h38, h39, h40, h41, h42, h43, h44, h45, h46, h47, h48, h49, h50, h51, h52, h53, h99] at hr
                  ·clear h; intro h52 h
                   refine bindE h ?_
                   clear h; intro v100 h101 h
                   refine bindE h ?_
                   clear h; intro v102 h103 h
                   refine bindE h ?_
                   clear h; intro v104 h105 h
                   refine bindE h ?_
                   clear h; intro v106 h107 h
                   refine bindE h ?_
                   clear h; intro v108 h109 h
                   refine bindE h ?_
                   clear h; intro v110 h111 h
                   refine bindE h ?_
                   clear h; intro v112 h113 h
                   refine bindE h ?_
                   clear h; intro v114 h115 h
                   refine brE h ?_ ?_
                   ·clear h; intro h116 h
                    obtain rfl := Option.some.inj h
                    simp [h35, h36, h37, h38, h39, h40, h41, h42, h43, h44, h45, h46, h47, h48, h49, h50, h51, h52, h116] at hr
                   ·clear h; intro h116 h
                    obtain rfl := Option.some.inj h
                    simp [h35, h36, h37, h38, h39, h40, h41, h42, h43, h44, h45, h46, h47, h48, h49, h50, h51, h52, h116] at hr
                 ·clear h; intro h51 h
                  refine bindE h ?_
                  clear h; intro v117 h118 h
                  refine bindE h ?_
                  clear h; intro v119 h120 h
                  refine bindE h ?_
                  clear h; intro v121 h122 h
                  refine bindE h ?_
                  clear h; intro v123 h124 h
                  refine bindE h ?_
                  clear h; intro v125 h126 h
                  refine bindE h ?_
                  clear h; intro v127 h128 h
                  refine bindE h ?_
                  clear h; intro v129 h130 h
                  refine bindE h ?_
                  clear h; intro v131 h132 h
                  refine brE h ?_ ?_
                  ·clear h; intro h133 h
                   obtain rfl := Option.some.inj h
                   simp [h35, h36, h37, h38, h39, h40, h41, h42, h43, h44, h45, h46, h47, h48, h49, h50, h51, h133] at hr
                  ·clear h; intro h133 h
                   obtain rfl := Option.some.inj h
                   simp [h35, h36, h37, h38, h39, h40, h41, h42, h43, h44, h45, h46, h47, h48, h49, h50, h51, h133] at hr
                ·clear h; intro h50 h
                 refine bindE h ?_
                 clear h; intro v134 h135 h
                 refine bindE h ?_
                 clear h; intro v136 h137 h
                 refine bindE h ?_
                 clear h; intro v138 h139 h
                 refine bindE h ?_
                 clear h; intro v140 h141 h
                 refine bindE h ?_
                 clear h; intro v142 h143 h
                 refine bindE h ?_
                 clear h; intro v144 h145 h
                 refine bindE h ?_
                 clear h; intro v146 h147 h
                 refine bindE h ?_
                 clear h; intro v148 h149 h
                 refine brE h ?_ ?_
                 ·clear h; intro h150 h
                  obtain rfl := Option.some.inj h
                  simp [h35, h36, h37, h38, h39, h40, h41, h42, h43, h44, h45, h46, h47, h48, h49, h50, h150] at hr
                 ·clear h; intro h150 h
                  obtain rfl := Option.some.inj h
                  simp [h35, h36, h37, h38, h39, h40, h41, h42, h43, h44, h45, h46, h47, h48, h49, h50, h150] at hr
               ·clear h; intro h49 h
                refine bindE h ?_
                clear h; intro v151 h152 h
                refine bindE h ?_
                clear h; intro v153 h154 h
                refine bindE h ?_
                clear h; intro v155 h156 h
                refine bindE h ?_
                clear h; intro v157 h158 h
                refine bindE h ?_
                clear h; intro v159 h160 h
                refine bindE h ?_
                clear h; intro v161 h162 h
                refine bindE h ?_
                clear h; intro v163 h164 h
                refine bindE h ?_
                clear h; intro v165 h166 h
                refine brE h ?_ ?_
                ·clear h; intro h167 h
                 obtain rfl := Option.some.inj h
                 simp [h35, h36, h37, h38, h39, h40, h41, h42, h43, h44, h45, h46, h47, h48, h49, h167] at hr
                ·clear h; intro h167 h
                 obtain rfl := Option.some.inj h
                 simp [h35, h36, h37, h38, h39, h40, h41, h42, h43, h44, h45, h46, h47, h48, h49, h167] at hr
              ·clear h; intro h48 h
               refine bindE h ?_
               clear h; intro v168 h169 h
               refine bindE h ?_
               clear h; intro v170 h171 h
               refine bindE h ?_
               clear h; intro v172 h173 h
               refine bindE h ?_
               clear h; intro v174 h175 h
               refine bindE h ?_
               clear h; intro v176 h177 h
               refine bindE h ?_
               clear h; intro v178 h179 h
               refine bindE h ?_
               clear h; intro v180 h181 h
               refine bindE h ?_
               clear h; intro v182 h183 h
               refine brE h ?_ ?_
               ·clear h; intro h184 h
                obtain rfl := Option.some.inj h
                simp [h35, h36, h37, h38, h39, h40, h41, h42, h43, h44, h45, h46, h47, h48, h184] at hr
               ·clear h; intro h184 h
                obtain rfl := Option.some.inj h
                simp [h35, h36, h37, h38, h39, h40, h41, h42, h43, h44, h45, h46, h47, h48, h184] at hr
             ·clear h; intro h47 h
              refine bindE h ?_
              clear h; intro v185 h186 h
              refine bindE h ?_
              clear h; intro v187 h188 h
              refine bindE h ?_
              clear h; intro v189 h190 h
              refine bindE h ?_
              clear h; intro v191 h192 h
              refine bindE h ?_
              clear h; intro v193 h194 h
              refine bindE h ?_
              clear h; intro v195 h196 h
              refine bindE h ?_
              clear h; intro v197 h198 h
              refine bindE h ?_
              clear h; intro v199 h200 h
              refine brE h ?_ ?_
              ·clear h; intro h201 h
               obtain rfl := Option.some.inj h
               simp [h35, h36, h37, h38, h39, h40, h41, h42, h43, h44, h45, h46, h47, h201] at hr
              ·clear h; intro h201 h
               obtain rfl := Option.some.inj h
               simp [h35, h36, h37, h38, h39, h40, h41, h42, h43, h44, h45, h46, h47, h201] at hr
            ·clear h; intro h46 h
             refine bindE h ?_
             clear h; intro v202 h203 h
             refine bindE h ?_
             clear h; intro v204 h205 h
             refine bindE h ?_
             clear h; intro v206 h207 h
             refine bindE h ?_
             clear h; intro v208 h209 h
             refine bindE h ?_
             clear h; intro v210 h211 h
             refine bindE h ?_
             clear h; intro v212 h213 h
             refine bindE h ?_
             clear h; intro v214 h215 h
             refine bindE h ?_
             clear h; intro v216 h217 h
             refine brE h ?_ ?_
             ·clear h; intro h218 h
              obtain rfl := Option.some.inj h
              simp [h35, h36, h37, h38, h39, h40, h41, h42, h43, h44, h45, h46, h218] at hr
             ·clear h; intro h218 h
              obtain rfl := Option.some.inj h
              simp [h35, h36, h37, h38, h39, h40, h41, h42, h43, h44, h45, h46, h218] at hr
           ·clear h; intro h45 h
            refine bindE h ?_
            clear h; intro v219 h220 h
            refine bindE h ?_
            clear h; intro v221 h222 h
            refine bindE h ?_
            clear h; intro v223 h224 h
            refine bindE h ?_
            clear h; intro v225 h226 h
            refine bindE h ?_
            clear h; intro v227 h228 h
            refine bindE h ?_
            clear h; intro v229 h230 h
            refine bindE h ?_
            clear h; intro v231 h232 h
            refine bindE h ?_
            clear h; intro v233 h234 h
            refine brE h ?_ ?_
            ·clear h; intro h235 h
             obtain rfl := Option.some.inj h
             simp [h35, h36, h37, h38, h39, h40, h41, h42, h43, h44, h45, h235] at hr
            ·clear h; intro h235 h
             obtain rfl := Option.some.inj h
             simp [h35, h36, h37, h38, h39, h40, h41, h42, h43, h44, h45, h235] at hr
          ·clear h; intro h44 h
           refine bindE h ?_
           clear h; intro v236 h237 h
           refine bindE h ?_
           clear h; intro v238 h239 h
           refine bindE h ?_
           clear h; intro v240 h241 h
           refine bindE h ?_
           clear h; intro v242 h243 h
           refine bindE h ?_
           clear h; intro v244 h245 h
           refine bindE h ?_
           clear h; intro v246 h247 h
           refine bindE h ?_
           clear h; intro v248 h249 h
           refine bindE h ?_
           clear h; intro v250 h251 h
           refine brE h ?_ ?_
           ·clear h; intro h252 h
            obtain rfl := Option.some.inj h
            simp [h35, h36, h37, h38, h39, h40, h41, h42, h43, h44, h252] at hr
           ·clear h; intro h252 h
            obtain rfl := Option.some.inj h
            simp [h35, h36, h37, h38, h39, h40, h41, h42, h43, h44, h252] at hr
         ·clear h; intro h43 h
          refine bindE h ?_
          clear h; intro v253 h254 h
          refine bindE h ?_
          clear h; intro v255 h256 h
          refine bindE h ?_
          clear h; intro v257 h258 h
          refine bindE h ?_
          clear h; intro v259 h260 h
          refine bindE h ?_
          clear h; intro v261 h262 h
          refine bindE h ?_
          clear h; intro v263 h264 h
          refine bindE h ?_
          clear h; intro v265 h266 h
          refine bindE h ?_
          clear h; intro v267 h268 h
          refine brE h ?_ ?_
          ·clear h; intro h269 h
           obtain rfl := Option.some.inj h
           simp [h35, h36, h37, h38, h39, h40, h41, h42, h43, h269] at hr
          ·clear h; intro h269 h
           obtain rfl := Option.some.inj h
           simp [h35, h36, h37, h38, h39, h40, h41, h42, h43, h269] at hr
        ·clear h; intro h42 h
         refine bindE h ?_
         clear h; intro v270 h271 h
         refine bindE h ?_
         clear h; intro v272 h273 h
         refine bindE h ?_
         clear h; intro v274 h275 h
         refine bindE h ?_
         clear h; intro v276 h277 h
         refine bindE h ?_
         clear h; intro v278 h279 h
         refine bindE h ?_
         clear h; intro v280 h281 h
         refine bindE h ?_
         clear h; intro v282 h283 h
         refine bindE h ?_
         clear h; intro v284 h285 h
         refine brE h ?_ ?_
         ·clear h; intro h286 h
          obtain rfl := Option.some.inj h
          simp [h35, h36, h37, h38, h39, h40, h41, h42, h286] at hr
         ·clear h; intro h286 h
          obtain rfl := Option.some.inj h
          simp [h35, h36, h37, h38, h39, h40, h41, h42, h286] at hr
       ·clear h; intro h41 h
        refine bindE h ?_
        clear h; intro v287 h288 h
        refine bindE h ?_
        clear h; intro v289 h290 h
        refine bindE h ?_
        clear h; intro v291 h292 h
        refine bindE h ?_
        clear h; intro v293 h294 h
        refine bindE h ?_
        clear h; intro v295 h296 h
        refine bindE h ?_
        clear h; intro v297 h298 h
        refine bindE h ?_
        clear h; intro v299 h300 h
        refine bindE h ?_
        clear h; intro v301 h302 h
        refine brE h ?_ ?_
        ·clear h; intro h303 h
         obtain rfl := Option.some.inj h
         simp [h35, h36, h37, h38, h39, h40, h41, h303] at hr
        ·clear h; intro h303 h
         obtain rfl := Option.some.inj h
         simp [h35, h36, h37, h38, h39, h40, h41, h303] at hr
      ·clear h; intro h40 h
       refine bindE h ?_
       clear h; intro v304 h305 h
       refine bindE h ?_
       clear h; intro v306 h307 h
       refine bindE h ?_
       clear h; intro v308 h309 h
       refine bindE h ?_
       clear h; intro v310 h311 h
       refine bindE h ?_
       clear h; intro v312 h313 h
       refine bindE h ?_
       clear h; intro v314 h315 h
       refine bindE h ?_
       clear h; intro v316 h317 h
       refine bindE h ?_
       clear h; intro v318 h319 h
       refine brE h ?_ ?_
       ·clear h; intro h320 h
        obtain rfl := Option.some.inj h
        simp [h35, h36, h37, h38, h39, h40, h320] at hr
       ·clear h; intro h320 h
        obtain rfl := Option.some.inj h
        simp [h35, h36, h37, h38, h39, h40, h320] at hr
     ·clear h; intro h39 h
      refine bindE h ?_
      clear h; intro v321 h322 h
      refine bindE h ?_
      clear h; intro v323 h324 h
      refine bindE h ?_
      clear h; intro v325 h326 h
      refine bindE h ?_
      clear h; intro v327 h328 h
      refine bindE h ?_
      clear h; intro v329 h330 h
      refine bindE h ?_
      clear h; intro v331 h332 h
      refine bindE h ?_
      clear h; intro v333 h334 h
      refine bindE h ?_
      clear h; intro v335 h336 h
      refine brE h ?_ ?_
      ·clear h; intro h337 h
       obtain rfl := Option.some.inj h
       simp [h35, h36, h37, h38, h39, h337] at hr
      ·clear h; intro h337 h
       obtain rfl := Option.some.inj h
       simp [h35, h36, h37, h38, h39, h337] at hr
    ·clear h; intro h38 h
     refine bindE h ?_
     clear h; intro v338 h339 h
     refine bindE h ?_
     clear h; intro v340 h341 h
     refine bindE h ?_
     clear h; intro v342 h343 h
     refine bindE h ?_
     clear h; intro v344 h345 h
     refine bindE h ?_
     clear h; intro v346 h347 h
     refine bindE h ?_
     clear h; intro v348 h349 h
     refine bindE h ?_
     clear h; intro v350 h351 h
     refine bindE h ?_
     clear h; intro v352 h353 h
     refine brE h ?_ ?_
     ·clear h; intro h354 h
      obtain rfl := Option.some.inj h
      simp [h35, h36, h37, h38, h354] at hr
     ·clear h; intro h354 h
      obtain rfl := Option.some.inj h
      simp [h35, h36, h37, h38, h354] at hr
   ·clear h; intro h37 h
    refine bindE h ?_
    clear h; intro v355 h356 h
    refine bindE h ?_
    clear h; intro v357 h358 h
    refine bindE h ?_
    clear h; intro v359 h360 h
    refine bindE h ?_
    clear h; intro v361 h362 h
    refine bindE h ?_
    clear h; intro v363 h364 h
    refine bindE h ?_
    clear h; intro v365 h366 h
    refine bindE h ?_
    clear h; intro v367 h368 h
    refine bindE h ?_
    clear h; intro v369 h370 h
    refine brE h ?_ ?_
    ·clear h; intro h371 h
     obtain rfl := Option.some.inj h
     simp [h35, h36, h37, h371] at hr
    ·clear h; intro h371 h
     obtain rfl := Option.some.inj h
     simp [h35, h36, h37, h371] at hr
  ·clear h; intro h36 h
   refine bindE h ?_
   clear h; intro v372 h373 h
   refine bindE h ?_
   clear h; intro v374 h375 h
   refine bindE h ?_
   clear h; intro v376 h377 h
   refine bindE h ?_
   clear h; intro v378 h379 h
   refine bindE h ?_
   clear h; intro v380 h381 h
   refine bindE h ?_
   clear h; intro v382 h383 h
   refine bindE h ?_
   clear h; intro v384 h385 h
   refine bindE h ?_
   clear h; intro v386 h387 h
   refine brE h ?_ ?_
   ·clear h; intro h388 h
    obtain rfl := Option.some.inj h
    simp [h35, h36, h388] at hr
   ·clear h; intro h388 h
    obtain rfl := Option.some.inj h
    simp [h35, h36, h388] at hr
 ·clear h; intro h35 h
  refine bindE h ?_
  clear h; intro v389 h390 h
  refine bindE h ?_
  clear h; intro v391 h392 h
  refine bindE h ?_
  clear h; intro v393 h394 h
  refine bindE h ?_
  clear h; intro v395 h396 h
  refine bindE h ?_
  clear h; intro v397 h398 h
  refine bindE h ?_
  clear h; intro v399 h400 h
  refine bindE h ?_
  clear h; intro v401 h402 h
  refine bindE h ?_
  clear h; intro v403 h404 h
  refine brE h ?_ ?_
  ·clear h; intro h405 h
   obtain rfl := Option.some.inj h
   simp [h35, h405] at hr
  ·clear h; intro h405 h
   obtain rfl := Option.some.inj h
   simp [h35, h405] at hr
end Go.Av.Tryz
