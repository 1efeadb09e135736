/- Printed by decomp.py: that the program computes the functions. -/
import Derived.Test.YtfdfgobnpnoomaaGreatDCert20Z
set_option linter.all false
set_option linter.unusedVariables false
namespace Go.Av.Tryz
open Go.Proofs Go.D
set_option maxRecDepth 10000
set_option maxHeartbeats 4000000

set_option maxHeartbeats 40000000 in
theorem law21_MeaningNames_ok (r : Bool) (h : law21_MeaningNames = some r) (hr : r = true) : Pure Tryz.prog 5 [] (aB r) := by
 refine Pure.sym tyTab_ok fn5 (nt := 238) rfl rfl ?_ allNil
 unfold law21_MeaningNames at h
 refine bindE h ?_
 clear h; intro v1 h2 h
 refine bindE h ?_
 clear h; intro v3 h4 h
 refine bindE h ?_
 clear h; intro v5 h6 h
 refine bindE h ?_
 clear h; intro v7 h8 h
 refine bindE h ?_
 clear h; intro v9 h10 h
 refine run_to tmD 4000 [.pure [] (enc_GQuery true v1), .pure [(aI .i64 1), (aI .i64 3), (aI .i64 5)] (enc_GEvent v3), .pure [(aI .i64 2), (aI .i64 4), (aI .i64 6)] (enc_GEvent v5), .pure [(aI .i64 20)] (enc_GEvent v7), .pure [(aI .i64 7), (aI .i64 0), (aI .i64 0)] (enc_GEvent v9)] rfl (by repeat' first | refine And.intro ?_ ?_ | exact (PureCall.none (law21_sum_ok _ h2) Cvs.nil) | exact (PureCall.none (law21_at_ok _ _ _ _ h4) (Cvs.cons .sc (Cvs.cons .sc (Cvs.cons .sc Cvs.nil)))) | exact (PureCall.none (law21_at_ok _ _ _ _ h6) (Cvs.cons .sc (Cvs.cons .sc (Cvs.cons .sc Cvs.nil)))) | exact (PureCall.none (law21_mark_ok _ _ h8) (Cvs.cons .sc Cvs.nil)) | exact (PureCall.none (law21_at_ok _ _ _ _ h10) (Cvs.cons .sc (Cvs.cons .sc (Cvs.cons .sc Cvs.nil)))) | exact oblA) ?_
 refine bindE h ?_
 clear h; intro v11 h12 h
 refine bindE h ?_
 clear h; intro v13 h14 h
 refine bindE h ?_
 clear h; intro v15 h16 h
 refine bindE h ?_
 clear h; intro v17 h18 h
 refine run_to tmD 4000 [.pure [(aI .i64 1), (aI .i64 9), (aI .i64 50)] (enc_GEvent v11), .pure [(aI .i64 1), (aI .i64 8), (aI .i64 60)] (enc_GEvent v13), .pure [(aI .i64 3), (aI .i64 1), (aI .i64 1)] (enc_GEvent v15), .pure [(aI .i64 9)] (enc_GEvent v17)] rfl (by repeat' first | refine And.intro ?_ ?_ | exact (PureCall.none (law21_at_ok _ _ _ _ h12) (Cvs.cons .sc (Cvs.cons .sc (Cvs.cons .sc Cvs.nil)))) | exact (PureCall.none (law21_at_ok _ _ _ _ h14) (Cvs.cons .sc (Cvs.cons .sc (Cvs.cons .sc Cvs.nil)))) | exact (PureCall.none (law21_at_ok _ _ _ _ h16) (Cvs.cons .sc (Cvs.cons .sc (Cvs.cons .sc Cvs.nil)))) | exact (PureCall.none (law21_mark_ok _ _ h18) (Cvs.cons .sc Cvs.nil)) | exact oblA) ?_
 refine bindE h ?_
 clear h; intro v19 h20 h
 refine run_to tmD 4000 [.pure [(enc_GQuery false (GQuery.mk v1.Agg v1.Arg [2, 0] true v1.Where v1.Window true 1)), (AV.list false (List.map (encl false enc_GEvent) [[v3, v5, v7, v9], [v11, v13, v15, v17]]))] (AV.tup [(AV.list true (List.map enc_GRow v19.1)), (AV.list true (List.map enc_GRecord v19.2.1)), (aI .i64 v19.2.2)])] rfl (by repeat' first | refine And.intro ?_ ?_ | exact (PureCall.lent (meaning_All_ok _ _ _ h20) (Cvs.cons (cv_agg (Cvs.cons .sc (Cvs.cons (cv_list (flat_map flat_GNode ((GQuery.mk v1.Agg v1.Arg [2, 0] true v1.Where v1.Window true 1).Arg))) (Cvs.cons (cv_ref (es := List.map (aI .i64) ((GQuery.mk v1.Agg v1.Arg [2, 0] true v1.Where v1.Window true 1).Sources)) rfl (by first | rfl | (simp; done) | (simp; rfl) | (simp []; done) | (simp []; rfl) | (simp [List.map_take, List.map_drop]; done) | (simp [List.map_take, List.map_drop]; rfl)) (by first | rfl | (simp; done) | (simp; omega) | (simp []; done) | (simp []; omega)) (flat_map (fun _ => flatSc) ((GQuery.mk v1.Agg v1.Arg [2, 0] true v1.Where v1.Window true 1).Sources))) (Cvs.cons .sc (Cvs.cons (cv_list (flat_map flat_GNode ((GQuery.mk v1.Agg v1.Arg [2, 0] true v1.Where v1.Window true 1).Where))) (Cvs.cons .sc (Cvs.cons .sc (Cvs.cons .sc (Cvs.cons .sc (Cvs.cons .sc Cvs.nil))))))))))) (Cvs.cons (cv_refs rfl (CvL.cons (cvE_one (cv_ref (es := List.map enc_GEvent [v3, v5, v7, v9]) rfl (by first | rfl | (simp; done) | (simp; rfl) | (simp []; done) | (simp []; rfl) | (simp [List.map_take, List.map_drop]; done) | (simp [List.map_take, List.map_drop]; rfl)) (by first | rfl | (simp; done) | (simp; omega) | (simp []; done) | (simp []; omega)) (flat_map flat_GEvent [v3, v5, v7, v9])) rfl rfl) (CvL.cons (cvE_one (cv_ref (es := List.map enc_GEvent [v11, v13, v15, v17]) rfl (by first | rfl | (simp; done) | (simp; rfl) | (simp []; done) | (simp []; rfl) | (simp [List.map_take, List.map_drop]; done) | (simp [List.map_take, List.map_drop]; rfl)) (by first | rfl | (simp; done) | (simp; omega) | (simp []; done) | (simp []; omega)) (flat_map flat_GEvent [v11, v13, v15, v17])) rfl rfl) CvL.nil)) rfl) Cvs.nil)) (ownTup (allCons (ownO_list (flat_map flat_GRow _)) (allCons (ownO_list (flat_map flat_GRecord _)) (allCons .sc allNil))))) | exact oblA) ?_
 refine bindE h ?_
 clear h; intro v21 h22 h
 refine run_to tmD 4000 [.pure [(enc_GQuery false (GQuery.mk v1.Agg v1.Arg [2, 0] true v1.Where v1.Window true 1)), (AV.list false (List.map (encl false enc_GEvent) [[v3, v5, v7, v9], [v11, v13, v15, v17]]))] (AV.tup [(AV.list true (List.map enc_GRow v21.1)), (AV.list true (List.map enc_GRecord v21.2.1)), (aI .i64 v21.2.2)])] rfl (by repeat' first | refine And.intro ?_ ?_ | exact (PureCall.lent (meaning_Emitted_ok _ _ _ h22) (Cvs.cons (cv_agg (Cvs.cons .sc (Cvs.cons (cv_list (flat_map flat_GNode ((GQuery.mk v1.Agg v1.Arg [2, 0] true v1.Where v1.Window true 1).Arg))) (Cvs.cons (cv_ref (es := List.map (aI .i64) ((GQuery.mk v1.Agg v1.Arg [2, 0] true v1.Where v1.Window true 1).Sources)) rfl (by first | rfl | (simp; done) | (simp; rfl) | (simp []; done) | (simp []; rfl) | (simp [List.map_take, List.map_drop]; done) | (simp [List.map_take, List.map_drop]; rfl)) (by first | rfl | (simp; done) | (simp; omega) | (simp []; done) | (simp []; omega)) (flat_map (fun _ => flatSc) ((GQuery.mk v1.Agg v1.Arg [2, 0] true v1.Where v1.Window true 1).Sources))) (Cvs.cons .sc (Cvs.cons (cv_list (flat_map flat_GNode ((GQuery.mk v1.Agg v1.Arg [2, 0] true v1.Where v1.Window true 1).Where))) (Cvs.cons .sc (Cvs.cons .sc (Cvs.cons .sc (Cvs.cons .sc (Cvs.cons .sc Cvs.nil))))))))))) (Cvs.cons (cv_refs rfl (CvL.cons (cvE_one (cv_ref (es := List.map enc_GEvent [v3, v5, v7, v9]) rfl (by first | rfl | (simp; done) | (simp; rfl) | (simp []; done) | (simp []; rfl) | (simp [List.map_take, List.map_drop]; done) | (simp [List.map_take, List.map_drop]; rfl)) (by first | rfl | (simp; done) | (simp; omega) | (simp []; done) | (simp []; omega)) (flat_map flat_GEvent [v3, v5, v7, v9])) rfl rfl) (CvL.cons (cvE_one (cv_ref (es := List.map enc_GEvent [v11, v13, v15, v17]) rfl (by first | rfl | (simp; done) | (simp; rfl) | (simp []; done) | (simp []; rfl) | (simp [List.map_take, List.map_drop]; done) | (simp [List.map_take, List.map_drop]; rfl)) (by first | rfl | (simp; done) | (simp; omega) | (simp []; done) | (simp []; omega)) (flat_map flat_GEvent [v11, v13, v15, v17])) rfl rfl) CvL.nil)) rfl) Cvs.nil)) (ownTup (allCons (ownO_list (flat_map flat_GRow _)) (allCons (ownO_list (flat_map flat_GRecord _)) (allCons .sc allNil))))) | exact oblA) ?_
 refine bindE h ?_
 clear h; intro v23 h24 h
 refine bindE h ?_
 clear h; intro v25 h26 h
 refine bindE h ?_
 clear h; intro v27 h28 h
 refine bindE h ?_
 clear h; intro v29 h30 h
 refine bindE h ?_
 clear h; intro v31 h32 h
 refine run_to tmD 4000 [.pure [(AV.list false (List.map (encl false enc_GEvent) [[v3, v5, v7, v9], [v11, v13, v15, v17]]))] (AV.tup [(aI .i64 v23.1), (aI .i64 v23.2)]), .pure [] (enc_GQuery true v1), .pure [(aI .i64 1), (aI .i64 0), (aI .i64 9)] (enc_GEvent v25), .pure [(aI .i64 2), (aI .i64 3), (aI .i64 9)] (enc_GEvent v27), .pure [(aI .i64 3), (aI .i64 7), (aI .i64 9)] (enc_GEvent v29), .pure [(enc_GQuery false (GQuery.mk 1 ([] : List GNode) v1.Sources v1.Join v1.Where (GWindow.mk 3 4 0) v1.ByKey v1.Late)), (AV.list false (List.map (encl false enc_GEvent) [[v25, v27, v29]]))] (AV.tup [(AV.list true (List.map enc_GRow v31.1)), (AV.list true (List.map enc_GRecord v31.2.1)), (aI .i64 v31.2.2)])] rfl (by repeat' first | refine And.intro ?_ ?_ | exact (PureCall.lent (meaning_Least_ok _ _ h24) (Cvs.cons (cv_refs rfl (CvL.cons (cvE_one (cv_ref (es := List.map enc_GEvent [v3, v5, v7, v9]) rfl (by first | rfl | (simp; done) | (simp; rfl) | (simp []; done) | (simp []; rfl) | (simp [List.map_take, List.map_drop]; done) | (simp [List.map_take, List.map_drop]; rfl)) (by first | rfl | (simp; done) | (simp; omega) | (simp []; done) | (simp []; omega)) (flat_map flat_GEvent [v3, v5, v7, v9])) rfl rfl) (CvL.cons (cvE_one (cv_ref (es := List.map enc_GEvent [v11, v13, v15, v17]) rfl (by first | rfl | (simp; done) | (simp; rfl) | (simp []; done) | (simp []; rfl) | (simp [List.map_take, List.map_drop]; done) | (simp [List.map_take, List.map_drop]; rfl)) (by first | rfl | (simp; done) | (simp; omega) | (simp []; done) | (simp []; omega)) (flat_map flat_GEvent [v11, v13, v15, v17])) rfl rfl) CvL.nil)) rfl) Cvs.nil) (ownTup (allCons .sc (allCons .sc allNil)))) | exact (PureCall.none (law21_sum_ok _ h2) Cvs.nil) | exact (PureCall.none (law21_at_ok _ _ _ _ h26) (Cvs.cons .sc (Cvs.cons .sc (Cvs.cons .sc Cvs.nil)))) | exact (PureCall.none (law21_at_ok _ _ _ _ h28) (Cvs.cons .sc (Cvs.cons .sc (Cvs.cons .sc Cvs.nil)))) | exact (PureCall.none (law21_at_ok _ _ _ _ h30) (Cvs.cons .sc (Cvs.cons .sc (Cvs.cons .sc Cvs.nil)))) | exact (PureCall.lent (meaning_All_ok _ _ _ h32) (Cvs.cons (cv_agg (Cvs.cons .sc (Cvs.cons .nils (Cvs.cons (cv_list (flat_map (fun _ => flatSc) ((GQuery.mk 1 ([] : List GNode) v1.Sources v1.Join v1.Where (GWindow.mk 3 4 0) v1.ByKey v1.Late).Sources))) (Cvs.cons .sc (Cvs.cons (cv_list (flat_map flat_GNode ((GQuery.mk 1 ([] : List GNode) v1.Sources v1.Join v1.Where (GWindow.mk 3 4 0) v1.ByKey v1.Late).Where))) (Cvs.cons .sc (Cvs.cons .sc (Cvs.cons .sc (Cvs.cons .sc (Cvs.cons .sc Cvs.nil))))))))))) (Cvs.cons (cv_refs rfl (CvL.cons (cvE_one (cv_ref (es := List.map enc_GEvent [v25, v27, v29]) rfl (by first | rfl | (simp; done) | (simp; rfl) | (simp []; done) | (simp []; rfl) | (simp [List.map_take, List.map_drop]; done) | (simp [List.map_take, List.map_drop]; rfl)) (by first | rfl | (simp; done) | (simp; omega) | (simp []; done) | (simp []; omega)) (flat_map flat_GEvent [v25, v27, v29])) rfl rfl) CvL.nil) rfl) Cvs.nil)) (ownTup (allCons (ownO_list (flat_map flat_GRow _)) (allCons (ownO_list (flat_map flat_GRecord _)) (allCons .sc allNil))))) | exact oblA) ?_
 refine bindE h ?_
 clear h; intro v33 h34 h
 refine run_to tmD 4000 [.pure [] (enc_GQuery true v1), .pure [(enc_GQuery false (GQuery.mk v1.Agg ([] : List GNode) v1.Sources v1.Join v1.Where v1.Window v1.ByKey v1.Late)), (AV.list false (List.map (encl false enc_GEvent) ([] : List (List GEvent))))] (AV.tup [(AV.list true (List.map enc_GRow v33.1)), (AV.list true (List.map enc_GRecord v33.2.1)), (aI .i64 v33.2.2)])] rfl (by repeat' first | refine And.intro ?_ ?_ | exact (PureCall.none (law21_sum_ok _ h2) Cvs.nil) | exact (PureCall.none (meaning_All_ok _ _ _ h34) (Cvs.cons (cv_agg (Cvs.cons .sc (Cvs.cons .nils (Cvs.cons (cv_list (flat_map (fun _ => flatSc) ((GQuery.mk v1.Agg ([] : List GNode) v1.Sources v1.Join v1.Where v1.Window v1.ByKey v1.Late).Sources))) (Cvs.cons .sc (Cvs.cons (cv_list (flat_map flat_GNode ((GQuery.mk v1.Agg ([] : List GNode) v1.Sources v1.Join v1.Where v1.Window v1.ByKey v1.Late).Where))) (Cvs.cons .sc (Cvs.cons .sc (Cvs.cons .sc (Cvs.cons .sc (Cvs.cons .sc Cvs.nil))))))))))) (Cvs.cons .nils Cvs.nil))) | exact oblA) ?_
 refine bindE h ?_
 clear h; intro v35 h36 h
 refine run_to tmD 4000 [.pure [] (enc_GQuery true v1), .pure [(enc_GQuery false v1), (AV.list false (List.map (encl false enc_GEvent) ([] : List (List GEvent))))] (AV.tup [(AV.list true (List.map enc_GRow v35.1)), (AV.list true (List.map enc_GRecord v35.2.1)), (aI .i64 v35.2.2)])] rfl (by repeat' first | refine And.intro ?_ ?_ | exact (PureCall.none (law21_sum_ok _ h2) Cvs.nil) | exact (PureCall.none (meaning_Emitted_ok _ _ _ h36) (Cvs.cons (cva_GQuery (o := true) (x := v1)) (Cvs.cons .nils Cvs.nil))) | exact oblA) ?_
 refine bindE h ?_
 clear h; intro v37 h38 h
 refine run_to tmD 4000 [.pure [] (enc_GQuery true v1), .pure [(enc_GQuery false v1), (AV.list false (List.map (encl false enc_GEvent) [[v3, v5, v7, v9], [v11, v13, v15, v17]]))] (AV.tup [(AV.list true (List.map enc_GRow v37.1)), (AV.list true (List.map enc_GRecord v37.2.1)), (aI .i64 v37.2.2)])] rfl (by repeat' first | refine And.intro ?_ ?_ | exact (PureCall.none (law21_sum_ok _ h2) Cvs.nil) | exact (PureCall.lent (meaning_All_ok _ _ _ h38) (Cvs.cons (cva_GQuery (o := true) (x := v1)) (Cvs.cons (cv_refs rfl (CvL.cons (cvE_one (cv_ref (es := List.map enc_GEvent [v3, v5, v7, v9]) rfl (by first | rfl | (simp; done) | (simp; rfl) | (simp []; done) | (simp []; rfl) | (simp [List.map_take, List.map_drop]; done) | (simp [List.map_take, List.map_drop]; rfl)) (by first | rfl | (simp; done) | (simp; omega) | (simp []; done) | (simp []; omega)) (flat_map flat_GEvent [v3, v5, v7, v9])) rfl rfl) (CvL.cons (cvE_one (cv_ref (es := List.map enc_GEvent [v11, v13, v15, v17]) rfl (by first | rfl | (simp; done) | (simp; rfl) | (simp []; done) | (simp []; rfl) | (simp [List.map_take, List.map_drop]; done) | (simp [List.map_take, List.map_drop]; rfl)) (by first | rfl | (simp; done) | (simp; omega) | (simp []; done) | (simp []; omega)) (flat_map flat_GEvent [v11, v13, v15, v17])) rfl rfl) CvL.nil)) rfl) Cvs.nil)) (ownTup (allCons (ownO_list (flat_map flat_GRow _)) (allCons (ownO_list (flat_map flat_GRecord _)) (allCons .sc allNil))))) | exact oblA) ?_
 refine bindE h ?_
 clear h; intro v39 h40 h
 refine run_to tmD 4000 [.pure [] (enc_GQuery true v1), .pure [(enc_GQuery false v1), (AV.list false (List.map (encl false enc_GEvent) [[(GEvent.mk false 1 (GRecord.mk 0 0 0))]]))] (AV.tup [(AV.list true (List.map enc_GRow v39.1)), (AV.list true (List.map enc_GRecord v39.2.1)), (aI .i64 v39.2.2)])] rfl (by repeat' first | refine And.intro ?_ ?_ | exact (PureCall.none (law21_sum_ok _ h2) Cvs.nil) | exact (PureCall.lent (meaning_All_ok _ _ _ h40) (Cvs.cons (cva_GQuery (o := true) (x := v1)) (Cvs.cons (cv_refs rfl (CvL.cons (cvE_one (cv_ref (es := List.map enc_GEvent [(GEvent.mk false 1 (GRecord.mk 0 0 0))]) rfl (by first | rfl | (simp; done) | (simp; rfl) | (simp []; done) | (simp []; rfl) | (simp [List.map_take, List.map_drop]; done) | (simp [List.map_take, List.map_drop]; rfl)) (by first | rfl | (simp; done) | (simp; omega) | (simp []; done) | (simp []; omega)) (flat_map flat_GEvent [(GEvent.mk false 1 (GRecord.mk 0 0 0))])) rfl rfl) CvL.nil) rfl) Cvs.nil)) (ownTup (allCons (ownO_list (flat_map flat_GRow _)) (allCons (ownO_list (flat_map flat_GRecord _)) (allCons .sc allNil))))) | exact oblA) ?_
 refine bindE h ?_
 clear h; intro v41 h42 h
 refine bindE h ?_
 clear h; intro v43 h44 h
 refine run_to tmD 4000 [.pure [(AV.list false (List.map (encl false enc_GEvent) ([] : List (List GEvent))))] (AV.tup [(aI .i64 v41.1), (aI .i64 v41.2)]), .pure [(AV.list false (List.map (encl false enc_GEvent) [([] : List GEvent), ([] : List GEvent), ([] : List GEvent), ([] : List GEvent), ([] : List GEvent)]))] (AV.tup [(aI .i64 v43.1), (aI .i64 v43.2)])] rfl (by repeat' first | refine And.intro ?_ ?_ | exact (PureCall.none (meaning_Least_ok _ _ h42) (Cvs.cons .nils Cvs.nil)) | exact ((show ((24 : Nat) : Int) * 5 ≤ 281474976710656 by decide)) | exact (PureCall.lent (meaning_Least_ok _ _ h44) (Cvs.cons (cv_refs rfl (CvL.cons (cvE_one .nils rfl rfl) (CvL.cons (cvE_one .nils rfl rfl) (CvL.cons (cvE_one .nils rfl rfl) (CvL.cons (cvE_one .nils rfl rfl) (CvL.cons (cvE_one .nils rfl rfl) CvL.nil))))) rfl) Cvs.nil) (ownTup (allCons .sc (allCons .sc allNil)))) | exact ((show ((40 : Nat) : Int) * 61 ≤ 281474976710656 by decide)) | exact oblA) ?_
 refine bindE h ?_
 clear h; intro v45 h46 h
 refine run_to tmD 4000 [.pure [(AV.list false (List.map (encl false enc_GEvent) [([] : List GEvent), (List.replicate (Int.toNat (61 : Int)) (GEvent.mk false 0 (GRecord.mk 0 0 0))), [(GEvent.mk false 1 (GRecord.mk 0 0 0))]]))] (AV.tup [(aI .i64 v45.1), (aI .i64 v45.2)])] rfl (by repeat' first | refine And.intro ?_ ?_ | exact (PureCall.lent (meaning_Least_ok _ _ h46) (Cvs.cons (cv_refs rfl (CvL.cons (cvE_one .nils rfl rfl) (CvL.cons (cvE_one (cv_ref (es := List.map enc_GEvent (List.replicate (Int.toNat (61 : Int)) (GEvent.mk false 0 (GRecord.mk 0 0 0)))) rfl (by first | rfl | (simp; done) | (simp; rfl) | (simp []; done) | (simp []; rfl) | (simp [List.map_take, List.map_drop]; done) | (simp [List.map_take, List.map_drop]; rfl)) (by first | rfl | (simp; done) | (simp; omega) | (simp []; done) | (simp []; omega)) (flat_map flat_GEvent (List.replicate (Int.toNat (61 : Int)) (GEvent.mk false 0 (GRecord.mk 0 0 0))))) rfl rfl) (CvL.cons (cvE_one (cv_ref (es := List.map enc_GEvent [(GEvent.mk false 1 (GRecord.mk 0 0 0))]) rfl (by first | rfl | (simp; done) | (simp; rfl) | (simp []; done) | (simp []; rfl) | (simp [List.map_take, List.map_drop]; done) | (simp [List.map_take, List.map_drop]; rfl)) (by first | rfl | (simp; done) | (simp; omega) | (simp []; done) | (simp []; omega)) (flat_map flat_GEvent [(GEvent.mk false 1 (GRecord.mk 0 0 0))])) rfl rfl) CvL.nil))) rfl) Cvs.nil) (ownTup (allCons .sc (allCons .sc allNil)))) | exact oblA) ?_
 refine bindE h ?_
 clear h; intro v47 h48 h
 refine bindE h ?_
 clear h; intro v49 h50 h
 refine bindE h ?_
 clear h; intro v51 h52 h
 refine run_to tmD 4000 [.pure [(aI .i64 5)] (enc_GEvent v47), .pure [(AV.list false (List.map (encl false enc_GEvent) [[v47], ([] : List GEvent)]))] (AV.tup [(aI .i64 v49.1), (aI .i64 v49.2)]), .pure [(enc_GQuery false (GQuery.mk v1.Agg ([] : List GNode) v1.Sources v1.Join v1.Where v1.Window v1.ByKey v1.Late))] (AV.tup [(aI .i64 v51.1), (aI .i64 v51.2)])] rfl (by repeat' first | refine And.intro ?_ ?_ | exact (PureCall.none (law21_mark_ok _ _ h48) (Cvs.cons .sc Cvs.nil)) | exact (PureCall.lent (meaning_Least_ok _ _ h50) (Cvs.cons (cv_refs rfl (CvL.cons (cvE_one (cv_ref (es := List.map enc_GEvent [v47]) rfl (by first | rfl | (simp; done) | (simp; rfl) | (simp []; done) | (simp []; rfl) | (simp [List.map_take, List.map_drop]; done) | (simp [List.map_take, List.map_drop]; rfl)) (by first | rfl | (simp; done) | (simp; omega) | (simp []; done) | (simp []; omega)) (flat_map flat_GEvent [v47])) rfl rfl) (CvL.cons (cvE_one .nils rfl rfl) CvL.nil)) rfl) Cvs.nil) (ownTup (allCons .sc (allCons .sc allNil)))) | exact (PureCall.none (ref10_Check_ok _ _ h52) (Cvs.cons (cv_agg (Cvs.cons .sc (Cvs.cons .nils (Cvs.cons (cv_list (flat_map (fun _ => flatSc) ((GQuery.mk v1.Agg ([] : List GNode) v1.Sources v1.Join v1.Where v1.Window v1.ByKey v1.Late).Sources))) (Cvs.cons .sc (Cvs.cons (cv_list (flat_map flat_GNode ((GQuery.mk v1.Agg ([] : List GNode) v1.Sources v1.Join v1.Where v1.Window v1.ByKey v1.Late).Where))) (Cvs.cons .sc (Cvs.cons .sc (Cvs.cons .sc (Cvs.cons .sc (Cvs.cons .sc Cvs.nil))))))))))) Cvs.nil)) | exact oblA) ?_
 refine bindE h ?_
 clear h; intro v53 h54 h
 refine brE h ?_ ?_
 ·clear h; intro h55 h
  refine brE h ?_ ?_
  ·clear h; intro h56 h
   refine bindE h ?_
   clear h; intro v57 h58 h
   refine brE h ?_ ?_
   ·clear h; intro h59 h
    refine brE h ?_ ?_
    ·clear h; intro h60 h
     refine brE h ?_ ?_
     ·clear h; intro h61 h
      refine brE h ?_ ?_
      ·clear h; intro h62 h
       refine brE h ?_ ?_
       ·clear h; intro h63 h
        refine brE h ?_ ?_
        ·clear h; intro h64 h
         refine brE h ?_ ?_
         ·clear h; intro h65 h
          refine run_to tmD 4000 [.pure [] (aB v53), .go true, .go true, .go true, .go true, .go true, .go true, .pure [(AV.list false (List.map enc_GRow v19.1)), (AV.list false (List.map enc_GRow [(GRow.mk 1 (GSpan.mk 0 10) (V2.mk 5 110))]))] (aB v57), .go true, .go true, .el (aI .i64 (List.length v19.2.1 : Int)), .go true, .go true, .go true, .go true, .go true, .el (aI .i64 (List.length v21.1 : Int)), .go true, .go true, .go true, .go true, .go true, .go true, .go true, .go true, .stop 0] rfl (by repeat' first | refine And.intro ?_ ?_ | (simp only [h55, h56, h59, h60, h61, h62, h63, h64, h65, cond_true, cond_false, Bool.not_true, Bool.not_false]; done) | exact (PureCall.none (law21_alive_ok _ h54) Cvs.nil) | exact (PureCall.lent (ref21_Same_ok _ _ _ h58) (Cvs.cons (cv_list (flat_map flat_GRow v19.1)) (Cvs.cons (cv_ref (es := List.map enc_GRow [(GRow.mk 1 (GSpan.mk 0 10) (V2.mk 5 110))]) rfl (by first | rfl | (simp; done) | (simp; rfl) | (simp [h55, h56]; done) | (simp [h55, h56]; rfl) | (simp [h55, h56, List.map_take, List.map_drop]; done) | (simp [h55, h56, List.map_take, List.map_drop]; rfl)) (by first | rfl | (simp; done) | (simp; omega) | (simp [h55, h56]; done) | (simp [h55, h56]; omega)) (flat_map flat_GRow [(GRow.mk 1 (GSpan.mk 0 10) (V2.mk 5 110))])) Cvs.nil)) .sc) | exact oblA) ?_
          refine bindE h ?_
          clear h; intro v66 h67 h
          refine bindE h ?_
          clear h; intro v68 h69 h
          refine bindE h ?_
          clear h; intro v70 h71 h
          refine brE h ?_ ?_
          ·clear h; intro h72 h
           refine brE h ?_ ?_
           ·clear h; intro h73 h
            refine brE h ?_ ?_
            ·clear h; intro h74 h
             refine brE h ?_ ?_
             ·clear h; intro h75 h
              refine brE h ?_ ?_
              ·clear h; intro h76 h
               refine brE h ?_ ?_
               ·clear h; intro h77 h
                refine brE h ?_ ?_
                ·clear h; intro h78 h
                 refine brE h ?_ ?_
                 ·clear h; intro h79 h
                  refine brE h ?_ ?_
                  ·clear h; intro h80 h
                   refine brE h ?_ ?_
                   ·clear h; intro h81 h
                    obtain rfl := Option.some.inj h
                    refine run_to tmD 4000 [.go true, .pure [(aI .i64 0), (aI .i64 7), (aI .i64 2)] (enc_GRow v66), .go true, .pure [(aI .i64 7), (aI .i64 11), (aI .i64 1)] (enc_GRow v68), .go true, .go true, .pure [(AV.list false (List.map enc_GRow v31.1)), (AV.list false (List.map enc_GRow [v66, v68]))] (aB v70), .go true, .go true, .go true, .go true, .go true, .go true, .go true, .go true, .go true, .go true, .go true, .go true, .go true, .go true, .go true, .go true, .go true, .go true, .go true, .go true, .go true] rfl (by repeat' first | refine And.intro ?_ ?_ | (simp only [h55, h56, h59, h60, h61, h62, h63, h64, h65, h72, h73, h74, h75, h76, h77, h78, h79, h80, h81, cond_true, cond_false, Bool.not_true, Bool.not_false]; done) | exact (PureCall.none (law21_row_ok _ _ _ _ h67) (Cvs.cons .sc (Cvs.cons .sc (Cvs.cons .sc Cvs.nil)))) | exact (PureCall.none (law21_row_ok _ _ _ _ h69) (Cvs.cons .sc (Cvs.cons .sc (Cvs.cons .sc Cvs.nil)))) | exact (PureCall.lent (ref21_Same_ok _ _ _ h71) (Cvs.cons (cv_list (flat_map flat_GRow v31.1)) (Cvs.cons (cv_ref (es := List.map enc_GRow [v66, v68]) rfl (by first | rfl | (simp; done) | (simp; rfl) | (simp [h55, h56, h59, h60, h61, h62, h63, h64, h65]; done) | (simp [h55, h56, h59, h60, h61, h62, h63, h64, h65]; rfl) | (simp [h55, h56, h59, h60, h61, h62, h63, h64, h65, List.map_take, List.map_drop]; done) | (simp [h55, h56, h59, h60, h61, h62, h63, h64, h65, List.map_take, List.map_drop]; rfl)) (by first | rfl | (simp; done) | (simp; omega) | (simp [h55, h56, h59, h60, h61, h62, h63, h64, h65]; done) | (simp [h55, h56, h59, h60, h61, h62, h63, h64, h65]; omega)) (flat_map flat_GRow [v66, v68])) Cvs.nil)) .sc) | exact oblA) ?_
                    refine fin_ret rfl ?_
                    exact (cv_scE (by first | rfl | (simp [*]; done)))
                   ·clear h; intro h81 h
                    obtain rfl := Option.some.inj h
                    simp [h55, h56, h59, h60, h61, h62, h63, h64, h65, h72, h73, h74, h75, h76, h77, h78, h79, h80, h81] at hr
                  ·clear h; intro h80 h
                   obtain rfl := Option.some.inj h
                   simp [h55, h56, h59, h60, h61, h62, h63, h64, h65, h72, h73, h74, h75, h76, h77, h78, h79, h80] at hr
                 ·clear h; intro h79 h
                  obtain rfl := Option.some.inj h
                  simp [h55, h56, h59, h60, h61, h62, h63, h64, h65, h72, h73, h74, h75, h76, h77, h78, h79] at hr
                ·clear h; intro h78 h
                 obtain rfl := Option.some.inj h
                 simp [h55, h56, h59, h60, h61, h62, h63, h64, h65, h72, h73, h74, h75, h76, h77, h78] at hr
               ·clear h; intro h77 h
                obtain rfl := Option.some.inj h
                simp [h55, h56, h59, h60, h61, h62, h63, h64, h65, h72, h73, h74, h75, h76, h77] at hr
              ·clear h; intro h76 h
               obtain rfl := Option.some.inj h
               simp [h55, h56, h59, h60, h61, h62, h63, h64, h65, h72, h73, h74, h75, h76] at hr
             ·clear h; intro h75 h
              obtain rfl := Option.some.inj h
              simp [h55, h56, h59, h60, h61, h62, h63, h64, h65, h72, h73, h74, h75] at hr
            ·clear h; intro h74 h
             obtain rfl := Option.some.inj h
             simp [h55, h56, h59, h60, h61, h62, h63, h64, h65, h72, h73, h74] at hr
           ·clear h; intro h73 h
            obtain rfl := Option.some.inj h
            simp [h55, h56, h59, h60, h61, h62, h63, h64, h65, h72, h73] at hr
          ·clear h; intro h72 h
           obtain rfl := Option.some.inj h
           simp [h55, h56, h59, h60, h61, h62, h63, h64, h65, h72] at hr
         ·clear h; intro h65 h
          obtain rfl := Option.some.inj h
          simp [h55, h56, h59, h60, h61, h62, h63, h64, h65] at hr
        ·clear h; intro h64 h
         obtain rfl := Option.some.inj h
         simp [h55, h56, h59, h60, h61, h62, h63, h64] at hr
       ·clear h; intro h63 h
        obtain rfl := Option.some.inj h
        simp [h55, h56, h59, h60, h61, h62, h63] at hr
      ·clear h; intro h62 h
       obtain rfl := Option.some.inj h
       simp [h55, h56, h59, h60, h61, h62] at hr
     ·clear h; intro h61 h
      obtain rfl := Option.some.inj h
      simp [h55, h56, h59, h60, h61] at hr
    ·clear h; intro h60 h
     obtain rfl := Option.some.inj h
     simp [h55, h56, h59, h60] at hr
   ·clear h; intro h59 h
    obtain rfl := Option.some.inj h
    simp [h55, h56, h59] at hr
  ·clear h; intro h56 h
   obtain rfl := Option.some.inj h
   simp [h55, h56] at hr
 ·clear h; intro h55 h
  obtain rfl := Option.some.inj h
  simp [h55] at hr
end Go.Av.Tryz
