/- Printed by decomp.py: that the program computes the functions. -/
import Derived.Test.YtneciiakpbfnjaaGreatDCert0J
import Derived.Test.YtneciiakpbfnjaaGreatDCert5J
import Derived.Test.YtneciiakpbfnjaaGreatDCert7J
import Derived.Test.YtneciiakpbfnjaaGreatDCert9J
set_option linter.all false
set_option linter.unusedVariables false
namespace Go.Av.Tryz
open Go.Proofs Go.D
set_option maxRecDepth 10000
set_option maxHeartbeats 4000000

theorem task_Pend_ok (a0 : GTask) (a1 : (List GSend)) (r : GTask × Int) (h : task_Pend a0 a1 = some r) : Pure Tryz.prog 36 [(enc_GTask false a0), (AV.list false (List.map enc_GSend a1))] (AV.tup [(enc_GTask true r.1), (aI .i64 r.2)]) := by
 refine Pure.sym tyTab_ok fn36 (nt := 33) rfl rfl ?_ (allCons (free_GTask false _ _).1 (allCons .list allNil))
 unfold task_Pend at h
 refine bindE h ?_
 clear h; intro v1 h2 h
 refine brE h ?_ ?_
 ·clear h; intro h3 h
  obtain rfl := Option.some.inj h
  refine run_to tmD 4000 [.pure [(enc_GTask false a0)] (aI .i64 v1), .br true] rfl (by repeat' first | refine And.intro ?_ ?_ | exact (PureCall.none (task_Check_ok _ _ h2) (Cvs.cons (cv_agg (Cvs.cons .sc (Cvs.cons .sc (Cvs.cons .sc (Cvs.cons (cv_list (flat_map flat_GSend a0.Pending)) (Cvs.cons (cv_list (flat_map (fun _ => flatSc) a0.Marks)) (Cvs.cons (cv_list (flat_map flat_GEntry a0.Store)) (Cvs.cons (cv_list (flat_map flat_GEvent a0.Events)) (Cvs.cons (cv_list (flat_map flat_GRow a0.Rows)) (Cvs.cons (cv_list (flat_map flat_GRecord a0.Late)) Cvs.nil)))))))))) Cvs.nil)) | exact oblA) ?_
  refine fin_ret rfl ?_
  exact (cv_tup (Cvs.cons (cv_agg (Cvs.cons .sc (Cvs.cons .sc (Cvs.cons .sc (Cvs.cons (cv_nils (es := List.map enc_GSend ((GTask.mk (GOp.mk 0 0) 0 ([] : List GSend) ([] : List Int) ([] : List GEntry) ([] : List GEvent) ([] : List GRow) ([] : List GRecord)).Pending)) (by simp [*])) (Cvs.cons (cv_nils (es := List.map (aI .i64) ((GTask.mk (GOp.mk 0 0) 0 ([] : List GSend) ([] : List Int) ([] : List GEntry) ([] : List GEvent) ([] : List GRow) ([] : List GRecord)).Marks)) (by simp [*])) (Cvs.cons (cv_nils (es := List.map enc_GEntry ((GTask.mk (GOp.mk 0 0) 0 ([] : List GSend) ([] : List Int) ([] : List GEntry) ([] : List GEvent) ([] : List GRow) ([] : List GRecord)).Store)) (by simp [*])) (Cvs.cons (cv_nils (es := List.map enc_GEvent ((GTask.mk (GOp.mk 0 0) 0 ([] : List GSend) ([] : List Int) ([] : List GEntry) ([] : List GEvent) ([] : List GRow) ([] : List GRecord)).Events)) (by simp [*])) (Cvs.cons (cv_nils (es := List.map enc_GRow ((GTask.mk (GOp.mk 0 0) 0 ([] : List GSend) ([] : List Int) ([] : List GEntry) ([] : List GEvent) ([] : List GRow) ([] : List GRecord)).Rows)) (by simp [*])) (Cvs.cons (cv_nils (es := List.map enc_GRecord ((GTask.mk (GOp.mk 0 0) 0 ([] : List GSend) ([] : List Int) ([] : List GEntry) ([] : List GEvent) ([] : List GRow) ([] : List GRecord)).Late)) (by simp [*])) Cvs.nil)))))))))) (Cvs.cons .sc Cvs.nil)))
 ·clear h; intro h3 h
  refine bindE h ?_
  clear h; intro v4 h5 h
  refine brE h ?_ ?_
  ·clear h; intro h6 h
   obtain rfl := Option.some.inj h
   refine run_to tmD 4000 [.pure [(enc_GTask false a0)] (aI .i64 v1), .br false, .pure [(AV.list false (List.map enc_GSend a1))] (aB v4), .br true] rfl (by repeat' first | refine And.intro ?_ ?_ | exact (PureCall.none (task_Check_ok _ _ h2) (Cvs.cons (cv_agg (Cvs.cons .sc (Cvs.cons .sc (Cvs.cons .sc (Cvs.cons (cv_list (flat_map flat_GSend a0.Pending)) (Cvs.cons (cv_list (flat_map (fun _ => flatSc) a0.Marks)) (Cvs.cons (cv_list (flat_map flat_GEntry a0.Store)) (Cvs.cons (cv_list (flat_map flat_GEvent a0.Events)) (Cvs.cons (cv_list (flat_map flat_GRow a0.Rows)) (Cvs.cons (cv_list (flat_map flat_GRecord a0.Late)) Cvs.nil)))))))))) Cvs.nil)) | exact (PureCall.none (task_sends_ok _ _ h5) (Cvs.cons (cv_list (flat_map flat_GSend a1)) Cvs.nil)) | exact oblA) ?_
   refine fin_ret rfl ?_
   exact (cv_tup (Cvs.cons (cv_agg (Cvs.cons .sc (Cvs.cons .sc (Cvs.cons .sc (Cvs.cons (cv_nils (es := List.map enc_GSend ((GTask.mk (GOp.mk 0 0) 0 ([] : List GSend) ([] : List Int) ([] : List GEntry) ([] : List GEvent) ([] : List GRow) ([] : List GRecord)).Pending)) (by simp [*])) (Cvs.cons (cv_nils (es := List.map (aI .i64) ((GTask.mk (GOp.mk 0 0) 0 ([] : List GSend) ([] : List Int) ([] : List GEntry) ([] : List GEvent) ([] : List GRow) ([] : List GRecord)).Marks)) (by simp [*])) (Cvs.cons (cv_nils (es := List.map enc_GEntry ((GTask.mk (GOp.mk 0 0) 0 ([] : List GSend) ([] : List Int) ([] : List GEntry) ([] : List GEvent) ([] : List GRow) ([] : List GRecord)).Store)) (by simp [*])) (Cvs.cons (cv_nils (es := List.map enc_GEvent ((GTask.mk (GOp.mk 0 0) 0 ([] : List GSend) ([] : List Int) ([] : List GEntry) ([] : List GEvent) ([] : List GRow) ([] : List GRecord)).Events)) (by simp [*])) (Cvs.cons (cv_nils (es := List.map enc_GRow ((GTask.mk (GOp.mk 0 0) 0 ([] : List GSend) ([] : List Int) ([] : List GEntry) ([] : List GEvent) ([] : List GRow) ([] : List GRecord)).Rows)) (by simp [*])) (Cvs.cons (cv_nils (es := List.map enc_GRecord ((GTask.mk (GOp.mk 0 0) 0 ([] : List GSend) ([] : List Int) ([] : List GEntry) ([] : List GEvent) ([] : List GRow) ([] : List GRecord)).Late)) (by simp [*])) Cvs.nil)))))))))) (Cvs.cons .sc Cvs.nil)))
  ·clear h; intro h6 h
   refine run_to tmD 4000 [.pure [(enc_GTask false a0)] (aI .i64 v1), .br false, .pure [(AV.list false (List.map enc_GSend a1))] (aB v4), .br false, .el (aI .i64 (List.length a1 : Int)), .el (aI .i64 (List.length a0.Pending : Int)), .wrap] rfl (by repeat' first | refine And.intro ?_ ?_ | exact (PureCall.none (task_Check_ok _ _ h2) (Cvs.cons (cv_agg (Cvs.cons .sc (Cvs.cons .sc (Cvs.cons .sc (Cvs.cons (cv_list (flat_map flat_GSend a0.Pending)) (Cvs.cons (cv_list (flat_map (fun _ => flatSc) a0.Marks)) (Cvs.cons (cv_list (flat_map flat_GEntry a0.Store)) (Cvs.cons (cv_list (flat_map flat_GEvent a0.Events)) (Cvs.cons (cv_list (flat_map flat_GRow a0.Rows)) (Cvs.cons (cv_list (flat_map flat_GRecord a0.Late)) Cvs.nil)))))))))) Cvs.nil)) | exact (PureCall.none (task_sends_ok _ _ h5) (Cvs.cons (cv_list (flat_map flat_GSend a1)) Cvs.nil)) | exact oblA) ?_
   refine brE h ?_ ?_
   ·clear h; intro h7 h
    obtain rfl := Option.some.inj h
    refine runT tmD [.br true] ?_
    refine fin_ret rfl ?_
    exact (cv_tup (Cvs.cons (cv_agg (Cvs.cons .sc (Cvs.cons .sc (Cvs.cons .sc (Cvs.cons (cv_nils (es := List.map enc_GSend ((GTask.mk (GOp.mk 0 0) 0 ([] : List GSend) ([] : List Int) ([] : List GEntry) ([] : List GEvent) ([] : List GRow) ([] : List GRecord)).Pending)) (by simp [*])) (Cvs.cons (cv_nils (es := List.map (aI .i64) ((GTask.mk (GOp.mk 0 0) 0 ([] : List GSend) ([] : List Int) ([] : List GEntry) ([] : List GEvent) ([] : List GRow) ([] : List GRecord)).Marks)) (by simp [*])) (Cvs.cons (cv_nils (es := List.map enc_GEntry ((GTask.mk (GOp.mk 0 0) 0 ([] : List GSend) ([] : List Int) ([] : List GEntry) ([] : List GEvent) ([] : List GRow) ([] : List GRecord)).Store)) (by simp [*])) (Cvs.cons (cv_nils (es := List.map enc_GEvent ((GTask.mk (GOp.mk 0 0) 0 ([] : List GSend) ([] : List Int) ([] : List GEntry) ([] : List GEvent) ([] : List GRow) ([] : List GRecord)).Events)) (by simp [*])) (Cvs.cons (cv_nils (es := List.map enc_GRow ((GTask.mk (GOp.mk 0 0) 0 ([] : List GSend) ([] : List Int) ([] : List GEntry) ([] : List GEvent) ([] : List GRow) ([] : List GRecord)).Rows)) (by simp [*])) (Cvs.cons (cv_nils (es := List.map enc_GRecord ((GTask.mk (GOp.mk 0 0) 0 ([] : List GSend) ([] : List Int) ([] : List GEntry) ([] : List GEvent) ([] : List GRow) ([] : List GRecord)).Late)) (by simp [*])) Cvs.nil)))))))))) (Cvs.cons .sc Cvs.nil)))
   ·clear h; intro h7 h
    refine runT tmD [.br false] ?_
    refine SemK.inline tyTab_ok fn68 rfl rfl rfl rfl rfl trivial trivial rfl rfl ?_
    refine brE h ?_ ?_
    ·clear h; intro q h
     have h32 : a0.Pending = [] := List.isEmpty_iff.1 q
     refine bindE h ?_
     clear h; intro v33 h34 h
     refine bindE h ?_
     clear h; intro v35 h36 h
     refine bindE h ?_
     clear h; intro v37 h38 h
     refine bindE h ?_
     clear h; intro v39 h40 h
     refine bindE h ?_
     clear h; intro v41 h42 h
     refine run_to tmD 4000 [.pure [(AV.list false (List.map enc_GSend a0.Pending))] AV.nils, .pure [(AV.list false (List.map (aI .i64) a0.Marks))] (AV.list true (List.map (aI .i64) v33)), .pure [(AV.list false (List.map enc_GEntry a0.Store))] (AV.list true (List.map enc_GEntry v35)), .pure [(AV.list false (List.map enc_GEvent a0.Events))] (AV.list true (List.map enc_GEvent v37)), .pure [(AV.list false (List.map enc_GRow a0.Rows))] (AV.list true (List.map enc_GRow v39)), .pure [(AV.list false (List.map enc_GRecord a0.Late))] (AV.list true (List.map enc_GRecord v41))] rfl (by repeat' first | refine And.intro ?_ ?_ | exact (PureCall.none (slices_Clone_Send_Send_nil _ (by simp [*])) (Cvs.cons (cv_list (flat_map flat_GSend a0.Pending)) Cvs.nil)) | exact (PureCall.none (slices_Clone_int64_int64_ok _ _ h34) (Cvs.cons (cv_list (flat_map (fun _ => flatSc) a0.Marks)) Cvs.nil)) | exact (PureCall.none (slices_Clone_Entry_Entry_ok _ _ h36) (Cvs.cons (cv_list (flat_map flat_GEntry a0.Store)) Cvs.nil)) | exact (PureCall.none (slices_Clone_Event_Event_ok _ _ h38) (Cvs.cons (cv_list (flat_map flat_GEvent a0.Events)) Cvs.nil)) | exact (PureCall.none (slices_Clone_Row_Row_ok _ _ h40) (Cvs.cons (cv_list (flat_map flat_GRow a0.Rows)) Cvs.nil)) | exact (PureCall.none (slices_Clone_Record_Record_ok _ _ h42) (Cvs.cons (cv_list (flat_map flat_GRecord a0.Late)) Cvs.nil)) | exact oblA) ?_
     refine SemK.back (by intro id h; cases h) rfl ?_
     refine brE h ?_ ?_
     ·clear h; intro q h
      have h43 : a1 = [] := List.isEmpty_iff.1 q
      obtain rfl := Option.some.inj h
      refine runT tmD [.ne false] ?_
      refine fin_ret rfl ?_
      exact (cv_tup (Cvs.cons (cv_agg (Cvs.cons .sc (Cvs.cons .sc (Cvs.cons .sc (Cvs.cons (cv_nils (es := List.map enc_GSend ((GTask.mk a0.Op a0.Turn a1 v33 v35 v37 v39 v41).Pending)) (by simp [*])) (Cvs.cons (.listS rfl) (Cvs.cons (.listS rfl) (Cvs.cons (.listS rfl) (Cvs.cons (.listS rfl) (Cvs.cons (.listS rfl) Cvs.nil)))))))))) (Cvs.cons .sc Cvs.nil)))
     ·clear h; intro q h
      have h43 : ¬ (a1 = []) := (fun e => by rw [e] at q; cases q)
      refine bindE h ?_
      clear h; intro u44 h45 h
      obtain rfl := Option.some.inj h
      refine run_to tmD 4000 [.via (AV.list true (List.map enc_GSend a1))] rfl (by repeat' first | refine And.intro ?_ ?_ | (refine capLe h45 rfl ?_; first | (simp; done) | (simp; omega) | (simp [h3, h6, h7, h32, h43]; done) | (simp [h3, h6, h7, h32, h43]; omega)) | (refine capMax h45 (by decide) ?_; first | (simp; done) | (simp; omega) | (simp [h3, h6, h7, h32, h43]; done) | (simp [h3, h6, h7, h32, h43]; omega)) | exact oblA) ?_
      refine fin_ret rfl ?_
      exact (cv_tup (Cvs.cons (cv_agg (Cvs.cons .sc (Cvs.cons .sc (Cvs.cons .sc (Cvs.cons (cv_ref (es := List.map enc_GSend ((GTask.mk a0.Op a0.Turn a1 v33 v35 v37 v39 v41).Pending)) rfl (by first | rfl | (simp; done) | (simp; rfl) | (simp [h3, h6, h7, h32, h43]; done) | (simp [h3, h6, h7, h32, h43]; rfl) | (simp [h3, h6, h7, h32, h43, List.map_take, List.map_drop]; done) | (simp [h3, h6, h7, h32, h43, List.map_take, List.map_drop]; rfl)) (by first | rfl | (simp; done) | (simp; omega) | (simp [h3, h6, h7, h32, h43]; done) | (simp [h3, h6, h7, h32, h43]; omega)) (flat_map flat_GSend ((GTask.mk a0.Op a0.Turn a1 v33 v35 v37 v39 v41).Pending))) (Cvs.cons (.listS rfl) (Cvs.cons (.listS rfl) (Cvs.cons (.listS rfl) (Cvs.cons (.listS rfl) (Cvs.cons (.listS rfl) Cvs.nil)))))))))) (Cvs.cons .sc Cvs.nil)))
    ·clear h; intro q h
     have h32 : ¬ (a0.Pending = []) := (fun e => by rw [e] at q; cases q)
     refine bindE h ?_
     clear h; intro v46 h47 h
     refine bindE h ?_
     clear h; intro v48 h49 h
     refine bindE h ?_
     clear h; intro v50 h51 h
     refine bindE h ?_
     clear h; intro v52 h53 h
     refine bindE h ?_
     clear h; intro v54 h55 h
     refine bindE h ?_
     clear h; intro v56 h57 h
     refine run_to tmD 4000 [.pure [(AV.list false (List.map enc_GSend a0.Pending))] (AV.list true (List.map enc_GSend v46)), .pure [(AV.list false (List.map (aI .i64) a0.Marks))] (AV.list true (List.map (aI .i64) v48)), .pure [(AV.list false (List.map enc_GEntry a0.Store))] (AV.list true (List.map enc_GEntry v50)), .pure [(AV.list false (List.map enc_GEvent a0.Events))] (AV.list true (List.map enc_GEvent v52)), .pure [(AV.list false (List.map enc_GRow a0.Rows))] (AV.list true (List.map enc_GRow v54)), .pure [(AV.list false (List.map enc_GRecord a0.Late))] (AV.list true (List.map enc_GRecord v56))] rfl (by repeat' first | refine And.intro ?_ ?_ | exact (PureCall.none (slices_Clone_Send_Send_ok _ _ h47) (Cvs.cons (cv_list (flat_map flat_GSend a0.Pending)) Cvs.nil)) | exact (PureCall.none (slices_Clone_int64_int64_ok _ _ h49) (Cvs.cons (cv_list (flat_map (fun _ => flatSc) a0.Marks)) Cvs.nil)) | exact (PureCall.none (slices_Clone_Entry_Entry_ok _ _ h51) (Cvs.cons (cv_list (flat_map flat_GEntry a0.Store)) Cvs.nil)) | exact (PureCall.none (slices_Clone_Event_Event_ok _ _ h53) (Cvs.cons (cv_list (flat_map flat_GEvent a0.Events)) Cvs.nil)) | exact (PureCall.none (slices_Clone_Row_Row_ok _ _ h55) (Cvs.cons (cv_list (flat_map flat_GRow a0.Rows)) Cvs.nil)) | exact (PureCall.none (slices_Clone_Record_Record_ok _ _ h57) (Cvs.cons (cv_list (flat_map flat_GRecord a0.Late)) Cvs.nil)) | exact oblA) ?_
     refine SemK.back (by intro id h; cases h) rfl ?_
     refine brE h ?_ ?_
     ·clear h; intro q h
      have h58 : a1 = [] := List.isEmpty_iff.1 q
      obtain rfl := Option.some.inj h
      refine runT tmD [.ne false] ?_
      refine fin_ret rfl ?_
      exact (cv_tup (Cvs.cons (cv_agg (Cvs.cons .sc (Cvs.cons .sc (Cvs.cons .sc (Cvs.cons (.listS rfl) (Cvs.cons (.listS rfl) (Cvs.cons (.listS rfl) (Cvs.cons (.listS rfl) (Cvs.cons (.listS rfl) (Cvs.cons (.listS rfl) Cvs.nil)))))))))) (Cvs.cons .sc Cvs.nil)))
     ·clear h; intro q h
      have h58 : ¬ (a1 = []) := (fun e => by rw [e] at q; cases q)
      refine bindE h ?_
      clear h; intro u59 h60 h
      cases h

theorem marks_isMark_ok (a0 : Int) (r : Bool) (h : marks_isMark a0 = some r) : Pure Tryz.prog 69 [(aI .i64 a0)] (aB r) := by
 refine Pure.sym tyTab_ok fn69 (nt := 7) rfl rfl ?_ (allCons .sc allNil)
 unfold marks_isMark at h
 refine bindE h ?_
 clear h; intro v1 h2 h
 obtain rfl := Option.some.inj h
 refine run_to tmD 4000 [.pure [(enc_GMessage (GMessage.mk 2 (GRecord.mk 0 0 0) a0 (GRow.mk 0 (GSpan.mk 0 0) (V2.mk 0 0))))] (aI .i64 v1)] rfl (by repeat' first | refine And.intro ?_ ?_ | exact (PureCall.none (message_Check_ok _ _ h2) (Cvs.cons (cvf_GMessage (x := (GMessage.mk 2 (GRecord.mk 0 0 0) a0 (GRow.mk 0 (GSpan.mk 0 0) (V2.mk 0 0))))) Cvs.nil)) | exact oblA) ?_
 refine fin_ret rfl ?_
 exact .sc

theorem marks_Check_L0_ok {Q : AExit → St → Mu → Prop} {μ : Mu} (y0_13 : (List Int)) (hl : List.length y0_13 ≤ 140737488355328) : ∀ (xs : List Int) (k : Nat) (hx : y0_13.drop k = xs) (o : marks_Check_L0_o) (h : marks_Check_L0 y0_13 xs k  = some o)
  (C0 : o = marks_Check_L0_o.x0 → SemK Tryz.prog 27 0 Q (.exit (.exit 0)) [] ⟨fr [], hp ([]), 0⟩ μ)
  (C1 : o = marks_Check_L0_o.x1 → SemK Tryz.prog 27 0 Q (.exit .ret) [] ⟨fr [(2, (aI .i64 8))], hp ([]), 0⟩ μ),
  SemK Tryz.prog 27 0 Q (.loop (loopB 0 (bodyOf Tryz.f49))) [] ⟨fr [(13, (AV.list false (List.map (aI .i64) y0_13))), (14, (aI .i64 (List.length y0_13 : Int))), (15, (aI .i64 (k : Int)))], hp ([]), 0⟩ μ := by
 intro xs
 induction xs with
 | nil =>
  intro k hx  o h C0 C1
  have hk := drop_nil hx
  have hc : decide ((k : Int) < (List.length y0_13 : Int)) = false := decide_eq_false (by omega)
  rw [marks_Check_L0] at h
  refine SemK.round ?_
  obtain rfl := Option.some.inj h
  refine runT tmD [.br false] ?_
  exact wkT [] (C0  rfl)
 | cons x xs ih =>
  intro k hx  o h C0 C1
  obtain ⟨hk, hg, hx1⟩ := drop_cons hx
  have hc : decide ((k : Int) < (List.length y0_13 : Int)) = true := decide_eq_true (by omega)
  rw [marks_Check_L0] at h
  refine SemK.round ?_
  refine bindE h ?_
  clear h; intro j30_25 h34 h
  refine runT tmD [.br true, .el (aI .i64 x), .stop 6] ?_
  refine SemK.join (s' := ⟨fr [(13, (AV.list false (List.map (aI .i64) y0_13))), (14, (aI .i64 (List.length y0_13 : Int))), (15, (aI .i64 (k : Int))), (25, (aB j30_25))], hp ([]), 0⟩) ?_ (fun J => SemK.cut ?_)
  ·
   refine brE h ?_ ?_
   ·clear h; intro h35 h
    obtain rfl := Option.some.inj h
    refine runT tmD [.br true] ?_
    exact wkT [] (C1  rfl)
   ·clear h; intro h35 h
    refine runT tmD [.br false] ?_
    exact wkT [] (ih (k + 1) hx1  o h C0 C1)
  ·
   clear h
   have h := h34
   refine brE h ?_ ?_
   ·clear h; intro h31 h
    refine bindE h ?_
    clear h; intro v32 h33 h
    obtain rfl := Option.some.inj h
    refine run_to tmD 4000 [.go true, .go true, .pure [(aI .i64 x)] (aB v32), .go true] rfl (by repeat' first | refine And.intro ?_ ?_ | exact (PureCall.none (marks_isMark_ok _ _ h33) (Cvs.cons .sc Cvs.nil)) | exact oblA) ?_
    exact wkT [] (SemK.glue J)
   ·clear h; intro h31 h
    obtain rfl := Option.some.inj h
    refine runT tmD [.go false, .go false, .go false] ?_
    exact wkT [] (SemK.glue J)

theorem marks_Check_ok (a0 : (List Int)) (r : Int) (h : marks_Check a0 = some r) : Pure Tryz.prog 49 [(AV.list false (List.map (aI .i64) a0))] (aI .i64 r) := by
 refine Pure.sym tyTab_ok fn49 (nt := 27) rfl rfl ?_ (allCons .list allNil)
 unfold marks_Check at h
 refine bindE h ?_
 clear h; intro j2_12 h4 h
 refine runT tmD [.stop 1] ?_
 refine SemK.join (s' := ⟨fr [(0, (AV.list false (List.map (aI .i64) a0))), (12, (aB j2_12))], hp ([]), 0⟩) ?_ (fun J => SemK.cut ?_)
 ·
  refine brE h ?_ ?_
  ·clear h; intro h5 h
   obtain rfl := Option.some.inj h
   refine runT tmD [.br true] ?_
   refine fin_ret rfl ?_
   exact .sc
  ·clear h; intro h5 h
   refine bindE h ?_
   clear h; intro u6 h7 h
   have qh7 := lenOk_le h7
   refine bindE h ?_
   clear h; intro o36 h37 h
   refine runT tmD [.br false, .el (aI .i64 (List.length a0 : Int))] ?_
   refine wkT [] (SemK.cut (marks_Check_L0_ok a0 qh7 a0 0 (by simp) _ h37 ?_ ?_))
   ·intro eo36; subst eo36
    refine SemK.glue ?_
    try dsimp only at h
    obtain rfl := Option.some.inj h
    refine runT tmD [] ?_
    refine fin_ret rfl ?_
    exact .sc
   ·intro eo36; subst eo36
    refine SemK.glue ?_
    try dsimp only at h
    obtain rfl := Option.some.inj h
    refine runT tmD [] ?_
    refine fin_ret rfl ?_
    exact .sc
 ·
  clear h
  have h := h4
  refine brE h ?_ ?_
  ·clear h; intro h3 h
   obtain rfl := Option.some.inj h
   refine runT tmD [.el (aI .i64 (List.length a0 : Int)), .go false, .go false, .go false] ?_
   exact wkT [] (SemK.glue J)
  ·clear h; intro h3 h
   obtain rfl := Option.some.inj h
   refine runT tmD [.el (aI .i64 (List.length a0 : Int)), .go true, .go true, .el (aI .i64 (List.length a0 : Int)), .go true] ?_
   exact wkT [] (SemK.glue J)

theorem slices_Min_int64_int64_L0_ok {Q : AExit → St → Mu → Prop} {μ : Mu} (y0_0 : (List Int)) : ∀ (n : Nat) (y0_3 : Int) (y0_4 : Int) (o : slices_Min_int64_int64_L0_o) (h : slices_Min_int64_int64_L0 y0_0 n y0_3 y0_4 = some o)
  (C0 : ∀ (z0_0_3 : Int), o = slices_Min_int64_int64_L0_o.x0 z0_0_3 → SemK Tryz.prog 25 0 Q (.exit (.exit 0)) [] ⟨fr [(3, (aI .i64 z0_0_3))], hp ([]), 0⟩ μ),
  SemK Tryz.prog 25 0 Q (.loop (loopB 0 (bodyOf Tryz.f50))) [] ⟨fr [(0, (AV.list false (List.map (aI .i64) y0_0))), (3, (aI .i64 y0_3)), (4, (aI .i64 y0_4))], hp ([]), 0⟩ μ := by
 intro n
 induction n with
 | zero => intro y0_3 y0_4 o h C0; cases h
 | succ n ih =>
  intro y0_3 y0_4 o h C0
  rw [slices_Min_int64_int64_L0] at h
  refine SemK.round ?_
  refine brE h ?_ ?_
  ·clear h; intro h12 h
   refine bindE h ?_
   clear h; intro e13 h14 h
   try have qh14 := getI_lt h14
   refine runT tmD [.el (aI .i64 (List.length y0_0 : Int)), .br true, .el (aI .i64 e13), .wrap] ?_
   exact wkT [] (ih  _ _ o h C0)
  ·clear h; intro h12 h
   obtain rfl := Option.some.inj h
   refine runT tmD [.el (aI .i64 (List.length y0_0 : Int)), .br false] ?_
   exact wkT [] (C0 _  rfl)

theorem slices_Min_int64_int64_ok (a0 : (List Int)) (r : Int) (h : slices_Min_int64_int64 a0 = some r) : Pure Tryz.prog 50 [(AV.list false (List.map (aI .i64) a0))] (aI .i64 r) := by
 refine Pure.sym tyTab_ok fn50 (nt := 25) rfl rfl ?_ (allCons .list allNil)
 unfold slices_Min_int64_int64 at h
 refine brE h ?_ ?_
 ·clear h; intro h2 h
  cases h
 ·clear h; intro h2 h
  refine bindE h ?_
  clear h; intro e3 h4 h
  try have qh4 := getI_lt h4
  refine bindE h ?_
  clear h; intro o15 h16 h
  refine runT tmD [.el (aI .i64 (List.length a0 : Int)), .br false, .el (aI .i64 e3)] ?_
  refine wkT [] (SemK.cut (slices_Min_int64_int64_L0_ok a0 _ _ _ _ h16 ?_))
  ·intro z0_0_3 eo15; subst eo15
   refine SemK.glue ?_
   try dsimp only at h
   obtain rfl := Option.some.inj h
   refine runT tmD [] ?_
   refine fin_ret rfl ?_
   exact .sc

theorem marks_Least_ok (a0 : (List Int)) (r : Int × Int) (h : marks_Least a0 = some r) : Pure Tryz.prog 28 [(AV.list false (List.map (aI .i64) a0))] (AV.tup [(aI .i64 r.1), (aI .i64 r.2)]) := by
 refine Pure.sym tyTab_ok fn28 (nt := 12) rfl rfl ?_ (allCons .list allNil)
 unfold marks_Least at h
 refine bindE h ?_
 clear h; intro v1 h2 h
 refine brE h ?_ ?_
 ·clear h; intro h3 h
  obtain rfl := Option.some.inj h
  refine run_to tmD 4000 [.pure [(AV.list false (List.map (aI .i64) a0))] (aI .i64 v1), .br true] rfl (by repeat' first | refine And.intro ?_ ?_ | exact (PureCall.none (marks_Check_ok _ _ h2) (Cvs.cons (cv_list (flat_map (fun _ => flatSc) a0)) Cvs.nil)) | exact oblA) ?_
  refine fin_ret rfl ?_
  exact (cv_tup (Cvs.cons .sc (Cvs.cons .sc Cvs.nil)))
 ·clear h; intro h3 h
  refine bindE h ?_
  clear h; intro v4 h5 h
  obtain rfl := Option.some.inj h
  refine run_to tmD 4000 [.pure [(AV.list false (List.map (aI .i64) a0))] (aI .i64 v1), .br false, .pure [(AV.list false (List.map (aI .i64) a0))] (aI .i64 v4)] rfl (by repeat' first | refine And.intro ?_ ?_ | exact (PureCall.none (marks_Check_ok _ _ h2) (Cvs.cons (cv_list (flat_map (fun _ => flatSc) a0)) Cvs.nil)) | exact (PureCall.none (slices_Min_int64_int64_ok _ _ h5) (Cvs.cons (cv_list (flat_map (fun _ => flatSc) a0)) Cvs.nil)) | exact oblA) ?_
  refine fin_ret rfl ?_
  exact (cv_tup (Cvs.cons .sc (Cvs.cons .sc Cvs.nil)))

theorem marks_Raise_ok (a0 : (List Int)) (a1 : Int) (a2 : Int) (r : (List Int) × Bool × Int) (h : marks_Raise a0 a1 a2 = some r) : Pure Tryz.prog 37 [(AV.list false (List.map (aI .i64) a0)), (aI .i64 a1), (aI .i64 a2)] (AV.tup [(AV.list true (List.map (aI .i64) r.1)), (aB r.2.1), (aI .i64 r.2.2)]) := by
 refine Pure.sym tyTab_ok fn37 (nt := 47) rfl rfl ?_ (allCons .list (allCons .sc (allCons .sc allNil)))
 unfold marks_Raise at h
 refine bindE h ?_
 clear h; intro v1 h2 h
 refine brE h ?_ ?_
 ·clear h; intro h3 h
  obtain rfl := Option.some.inj h
  refine run_to tmD 4000 [.pure [(AV.list false (List.map (aI .i64) a0))] (AV.tup [(aI .i64 v1.1), (aI .i64 v1.2)]), .br true] rfl (by repeat' first | refine And.intro ?_ ?_ | exact (PureCall.none (marks_Least_ok _ _ h2) (Cvs.cons (cv_list (flat_map (fun _ => flatSc) a0)) Cvs.nil)) | exact oblA) ?_
  refine fin_ret rfl ?_
  exact (cv_tup (Cvs.cons (cv_nils (es := List.map (aI .i64) ([] : List Int)) (by simp [*])) (Cvs.cons .sc (Cvs.cons .sc Cvs.nil))))
 ·clear h; intro h3 h
  refine bindE h ?_
  clear h; intro j8_30 h13 h
  refine run_to tmD 4000 [.pure [(AV.list false (List.map (aI .i64) a0))] (AV.tup [(aI .i64 v1.1), (aI .i64 v1.2)]), .br false, .stop 4] rfl (by repeat' first | refine And.intro ?_ ?_ | exact (PureCall.none (marks_Least_ok _ _ h2) (Cvs.cons (cv_list (flat_map (fun _ => flatSc) a0)) Cvs.nil)) | exact oblA) ?_
  refine SemK.join (s' := ⟨fr [(0, (AV.list false (List.map (aI .i64) a0))), (1, (aI .i64 a1)), (2, (aI .i64 a2)), (9, (aI .i64 v1.1)), (30, (aB j8_30))], hp ([]), 0⟩) ?_ (fun J => SemK.cut ?_)
  ·
   refine brE h ?_ ?_
   ·clear h; intro h14 h
    obtain rfl := Option.some.inj h
    refine runT tmD [.br true] ?_
    refine fin_ret rfl ?_
    exact (cv_tup (Cvs.cons (cv_nils (es := List.map (aI .i64) ([] : List Int)) (by simp [*])) (Cvs.cons .sc (Cvs.cons .sc Cvs.nil))))
   ·clear h; intro h14 h
    refine bindE h ?_
    clear h; intro j20_o0 h26 h
    refine runT tmD [.br false] ?_
    refine SemK.joinOpF (fun (q : Nb j20_o0) => ⟨fr [(1, (aI .i64 a1)), (2, (aI .i64 a2)), (9, (aI .i64 v1.1)), (32, (slE q.1 0 (List.map (aI .i64) j20_o0)))], hp ([] ++ opE q.1 0 1 (List.map (aI .i64) j20_o0)), 1⟩) ?_ (fun J => ?_)
    ·
     rintro nb_j20_o0
     rcases nb_j20_o0 with ⟨_ | _, hn_j20_o0⟩
     ·
      refine bindE h ?_
      clear h; intro e27 h28 h
      try have qh28 := getI_lt h28
      refine bindE h ?_
      clear h; intro v29 h30 h
      obtain rfl := Option.some.inj h
      refine run_to tmD 4000 [.el (aI .i64 e27), .ld (aI .i64 e27), .el (aI .i64 e27), .ld (aI .i64 e27), .pure [(AV.list false (List.map (aI .i64) (List.set j20_o0 (Int.toNat a1) (if a2 > e27 then a2 else e27))))] (aI .i64 v29)] rfl (by repeat' first | refine And.intro ?_ ?_ | exact (List.getElem?_set_self (by have hq := getI_nat h28; simp; omega)).trans rfl | exact (PureCall.lent (slices_Min_int64_int64_ok _ _ h30) (Cvs.cons (cv_ref (es := List.map (aI .i64) (List.set j20_o0 (Int.toNat a1) (if a2 > e27 then a2 else e27))) rfl (by first | rfl | (simp; done) | (simp; rfl) | (simp [h3, h14]; done) | (simp [h3, h14]; rfl) | (simp [h3, h14, List.map_take, List.map_drop]; done) | (simp [h3, h14, List.map_take, List.map_drop]; rfl)) (by first | rfl | (simp; done) | (simp; omega) | (simp [h3, h14]; done) | (simp [h3, h14]; omega)) (flat_map (fun _ => flatSc) (List.set j20_o0 (Int.toNat a1) (if a2 > e27 then a2 else e27)))) Cvs.nil) .sc) | exact oblA) ?_
      refine fin_ret rfl ?_
      exact (cv_tup (Cvs.cons (cv_ref (es := List.map (aI .i64) (List.set j20_o0 (Int.toNat a1) (if a2 > e27 then a2 else e27))) rfl (by first | rfl | (simp; done) | (simp; rfl) | (simp [h3, h14]; done) | (simp [h3, h14]; rfl) | (simp [h3, h14, List.map_take, List.map_drop]; done) | (simp [h3, h14, List.map_take, List.map_drop]; rfl)) (by first | rfl | (simp; done) | (simp; omega) | (simp [h3, h14]; done) | (simp [h3, h14]; omega)) (flat_map (fun _ => flatSc) (List.set j20_o0 (Int.toNat a1) (if a2 > e27 then a2 else e27)))) (Cvs.cons .sc (Cvs.cons .sc Cvs.nil))))
     ·
      obtain rfl := hn_j20_o0 rfl
      refine bindE h ?_
      clear h; intro e31 h32 h
      try have qh32 := getI_lt h32
      exact absurd (h32) (by simp [getI])
    ·
     clear h
     have h := h26
     refine SemK.inline tyTab_ok fn70 rfl rfl rfl rfl rfl trivial trivial rfl rfl ?_
     refine brE h ?_ ?_
     ·clear h; intro q h
      have h21 : a0 = [] := List.isEmpty_iff.1 q
      refine runT tmD [] ?_
      refine SemK.eqNil tyTab_ok (may := true) rfl rfl rfl rfl rfl rfl trivial (by simp [nilMay, *]) fun b22 qb22 => ?_
      cases b22
      ·
       obtain rfl := Option.some.inj h
       refine runT tmD [.br false, .ne false] ?_
       refine SemK.back (by intro id h; cases h) rfl ?_
       exact wkT [] ((J (nbT (by first | rfl | simp [*]))))
      ·
       obtain rfl := Option.some.inj h
       refine runT tmD [.br true] ?_
       refine SemK.back (by intro id h; cases h) rfl ?_
       exact wkT [] ((J (nbT (by first | rfl | simp [*]))))
     ·clear h; intro q h
      have h21 : ¬ (a0 = []) := (fun e => by rw [e] at q; cases q)
      refine runT tmD [] ?_
      refine SemK.eqNil tyTab_ok (may := false) rfl rfl rfl rfl rfl rfl trivial (by simp [nilMay, *]) fun b23 qb23 => ?_
      obtain rfl := qb23 rfl
      refine bindE h ?_
      clear h; intro u24 h25 h
      obtain rfl := Option.some.inj h
      refine run_to tmD 4000 [.br false, .via (AV.list true (List.map (aI .i64) a0))] rfl (by repeat' first | refine And.intro ?_ ?_ | (refine capLe h25 rfl ?_; first | (simp; done) | (simp; omega) | (simp [h3, h14, h21]; done) | (simp [h3, h14, h21]; omega)) | (refine capMax h25 (by decide) ?_; first | (simp; done) | (simp; omega) | (simp [h3, h14, h21]; done) | (simp [h3, h14, h21]; omega)) | exact oblA) ?_
      refine SemK.back (by intro id h; cases h) rfl ?_
      exact wkT [(0, 1)] ((J nbF))
  ·
   clear h
   have h := h13
   refine brE h ?_ ?_
   ·clear h; intro h9 h
    obtain rfl := Option.some.inj h
    refine run_to tmD 4000 [.go false, .go false, .go false, .go false, .go false, .go false, .go false] rfl (by repeat' first | refine And.intro ?_ ?_ | exact (PureCall.none (marks_Least_ok _ _ h2) (Cvs.cons (cv_list (flat_map (fun _ => flatSc) a0)) Cvs.nil)) | exact ((bif_t h9 rfl)) | exact (bnot_of (bif_t h9 rfl)) | exact (absN (bif_t h9 rfl)) | exact oblA) ?_
    exact wkT [] (SemK.glue J)
   ·clear h; intro h9 h
    refine brE h ?_ ?_
    ·clear h; intro h10 h
     obtain rfl := Option.some.inj h
     refine run_to tmD 4000 [.go true, .go true, .go true, .el (aI .i64 (List.length a0 : Int)), .go true, .go false, .go false, .go false] rfl (by repeat' first | refine And.intro ?_ ?_ | exact (PureCall.none (marks_Least_ok _ _ h2) (Cvs.cons (cv_list (flat_map (fun _ => flatSc) a0)) Cvs.nil)) | exact ((bif_f h9 h10)) | exact (bnot_of (bif_f h9 h10)) | exact (absN (bif_f h9 h10)) | exact oblA) ?_
     exact wkT [] (SemK.glue J)
    ·clear h; intro h10 h
     refine bindE h ?_
     clear h; intro v11 h12 h
     obtain rfl := Option.some.inj h
     refine run_to tmD 4000 [.go true, .go true, .go true, .el (aI .i64 (List.length a0 : Int)), .go true, .go true, .go true, .pure [(aI .i64 a2)] (aB v11), .go true] rfl (by repeat' first | refine And.intro ?_ ?_ | exact (PureCall.none (marks_Least_ok _ _ h2) (Cvs.cons (cv_list (flat_map (fun _ => flatSc) a0)) Cvs.nil)) | exact ((bif_f h9 h10)) | exact (bnot_of (bif_f h9 h10)) | exact (PureCall.none (marks_isMark_ok _ _ h12) (Cvs.cons .sc Cvs.nil)) | exact (absT (bif_f h9 h10)) | exact oblA) ?_
     exact wkT [] (SemK.glue J)
end Go.Av.Tryz
